import PyProof.Rows.All
import Wide.All
import OpenK.AllK
import Wide.FinOn
import KE.KStateDown
import Lean
import HandS.ForMost
import HandS.Lambda
import HandS.ForExc
import KE.KDictKeyed
import KE.DataCmp
import KE.DataEq
import KE.DataFind
import KE.DataIsa
import KE.SortData
import HandS.TupAny
import HandS.TupLen
import HandS.Conv
import HandS.IsInst
import HandS.Text
import HandS.Sort
import HandS.More
import HandS.Zip
import HandS.Style
import KE.GoesEnum
import KE.GoesZip
import KE.GoesMore
import KE.KDictDisplayH
import PyProof.ReprRoads
import HandS.SetFor
import HandS.Strs
import HandS.Set
import KE.KDictPairs
import HandS.ListItems
import HandS.Codes
import HandS.HeadHook1
import HandS.HeadHook2
import KE.KDictZip
import PyProof.InstSpecial
import PyProof.AutoSeq1
import PyProof.NeKinds
import HandS.FStr
import HandS.TupMul
import HandS.RaiseMore
import KE.KCallOwn
import HandS.ClsMeth
import KE.GoesEnumKw
import HandS.Replace
import HandS.Star
import HandS.Deep
import KE.KDictSum
import HandS.TupSets
import KE.KDictWalk
import HandS.NoneIn
import HandS.DictComp
import PyProof.Rows.RowHeap
import PySem.Challenge.RW_pacehouse_k21_long_classes
import HandS.Head0
import HandS.ExcSuper
import HandS.ExcOwn
import HandS.ExcIs
import HandS.ExcField
import KE.KExcMake
import KE.KSuper
import HandS.Base
import HandS.Call
import HandS.Ends
import HandS.Words
import HandS.WordsExc
import HandS.Defaults
import HandS.Head1
import HandS.Head2
import HandS.HeadEnd
import HandS.HeadNt
import KE.DatumOrd
import PyProof.Rows.StrRev
import HandS.SortKw
import KE.SortKeyHeap
import KE.KDictList
import PyProof.DictValues
import PyProof.CollectStr
import PyProof.ListStr
import PyProof.StrLawsFirst
section
set_option Elab.async false
set_option linter.all false
set_option maxRecDepth 100000
set_option maxHeartbeats 4000000
namespace DL
open PySem PySem.Spec PyProof.Rows L2
inductive D where
  | non | bl (b : Bool) | int (i : Int) | str (x : Str) | ty (n : String)
  | tup (xs : List D) | lst (xs : List D)
  | dK (kvs : List (Key × D)) | dT (kvs : List (List Key × D))
  | obj (C : Addr) (fs : List (Str × D))
  | rf (a : Addr)
  | scr (ns : List Int)
  | kup (xs : List D)
def Ex (F F' : Hp) : Prop := ∀ a o, F a = some o → F' a = some o
theorem Ex.refl (F : Hp) : Ex F F := fun _ _ h => h
theorem Ex.trans {F F1 F2 : Hp} (a : Ex F F1) (b : Ex F1 F2) : Ex F F2 := fun x o h => b x o (a x o h)
theorem Ex.new {F : Hp} {p : Addr} {o : HO} (h : F p = none) : Ex F (upd F p o) := fun a u e => by
  by_cases q : a = p
  · subst q; rw [h] at e; cases e
  · rw [upd_ne q]; exact e
theorem Ex.nope {F H : Hp} (e : Ex F H) {p : Addr} (h : H p = none) : F p = none := by
  cases q : F p with
  | none => rfl
  | some o => rw [e p o q] at h; cases h
theorem Ex.upds {F H : Hp} (e : Ex F H) {p : Addr} (o : HO) : Ex (upd F p o) (upd H p o) := fun a u h => by
  by_cases q : a = p
  · subst q; rw [upd_same] at h ⊢; exact h
  · rw [upd_ne q] at h ⊢; exact e a u h
theorem Ex.updR {F H : Hp} (e : Ex F H) {p : Addr} {o : HO} (h : F p = none) : Ex F (upd H p o) := fun a u z => by
  by_cases q : a = p
  · subst q; rw [h] at z; cases z
  · rw [upd_ne q]; exact e a u z
theorem Ex.rd {F F' : Hp} {a : Addr} {u : HO} (e : Ex F F') (h : Rd F a u) : Rd F' a u := by
  rcases h with h | ⟨o, h⟩
  · exact .inl (e _ _ h)
  · exact .inr ⟨o, e _ _ h⟩
theorem Ex.sql {K : PySem.W.Frag} {F F' : Hp} {a : Addr} {xs : List V} (e : Ex F F') (h : SqL K F a xs) : SqL K F' a xs := by
  rcases h with h | h
  · exact .inl (e.rd h)
  · exact .inr h
theorem Ex.sqt {K : PySem.W.Frag} {F F' : Hp} {a : Addr} {xs : List V} (e : Ex F F') (h : SqT K F a xs) : SqT K F' a xs := by
  rcases h with h | h
  · exact .inl (e.rd h)
  · exact .inr h
mutual
inductive Rep (K : PySem.W.Frag) (F : Hp) : V → D → Prop
  | non : Rep K F .non .non
  | bl (b : Bool) : Rep K F (.bl b) (.bl b)
  | int (i : Int) : Rep K F (.int i) (.int i)
  | str (x : Str) : Rep K F (.str x) (.str x)
  | ty (n : String) : Rep K F (.ty n) (.ty n)
  | tup {a : Addr} {vs : List V} {ds : List D} : F a = some (.tup vs) → Reps K F vs ds → Rep K F (.ref a) (.tup ds)
  | lst {a : Addr} {vs : List V} {ds : List D} : F a = some (.lst vs) → Reps K F vs ds → Rep K F (.ref a) (.lst ds)
  | dK {a : Addr} {kvs : List (Key × V)} {kds : List (Key × D)} : F a = some (.dK kvs) → kvs.map (·.1) = kds.map (·.1) → Reps K F (kvs.map (·.2)) (kds.map (·.2)) → Rep K F (.ref a) (.dK kds)
  | dT {a : Addr} {kvs : List (List Key × V)} {kds : List (List Key × D)} : F a = some (.dT kvs) → kvs.map (·.1) = kds.map (·.1) → Reps K F (kvs.map (·.2)) (kds.map (·.2)) → Rep K F (.ref a) (.dT kds)
  | obj {a C dx : Addr} {kvs : List (Str × V)} {kds : List (Str × D)} : F a = some (.ins C dx kvs) → kvs.map (·.1) = kds.map (·.1) → Reps K F (kvs.map (·.2)) (kds.map (·.2)) → Rep K F (.ref a) (.obj C kds)
  | rf (a : Addr) : Rep K F (.ref a) (.rf a)
  | scr {a : Addr} {ns : List Int} : SqL K F a (ns.map V.int) → Rep K F (.ref a) (.scr ns)
  | kup {a : Addr} {vs : List V} {ds : List D} : SqT K F a vs → Reps K F vs ds → Rep K F (.ref a) (.kup ds)
inductive Reps (K : PySem.W.Frag) (F : Hp) : List V → List D → Prop
  | nil : Reps K F [] []
  | cons {v : V} {vs : List V} {d : D} {ds : List D} : Rep K F v d → Reps K F vs ds → Reps K F (v :: vs) (d :: ds)
end
mutual
theorem Rep.mono {K : PySem.W.Frag} {F F' : Hp} (e : Ex F F') : ∀ {v : V} {d : D}, Rep K F v d → Rep K F' v d
  | _, _, .non => .non
  | _, _, .bl b => .bl b
  | _, _, .int i => .int i
  | _, _, .str x => .str x
  | _, _, .ty n => .ty n
  | _, _, .tup h r => .tup (e _ _ h) (Reps.mono e r)
  | _, _, .lst h r => .lst (e _ _ h) (Reps.mono e r)
  | _, _, .dK h l r => .dK (e _ _ h) l (Reps.mono e r)
  | _, _, .dT h l r => .dT (e _ _ h) l (Reps.mono e r)
  | _, _, .obj h l r => .obj (e _ _ h) l (Reps.mono e r)
  | _, _, .rf a => .rf a
  | _, _, .scr h => .scr (e.sql h)
  | _, _, .kup h r => .kup (e.sqt h) (Reps.mono e r)
theorem Reps.mono {K : PySem.W.Frag} {F F' : Hp} (e : Ex F F') : ∀ {vs : List V} {ds : List D}, Reps K F vs ds → Reps K F' vs ds
  | _, _, .nil => .nil
  | _, _, .cons h t => .cons (Rep.mono e h) (Reps.mono e t)
end
section
variable {K : PySem.W.Frag} {F : Hp}
theorem Reps.length : ∀ {vs : List V} {ds : List D}, Reps K F vs ds → vs.length = ds.length
  | _, _, .nil => rfl
  | _, _, .cons _ t => congrArg (· + 1) (Reps.length t)
theorem Reps.get : ∀ {vs : List V} {ds : List D} {i : Nat} {d : D}, Reps K F vs ds → ds[i]? = some d → ∃ v, vs[i]? = some v ∧ Rep K F v d
  | _, _, _, _, .nil, e => by simp at e
  | _, _, 0, _, .cons r _, e => by simp at e; subst e; exact ⟨_, rfl, r⟩
  | _, _, i + 1, _, .cons _ t, e => by
    obtain ⟨v, h1, h2⟩ := Reps.get (i := i) t (by simpa using e)
    exact ⟨v, by simpa using h1, h2⟩
theorem Reps.get' : ∀ {vs : List V} {ds : List D} {i : Nat} {v : V}, Reps K F vs ds → vs[i]? = some v → ∃ d, ds[i]? = some d ∧ Rep K F v d
  | _, _, _, _, .nil, e => by simp at e
  | _, _, 0, _, .cons r _, e => by simp at e; subst e; exact ⟨_, rfl, r⟩
  | _, _, i + 1, _, .cons _ t, e => by
    obtain ⟨v, h1, h2⟩ := Reps.get' (i := i) t (by simpa using e)
    exact ⟨v, by simpa using h1, h2⟩
theorem Reps.append : ∀ {vs vs' : List V} {ds ds' : List D}, Reps K F vs ds → Reps K F vs' ds' → Reps K F (vs ++ vs') (ds ++ ds')
  | _, _, _, _, .nil, s => s
  | _, _, _, _, .cons r t, s => .cons r (Reps.append t s)
theorem Reps.one {v : V} {d : D} (h : Rep K F v d) : Reps K F [v] [d] := .cons h .nil
theorem Reps.set {v : V} {d : D} (h : Rep K F v d) : ∀ {vs : List V} {ds : List D} (i : Nat), Reps K F vs ds → Reps K F (vs.set i v) (ds.set i d)
  | _, _, _, .nil => .nil
  | _, _, 0, .cons _ t => .cons h t
  | _, _, i + 1, .cons r t => .cons r (Reps.set h i t)
theorem Reps.take : ∀ {vs : List V} {ds : List D} (n : Nat), Reps K F vs ds → Reps K F (vs.take n) (ds.take n)
  | _, _, 0, _ => .nil
  | _, _, _ + 1, .nil => .nil
  | _, _, n + 1, .cons r t => .cons r (Reps.take n t)
theorem Reps.drop : ∀ {vs : List V} {ds : List D} (n : Nat), Reps K F vs ds → Reps K F (vs.drop n) (ds.drop n)
  | _, _, 0, r => r
  | _, _, _ + 1, .nil => .nil
  | _, _, n + 1, .cons _ t => Reps.drop n t
theorem Reps.reverse {vs : List V} {ds : List D} (r : Reps K F vs ds) : Reps K F vs.reverse ds.reverse := by
  induction vs generalizing ds with
  | nil => cases r; exact .nil
  | cons v vs ih =>
    cases r with
    | cons h t =>
      rw [List.reverse_cons, List.reverse_cons]
      exact (ih t).append (.one h)
end
inductive MO where
  | lst (xs : List D) | dK (kvs : List (Key × D)) | dT (kvs : List (List Key × D))
  | ins (C : Addr) (fs : List (Str × D))
  | deck (k1 k2 k3 : Str) (n : Nat)
  | dcell
  | lkT (o : Obj) (kvs : List (List Key × V)) (kds : List (List Key × D))
  | lkK (o : Obj) (kvs : List (Key × V)) (kds : List (Key × D))
  | dN (w : World) (kds : List (NestedKey × D))
  | lkN (w : World) (o : Obj) (xs : List (NestedKey × Addr × Value)) (kds : List (NestedKey × D))
  | dU (w : World) (kds : List (NestedKey × D))
  | lkU (w : World) (o : Obj) (xs : List (NestedKey × Addr × Value)) (kds : List (NestedKey × D))
  | tupU (o : Obj) (vs : List V) (ds : List D)
  | tab (q : Str)
abbrev GH := Addr → Option MO
def gput (G : GH) (a : Addr) (o : MO) : GH := fun b => if b = a then some o else G b
def gdel (G : GH) (a : Addr) : GH := fun b => if b = a then none else G b
theorem gput_same {G : GH} {a : Addr} {o : MO} : gput G a o a = some o := by unfold gput; rw [if_pos rfl]
theorem gput_ne {G : GH} {a b : Addr} {o : MO} (h : b ≠ a) : gput G a o b = G b := by unfold gput; rw [if_neg h]
theorem gput_gput {G : GH} {a : Addr} {o o' : MO} : gput (gput G a o) a o' = gput G a o' := by
  funext b
  by_cases h : b = a
  · subst h; rw [gput_same, gput_same]
  · rw [gput_ne h, gput_ne h, gput_ne h]
theorem gput_self {G : GH} {a : Addr} {o : MO} (h : G a = some o) : gput G a o = G := by
  funext b
  by_cases q : b = a
  · subst q; rw [gput_same, h]
  · rw [gput_ne q]
def deckOk (F H : Hp) (G : GH) (a : Addr) (k1 k2 k3 : Str) (n : Nat) : Prop :=
  ∃ (c : Addr) (g t : Int) (ns : List Int), H a = some (.dK [(.inr k1, .ref c), (.inr k2, .int g), (.inr k3, .int t)]) ∧ H c = some (.lst (ns.map V.int)) ∧ G c = some .dcell ∧
    0 ≤ t ∧ t + n ≤ 1099511627776 ∧ 0 ≤ g ∧ g < 4294967296 ∧ ns.length ≤ 63
/-- a dict whose keys are tuples of any depth: what stands at its own place -/
def RawN (w : World) (a : Addr) (xs : List (NestedKey × Addr × Value)) (h : Heap) : Prop :=
  (a == sysModules) = false ∧ ∃ o es ep, h.get? a = some o ∧ o.ExactDict ∧ o.data = .dict es ep ∧ es.toList = xs.map (fun x => ({ hash := x.1.hash w, key := .ref x.2.1, val := x.2.2 } : DictEntry)) ∧ (xs.map (·.1)).Nodup
mutual
/-- data as a key -/
def D.nkey : D → Option NestedKey
  | .non => some .none
  | .int i => some (.num i)
  | .str x => some (.text x)
  | .tup ds => (D.nkeys ds).map .tup
  | _ => none
def D.nkeys : List D → Option (List NestedKey)
  | [] => some []
  | d :: ds => match d.nkey, D.nkeys ds with
    | some k, some ks => some (k :: ks)
    | _, _ => none
end
def KN (K : PySem.W.Frag) (F : Hp) : List (NestedKey × D) → List (NestedKey × Addr × Value) → Prop := Paired fun p q => p.1 = q.1 ∧ (∃ d : D, d.nkey = some p.1 ∧ p.1.depth ≤ 8 ∧ Rep K F (.ref q.2.1) d) ∧ ∃ v, RelV v q.2.2 ∧ Rep K F v p.2
mutual
/-- a key as data, by tuples that may be the module's own -/
def kToU : NestedKey → D
  | .none => .non
  | .num i => .int i
  | .text x => .str x
  | .tup ks => .kup (ksToU ks)
def ksToU : List NestedKey → List D
  | [] => []
  | k :: ks => kToU k :: ksToU ks
end
def KU (K : PySem.W.Frag) (F : Hp) : List (NestedKey × D) → List (NestedKey × Addr × Value) → Prop := Paired fun p q => p.1 = q.1 ∧ p.1.depth ≤ 8 ∧ Rep K F (.ref q.2.1) (kToU p.1) ∧ ∃ v, RelV v q.2.2 ∧ Rep K F v p.2
def MRep (K : PySem.W.Frag) (F H : Hp) (G : GH) (a : Addr) : MO → Prop
  | .lst ds => ∃ vs, H a = some (.lst vs) ∧ Reps K F vs ds
  | .dK kds => ∃ kvs, H a = some (.dK kvs) ∧ kvs.map (·.1) = kds.map (·.1) ∧ Reps K F (kvs.map (·.2)) (kds.map (·.2))
  | .dT kds => ∃ kvs, H a = some (.dT kvs) ∧ kvs.map (·.1) = kds.map (·.1) ∧ Reps K F (kvs.map (·.2)) (kds.map (·.2))
  | .ins C kds => ∃ dx kvs, H a = some (.ins C dx kvs) ∧ kvs.map (·.1) = kds.map (·.1) ∧ Reps K F (kvs.map (·.2)) (kds.map (·.2))
  | .deck k1 k2 k3 n => deckOk F H G a k1 k2 k3 n
  | .dcell => ∃ xs, H a = some (.lst xs)
  | .lkT o kvs kds => H a = some (.frz o (.dT kvs)) ∧ kvs.map (·.1) = kds.map (·.1) ∧ Reps K F (kvs.map (·.2)) (kds.map (·.2))
  | .lkK o kvs kds => H a = some (.frz o (.dK kvs)) ∧ kvs.map (·.1) = kds.map (·.1) ∧ Reps K F (kvs.map (·.2)) (kds.map (·.2))
  | .dN w kds => ∃ xs, H a = some (.ext (RawN w a xs)) ∧ kds.length ≤ sizeLine ∧ KN K F kds xs
  | .lkN w o xs kds => H a = some (.frz o (.ext (RawN w a xs))) ∧ kds.length ≤ sizeLine ∧ KN K F kds xs
  | .dU w kds => ∃ xs, H a = some (.ext (RawN w a xs)) ∧ kds.length ≤ sizeLine ∧ KU K F kds xs
  | .lkU w o xs kds => H a = some (.frz o (.ext (RawN w a xs))) ∧ kds.length ≤ sizeLine ∧ KU K F kds xs
  | .tupU o vs ds => H a = some (.frz o (.tup vs)) ∧ o.dict = none ∧ o.cls = .type "tuple" ∧ Reps K F vs ds
  | .tab q => ∃ ps : Array Value, H a = some (.tbl ps) ∧ TriplesOk ps.toList ∧ ∀ (pos : Pos) (cv : Value), codeAmong pos ps.toList = some cv → ∃ c, cv = .ref c ∧ F c = some (LamX.CodeO c q)
structure Gok (K : PySem.W.Frag) (F H : Hp) (G : GH) : Prop where
  ex : Ex F H
  at_ : ∀ a o, G a = some o → F a = none ∧ MRep K F H G a o
  one : ∀ a b k1 k2 k3 n j1 j2 j3 m, G a = some (.deck k1 k2 k3 n) → G b = some (.deck j1 j2 j3 m) → a = b
section
variable {K : PySem.W.Frag} {F H : Hp} {G : GH}
theorem MRep.isAt {a : Addr} {o : MO} (h : MRep K F H G a o) : ∃ u, H a = some u := by
  cases o with
  | lst xs => obtain ⟨vs, e, _⟩ := h; exact ⟨_, e⟩
  | dK kds => obtain ⟨vs, e, _⟩ := h; exact ⟨_, e⟩
  | dT kds => obtain ⟨vs, e, _⟩ := h; exact ⟨_, e⟩
  | ins C kds => obtain ⟨dx, vs, e, _⟩ := h; exact ⟨_, e⟩
  | deck k1 k2 k3 n => obtain ⟨c, g, t, ns, e, _⟩ := h; exact ⟨_, e⟩
  | dcell => obtain ⟨xs, e⟩ := h; exact ⟨_, e⟩
  | lkT o kvs kds => exact ⟨_, h.1⟩
  | lkK o kvs kds => exact ⟨_, h.1⟩
  | dN w kds => obtain ⟨xs, e, _⟩ := h; exact ⟨_, e⟩
  | lkN w o xs kds => exact ⟨_, h.1⟩
  | dU w kds => obtain ⟨xs, e, _⟩ := h; exact ⟨_, e⟩
  | lkU w o xs kds => exact ⟨_, h.1⟩
  | tupU o vs ds => exact ⟨_, h.1⟩
  | tab q => obtain ⟨ps, e, _⟩ := h; exact ⟨_, e⟩
theorem Gok.free (g : Gok K F H G) {p : Addr} (h : H p = none) : G p = none := by
  cases q : G p with
  | none => rfl
  | some o =>
    obtain ⟨u, e⟩ := (g.at_ p o q).2.isAt
    rw [e] at h; cases h
theorem MRep.move {F' H' : Hp} {G' : GH} {a : Addr} {o : MO} (h : MRep K F H G a o) (e : Ex F F') (k : ∀ b u, H b = some u → (b = a ∨ G b = some .dcell) → H' b = some u) (g : ∀ c, G c = some .dcell → G' c = some .dcell) : MRep K F' H' G' a o := by
  cases o with
  | lst xs =>
    obtain ⟨vs, e1, r⟩ := h
    exact ⟨vs, k _ _ e1 (.inl rfl), r.mono e⟩
  | dK kds =>
    obtain ⟨vs, e1, l, r⟩ := h
    exact ⟨vs, k _ _ e1 (.inl rfl), l, r.mono e⟩
  | dT kds =>
    obtain ⟨vs, e1, l, r⟩ := h
    exact ⟨vs, k _ _ e1 (.inl rfl), l, r.mono e⟩
  | ins C kds =>
    obtain ⟨dx, vs, e1, l, r⟩ := h
    exact ⟨dx, vs, k _ _ e1 (.inl rfl), l, r.mono e⟩
  | deck k1 k2 k3 n =>
    obtain ⟨c, g0, t, ns, e1, e2, gc, hz⟩ := h
    exact ⟨c, g0, t, ns, k _ _ e1 (.inl rfl), k _ _ e2 (.inr gc), g c gc, hz⟩
  | dcell =>
    obtain ⟨xs, e1⟩ := h
    exact ⟨xs, k _ _ e1 (.inl rfl)⟩
  | lkT o kvs kds => exact ⟨k _ _ h.1 (.inl rfl), h.2.1, h.2.2.mono e⟩
  | lkK o kvs kds => exact ⟨k _ _ h.1 (.inl rfl), h.2.1, h.2.2.mono e⟩
  | dN w kds =>
    obtain ⟨xs, e1, hz, r⟩ := h
    exact ⟨xs, k _ _ e1 (.inl rfl), hz, Paired.mapP r fun _ _ ⟨z1, ⟨d, z2, zd, z3⟩, v, z4, z5⟩ => ⟨z1, ⟨d, z2, zd, z3.mono e⟩, v, z4, z5.mono e⟩⟩
  | lkN w o xs kds =>
    obtain ⟨e1, hz, r⟩ := h
    exact ⟨k _ _ e1 (.inl rfl), hz, Paired.mapP r fun _ _ ⟨z1, ⟨d, z2, zd, z3⟩, v, z4, z5⟩ => ⟨z1, ⟨d, z2, zd, z3.mono e⟩, v, z4, z5.mono e⟩⟩
  | dU w kds =>
    obtain ⟨xs, e1, hz, r⟩ := h
    exact ⟨xs, k _ _ e1 (.inl rfl), hz, Paired.mapP r fun _ _ ⟨z1, z2, z3, v, z4, z5⟩ => ⟨z1, z2, z3.mono e, v, z4, z5.mono e⟩⟩
  | lkU w o xs kds =>
    obtain ⟨e1, hz, r⟩ := h
    exact ⟨k _ _ e1 (.inl rfl), hz, Paired.mapP r fun _ _ ⟨z1, z2, z3, v, z4, z5⟩ => ⟨z1, z2, z3.mono e, v, z4, z5.mono e⟩⟩
  | tupU o vs ds => exact ⟨k _ _ h.1 (.inl rfl), h.2.1, h.2.2.1, h.2.2.2.mono e⟩
  | tab q =>
    obtain ⟨ps, e1, ht, ha⟩ := h
    exact ⟨ps, k _ _ e1 (.inl rfl), ht, fun pos cv hc => by obtain ⟨c, e2, e3⟩ := ha pos cv hc; exact ⟨c, e2, e _ _ e3⟩⟩
/-- the heap grows, frozen things with it -/
structure Gr (F H F' H' : Hp) : Prop where
  ff : Ex F F'
  fh : Ex F' H'
  hh : Ex H H'
  no : ∀ a u, H a = some u → F a = none → F' a = none
theorem Gok.grow (g : Gok K F H G) {F' H' : Hp} (r : Gr F H F' H') : Gok K F' H' G where
  ex := r.fh
  at_ := fun a o e => by
    obtain ⟨f, m⟩ := g.at_ a o e
    obtain ⟨u, hu⟩ := m.isAt
    exact ⟨r.no a u hu f, m.move r.ff (fun b u q _ => r.hh b u q) (fun c z => z)⟩
  one := g.one
theorem Gr.new (e : Ex F H) {p : Addr} {u : HO} (h : H p = none) : Gr F H (upd F p u) (upd H p u) where
  ff := Ex.new (e.nope h)
  fh := e.upds u
  hh := Ex.new h
  no := fun a w ha fa => by
    have q : a ≠ p := fun q => by rw [q, h] at ha; cases ha
    rw [upd_ne q]; exact fa
theorem Gr.only (e : Ex F H) {p : Addr} {u : HO} (h : H p = none) : Gr F H F (upd H p u) where
  ff := Ex.refl F
  fh := e.updR (e.nope h)
  hh := Ex.new h
  no := fun a w ha fa => fa
theorem Gr.refl (e : Ex F H) : Gr F H F H := ⟨Ex.refl F, e, Ex.refl H, fun _ _ _ z => z⟩
/-- fewer things that may change -/
structure Sub (G' G : GH) : Prop where
  le : ∀ a o, G' a = some o → G a = some o
  dc : ∀ c, G c = some .dcell → G' c = some .dcell
theorem Sub.refl (G : GH) : Sub G G := ⟨fun _ _ z => z, fun _ z => z⟩
theorem Sub.trans {G1 G2 G3 : GH} (a : Sub G1 G2) (b : Sub G2 G3) : Sub G1 G3 := ⟨fun x o z => b.le x o (a.le x o z), fun c z => a.dc c (b.dc c z)⟩
theorem Gok.sub (g : Gok K F H G) {G' : GH} (h : Sub G' G) : Gok K F H G' where
  ex := g.ex
  at_ := fun a o e => by
    obtain ⟨f, m⟩ := g.at_ a o (h.le a o e)
    exact ⟨f, m.move (Ex.refl F) (fun b u q _ => q) h.dc⟩
  one := fun a b k1 k2 k3 n j1 j2 j3 m e1 e2 => g.one a b k1 k2 k3 n j1 j2 j3 m (h.le _ _ e1) (h.le _ _ e2)
def MO.isDeck : MO → Bool
  | .deck _ _ _ _ => true
  | .dcell => true
  | _ => false
theorem sub_new {p : Addr} {o : MO} (h : G p = none) (hd : o.isDeck = false) : Sub G (gput G p o) := by
  refine ⟨fun a w z => ?_, fun c z => ?_⟩
  · have q : a ≠ p := fun y => by rw [y, h] at z; cases z
    rw [gput_ne q]; exact z
  · by_cases q : c = p
    · subst q; rw [gput_same] at z; cases z; cases hd
    · rw [gput_ne q] at z; exact z
theorem Sub.put {G' : GH} (s : Sub G' G) (p : Addr) (o : MO) : Sub (gput G' p o) (gput G p o) := by
  refine ⟨fun a w z => ?_, fun c z => ?_⟩
  · by_cases q : a = p
    · subst q; rw [gput_same] at z ⊢; exact z
    · rw [gput_ne q] at z ⊢; exact s.le a w z
  · by_cases q : c = p
    · subst q; rw [gput_same] at z ⊢; exact z
    · rw [gput_ne q] at z ⊢; exact s.dc c z
theorem upd_none {H : Hp} {p b : Addr} {u : HO} (h : upd H p u b = none) : H b = none := by
  by_cases q : b = p
  · subst q; rw [upd_same] at h; cases h
  · rw [upd_ne q] at h; exact h
/-- from one moment to a later one -/
structure Go (F H : Hp) (G : GH) (F' H' : Hp) (G' : GH) : Prop where
  ex : Ex F F'
  fr : ∀ b u, H b = some u → G b = none → H' b = some u ∧ G' b = none
  no : ∀ b u, H b = some u → G b = none → F b = none → (∀ vs, u ≠ .tup vs) → F' b = none
  st : ∀ b, H' b = none → H b = none
theorem Go.refl : Go F H G F H G := ⟨Ex.refl F, fun _ _ h g => ⟨h, g⟩, fun _ _ _ _ f _ => f, fun _ z => z⟩
theorem Go.trans {F1 H1 F2 H2 : Hp} {G1 G2 : GH} (a : Go F H G F1 H1 G1) (b : Go F1 H1 G1 F2 H2 G2) : Go F H G F2 H2 G2 := by
  refine ⟨a.ex.trans b.ex, fun c u h g => ?_, fun c u h g f t => ?_, fun c z => a.st c (b.st c z)⟩
  · obtain ⟨h1, g1⟩ := a.fr c u h g
    exact b.fr c u h1 g1
  · obtain ⟨h1, g1⟩ := a.fr c u h g
    exact b.no c u h1 g1 (a.no c u h g f t) t
theorem Gr.go {F' H' : Hp} (r : Gr F H F' H') : Go F H G F' H' G := ⟨r.ff, fun b u h g => ⟨r.hh b u h, g⟩, fun b u h _ f _ => r.no b u h f, fun b z => r.hh.nope z⟩
theorem Go.sub {F' H' : Hp} {G' G0 : GH} (a : Go F H G F' H' G') (s : Sub G0 G') : Go F H G F' H' G0 := by
  refine ⟨a.ex, fun b u h g => ?_, a.no, a.st⟩
  obtain ⟨h1, g1⟩ := a.fr b u h g
  refine ⟨h1, ?_⟩
  cases q : G0 b with
  | none => rfl
  | some o => rw [s.le b o q] at g1; cases g1
theorem Go.alloc {p : Addr} {u : HO} {o : MO} (h : H p = none) : Go F H G F (upd H p u) (gput G p o) := by
  refine ⟨Ex.refl F, fun b w hb g => ?_, fun _ _ _ _ f _ => f, fun b z => upd_none z⟩
  have q : b ≠ p := fun y => by rw [y, h] at hb; cases hb
  exact ⟨by rw [upd_ne q]; exact hb, by rw [gput_ne q]; exact g⟩
theorem Go.put {p : Addr} {u : HO} {o o0 : MO} (h : G p = some o0) : Go F H G F (upd H p u) (gput G p o) := by
  refine ⟨Ex.refl F, fun b w hb g => ?_, fun _ _ _ _ f _ => f, fun b z => upd_none z⟩
  have q : b ≠ p := fun y => by rw [y, h] at g; cases g
  exact ⟨by rw [upd_ne q]; exact hb, by rw [gput_ne q]; exact g⟩
/-- a new thing that may change -/
theorem Gok.alloc (g : Gok K F H G) {p : Addr} {u : HO} {o : MO} (h : H p = none) (hd : o.isDeck = false) (r : MRep K F (upd H p u) (gput G p o) p o) : Gok K F (upd H p u) (gput G p o) where
  ex := g.ex.updR (g.ex.nope h)
  at_ := fun a w e => by
    by_cases q : a = p
    · subst q
      rw [gput_same] at e; cases e
      exact ⟨g.ex.nope h, r⟩
    · rw [gput_ne q] at e
      obtain ⟨f, m⟩ := g.at_ a w e
      refine ⟨f, m.move (Ex.refl F) (fun b z qb _ => (Ex.new h) b z qb) fun c z => ?_⟩
      have : c ≠ p := fun y => by rw [y, g.free h] at z; cases z
      rw [gput_ne this]; exact z
  one := fun a b k1 k2 k3 n j1 j2 j3 m e1 e2 => by
    have ha : a ≠ p := fun y => by rw [y, gput_same] at e1; cases e1; cases hd
    have hb : b ≠ p := fun y => by rw [y, gput_same] at e2; cases e2; cases hd
    rw [gput_ne ha] at e1; rw [gput_ne hb] at e2
    exact g.one a b k1 k2 k3 n j1 j2 j3 m e1 e2
/-- a thing changes -/
theorem Gok.put (g : Gok K F H G) {p : Addr} {u : HO} {o o0 : MO} (h : G p = some o0) (h0 : o0.isDeck = false) (hd : o.isDeck = false) (r : MRep K F (upd H p u) (gput G p o) p o) : Gok K F (upd H p u) (gput G p o) where
  ex := g.ex.updR (g.at_ p o0 h).1
  at_ := fun a w e => by
    by_cases q : a = p
    · subst q
      rw [gput_same] at e; cases e
      exact ⟨(g.at_ a o0 h).1, r⟩
    · rw [gput_ne q] at e
      obtain ⟨f, m⟩ := g.at_ a w e
      have np : ∀ c, (c = a ∨ G c = some .dcell) → c ≠ p := fun c hc y => by
        rcases hc with hc | hc
        · exact q (hc ▸ y)
        · rw [y, h] at hc; cases hc; cases h0
      refine ⟨f, m.move (Ex.refl F) (fun b z qb hb => by rw [upd_ne (np b hb)]; exact qb) fun c z => by rw [gput_ne (np c (.inr z))]; exact z⟩
  one := fun a b k1 k2 k3 n j1 j2 j3 m e1 e2 => by
    have ha : a ≠ p := fun y => by rw [y, gput_same] at e1; cases e1; cases hd
    have hb : b ≠ p := fun y => by rw [y, gput_same] at e2; cases e2; cases hd
    rw [gput_ne ha] at e1; rw [gput_ne hb] at e2
    exact g.one a b k1 k2 k3 n j1 j2 j3 m e1 e2
theorem gdel_sub {G : GH} {p : Addr} : ∀ a o, gdel G p a = some o → G a = some o := fun a o e => by
  unfold gdel at e
  by_cases q : a = p
  · rw [if_pos q] at e; cases e
  · rw [if_neg q] at e; exact e
theorem gdel_same {G : GH} {p : Addr} : gdel G p p = none := by unfold gdel; rw [if_pos rfl]
theorem gdel_ne {G : GH} {p a : Addr} (h : a ≠ p) : gdel G p a = G a := by unfold gdel; rw [if_neg h]
theorem gdel_gput {G : GH} {p : Addr} {o : MO} (h : G p = none) : gdel (gput G p o) p = G := by
  funext b
  by_cases q : b = p
  · subst q; rw [gdel_same, h]
  · rw [gdel_ne q, gput_ne q]
/-- a thing changes no more -/
theorem Gok.freeze (g : Gok K F H G) {p : Addr} {u : HO} {o0 : MO} (h : G p = some o0) (h0 : o0.isDeck = false) (hu : H p = some u) : Gok K (upd F p u) H (gdel G p) ∧ Go F H G (upd F p u) H (gdel G p) := by
  have fp := (g.at_ p o0 h).1
  have eF : Ex F (upd F p u) := Ex.new fp
  refine ⟨⟨fun a w z => ?_, fun a w e => ?_, ?_⟩, eF, fun b w hb gb => ⟨hb, ?_⟩, fun b w hb gb fb _ => ?_, fun _ z => z⟩
  · by_cases q : a = p
    · subst q; rw [upd_same] at z; cases z; exact hu
    · rw [upd_ne q] at z; exact g.ex a w z
  · have q : a ≠ p := fun y => by rw [y, gdel_same] at e; cases e
    rw [gdel_ne q] at e
    obtain ⟨f, m⟩ := g.at_ a w e
    refine ⟨by rw [upd_ne q]; exact f, m.move eF (fun b w hb _ => hb) fun c z => ?_⟩
    have nq : c ≠ p := fun y => by rw [y, h] at z; cases z; cases h0
    rw [gdel_ne nq]; exact z
  · exact fun a b k1 k2 k3 n j1 j2 j3 m e1 e2 => g.one a b k1 k2 k3 n j1 j2 j3 m (gdel_sub _ _ e1) (gdel_sub _ _ e2)
  · have q : b ≠ p := fun y => by rw [y, h] at gb; cases gb
    rw [gdel_ne q]; exact gb
  · have q : b ≠ p := fun y => by rw [y, h] at gb; cases gb
    rw [upd_ne q]; exact fb
end
abbrev DS := List (Option D)
inductive Slots (K : PySem.W.Frag) (F : Hp) : L2.St → DS → Prop
  | nil : Slots K F [] []
  | any {v : Option V} {σ : L2.St} {S : DS} : Slots K F σ S → Slots K F (v :: σ) (none :: S)
  | val {v : V} {d : D} {σ : L2.St} {S : DS} : Rep K F v d → Slots K F σ S → Slots K F (some v :: σ) (some d :: S)
section
variable {K : PySem.W.Frag} {F : Hp}
theorem Slots.mono {F' : Hp} (e : Ex F F') : ∀ {σ : L2.St} {S : DS}, Slots K F σ S → Slots K F' σ S
  | _, _, .nil => .nil
  | _, _, .any t => .any (Slots.mono e t)
  | _, _, .val h t => .val (h.mono e) (Slots.mono e t)
theorem Slots.get : ∀ {σ : L2.St} {S : DS} {i : Nat} {d : D}, Slots K F σ S → S[i]? = some (some d) → ∃ v, σ[i]? = some (some v) ∧ Rep K F v d
  | _, _, _, _, .nil, e => by simp at e
  | _, _, 0, _, .any _, e => by simp at e
  | _, _, 0, _, .val r _, e => by simp at e; subst e; exact ⟨_, rfl, r⟩
  | _, _, i + 1, _, .any t, e => by
    obtain ⟨v, h1, h2⟩ := Slots.get (i := i) t (by simpa using e)
    exact ⟨v, by simpa using h1, h2⟩
  | _, _, i + 1, _, .val _ t, e => by
    obtain ⟨v, h1, h2⟩ := Slots.get (i := i) t (by simpa using e)
    exact ⟨v, by simpa using h1, h2⟩
theorem Slots.set {v : V} {d : D} (h : Rep K F v d) : ∀ {σ : L2.St} {S : DS} (i : Nat), Slots K F σ S → Slots K F (σ.set i (some v)) (S.set i (some d))
  | _, _, _, .nil => .nil
  | _, _, 0, .any t => .val h t
  | _, _, 0, .val _ t => .val h t
  | _, _, i + 1, .any t => .any (Slots.set h i t)
  | _, _, i + 1, .val r t => .val r (Slots.set h i t)
theorem Slots.setN (o : Option V) : ∀ {σ : L2.St} {S : DS} (i : Nat), Slots K F σ S → Slots K F (σ.set i o) (S.set i none)
  | _, _, _, .nil => .nil
  | _, _, 0, .any t => .any t
  | _, _, 0, .val _ t => .any t
  | _, _, i + 1, .any t => .any (Slots.setN o i t)
  | _, _, i + 1, .val r t => .val r (Slots.setN o i t)
def dstart (N : List Str) (ds : List D) : DS := ds.map some ++ List.replicate (N.length - ds.length) none
theorem slots_none : ∀ (n : Nat), Slots K F (List.replicate n none) (List.replicate n none)
  | 0 => .nil
  | n + 1 => .any (slots_none n)
theorem slots_append : ∀ {vs : List V} {ds : List D} {σ : L2.St} {S : DS}, Reps K F vs ds → Slots K F σ S → Slots K F (vs.map some ++ σ) (ds.map some ++ S)
  | _, _, _, _, .nil, s => s
  | _, _, _, _, .cons h t, s => .val h (slots_append t s)
theorem Reps.start {N : List Str} {vs : List V} {ds : List D} (r : Reps K F vs ds) : Slots K F (start N vs) (dstart N ds) := by
  have e := r.length
  unfold L2.start dstart
  rw [e]
  exact slots_append r (slots_none _)
end
structure Ok (K : PySem.W.Frag) (F H : Hp) (σ : L2.St) (S : DS) (G : GH) : Prop where
  g : Gok K F H G
  s : Slots K F σ S
end DL
end
section
set_option Elab.async false
set_option linter.all false
set_option maxRecDepth 100000
set_option maxHeartbeats 4000000
namespace DL
open PySem PySem.Spec PyProof.Rows L2
abbrev DQ := D → GH → Prop
abbrev DTE := DS → GH → DQ → Prop
abbrev DTT := DS → GH → (Bool → GH → Prop) → Prop
abbrev DTA := DS → GH → (List D → GH → Prop) → Prop
structure DEnds where
  nx : DS → GH → Prop
  rt : DQ
  bk : DS → GH → Prop := fun _ _ => False
  ct : DS → GH → Prop := fun _ _ => False
abbrev DTS := DEnds → DS → GH → Prop
def KpE (K : PySem.W.Frag) (F H : Hp) (G : GH) (Q' : DQ) (Q : VK) : Prop := ∀ F' H' v d G', Go F H G F' H' G' → Gok K F' H' G' → Rep K F' v d → Q' d G' → Q v H'
def KpT (K : PySem.W.Frag) (F H : Hp) (G : GH) (Q' : Bool → GH → Prop) (Q : Bool → Hp → Prop) : Prop := ∀ F' H' b G', Go F H G F' H' G' → Gok K F' H' G' → Q' b G' → Q b H'
def KpA (K : PySem.W.Frag) (F H : Hp) (G : GH) (Q' : List D → GH → Prop) (Q : List V → Hp → Prop) : Prop := ∀ F' H' vs ds G', Go F H G F' H' G' → Gok K F' H' G' → Reps K F' vs ds → Q' ds G' → Q vs H'
def KpN (K : PySem.W.Frag) (F H : Hp) (G : GH) (Q' : DS → GH → Prop) (Q : L2.St → Hp → Prop) : Prop := ∀ F' H' σ S G', Go F H G F' H' G' → Ok K F' H' σ S G' → Q' S G' → Q σ H'
structure KpS (K : PySem.W.Frag) (F H : Hp) (G : GH) (D' : DEnds) (D0 : Ends) : Prop where
  nx : KpN K F H G D'.nx D0.nx
  rt : KpE K F H G D'.rt D0.rt
  bk : KpN K F H G D'.bk D0.bk
  ct : KpN K F H G D'.ct D0.ct
section
variable {K : PySem.W.Frag} {F H F1 H1 : Hp} {G G1 : GH}
theorem KpE.mono {Q' : DQ} {Q : VK} (e : Go F H G F1 H1 G1) (h : KpE K F H G Q' Q) : KpE K F1 H1 G1 Q' Q := fun F' H' v d G' a b c q => h F' H' v d G' (e.trans a) b c q
theorem KpT.mono {Q' : Bool → GH → Prop} {Q : Bool → Hp → Prop} (e : Go F H G F1 H1 G1) (h : KpT K F H G Q' Q) : KpT K F1 H1 G1 Q' Q := fun F' H' v G' a b q => h F' H' v G' (e.trans a) b q
theorem KpN.mono {Q' : DS → GH → Prop} {Q : L2.St → Hp → Prop} (e : Go F H G F1 H1 G1) (h : KpN K F H G Q' Q) : KpN K F1 H1 G1 Q' Q := fun F' H' σ S G' a b q => h F' H' σ S G' (e.trans a) b q
theorem KpS.mono {D' : DEnds} {D0 : Ends} (e : Go F H G F1 H1 G1) (h : KpS K F H G D' D0) : KpS K F1 H1 G1 D' D0 := ⟨h.nx.mono e, h.rt.mono e, h.bk.mono e, h.ct.mono e⟩
end
structure DE (X : Cx) (e : Expr) (t' : DTE) : Prop where
  ex : ∃ t, PE X e t ∧ ∀ F H σ S G, Ok X.K F H σ S G → ∀ Q', t' S G Q' → ∀ Q, KpE X.K F H G Q' Q → t σ H Q
structure DT (X : Cx) (e : Expr) (t' : DTT) : Prop where
  ex : ∃ t, PT X e t ∧ ∀ F H σ S G, Ok X.K F H σ S G → ∀ Q', t' S G Q' → ∀ Q, KpT X.K F H G Q' Q → t σ H Q
structure DW (X : Cx) (e : Expr) (t' : DTT) : Prop where
  ex : ∃ t, PW X e t ∧ ∀ F H σ S G, Ok X.K F H σ S G → ∀ Q', t' S G Q' → ∀ Q, KpT X.K F H G Q' Q → t σ H Q
structure DA (X : Cx) (es : List Expr) (t' : DTA) : Prop where
  ex : ∃ t, PA X es t ∧ ∀ F H σ S G, Ok X.K F H σ S G → ∀ Q', t' S G Q' → ∀ Q, KpA X.K F H G Q' Q → t σ H Q
structure DP (X : Cx) (st : Stmt) (t' : DTS) : Prop where
  ex : ∃ t, PS X st t ∧ ∀ F H σ S G, Ok X.K F H σ S G → ∀ D', t' D' S G → ∀ D0, KpS X.K F H G D' D0 → t D0 σ H
structure DPs (X : Cx) (st : List Stmt) (t' : DTS) : Prop where
  ex : ∃ t, PSs X st t ∧ ∀ F H σ S G, Ok X.K F H σ S G → ∀ D', t' D' S G → ∀ D0, KpS X.K F H G D' D0 → t D0 σ H
section
variable {X : Cx} {pos : Pos}
theorem Ok.go {K : PySem.W.Frag} {F H F' H' : Hp} {σ : L2.St} {S : DS} {G G' : GH} (o : Ok K F H σ S G) (e : Go F H G F' H' G') (g : Gok K F' H' G') : Ok K F' H' σ S G' := ⟨g, o.s.mono e.ex⟩
def dVar (i : Nat) : DTE := fun S G Q => match S[i]? with
  | some (some d) => Q d G
  | _ => False
def dC (d : D) : DTE := fun _ G Q => Q d G
theorem de_var (i : Nat) {x : Str} (hN : X.N[i]? = some x := by rfl) (hv : Vis X.env.scope x := by first | exact Or.inl rfl | exact Or.inr (Or.inl rfl) | exact Or.inr (Or.inr rfl)) (hd : (x == ("__debug__" : Str)) = false := by decide)
    (hcd : (x == ("__classdict__" : Str)) = false := by decide) : DE X (.Name x pos) (dVar i) := by
  refine ⟨_, pe_var hN hv hd hcd, fun F H σ S G o Q' h Q k => ?_⟩
  unfold dVar at h
  split at h
  · rename_i d e
    obtain ⟨v, e1, r⟩ := o.s.get e
    exact ⟨v, e1, k F H v d G Go.refl o.g r h⟩
  · exact h.elim
theorem dc_of {e : Expr} {v : V} {d : D} (h : PE X e (tC v)) (r : ∀ F, Rep X.K F v d) : DE X e (dC d) :=
  ⟨_, h, fun F H σ S G o Q' h Q k => k F H v d G Go.refl o.g (r F) h⟩
theorem de_int {i : Int} {j} : DE X (.Constant (.int i) j pos) (dC (.int i)) := dc_of pe_int fun _ => .int i
theorem de_bl {b : Bool} {j} : DE X (.Constant (.bool b) j pos) (dC (.bl b)) := dc_of pe_bl fun _ => .bl b
theorem de_non {j} : DE X (.Constant .none j pos) (dC .non) := dc_of pe_non fun _ => .non
theorem de_str {x : Str} {j} : DE X (.Constant (.str x) j pos) (dC (.str x)) := dc_of pe_str fun _ => .str x
theorem de_gint {x : Str} {i : Int} (hg : Gl X x) (hm : ∃ t, X.mg x = some (.int i t)) (hd : (x == ("__debug__" : Str)) = false := by decide) : DE X (.Name x pos) (dC (.int i)) := by
  obtain ⟨t, hm⟩ := hm
  exact dc_of (pe_glob (v := .int i) hg hm ⟨t, rfl⟩ hd) fun _ => .int i
theorem de_gstr {x z : Str} (hg : Gl X x) (hm : ∃ t, X.mg x = some (.str z t)) (hd : (x == ("__debug__" : Str)) = false := by decide) : DE X (.Name x pos) (dC (.str z)) := by
  obtain ⟨t, hm⟩ := hm
  exact dc_of (pe_glob (v := .str z) hg hm ⟨t, rfl⟩ hd) fun _ => .str z
def dNil : DTA := fun _ G Q => Q [] G
def dCons (ta : DTE) (tr : DTA) : DTA := fun S G Q => ta S G fun d G1 => tr S G1 fun ds G2 => Q (d :: ds) G2
theorem da_nil : DA X [] dNil := ⟨_, pa_nil, fun F H σ S G o Q' h Q k => k F H [] [] G Go.refl o.g .nil h⟩
theorem da_cons {e : Expr} {es : List Expr} {ta : DTE} {tr : DTA} (ha : DE X e ta) (hr : DA X es tr) (hs : starEach (e :: es) X.env = (false, eval e X.env) :: starEach es X.env := by rfl) : DA X (e :: es) (dCons ta tr) := by
  obtain ⟨t1, p1, r1⟩ := ha.ex
  obtain ⟨t2, p2, r2⟩ := hr.ex
  refine ⟨_, pa_cons p1 p2 hs, fun F H σ S G o Q' h Q k => ?_⟩
  refine r1 F H σ S G o _ h _ fun F1 H1 v d G1 e1 g1 q1 h1 => ?_
  refine r2 F1 H1 σ S G1 (o.go e1 g1) _ h1 _ fun F2 H2 vs ds G2 e2 g2 q2 h2 => ?_
  exact k F2 H2 _ _ G2 (e1.trans e2) g2 (.cons (q1.mono e2.ex) q2) h2
def dTup (ta : DTA) : DTE := fun S G Q => ta S G fun ds G1 => ds.length ≤ sizeLine ∧ Q (.tup ds) G1
theorem de_tup {es : List Expr} {ta : DTA} {x1} (h : DA X es ta) : DE X (.Tuple es x1 pos) (dTup ta) := by
  obtain ⟨t, p, r⟩ := h.ex
  refine ⟨_, pe_tup p, fun F H σ S G o Q' h Q k => ?_⟩
  refine r F H σ S G o _ h _ fun F1 H1 vs ds G1 e1 g1 q1 h1 => ?_
  refine ⟨q1.length ▸ h1.1, fun p hp => ?_⟩
  have gr : Gr F1 H1 (upd F1 p (.tup vs)) (upd H1 p (.tup vs)) := Gr.new g1.ex hp
  exact k _ _ _ _ G1 (e1.trans gr.go) (g1.grow gr) (.tup upd_same (q1.mono gr.ff)) h1.2
/-- a list as it is written: frozen -/
def dLst (ta : DTA) : DTE := fun S G Q => ta S G fun ds G1 => ds.length ≤ sizeLine ∧ Q (.lst ds) G1
theorem de_lst {es : List Expr} {ta : DTA} (h : DA X es ta) : DE X (.List es pos) (dLst ta) := by
  obtain ⟨t, p, r⟩ := h.ex
  refine ⟨_, pe_lst p, fun F H σ S G o Q' h Q k => ?_⟩
  refine r F H σ S G o _ h _ fun F1 H1 vs ds G1 e1 g1 q1 h1 => ?_
  refine ⟨q1.length ▸ h1.1, fun p hp => ?_⟩
  have gr : Gr F1 H1 (upd F1 p (.lst vs)) (upd H1 p (.lst vs)) := Gr.new g1.ex hp
  exact k _ _ _ _ G1 (e1.trans gr.go) (g1.grow gr) (.lst upd_same (q1.mono gr.ff)) h1.2
/-- .. that may change -/
def dLstM (ta : DTA) : DTE := fun S G Q => ta S G fun ds G1 => ds.length ≤ sizeLine ∧ ∀ p, G1 p = none → Q (.rf p) (gput G1 p (.lst ds))
theorem de_lstM {es : List Expr} {ta : DTA} (h : DA X es ta) : DE X (.List es pos) (dLstM ta) := by
  obtain ⟨t, p, r⟩ := h.ex
  refine ⟨_, pe_lst p, fun F H σ S G o Q' h Q k => ?_⟩
  refine r F H σ S G o _ h _ fun F1 H1 vs ds G1 e1 g1 q1 h1 => ?_
  refine ⟨q1.length ▸ h1.1, fun p hp => ?_⟩
  exact k _ _ _ _ _ (e1.trans (Go.alloc hp)) (g1.alloc (o := .lst ds) hp rfl ⟨vs, upd_same, q1⟩) (.rf p) (h1.2 p (g1.free hp))
def MO.cold : MO → Option D
  | .lst xs => some (.lst xs)
  | .dK kds => some (.dK kds)
  | .dT kds => some (.dT kds)
  | .ins C kds => some (.obj C kds)
  | .deck _ _ _ _ => none
  | .dcell => none
  | .lkT _ _ _ => none
  | .lkK _ _ _ => none
  | .dN _ _ => none
  | .lkN _ _ _ _ => none
  | .dU _ _ => none
  | .lkU _ _ _ _ => none
  | .tupU _ _ _ => none
  | .tab _ => none
theorem Gok.cold {K : PySem.W.Frag} {F H : Hp} {G : GH} (g : Gok K F H G) {p : Addr} {o : MO} {d : D} (h : G p = some o) (hc : o.cold = some d) : ∃ F', Go F H G F' H (gdel G p) ∧ Gok K F' H (gdel G p) ∧ Rep K F' (.ref p) d := by
  obtain ⟨fp, m⟩ := g.at_ p o h
  cases o with
  | lst xs =>
    obtain ⟨vs, e, r⟩ := m
    obtain ⟨g', ef⟩ := g.freeze h rfl e
    cases hc
    exact ⟨_, ef, g', .lst upd_same (r.mono ef.ex)⟩
  | dK kds =>
    obtain ⟨vs, e, l, r⟩ := m
    obtain ⟨g', ef⟩ := g.freeze h rfl e
    cases hc
    exact ⟨_, ef, g', .dK upd_same l (r.mono ef.ex)⟩
  | dT kds =>
    obtain ⟨vs, e, l, r⟩ := m
    obtain ⟨g', ef⟩ := g.freeze h rfl e
    cases hc
    exact ⟨_, ef, g', .dT upd_same l (r.mono ef.ex)⟩
  | ins C kds =>
    obtain ⟨dx, vs, e, l, r⟩ := m
    obtain ⟨g', ef⟩ := g.freeze h rfl e
    cases hc
    exact ⟨_, ef, g', .obj upd_same l (r.mono ef.ex)⟩
  | deck k1 k2 k3 n => cases hc
  | dcell => cases hc
  | lkT o kvs kds => cases hc
  | lkK o kvs kds => cases hc
  | dN w kds => cases hc
  | lkN w o xs kds => cases hc
  | dU w kds => cases hc
  | lkU w o xs kds => cases hc
  | tupU o vs ds => cases hc
  | tab q => cases hc
/-- the value, frozen from here on -/
def dCold (ta : DTE) : DTE := fun S G Q => ta S G fun d G1 => match d with
  | .rf a => (match G1 a with
    | some o => (match o.cold with
      | some d => Q d (gdel G1 a)
      | none => False)
    | none => False)
  | d => Q d G1
theorem de_cold {e : Expr} {ta : DTE} (h : DE X e ta) : DE X e (dCold ta) := by
  obtain ⟨t, p, r⟩ := h.ex
  refine ⟨t, p, fun F H σ S G o Q' h Q k => ?_⟩
  refine r F H σ S G o _ h _ fun F1 H1 v d G1 e1 g1 q1 h1 => ?_
  dsimp only at h1
  split at h1
  · rename_i a
    split at h1
    · rename_i o eo
      split at h1
      · rename_i d ed
        obtain ⟨F2, e2, g2, r2⟩ := g1.cold eo ed
        cases q1
        exact k F2 H1 _ _ _ (e1.trans e2) g2 r2 h1
      · exact h1.elim
    · exact h1.elim
  · exact k F1 H1 v _ G1 e1 g1 q1 h1
end
end DL
end
section
set_option Elab.async false
set_option linter.all false
set_option maxRecDepth 100000
set_option maxHeartbeats 4000000
namespace DL
open PySem PySem.Spec PyProof.Rows L2
structure FnG (P : Program) (w : World) (K : PySem.W.Frag) (mg : Str → Option Value) (base : Heap) (CX : CXT) (k : Nat) (f : Addr) (fd : FuncData) (ps : List Str) (sp : Sp) : Prop where
  many : ∀ vs H Q E, sp vs H Q E → vs.length = ps.length
  goes : ∀ (A : Around) (outer : List Env) (s : Shared) (H : Hp) (args : Args) (us : List Value) (vs : List V) (Q : VK) (E : XK),
    A.guards = some [] → Room k A → Env0 P w K mg base A outer s H → BindsTo s fd args (ps.zip us) → Vals vs us → sp vs H Q E →
      codeAny (model P w) A (.call (.ref f) args) (CR CX outer P w H s Q E) s
theorem deeper_guards {A : Around} {env : Env} (h : A.guards = some []) : (A.deeper env).guards = some [] := by
  first
  | exact h
  | simpa [Around.deeper] using h
section
variable {P : Program} {w : World} {K : PySem.W.Frag} {mg : Str → Option Value} {base : Heap} {CX : CXT}
/-- a def keeps its promise: by its body -/
theorem fng_of {k : Nat} {f : Addr} {name qual : Str} {params : Arguments} {body : List Stmt} {scope : Scope} {dV kV doc pm cdv ct oc : Value} {an od : Option Addr} {osl : Array (Option Value)} {N ps : List Str} {sp : Sp}
    (lk : K.lookup f = some ⟨oc, od, .func (PySem.W.fnOf name qual params body scope dV kV doc pm an cdv ct), osl⟩)
    (hcd : PySem.W.codeIn K cdv qual = true) (S : FnScope N ps scope) (len : ∀ vs H Q E, sp vs H Q E → vs.length = ps.length)
    (hb : ∀ (A : Around) (outer : List Env) (s : Shared) (H : Hp) (vs : List V) (Q : VK) (E : XK), A.guards = some [] → Room k (A.deeper (envOfC qual scope s.heap.objs.size f cdv)) → sp vs H Q E →
      ∃ t, PSs (cxOf CX P w K mg base N qual scope f cdv A outer s H E) body t ∧ t ⟨fun _ H' => Q .non H', Q, fun _ _ => False, fun _ _ => False⟩ (start N vs) H) :
    FnG P w K mg base CX (k + 1) f (PySem.W.fnOf name qual params body scope dV kV doc pm an cdv ct) ps sp := by
  refine ⟨len, fun A outer s H args us vs Q E hg hr e0 bd r hsp => ?_⟩
  have many := len vs H Q E hsp
  have inn : K.In s.heap := e0.mod.kin.keeps fun a u z => (e0.bs a u z).1
  have nol : s.heap.NoLimit := e0.mod.nolimit.keeps fun a u z => (e0.bs a u z).1
  have kinds : ∀ y ∈ ps.zip us, scope.names.lookup y.1 = some .local ∨ (scope.names.lookup y.1 = some .cell ∧ ((cellsFrom (s.heap.objs.size + 1) scope.names []).lookup y.1).isSome = true) := by
    rintro ⟨n, v⟩ hy
    have hm := (List.of_mem_zip hy).1
    rcases S.par n hm with z | z
    · left; exact z
    · right; exact ⟨z, PySem.W.cellsFrom_some _ _ _ (Or.inl z)⟩
  refine codeAny_call_function hr.depth (inn _ _ lk) rfl S.co S.gen rfl (PySem.W.codeRec_of inn hcd) (bd _ _ _ _ ?_)
  refine wpAny_newFunctionEnv_cells S.kind kinds ?_
  rintro env rfl s1 x
  refine ⟨nol.keeps x.toInCall.keep, codeAny_func ?_⟩
  obtain ⟨t, ht, q⟩ := hb A outer s H vs Q E hg (hr.deeper _) hsp
  have J : Inv (cxOf CX P w K mg base N qual scope f cdv A outer s H E) [] (start N vs) H s1 := inv_start S hr.hd e0 many r x
  refine wpAny_mono (ht.run [] s1 (start N vs) H _ J q) ?_ (fun e s' z => z)
  intro fl s' z
  cases fl with
  | ret u =>
    obtain ⟨v, σ', H', J', rv, q'⟩ := z
    exact ⟨v, H', J'.os, J'.bare, J'.base, J'.hok, rv, q'⟩
  | next =>
    obtain ⟨σ', H', J', q'⟩ := z
    exact ⟨V.non, H', J'.os, J'.bare, J'.base, J'.hok, rfl, q'⟩
  | brk =>
    obtain ⟨_, _, _, q'⟩ := z
    exact q'.elim
  | cont =>
    obtain ⟨_, _, _, q'⟩ := z
    exact q'.elim
end
section
variable {X : Cx} {CX : CXT} {k : Nat} {f C : Addr} {fd : FuncData} {ps ks : List Str} {sp : Sp} {E : XK} {x m : Str} {p pos apos : Pos} {e o : Expr} {es : List Expr} {kws : List Keyword} {ta : TE} {t tk : TA}
  {dvs : List V} {ds : List Value} {g : List Value → List Value → List Value} {gV : List V → List V → List V}
theorem goes_fn {pins : List (Addr × Obj)} {σ : L2.St} {H : Hp} {s : Shared} {Q : VK} {us ws : List Value} {zs : List V} (F : FnG X.prog X.w X.K X.mg X.base CX k f fd ps sp) (hA : X.A.guards = some []) (hr : Room k X.A)
    (kw : List (Str × Value)) (bd : ∀ s : Shared, X.K.In s.heap → ws.length = ps.length → BindsTo s fd ⟨us, kw⟩ (ps.zip ws)) (hx : Passes CX X E)
    (I : Inv X pins σ H s) (r : Vals zs ws) (h : sp zs H Q E) : wpAny (model X.prog X.w) X.A (call (.ref f) us kw) (EP X pins σ Q) X.xe s := by
  have many : ws.length = ps.length := r.length ▸ F.many zs H Q E h
  refine wpAny_call (codeAny_mono (F.goes X.A X.stack s H ⟨us, kw⟩ ws zs Q E hA hr I.env0 (bd s I.kIn many) r h) ?_)
  intro res s' z
  match res, z with
  | .error er, z => exact hx pins σ H s er s' I z
  | .ok (.ret u), z => exact I.after z
  | .ok .next, z => exact z.elim
  | .ok .brk, z => exact z.elim
  | .ok .cont, z => exact z.elim
theorem pg_call (F : FnG X.prog X.w X.K X.mg X.base CX k f fd ps sp) (hA : X.A.guards = some []) (hr : Room k X.A) (hg : Gl X x) (hm : X.mg x = some (.ref f)) (hk : PySem.W.keepIn X.K (.ref f) = true) (hb : Binds X.K fd ps ds) (hd : Vals dvs ds) (hx : Passes CX X E)
    (ha : PA X (e :: es) t) (hdb : (x == ("__debug__" : Str)) = false) (he : starEach (e :: es) X.env = (false, eval e X.env) :: starEach es X.env) (hpl : (backTo pos (starEach es X.env)).any (·.1) = false) :
    PE X (.Call (.Name x p) (e :: es) [] pos) (tCall sp dvs E t) := by
  constructor
  intro pins s σ H Q I h
  apply wpAny_Call_Name_kw
  refine ld_glob I hg hm ?_ hdb
  refine PySem.W.callWith_K (h₀ := X.base) I.ok.mod.kin hk (thn (ha.run pos pins s σ H _ I h) ?_) he hpl
  rintro us s1 ⟨vs, H1, I1, r, q⟩
  exact ⟨I1.kIn, goes_fn F hA hr [] (fun s2 i l => hb s2 us i l) hx I1 (r.append hd) q⟩
theorem pg_meth {pl : Sem Bool} (he : PE X o ta) (c : Cls X.K C) (hm : Meth X.K C m f) (F : FnG X.prog X.w X.K X.mg X.base CX k f fd ps sp) (hA : X.A.guards = some []) (hr : Room k X.A) (hb : Binds X.K fd ps ds) (hd : Vals dvs ds) (hx : Passes CX X E) (ha : PA X (e :: es) t)
    (hst : starEach (e :: es) X.env = (false, eval e X.env) :: starEach es X.env) (hpl : (backTo pos (starEach es X.env)).any (·.1) = false)
    (ht : eval (.Call (.Attribute o m apos) (e :: es) [] pos) X.env = (do let ov ← eval o X.env; standAt apos.atName; let (f, first) ← holding [ov] (getMethod ov m pl); callWith pos f first (backTo pos (starEach (e :: es) X.env)) (backToKw pos (keywordEach [] X.env)))) :
    PE X (.Call (.Attribute o m apos) (e :: es) [] pos) (tMeth C m sp dvs E ta t) := by
  constructor
  intro pins s σ H Q I h
  refine PySem.W.methodCall_KW (pl := pl) (thn (he.run pins s σ H _ I h) ?_) ht
  rintro u s1 ⟨y, H1, I1, rx, a, dx, fs, rfl, ea, l, q⟩
  obtain rfl : u = Value.ref a := rx
  refine getmeth_ok I1 ea c hm l ?_
  refine PySem.W.callWith_K (first := [.ref a]) (h₀ := X.base) I.ok.mod.kin hm.kp (thn (ha.run pos pins s1 σ H1 _ I1 q) ?_) hst hpl
  rintro us s2 ⟨vs, H2, I2, r, q2⟩
  exact ⟨I2.kIn, goes_fn (us := .ref a :: us) F hA hr [] (fun s3 i lg => hb s3 (.ref a :: us) i lg) hx I2 (Vals.append (xs := .ref a :: vs) (us := .ref a :: us) (.cons rfl r) hd) q2⟩
theorem under_guards {A : Around} {us : List Value} {kw : List (Str × Value)} (h : A.guards = some []) : (A.under (.builtin "type.__call__" ⟨.ref C :: us, kw⟩)).guards = some [] := by
  simp [Around.under, Code.guards, Code.isGuard, guardIds, pushGuards, h]
theorem goes_make {pins : List (Addr × Obj)} {σ : L2.St} {H : Hp} {s : Shared} {Q : VK} {us : List Value} {vs : List V} (M : Mk X.K C f) (F : FnG X.prog X.w X.K X.mg X.base CX k f fd ps sp) (hA : X.A.guards = some []) (hr : Room (k + 1) X.A) (hb : Binds X.K fd ps ds) (hd : Vals dvs ds)
    (hx : Passes CX X E) (I : Inv X pins σ H s) (r : Vals vs us)
    (h : ∀ y dy, H y = none → H dy = none → dy ≠ y → sp (.ref y :: (vs ++ dvs)) (upd (upd H dy (.own y)) y (.ins C dy [])) (fun v H2 => v = .non ∧ Q (.ref y) H2) E) :
    wpAny (model X.prog X.w) X.A (call (.ref C) us) (EP X pins σ Q) X.xe s := by
  have nw : H (s.heap.objs.size + 1) = none := I.hok.fresh (Nat.le_succ _)
  have nd : H s.heap.objs.size = none := I.hok.fresh (Nat.le_refl _)
  have q0 := h (s.heap.objs.size + 1) s.heap.objs.size nw nd (Nat.ne_of_lt (Nat.lt_succ_self _))
  have J := Inv.made (C := C) I
  have r2 : Vals (V.ref (s.heap.objs.size + 1) :: (vs ++ dvs)) (Value.ref (s.heap.objs.size + 1) :: (us ++ ds)) := Paired.cons rfl (r.append hd)
  have lg : (Value.ref (s.heap.objs.size + 1) :: us ++ ds).length = ps.length := by
    have z := r2.length
    rw [F.many _ _ _ _ q0] at z
    exact z.symm
  refine wpAny_call (make_map (f := f) I.kIn M.makes M.init (beq_iff_eq.mp M.fn) (codeAny_mono (F.goes _ X.stack _ _ ⟨Value.ref (s.heap.objs.size + 1) :: us, []⟩ (Value.ref (s.heap.objs.size + 1) :: (us ++ ds)) _ _ E (under_guards hA) (hr.make C us [])
    (J.env0.make C us []) (hb _ (Value.ref (s.heap.objs.size + 1) :: us) J.kIn lg) r2 q0) ?_))
  intro res s' z
  match res, z with
  | .error er, z => exact hx pins σ _ _ er s' J z
  | .ok (.ret u), z =>
    obtain ⟨v, H', J', rv, ev, q3⟩ := J.after z
    subst ev
    exact ⟨rv, ⟨V.ref (s.heap.objs.size + 1), H', J', rfl, q3⟩⟩
  | .ok .next, z => exact z.elim
  | .ok .brk, z => exact z.elim
  | .ok .cont, z => exact z.elim
theorem pg_make (M : Mk X.K C f) (F : FnG X.prog X.w X.K X.mg X.base CX k f fd ps sp) (hA : X.A.guards = some []) (hr : Room (k + 1) X.A) (hg : Gl X x) (hm : X.mg x = some (.ref C)) (hb : Binds X.K fd ps ds) (hd : Vals dvs ds) (hx : Passes CX X E)
    (ha : PA X (e :: es) t) (hdb : (x == ("__debug__" : Str)) = false) (he : starEach (e :: es) X.env = (false, eval e X.env) :: starEach es X.env) (hpl : (backTo pos (starEach es X.env)).any (·.1) = false) :
    PE X (.Call (.Name x p) (e :: es) [] pos) (tMake C sp dvs E t) := by
  constructor
  intro pins s σ H Q I h
  apply wpAny_Call_Name_kw
  refine ld_glob I hg hm ?_ hdb
  refine PySem.W.callWith_K (h₀ := X.base) I.ok.mod.kin M.kp (thn (ha.run pos pins s σ H _ I h) ?_) he hpl
  rintro us s1 ⟨vs, H1, I1, r, q⟩
  exact ⟨I1.kIn, goes_make M F hA hr hb hd hx I1 r q⟩
end
end DL
end
section
set_option Elab.async false
set_option linter.all false
set_option maxRecDepth 100000
set_option maxHeartbeats 4000000
namespace DL
open PySem PySem.Spec PyProof.Rows L2
section
variable {X : Cx} {pos : Pos}
abbrev DR2 := D → D → GH → DQ → Prop
abbrev DR1 := D → GH → DQ → Prop
structure OpD (X : Cx) (f : Value → Value → Sem Value) (r' : DR2) : Prop where
  ex : ∃ r, OpR X f r ∧ ∀ F H G x y dx dy, Gok X.K F H G → Rep X.K F x dx → Rep X.K F y dy → ∀ Q', r' dx dy G Q' → ∀ Q, KpE X.K F H G Q' Q → r x y H Q
structure UnD (X : Cx) (f : Value → Sem Value) (r' : DR1) : Prop where
  ex : ∃ r, UnR X f r ∧ ∀ F H G x dx, Gok X.K F H G → Rep X.K F x dx → ∀ Q', r' dx G Q' → ∀ Q, KpE X.K F H G Q' Q → r x H Q
structure CallD (X : Cx) (f : Value) (r' : List D → GH → DQ → Prop) : Prop where
  ex : ∃ r, CallR X f r ∧ ∀ F H G vs ds, Gok X.K F H G → Reps X.K F vs ds → ∀ Q', r' ds G Q' → ∀ Q, KpE X.K F H G Q' Q → r vs H Q
def dOp (r : DR2) (ta tb : DTE) : DTE := fun S G Q => ta S G fun x G1 => tb S G1 fun y G2 => r x y G2 Q
def dUn (r : DR1) (ta : DTE) : DTE := fun S G Q => ta S G fun x G1 => r x G1 Q
theorem dop_of {a b : Expr} {ta tb : DTE} {r : R2} {r' : DR2} (hr : ∀ F H G x y dx dy, Gok X.K F H G → Rep X.K F x dx → Rep X.K F y dy → ∀ Q', r' dx dy G Q' → ∀ Q, KpE X.K F H G Q' Q → r x y H Q)
    {t1 t2 : TE} (r1 : ∀ F H σ S G, Ok X.K F H σ S G → ∀ Q', ta S G Q' → ∀ Q, KpE X.K F H G Q' Q → t1 σ H Q) (r2 : ∀ F H σ S G, Ok X.K F H σ S G → ∀ Q', tb S G Q' → ∀ Q, KpE X.K F H G Q' Q → t2 σ H Q) :
    ∀ F H σ S G, Ok X.K F H σ S G → ∀ Q', dOp r' ta tb S G Q' → ∀ Q, KpE X.K F H G Q' Q → tOp r t1 t2 σ H Q := fun F H σ S G o Q' h Q k => by
  refine r1 F H σ S G o _ h _ fun F1 H1 v d G1 e1 g1 q1 h1 => ?_
  refine r2 F1 H1 σ S G1 (o.go e1 g1) _ h1 _ fun F2 H2 u d2 G2 e2 g2 q2 h2 => ?_
  exact hr F2 H2 G2 v u d d2 g2 (q1.mono e2.ex) q2 Q' h2 Q (k.mono (e1.trans e2))
theorem de_op {op : Operator} {r' : DR2} {a b : Expr} {ta tb : DTE} (ho : OpD X (binaryOp op) r') (ha : DE X a ta) (hb : DE X b tb) : DE X (.BinOp a op b pos) (dOp r' ta tb) := by
  obtain ⟨r, p, hr⟩ := ho.ex
  obtain ⟨t1, p1, r1⟩ := ha.ex
  obtain ⟨t2, p2, r2⟩ := hb.ex
  exact ⟨_, pe_op p p1 p2, dop_of (a := a) (b := b) hr r1 r2⟩
theorem de_cmp {op : CmpOp} {r' : DR2} {a b : Expr} {ta tb : DTE} (ho : OpD X (compareOp op) r') (ha : DE X a ta) (hb : DE X b tb) (hm : behindInMarks op b = false) : DE X (.Compare a [op] [b] pos) (dOp r' ta tb) := by
  obtain ⟨r, p, hr⟩ := ho.ex
  obtain ⟨t1, p1, r1⟩ := ha.ex
  obtain ⟨t2, p2, r2⟩ := hb.ex
  exact ⟨_, pe_cmpR p p1 p2 hm, dop_of (a := a) (b := b) hr r1 r2⟩
theorem de_un {op : UnaryOp} {r' : DR1} {a : Expr} {ta : DTE} (ho : UnD X (unaryOp op) r') (ha : DE X a ta) : DE X (.UnaryOp op a pos) (dUn r' ta) := by
  obtain ⟨r, p, hr⟩ := ho.ex
  obtain ⟨t1, p1, r1⟩ := ha.ex
  refine ⟨_, pe_un p p1, fun F H σ S G o Q' h Q k => ?_⟩
  refine r1 F H σ S G o _ h _ fun F1 H1 v d G1 e1 g1 q1 h1 => ?_
  exact hr F1 H1 G1 v d g1 q1 Q' h1 Q (k.mono e1)
/-- a value that is a bool, as a test -/
def dTest (ta : DTE) : DTT := fun S G Q => ta S G fun d G1 => match d with
  | .bl b => Q b G1
  | _ => False
theorem dt_cmp {op : CmpOp} {r' : DR2} {a b : Expr} {ta tb : DTE} (ho : OpD X (compareOp op) r') (ha : DE X a ta) (hb : DE X b tb) (hm : behindInMarks op b = false) : DT X (.Compare a [op] [b] pos) (dTest (dOp r' ta tb)) := by
  obtain ⟨r, p, hr⟩ := ho.ex
  obtain ⟨t1, p1, r1⟩ := ha.ex
  obtain ⟨t2, p2, r2⟩ := hb.ex
  refine ⟨_, pt_cmpR p p1 p2 hm, fun F H σ S G o Q' h Q k => ?_⟩
  refine dop_of (a := a) (b := b) hr r1 r2 F H σ S G o _ h _ fun F1 H1 v d G1 e1 g1 q1 h1 => ?_
  dsimp only at h1
  split at h1
  · cases q1
    exact ⟨_, rfl, k F1 H1 _ G1 e1 g1 h1⟩
  · exact h1.elim
theorem dt_val {e : Expr} {ta : DTE} (h : DE X e ta) (he : ∀ whole, isTrue e X.env whole = (do let v ← whole; standAt e.pos; holding [v] (truthy v)) := by intro _; rfl) : DT X e (dTest ta) := by
  obtain ⟨t1, p1, r1⟩ := h.ex
  refine ⟨_, pt_val p1 he, fun F H σ S G o Q' h Q k => ?_⟩
  refine r1 F H σ S G o _ h _ fun F1 H1 v d G1 e1 g1 q1 h1 => ?_
  dsimp only at h1
  split at h1
  · cases q1
    exact ⟨_, rfl, k F1 H1 _ G1 e1 g1 h1⟩
  · exact h1.elim
def dNot (t : DTT) : DTT := fun S G Q => t S G fun b G1 => Q (!b) G1
theorem dt_not {a : Expr} {t' : DTT} (h : DT X a t') : DT X (.UnaryOp .Not a pos) (dNot t') := by
  obtain ⟨t1, p1, r1⟩ := h.ex
  exact ⟨_, pt_not p1, fun F H σ S G o Q' h Q k => r1 F H σ S G o _ h _ fun F1 H1 b G1 e1 g1 h1 => k F1 H1 _ G1 e1 g1 h1⟩
theorem DW.dt {e : Expr} {t' : DTT} (h : DW X e t') : DT X e t' := by
  obtain ⟨t1, p1, r1⟩ := h.ex
  exact ⟨_, p1.pt, r1⟩
def dAnd (t u : DTT) : DTT := fun S G Q => t S G fun b G1 => if b = true then u S G1 Q else Q false G1
def dOr (t u : DTT) : DTT := fun S G Q => t S G fun b G1 => if b = true then Q true G1 else u S G1 Q
theorem dw_and1 {a : Expr} {t' : DTT} (h : DT X a t') : DW X (.BoolOp .And [a] pos) t' := by
  obtain ⟨t1, p1, r1⟩ := h.ex
  exact ⟨_, pw_and1 p1, r1⟩
theorem dw_or1 {a : Expr} {t' : DTT} (h : DT X a t') : DW X (.BoolOp .Or [a] pos) t' := by
  obtain ⟨t1, p1, r1⟩ := h.ex
  exact ⟨_, pw_or1 p1, r1⟩
theorem dw_and {a b : Expr} {rest : List Expr} {t' u' : DTT} (h : DT X a t') (h2 : DW X (.BoolOp .And (b :: rest) pos) u') : DW X (.BoolOp .And (a :: b :: rest) pos) (dAnd t' u') := by
  obtain ⟨t1, p1, r1⟩ := h.ex
  obtain ⟨t2, p2, r2⟩ := h2.ex
  refine ⟨_, pw_and p1 p2, fun F H σ S G o Q' h Q k => ?_⟩
  refine r1 F H σ S G o _ h _ fun F1 H1 b G1 e1 g1 h1 => ?_
  cases b with
  | true =>
    rw [if_pos rfl] at h1 ⊢
    exact r2 F1 H1 σ S G1 (o.go e1 g1) _ h1 _ (k.mono e1)
  | false =>
    rw [if_neg Bool.false_ne_true] at h1 ⊢
    exact k F1 H1 _ G1 e1 g1 h1
theorem dw_or {a b : Expr} {rest : List Expr} {t' u' : DTT} (h : DT X a t') (h2 : DW X (.BoolOp .Or (b :: rest) pos) u') : DW X (.BoolOp .Or (a :: b :: rest) pos) (dOr t' u') := by
  obtain ⟨t1, p1, r1⟩ := h.ex
  obtain ⟨t2, p2, r2⟩ := h2.ex
  refine ⟨_, pw_or p1 p2, fun F H σ S G o Q' h Q k => ?_⟩
  refine r1 F H σ S G o _ h _ fun F1 H1 b G1 e1 g1 h1 => ?_
  cases b with
  | true =>
    rw [if_pos rfl] at h1 ⊢
    exact k F1 H1 _ G1 e1 g1 h1
  | false =>
    rw [if_neg Bool.false_ne_true] at h1 ⊢
    exact r2 F1 H1 σ S G1 (o.go e1 g1) _ h1 _ (k.mono e1)
def dIf (t : DTT) (ta tb : DTE) : DTE := fun S G Q => t S G fun b G1 => if b = true then ta S G1 Q else tb S G1 Q
theorem de_if {c a b : Expr} {t' : DTT} {ta tb : DTE} (hc : DT X c t') (ha : DE X a ta) (hb : DE X b tb) : DE X (.IfExp c a b pos) (dIf t' ta tb) := by
  obtain ⟨t0, p0, r0⟩ := hc.ex
  obtain ⟨t1, p1, r1⟩ := ha.ex
  obtain ⟨t2, p2, r2⟩ := hb.ex
  refine ⟨_, pe_ifExp p0 p1 p2, fun F H σ S G o Q' h Q k => ?_⟩
  refine r0 F H σ S G o _ h _ fun F1 H1 b G1 e1 g1 h1 => ?_
  cases b with
  | true =>
    rw [if_pos rfl] at h1 ⊢
    exact r1 F1 H1 σ S G1 (o.go e1 g1) _ h1 _ (k.mono e1)
  | false =>
    rw [if_neg Bool.false_ne_true] at h1 ⊢
    exact r2 F1 H1 σ S G1 (o.go e1 g1) _ h1 _ (k.mono e1)
/-- and, or, not as values: bools -/
def dAndV (ta tb : DTE) : DTE := fun S G Q => ta S G fun d G1 => match d with
  | .bl b => if b = true then tb S G1 Q else Q (.bl false) G1
  | _ => False
def dOrV (ta tb : DTE) : DTE := fun S G Q => ta S G fun d G1 => match d with
  | .bl b => if b = true then Q (.bl true) G1 else tb S G1 Q
  | _ => False
def dNotV (ta : DTE) : DTE := fun S G Q => ta S G fun d G1 => match d with
  | .bl b => Q (.bl (!b)) G1
  | _ => False
theorem de_one {op} {a : Expr} {ta : DTE} (h : DE X a ta) : DE X (.BoolOp op [a] pos) ta := by
  obtain ⟨t1, p1, r1⟩ := h.ex
  exact ⟨_, pe_one p1, r1⟩
theorem de_and {a b : Expr} {rest : List Expr} {ta tb : DTE} (ha : DE X a ta) (hb : DE X (.BoolOp .And (b :: rest) pos) tb) : DE X (.BoolOp .And (a :: b :: rest) pos) (dAndV ta tb) := by
  obtain ⟨t1, p1, r1⟩ := ha.ex
  obtain ⟨t2, p2, r2⟩ := hb.ex
  refine ⟨_, pe_and p1 p2, fun F H σ S G o Q' h Q k => ?_⟩
  refine r1 F H σ S G o _ h _ fun F1 H1 v d G1 e1 g1 q1 h1 => ?_
  dsimp only at h1
  split at h1
  · rename_i b0
    cases q1
    refine ⟨b0, rfl, ?_⟩
    cases b0 with
    | true =>
      rw [if_pos rfl] at h1 ⊢
      exact r2 F1 H1 σ S G1 (o.go e1 g1) _ h1 _ (k.mono e1)
    | false =>
      rw [if_neg Bool.false_ne_true] at h1 ⊢
      exact k F1 H1 _ _ G1 e1 g1 (.bl _) h1
  · exact h1.elim
theorem de_not {a : Expr} {ta : DTE} (ha : DE X a ta) : DE X (.UnaryOp .Not a pos) (dNotV ta) := by
  obtain ⟨t1, p1, r1⟩ := ha.ex
  refine ⟨_, pe_not p1, fun F H σ S G o Q' h Q k => ?_⟩
  refine r1 F H σ S G o _ h _ fun F1 H1 v d G1 e1 g1 q1 h1 => ?_
  dsimp only at h1
  split at h1
  · rename_i b0
    cases q1
    exact ⟨b0, rfl, k F1 H1 _ _ G1 e1 g1 (.bl _) h1⟩
  · exact h1.elim
abbrev DTG := D → DS → GH → (DS → GH → Prop) → Prop
abbrev DTGs := List D → DS → GH → (DS → GH → Prop) → Prop
structure DG (X : Cx) (tg : Expr) (g' : DTG) : Prop where
  ex : ∃ g, PG X tg g ∧ ∀ F H σ S G v d, Ok X.K F H σ S G → Rep X.K F v d → ∀ Q', g' d S G Q' → ∀ Q, KpN X.K F H G Q' Q → g v σ H Q
structure DGs (X : Cx) (tgs : List Expr) (g' : DTGs) : Prop where
  ex : ∃ g, PGs X tgs g ∧ ∀ F H σ S G vs ds, Ok X.K F H σ S G → Reps X.K F vs ds → ∀ Q', g' ds S G Q' → ∀ Q, KpN X.K F H G Q' Q → g vs σ H Q
def dgName (i : Nat) : DTG := fun d S G Q => Q (S.set i (some d)) G
theorem dg_name (i : Nat) {x : Str} (hN : X.N.Nodup) (hi : X.N[i]? = some x := by rfl) (hx : Loc X.env.scope x := by first | exact Or.inl rfl | exact Or.inr rfl) (hf : X.fn x = true ∨ X.env.scope.names.lookup x = some .local := by first | exact .inl rfl | exact .inr rfl | assumption) : DG X (.Name x pos) (dgName i) :=
  ⟨_, pg_name (i := i) hN hi hx hf, fun F H σ S G v d o r Q' h Q k => k F H _ _ G Go.refl ⟨o.g, o.s.set r i⟩ h⟩
def dgNil : DTGs := fun ds S G Q => match ds with
  | [] => Q S G
  | _ => False
def dgCons (t : DTG) (u : DTGs) : DTGs := fun ds S G Q => match ds with
  | d :: r => t d S G fun S1 G1 => u r S1 G1 Q
  | _ => False
theorem dgs_nil : DGs X [] dgNil := ⟨_, pgs_nil, fun F H σ S G vs ds o r Q' h Q k => by
  cases r with
  | nil => exact ⟨rfl, k F H σ S G Go.refl o h⟩
  | cons a b => exact h.elim⟩
theorem dgs_cons {e : Expr} {es : List Expr} {t : DTG} {u : DTGs} (h1 : DG X e t) (h2 : DGs X es u) (hs : (assignEach (e :: es) X.env).map (·.2) = assign e X.env :: (assignEach es X.env).map (·.2) := by rfl) : DGs X (e :: es) (dgCons t u) := by
  obtain ⟨t1, p1, r1⟩ := h1.ex
  obtain ⟨t2, p2, r2⟩ := h2.ex
  refine ⟨_, pgs_cons p1 p2 hs, fun F H σ S G vs ds o r Q' h Q k => ?_⟩
  cases r with
  | nil => exact h.elim
  | cons a b =>
    refine ⟨_, _, rfl, r1 F H σ S G _ _ o a _ h _ fun F1 H1 σ1 S1 G1 e1 o1 h1 => ?_⟩
    exact r2 F1 H1 σ1 S1 G1 _ _ o1 (b.mono e1.ex) _ h1 _ (k.mono e1)
def dgTup (n : Nat) (u : DTGs) : DTG := fun d S G Q => match d with
  | .tup ds => ds.length = n ∧ u ds S G Q
  | .kup ds => ds.length = n ∧ u ds S G Q
  | _ => False
theorem dg_tup {es : List Expr} {k : Nat} {u : DTGs} {n : Nat} (hc : X.calm = true) (h : DGs X es u) (hn : (assignEach es X.env).length = n := by rfl) (hst : (assignEach es X.env).findIdx? (·.1) = none := by rfl) : DG X (.Tuple es k pos) (dgTup n u) := by
  obtain ⟨t1, p1, r1⟩ := h.ex
  refine ⟨_, pg_tup hc p1 hn hst, fun F H σ S G v d o r Q' h Q k => ?_⟩
  cases r with
  | tup hs hr =>
    refine ⟨_, _, rfl, .inl (.inl (o.g.ex _ _ hs)), by rw [hr.length]; exact h.1, ?_⟩
    exact r1 F H σ S G _ _ o hr _ h.2 _ k
  | kup hs hr =>
    refine ⟨_, _, rfl, o.g.ex.sqt hs, by rw [hr.length]; exact h.1, ?_⟩
    exact r1 F H σ S G _ _ o hr _ h.2 _ k
  | _ => exact h.elim
def dNext : DTS := fun D' S G => D'.nx S G
def dSeq (t u : DTS) : DTS := fun D' S G => t { D' with nx := u D' } S G
def dAsg (te : DTE) (g : DTG) : DTS := fun D' S G => te S G fun d G1 => g d S G1 D'.nx
def dDrop (te : DTE) : DTS := fun D' S G => te S G fun _ G1 => D'.nx S G1
def dRet (te : DTE) : DTS := fun D' S G => te S G D'.rt
def dRetN : DTS := fun D' _ G => D'.rt .non G
def dIfS (c : DTT) (t u : DTS) : DTS := fun D' S G => c S G fun b G1 => if b = true then t D' S G1 else u D' S G1
def dNever : DTS := fun _ _ _ => False
def dBreak : DTS := fun D' S G => D'.bk S G
def dCont : DTS := fun D' S G => D'.ct S G
theorem dps_nil : DPs X [] dNext := ⟨_, pss_nil, fun F H σ S G o D' h D0 k => k.nx F H σ S G Go.refl o h⟩
theorem dps_cons {st : Stmt} {rest : List Stmt} {t u : DTS} (h1 : DP X st t) (h2 : DPs X rest u) : DPs X (st :: rest) (dSeq t u) := by
  obtain ⟨t1, p1, r1⟩ := h1.ex
  obtain ⟨t2, p2, r2⟩ := h2.ex
  refine ⟨_, pss_cons p1 p2, fun F H σ S G o D' h D0 k => ?_⟩
  exact r1 F H σ S G o _ h _ ⟨fun F1 H1 σ1 S1 G1 e1 o1 h1 => r2 F1 H1 σ1 S1 G1 o1 _ h1 _ (k.mono e1), k.rt, k.bk, k.ct⟩
theorem dps_one {st : Stmt} {t : DTS} (h1 : DP X st t) : DPs X [st] t := by
  obtain ⟨t1, p1, r1⟩ := h1.ex
  exact ⟨_, pss_one p1, r1⟩
theorem dp_asg {tg e : Expr} {te : DTE} {g : DTG} (he : DE X e te) (hg : DG X tg g) (hs : swapsWithSole [tg] e pos.line X.env = pure false := by rfl) (hw : swappedStores [tg] e X.env = pure none := by rfl)
    (h1 : (assignEach [tg] X.env).map (·.2) = [assign tg X.env] := by rfl) : DP X (.Assign [tg] e pos) (dAsg te g) := by
  obtain ⟨t1, p1, r1⟩ := he.ex
  obtain ⟨t2, p2, r2⟩ := hg.ex
  refine ⟨_, ps_asg p1 p2 hs hw h1, fun F H σ S G o D' h D0 k => ?_⟩
  refine r1 F H σ S G o _ h _ fun F1 H1 v d G1 e1 g1 q1 h1 => ?_
  exact r2 F1 H1 σ S G1 v d (o.go e1 g1) q1 _ h1 _ (k.nx.mono e1)
theorem dp_expr {e : Expr} {te : DTE} (he : DE X e te) (hs : swapsWith e none pos.line X.env = pure false := by rfl) : DP X (.Expr e pos) (dDrop te) := by
  obtain ⟨t1, p1, r1⟩ := he.ex
  refine ⟨_, ps_expr p1 hs, fun F H σ S G o D' h D0 k => ?_⟩
  exact r1 F H σ S G o _ h _ fun F1 H1 v d G1 e1 g1 q1 h1 => k.nx F1 H1 σ S G1 e1 (o.go e1 g1) h1
theorem dp_ret {e : Expr} {te : DTE} (he : DE X e te) : DP X (.Return (some e) pos) (dRet te) := by
  obtain ⟨t1, p1, r1⟩ := he.ex
  exact ⟨_, ps_ret p1, fun F H σ S G o D' h D0 k => r1 F H σ S G o _ h _ k.rt⟩
theorem dp_if {c : Expr} {a b : List Stmt} {tc : DTT} {t u : DTS} (hc : DT X c tc) (ha : DPs X a t) (hb : DPs X b u) : DP X (.If c a b pos) (dIfS tc t u) := by
  obtain ⟨t0, p0, r0⟩ := hc.ex
  obtain ⟨t1, p1, r1⟩ := ha.ex
  obtain ⟨t2, p2, r2⟩ := hb.ex
  refine ⟨_, ps_if p0 p1 p2, fun F H σ S G o D' h D0 k => ?_⟩
  refine r0 F H σ S G o _ h _ fun F1 H1 b G1 e1 g1 h1 => ?_
  cases b with
  | true =>
    rw [if_pos rfl] at h1 ⊢
    exact r1 F1 H1 σ S G1 (o.go e1 g1) _ h1 _ (k.mono e1)
  | false =>
    rw [if_neg Bool.false_ne_true] at h1 ⊢
    exact r2 F1 H1 σ S G1 (o.go e1 g1) _ h1 _ (k.mono e1)
theorem dp_never {st : Stmt} : DP X st dNever := ⟨_, ps_never, fun F H σ S G o D' h D0 k => h.elim⟩
def dWhile (c : DTT) (tb : DTS) : DTS := fun D' S G => ∃ W : Nat → DS → GH → Prop, (∃ m, W m S G) ∧ ∀ m S G, W m S G →
  c S G fun b G1 => if b = true then tb { D' with nx := fun S' G' => ∃ m', m' < m ∧ W m' S' G', ct := fun S' G' => ∃ m', m' < m ∧ W m' S' G', bk := D'.nx } S G1 else D'.nx S G1
theorem dp_while {c : Expr} {body : List Stmt} {tc : DTT} {tb : DTS} (hp : PassesOwn (model X.prog X.w) X.A X.env X.xe) (hc : DT X c tc) (hb : DPs X body tb) : DP X (.While c body [] pos) (dWhile tc tb) := by
  obtain ⟨t0, p0, r0⟩ := hc.ex
  obtain ⟨t1, p1, r1⟩ := hb.ex
  refine ⟨_, ps_while hp p0 p1, fun F H σ S G o D' h D0 k => ?_⟩
  obtain ⟨W, ⟨m0, w0⟩, turn⟩ := h
  refine ⟨fun m σ1 H1 => ∃ F1 S1 G1, Go F H G F1 H1 G1 ∧ Ok X.K F1 H1 σ1 S1 G1 ∧ W m S1 G1, ⟨m0, F, S, G, Go.refl, o, w0⟩, fun m σ1 H1 ⟨F1, S1, G1, e1, o1, w1⟩ => ?_⟩
  refine r0 F1 H1 σ1 S1 G1 o1 _ (turn m S1 G1 w1) _ fun F2 H2 b G2 e2 g2 h2 => ?_
  cases b with
  | true =>
    rw [if_pos rfl] at h2 ⊢
    refine ⟨fun σ3 H3 => ∃ m', m' < m ∧ ∃ F3 S3 G3, Go F H G F3 H3 G3 ∧ Ok X.K F3 H3 σ3 S3 G3 ∧ W m' S3 G3, fun σ3 H3 z => z, ?_⟩
    have kk := k.mono (e1.trans e2)
    have nn : KpN X.K F2 H2 G2 (fun S' G' => ∃ m', m' < m ∧ W m' S' G') (fun σ3 H3 => ∃ m', m' < m ∧ ∃ F3 S3 G3, Go F H G F3 H3 G3 ∧ Ok X.K F3 H3 σ3 S3 G3 ∧ W m' S3 G3) := fun F3 H3 σ3 S3 G3 e3 o3 ⟨m', hm, w3⟩ => ⟨m', hm, F3, S3, G3, (e1.trans e2).trans e3, o3, w3⟩
    exact r1 F2 H2 σ1 S1 G2 (o1.go e2 g2) _ h2 _ ⟨nn, kk.rt, kk.nx, nn⟩
  | false =>
    rw [if_neg Bool.false_ne_true] at h2 ⊢
    exact k.nx F2 H2 σ1 S1 G2 (e1.trans e2) (o1.go e2 g2) h2
structure ItOk (K : PySem.W.Frag) (F : Hp) (J : It) (ds : List D) (gd : GH → Prop) : Prop where
  go : ∀ F1 H1 G1 (i : Nat) d, Ex F F1 → Gok K F1 H1 G1 → gd G1 → ds[i]? = some d → J.go i H1 ∧ ∀ x H2, J.yld i H1 x H2 → ∃ F2, Go F1 H1 G1 F2 H2 G1 ∧ Gok K F2 H2 G1 ∧ Rep K F2 x d
  stop : ∀ F1 H1 G1, Ex F F1 → Gok K F1 H1 G1 → gd G1 → J.stop ds.length H1
abbrev DTI := DS → GH → (List D → (GH → Prop) → GH → Prop) → Prop
structure DI (X : Cx) (tg iter : Expr) (wi' : DTI) : Prop where
  ex : ∃ wi, PI X tg iter wi ∧ ∀ F H σ S G, Ok X.K F H σ S G → ∀ R', wi' S G R' → ∀ R : It → Hp → Prop, (∀ F1 H1 G1 J ds gd, Go F H G F1 H1 G1 → Gok X.K F1 H1 G1 → ItOk X.K F1 J ds gd → R' ds gd G1 → R J H1) → wi σ H R
def dFor (wi : DTI) (g : DTG) (tb : DTS) : DTS := fun D' S G => wi S G fun ds gd G1 => ∃ W : Nat → DS → GH → Prop, W 0 S G1 ∧ (∀ i S G, W i S G → gd G) ∧
  (∀ i S G d, W i S G → ds[i]? = some d → g d S G fun S2 G2 => tb { D' with nx := W (i + 1), ct := W (i + 1), bk := D'.nx } S2 G2) ∧ (∀ S G, W ds.length S G → D'.nx S G)
theorem dp_for {tg iter : Expr} {body : List Stmt} {wi : DTI} {g : DTG} {tb : DTS} (hp : PassesOwn (model X.prog X.w) X.A X.env X.xe) (hc : X.calm = true) (hi : DI X tg iter wi) (hg : DG X tg g) (hb : DPs X body tb)
    (hs : ∀ x, foldedSetIterable iter X.env x = pure x := by intro _; rfl) : DP X (.For tg iter body [] pos) (dFor wi g tb) := by
  obtain ⟨t0, p0, r0⟩ := hi.ex
  obtain ⟨t1, p1, r1⟩ := hg.ex
  obtain ⟨t2, p2, r2⟩ := hb.ex
  refine ⟨_, ps_for hp hc p0 p1 p2 hs, fun F H σ S G o D' h D0 k => ?_⟩
  refine r0 F H σ S G o _ h _ fun F1 H1 G1 J ds gd e1 g1 it h1 => ?_
  obtain ⟨W, w0, wg, turn, done⟩ := h1
  refine ⟨fun i m σ2 H2 => i + m = ds.length ∧ ∃ F2 S2 G2, Go F1 H1 G1 F2 H2 G2 ∧ Ok X.K F2 H2 σ2 S2 G2 ∧ W i S2 G2, ⟨ds.length, Nat.zero_add _, F1, S, G1, Go.refl, o.go e1 g1, w0⟩, ?_⟩
  rintro i m σ2 H2 ⟨him, F2, S2, G2, e2, o2, w2⟩
  have gg := wg i S2 G2 w2
  cases m with
  | zero =>
    have hi : i = ds.length := him
    refine .inl ⟨hi ▸ it.stop F2 H2 G2 e2.ex o2.g gg, k.nx F2 H2 σ2 S2 G2 (e1.trans e2) o2 (done S2 G2 (hi ▸ w2))⟩
  | succ m =>
    have hlt : i < ds.length := by omega
    have hd : ds[i]? = some ds[i] := List.getElem?_eq_getElem hlt
    obtain ⟨ig, iy⟩ := it.go F2 H2 G2 i _ e2.ex o2.g gg hd
    refine .inr ⟨ig, fun σ3 H3 => ∃ F3 S3 G3, Go F1 H1 G1 F3 H3 G3 ∧ Ok X.K F3 H3 σ3 S3 G3 ∧ W (i + 1) S3 G3, fun σ3 H3 z => ⟨m, Nat.lt_succ_self m, by omega, z⟩, fun x H3 hy => ?_⟩
    obtain ⟨F3, e3, g3, q3⟩ := iy x H3 hy
    refine r1 F3 H3 σ2 S2 G2 x _ (o2.go e3 g3) q3 _ (turn i S2 G2 _ w2 hd) _ fun F4 H4 σ4 S4 G4 e4 o4 h4 => ?_
    have kk := k.mono (((e1.trans e2).trans e3).trans e4)
    have nn : KpN X.K F4 H4 G4 (W (i + 1)) (fun σ3 H3 => ∃ F3 S3 G3, Go F1 H1 G1 F3 H3 G3 ∧ Ok X.K F3 H3 σ3 S3 G3 ∧ W (i + 1) S3 G3) := fun F5 H5 σ5 S5 G5 e5 o5 w5 => ⟨F5, S5, G5, ((e2.trans e3).trans e4).trans e5, o5, w5⟩
    exact r2 F4 H4 σ4 S4 G4 o4 _ h4 _ ⟨nn, kk.rt, kk.nx, nn⟩
abbrev SpD := List D → GH → DQ → Prop
def SpOf (K : PySem.W.Frag) (sp : SpD) : Sp := fun vs H Q _ => ∃ F G ds Q', Gok K F H G ∧ Reps K F vs ds ∧ sp ds G Q' ∧ KpE K F H G Q' Q
def dCall (sp : SpD) (ta : DTA) : DTE := fun S G Q => ta S G fun ds G1 => sp ds G1 Q
theorem de_call {k : Nat} {f : Addr} {fd : FuncData} {ps : List Str} {sp : SpD} {x : Str} {p : Pos} {e : Expr} {es : List Expr} {ta : DTA} (Fn : FnG X.prog X.w X.K X.mg X.base CX0 k f fd ps (SpOf X.K sp)) (hA : X.A.guards = some []) (hr : Room k X.A) (hg : Gl X x) (hm : X.mg x = some (.ref f)) (hk : PySem.W.keepIn X.K (.ref f) = true) (hb : Binds X.K fd ps [])
    (ha : DA X (e :: es) ta) (hdb : (x == ("__debug__" : Str)) = false := by decide) (he : starEach (e :: es) X.env = (false, eval e X.env) :: starEach es X.env := by rfl) (hpl : (backTo pos (starEach es X.env)).any (·.1) = false := by rfl) :
    DE X (.Call (.Name x p) (e :: es) [] pos) (dCall sp ta) := by
  obtain ⟨t1, p1, r1⟩ := ha.ex
  refine ⟨_, pg_call Fn hA hr hg hm hk hb .nil pass0 p1 hdb he hpl, fun F H σ S G o Q' h Q k => ?_⟩
  refine r1 F H σ S G o _ h _ fun F1 H1 vs ds G1 e1 g1 q1 h1 => ?_
  rw [List.append_nil]
  exact ⟨F1, G1, ds, Q', g1, q1, h1, k.mono e1⟩
end
/-- what is wanted at a def's end: its own things may be forgotten -/
def fin (Q : DQ) : DEnds := { nx := fun _ G' => ∃ G0, Sub G0 G' ∧ Q .non G0, rt := fun d G' => ∃ G0, Sub G0 G' ∧ Q d G0 }
theorem fn_mk {P : Program} {w : World} {K : PySem.W.Frag} {mg : Str → Option Value} {base : Heap} {x qual : Str} {st : Stmt} {f : Addr} {fd : FuncData} {N ps : List Str} {k : Nat} {sp : SpD} (Fu : Fun K x qual st f fd) (sc : FnScope N ps (defScope st))
    (len : ∀ ds G Q, sp ds G Q → ds.length = ps.length)
    (hb : ∀ (cdv : Value) (A : Around) (outer : List Env) (s : Shared) (H : Hp) (E : XK), A.guards = some [] → Room k (A.deeper (envOfC qual (defScope st) s.heap.objs.size f cdv)) →
      ∃ t', DPs (cxOf CX0 P w K mg base N qual (defScope st) f cdv A outer s H E).nox (defBody st) t' ∧ ∀ ds G Q, sp ds G Q → t' (fin Q) (dstart N ds) G) : FnG P w K mg base CX0 (k + 1) f fd ps (SpOf K sp) := by
  obtain ⟨oc, od, kV, doc, pm, an, cdv, ct, osl, rfl, lk, hcd⟩ := Fu.ex
  refine fng_of lk hcd sc (fun vs H Q E h => ?_) (fun A outer s H vs Q E hg hr h => ?_)
  · obtain ⟨F, G, ds, Q', g, r, h, _⟩ := h
    rw [r.length]
    exact len ds G Q' h
  · obtain ⟨F, G, ds, Q', g, r, h, kk⟩ := h
    obtain ⟨t', d, rd⟩ := hb cdv A outer s H E hg hr
    obtain ⟨t, p, rf⟩ := d.ex
    refine ⟨t, p.nox, rf F H _ _ G ⟨g, r.start⟩ _ (rd ds G Q' h) _ ⟨fun F1 H1 σ1 S1 G1 e1 o1 h1 => ?_, fun F1 H1 v d G1 e1 g1 r1 h1 => ?_, fun _ _ _ _ _ _ _ z => z.elim, fun _ _ _ _ _ _ _ z => z.elim⟩⟩
    · obtain ⟨G0, sb, h1⟩ := h1
      exact kk F1 H1 _ _ G0 (e1.sub sb) (o1.g.sub sb) .non h1
    · obtain ⟨G0, sb, h1⟩ := h1
      exact kk F1 H1 v d G0 (e1.sub sb) (g1.sub sb) r1 h1
end DL
end
section
set_option Elab.async false
set_option linter.all false
set_option maxRecDepth 100000
set_option maxHeartbeats 4000000
namespace DL
open PySem PySem.Spec PyProof.Rows L2
mutual
def D.py : D → PyData
  | .non => .none
  | .bl b => .bool b
  | .int i => .int i
  | .str x => .str x
  | .tup xs | .kup xs => .tuple (D.pys xs)
  | .lst xs => .list (D.pys xs)
  | _ => .none
def D.pys : List D → List PyData
  | [] => []
  | x :: xs => D.py x :: D.pys xs
end
mutual
def D.pl : D → Bool
  | .non | .bl _ | .int _ | .str _ => true
  | .tup xs | .lst xs | .kup xs => D.pls xs
  | _ => false
def D.pls : List D → Bool
  | [] => true
  | x :: xs => D.pl x && D.pls xs
end
mutual
theorem D.py_plain : ∀ d : D, d.pl = true → d.py.plain = true
  | .non, _ => rfl
  | .bl _, _ => rfl
  | .int _, _ => rfl
  | .str _, _ => rfl
  | .tup xs, h => D.pys_plain xs h
  | .lst xs, h => D.pys_plain xs h
  | .kup xs, h => D.pys_plain xs h
  | .ty _, h => by cases h
  | .dK _, h => by cases h
  | .dT _, h => by cases h
  | .obj _ _, h => by cases h
  | .rf _, h => by cases h
  | .scr _, h => by cases h
theorem D.pys_plain : ∀ xs : List D, D.pls xs = true → PyData.plainAll (D.pys xs) = true
  | [], _ => rfl
  | x :: xs, h => by
    have h' : x.pl = true ∧ D.pls xs = true := by simpa [D.pls] using h
    simp only [D.pys, PyData.plainAll, D.py_plain x h'.1, D.pys_plain xs h'.2, Bool.and_self]
end
theorem D.pls_all (xs : List D) : D.pls xs = xs.all D.pl := by
  induction xs with
  | nil => rfl
  | cons x xs ih => simp [D.pls, ih]
mutual
theorem Rep.dp {K : PySem.W.Frag} {F : Hp} : ∀ (d : D) {v : V}, Rep K F v d → d.pl = true → Dp K F v d.py
  | .non, _, .non, _ => .non
  | .bl _, _, .bl b, _ => .bl b
  | .int _, _, .int i, _ => .int i
  | .str _, _, .str x, _ => .str x
  | .tup xs, _, .tup h r, p => .tup (.inl (.inl h)) (Reps.dp xs r p)
  | .lst xs, _, .lst h r, p => .lst (.inl (.inl h)) (Reps.dp xs r p)
  | .kup xs, _, .kup h r, p => .tup h (Reps.dp xs r p)
theorem Reps.dp {K : PySem.W.Frag} {F : Hp} : ∀ (ds : List D) {vs : List V}, Reps K F vs ds → D.pls ds = true → DpAll K F vs (D.pys ds)
  | [], _, .nil, _ => .nil
  | d :: ds, _, .cons h t, p => by
    have p' : d.pl = true ∧ D.pls ds = true := by simpa [D.pls] using p
    exact .cons (Rep.dp d h p'.1) (Reps.dp ds t p'.2)
end
mutual
theorem Dp.mono' {K : PySem.W.Frag} {F F' : Hp} (e : Ex F F') : ∀ (d : PyData) {v : V}, Dp K F v d → Dp K F' v d
  | .none, _, .non => .non
  | .bool _, _, .bl b => .bl b
  | .int _, _, .int i => .int i
  | .str _, _, .str x => .str x
  | .list ds, _, .lst h r => .lst (e.sql h) (DpAll.mono' e ds r)
  | .tuple ds, _, .tup h r => .tup (e.sqt h) (DpAll.mono' e ds r)
theorem DpAll.mono' {K : PySem.W.Frag} {F F' : Hp} (e : Ex F F') : ∀ (ds : List PyData) {vs : List V}, DpAll K F vs ds → DpAll K F' vs ds
  | [], _, .nil => .nil
  | d :: ds, _, .cons h t => .cons (Dp.mono' e d h) (DpAll.mono' e ds t)
end
/-- what stands there now: a list that changes, as it is -/
def D.cur (G : GH) : D → D
  | .rf a => (match G a with
    | some (.lst xs) => .lst xs
    | some (.dK kds) => .dK kds
    | some (.dT kds) => .dT kds
    | some (.ins C kds) => .obj C kds
    | _ => .rf a)
  | d => d
theorem D.cur_rf {G : GH} {a : Addr} {xs : List D} (h : G a = some (.lst xs)) : D.cur G (.rf a) = .lst xs := by simp [D.cur, h]
theorem cur_dp {K : PySem.W.Frag} {F H : Hp} {G : GH} {v : V} {d : D} (g : Gok K F H G) (r : Rep K F v d) (p : (d.cur G).pl = true) : Dp K H v (d.cur G).py := by
  cases d with
  | rf a =>
    cases r
    unfold D.cur at p ⊢
    cases q : G a with
    | none => simp only [q] at p; cases p
    | some o =>
      cases o with
      | lst xs =>
        simp only [q] at p ⊢
        obtain ⟨vs, e, rs⟩ := (g.at_ a _ q).2
        exact .lst (.inl (.inl e)) (DpAll.mono' g.ex _ (Reps.dp xs rs p))
      | _ => simp only [q] at p; cases p
  | _ => exact Dp.mono' g.ex _ (Rep.dp _ r p)
theorem cur_list {K : PySem.W.Frag} {F H : Hp} {G : GH} {v : V} {d : D} {ds : List D} (g : Gok K F H G) (r : Rep K F v d) (p : d.cur G = .lst ds) : ∃ a vs, v = .ref a ∧ H a = some (.lst vs) ∧ Reps K F vs ds := by
  cases d with
  | rf a =>
    cases r
    unfold D.cur at p
    cases q : G a with
    | none => simp only [q] at p; cases p
    | some o =>
      cases o with
      | lst xs =>
        simp only [q] at p; cases p
        obtain ⟨vs, e, rs⟩ := (g.at_ a _ q).2
        exact ⟨a, vs, rfl, e, rs⟩
      | dK kds => simp only [q] at p; cases p
      | dT kds => simp only [q] at p; cases p
      | ins C kds => simp only [q] at p; cases p
      | deck k1 k2 k3 n => simp only [q] at p; cases p
      | dcell => simp only [q] at p; cases p
      | lkT o kvs kds => simp only [q] at p; cases p
      | lkK o kvs kds => simp only [q] at p; cases p
      | dN w kds => simp only [q] at p; cases p
      | lkN w o xs kds => simp only [q] at p; cases p
      | dU w kds => simp only [q] at p; cases p
      | lkU w o xs kds => simp only [q] at p; cases p
      | tupU o vs ds => simp only [q] at p; cases p
      | tab z => simp only [q] at p; cases p
  | lst xs =>
    cases p
    cases r with
    | lst h rs => exact ⟨_, _, rfl, g.ex _ _ h, rs⟩
  | _ => cases p
def okE (x y : D) : Bool := x.pl && y.pl && decide (min x.py.depth y.py.depth ≤ 60)
def D.eqv (x y : D) : Bool := PyData.eqv x.py y.py
section
variable {X : Cx} {pos : Pos}
def rCmpP (K : PySem.W.Frag) (C : PyData → PyData → Bool) (f : PyData → PyData → Bool) : R2 := fun x y H Q => ∃ d e, Dp K H x d ∧ Dp K H y e ∧ min d.depth e.depth ≤ 60 ∧ C d e = true ∧ Q (.bl (f d e)) H
theorem cmpP_of {op : CmpOp} {C f : PyData → PyData → Bool} (hu : X.A.units + 100 < cLine)
    (rule : ∀ {prog : Program} {w : World} {A : Around} {E : Value → Shared → Prop} {s : Shared} {a b : Value} {da db : PyData} {as bs : List Addr} {Q : Value → Shared → Prop}, Reads s.heap a da as → Reads s.heap b db bs → C da db = true → A.units + min da.depth db.depth < cLine → Q (.bool (f da db)) s → wpAny (model prog w) A (compareOp op a b) Q E s) :
    OpR X (compareOp op) (rCmpP X.K C f) := by
  intro pins s σ H x y v u Q I rx ry h
  obtain ⟨d, e, hd, he, hm, hc, q⟩ := h
  obtain ⟨as, r1⟩ := Dp.reads I d x v hd rx
  obtain ⟨bs, r2⟩ := Dp.reads I e y u he ry
  exact rule r1 r2 hc (by omega) ⟨.bl _, H, I, rfl, q⟩
theorem opd_cmp {op : CmpOp} {C f : PyData → PyData → Bool} {C' f' : D → D → Bool} (ho : OpR X (compareOp op) (rCmpP X.K C f)) (hc : ∀ x y : D, C' x y = true → x.pl = true ∧ y.pl = true ∧ min x.py.depth y.py.depth ≤ 60 ∧ C x.py y.py = true) (hf : ∀ x y : D, f' x y = f x.py y.py) :
    OpD X (compareOp op) (fun x y G Q => C' (x.cur G) (y.cur G) = true ∧ Q (.bl (f' (x.cur G) (y.cur G))) G) := by
  refine ⟨_, ho, fun F H G x y dx dy g rx ry Q' h Q k => ?_⟩
  obtain ⟨c, q⟩ := h
  obtain ⟨p1, p2, m, c2⟩ := hc _ _ c
  refine ⟨_, _, cur_dp g rx p1, cur_dp g ry p2, m, c2, ?_⟩
  rw [hf] at q
  exact k F H _ _ G Go.refl g (.bl _) q
theorem okE_of {x y : D} (h : okE x y = true) : x.pl = true ∧ y.pl = true ∧ min x.py.depth y.py.depth ≤ 60 := by
  unfold okE at h
  simp only [Bool.and_eq_true, decide_eq_true_eq] at h
  exact ⟨h.1.1, h.1.2, h.2⟩
theorem od_eq (hu : X.A.units + 100 < cLine) : OpD X (compareOp .Eq) (fun x y G Q => okE (x.cur G) (y.cur G) = true ∧ Q (.bl (D.eqv (x.cur G) (y.cur G))) G) :=
  opd_cmp (C := fun d e => d.plain && e.plain) (f := PyData.eqv) (cmpP_of hu fun r1 r2 c hu' q => by
    simp only [Bool.and_eq_true] at c
    exact SeqAt.eq_plain r1 r2 c.1 c.2 hu' q) (fun x y h => by
    obtain ⟨h1, h2, h3⟩ := okE_of h
    exact ⟨h1, h2, h3, by simp [D.py_plain _ h1, D.py_plain _ h2]⟩) fun _ _ => rfl
theorem od_ne (hu : X.A.units + 100 < cLine) : OpD X (compareOp .NotEq) (fun x y G Q => okE (x.cur G) (y.cur G) = true ∧ Q (.bl (!D.eqv (x.cur G) (y.cur G))) G) :=
  opd_cmp (C := fun d e => d.plain && e.plain) (f := fun d e => !PyData.eqv d e) (f' := fun x y => !D.eqv x y) (cmpP_of hu fun r1 r2 c hu' q => by
    simp only [Bool.and_eq_true] at c
    exact SeqAt.ne_plain r1 r2 c.1 c.2 hu' q) (fun x y h => by
    obtain ⟨h1, h2, h3⟩ := okE_of h
    exact ⟨h1, h2, h3, by simp [D.py_plain _ h1, D.py_plain _ h2]⟩) fun _ _ => rfl
def okL (x y : D) : Bool := okE x y && PySem.W.alike x.py y.py && (match x with | .non => false | _ => true)
def D.lt (x y : D) : Bool := PySem.W.dataLt x.py y.py
def notNone : PyData → Bool
  | .none => false
  | _ => true
theorem notNone_ne {d : PyData} (h : notNone d = true) : d ≠ .none := fun e => by rw [e] at h; cases h
theorem okL_of {x y : D} (h : okL x y = true) : x.pl = true ∧ y.pl = true ∧ min x.py.depth y.py.depth ≤ 60 ∧ (PySem.W.alike x.py y.py && notNone x.py) = true := by
  unfold okL at h
  simp only [Bool.and_eq_true] at h
  obtain ⟨⟨h1, h2⟩, h3⟩ := h
  obtain ⟨p1, p2, p3⟩ := okE_of h1
  refine ⟨p1, p2, p3, ?_⟩
  rw [h2, Bool.true_and]
  cases x <;> first | rfl | (simp [D.pl] at p1; done) | (simp at h3; done)
theorem od_lt (hu : X.A.units + 100 < cLine) : OpD X (compareOp .Lt) (fun x y G Q => okL (x.cur G) (y.cur G) = true ∧ Q (.bl (D.lt (x.cur G) (y.cur G))) G) :=
  opd_cmp (C := fun d e => PySem.W.alike d e && notNone d) (f := PySem.W.dataLt) (cmpP_of hu fun r1 r2 c hu' q => by
    simp only [Bool.and_eq_true] at c
    exact PySem.W.lt_data r1 r2 c.1 (notNone_ne c.2) hu' q) (fun x y h => okL_of h) fun _ _ => rfl
theorem od_gt (hu : X.A.units + 100 < cLine) : OpD X (compareOp .Gt) (fun x y G Q => okL (x.cur G) (y.cur G) = true ∧ Q (.bl (D.lt (y.cur G) (x.cur G))) G) :=
  opd_cmp (C := fun d e => PySem.W.alike d e && notNone d) (f := fun d e => PySem.W.dataLt e d) (f' := fun x y => D.lt y x) (cmpP_of hu fun r1 r2 c hu' q => by
    simp only [Bool.and_eq_true] at c
    exact PySem.W.gt_data r1 r2 c.1 (notNone_ne c.2) hu' q) (fun x y h => okL_of h) fun _ _ => rfl
theorem od_le (hu : X.A.units + 100 < cLine) : OpD X (compareOp .LtE) (fun x y G Q => okL (x.cur G) (y.cur G) = true ∧ Q (.bl (!D.lt (y.cur G) (x.cur G))) G) :=
  opd_cmp (C := fun d e => PySem.W.alike d e && notNone d) (f := fun d e => !PySem.W.dataLt e d) (f' := fun x y => !D.lt y x) (cmpP_of hu fun r1 r2 c hu' q => by
    simp only [Bool.and_eq_true] at c
    exact PySem.W.le_data r1 r2 c.1 (notNone_ne c.2) hu' q) (fun x y h => okL_of h) fun _ _ => rfl
theorem od_ge (hu : X.A.units + 100 < cLine) : OpD X (compareOp .GtE) (fun x y G Q => okL (x.cur G) (y.cur G) = true ∧ Q (.bl (!D.lt (x.cur G) (y.cur G))) G) :=
  opd_cmp (C := fun d e => PySem.W.alike d e && notNone d) (f := fun d e => !PySem.W.dataLt d e) (f' := fun x y => !D.lt x y) (cmpP_of hu fun r1 r2 c hu' q => by
    simp only [Bool.and_eq_true] at c
    exact PySem.W.ge_data r1 r2 c.1 (notNone_ne c.2) hu' q) (fun x y h => okL_of h) fun _ _ => rfl
end
end DL
end
section
set_option Elab.async false
set_option linter.all false
set_option maxRecDepth 100000
set_option maxHeartbeats 4000000
namespace DL
open PySem PySem.Spec PyProof.Rows L2
def valD {κ : Type} [DecidableEq κ] (kds : List (κ × D)) (k : κ) : Option D := (kds.find? fun kv => decide (kv.1 = k)).map (·.2)
def putD {κ : Type} [DecidableEq κ] (kds : List (κ × D)) (k : κ) (d : D) : List (κ × D) :=
  if (kds.any fun kv => decide (kv.1 = k)) = true then kds.map (fun kv => if kv.1 = k then (kv.1, d) else kv) else kds ++ [(k, d)]
structure KR {κ : Type} (K : PySem.W.Frag) (F : Hp) (kvs : List (κ × V)) (kds : List (κ × D)) : Prop where
  ks : kvs.map (·.1) = kds.map (·.1)
  vs : Reps K F (kvs.map (·.2)) (kds.map (·.2))
section
variable {κ : Type} [DecidableEq κ] {K : PySem.W.Frag} {F : Hp}
theorem KR.nil : KR K F ([] : List (κ × V)) [] := ⟨rfl, .nil⟩
theorem KR.cons {k : κ} {v : V} {d : D} {kvs : List (κ × V)} {kds : List (κ × D)} (h : Rep K F v d) (t : KR K F kvs kds) : KR K F ((k, v) :: kvs) ((k, d) :: kds) := ⟨by simp [t.ks], .cons h t.vs⟩
theorem KR.uncons {kvs : List (κ × V)} {k : κ} {d : D} {kds : List (κ × D)} (h : KR K F kvs ((k, d) :: kds)) : ∃ v r, kvs = (k, v) :: r ∧ Rep K F v d ∧ KR K F r kds := by
  obtain ⟨h1, h2⟩ := h
  cases kvs with
  | nil => simp at h1
  | cons p r =>
    obtain ⟨k', v⟩ := p
    simp only [List.map_cons, List.cons.injEq] at h1
    obtain ⟨rfl, h1⟩ := h1
    cases h2 with
    | cons a b => exact ⟨v, r, rfl, a, h1, b⟩
theorem KR.unnil {kvs : List (κ × V)} (h : KR K F kvs []) : kvs = [] := by
  have := h.ks
  simpa using this
theorem KR.mono {F' : Hp} (e : Ex F F') {kvs : List (κ × V)} {kds : List (κ × D)} (h : KR K F kvs kds) : KR K F' kvs kds := ⟨h.ks, h.vs.mono e⟩
theorem KR.append {a b : List (κ × V)} {c d : List (κ × D)} (h : KR K F a c) (h' : KR K F b d) : KR K F (a ++ b) (c ++ d) := ⟨by simp [h.ks, h'.ks], by simpa using h.vs.append h'.vs⟩
theorem KR.len {kvs : List (κ × V)} {kds : List (κ × D)} (h : KR K F kvs kds) : kvs.length = kds.length := by
  have := congrArg List.length h.ks
  simpa using this
theorem KR.val {k : κ} : ∀ {kds : List (κ × D)} {kvs : List (κ × V)}, KR K F kvs kds → (∀ d, valD kds k = some d → ∃ v, valV kvs k = some v ∧ Rep K F v d) ∧ (valD kds k = none → valV kvs k = none)
  | [], kvs, h => by
    obtain rfl := h.unnil
    exact ⟨fun d z => (by cases z), fun _ => rfl⟩
  | (k', d') :: kds, kvs, h => by
    obtain ⟨v, r, rfl, rv, t⟩ := h.uncons
    by_cases e : k' = k
    · have e1 : valD ((k', d') :: kds) k = some d' := by simp [valD, e]
      have e2 : valV ((k', v) :: r) k = some v := valV_pos e
      rw [e1, e2]
      exact ⟨fun d z => (by cases z; exact ⟨v, rfl, rv⟩), fun z => (by cases z)⟩
    · have e1 : valD ((k', d') :: kds) k = valD kds k := by simp [valD, List.find?_cons, e]
      have e2 : valV ((k', v) :: r) k = valV r k := valV_neg e
      rw [e1, e2]
      exact KR.val t
theorem KR.any {k : κ} {kds : List (κ × D)} {kvs : List (κ × V)} (h : KR K F kvs kds) : (kvs.any fun kv => decide (kv.1 = k)) = kds.any fun kv => decide (kv.1 = k) := by
  have e1 : (kvs.any fun kv => decide (kv.1 = k)) = (kvs.map (·.1)).any fun x => decide (x = k) := by simp [List.any_map, Function.comp_def]
  have e2 : (kds.any fun kv => decide (kv.1 = k)) = (kds.map (·.1)).any fun x => decide (x = k) := by simp [List.any_map, Function.comp_def]
  rw [e1, e2, h.ks]
theorem KR.mapd {k : κ} {v : V} {d : D} (r : Rep K F v d) : ∀ {kds : List (κ × D)} {kvs : List (κ × V)}, KR K F kvs kds → KR K F (kvs.map fun kv => if kv.1 = k then (kv.1, v) else kv) (kds.map fun kv => if kv.1 = k then (kv.1, d) else kv)
  | [], kvs, h => by
    obtain rfl := h.unnil
    exact .nil
  | (k', d') :: kds, kvs, h => by
    obtain ⟨v', r', rfl, rv, t⟩ := h.uncons
    simp only [List.map_cons]
    by_cases e : k' = k
    · rw [if_pos e, if_pos e]; exact .cons r (KR.mapd r t)
    · rw [if_neg e, if_neg e]; exact .cons rv (KR.mapd r t)
theorem KR.put {k : κ} {v : V} {d : D} {kds : List (κ × D)} {kvs : List (κ × V)} (h : KR K F kvs kds) (r : Rep K F v d) : KR K F (putK kvs k v) (putD kds k d) := by
  unfold putK putD
  rw [h.any]
  by_cases e : (kds.any fun kv => decide (kv.1 = k)) = true
  · rw [if_pos e, if_pos e]; exact KR.mapd r h
  · rw [if_neg e, if_neg e]; exact h.append (.cons r .nil)
end
def D.key : D → Option Key
  | .int i => some (.inl i)
  | .str x => some (.inr x)
  | _ => none
def D.keys : List D → Option (List Key)
  | [] => some []
  | d :: ds => match d.key, D.keys ds with
    | some k, some ks => some (k :: ks)
    | _, _ => none
theorem Rep.key {K : PySem.W.Frag} {F : Hp} {v : V} {d : D} {k : Key} (r : Rep K F v d) (h : d.key = some k) : v = kV k := by
  cases r <;> first | (cases h; rfl) | cases h
theorem Reps.keys {K : PySem.W.Frag} {F : Hp} : ∀ {vs : List V} {ds : List D} {ks : List Key}, Reps K F vs ds → D.keys ds = some ks → vs = ks.map kV
  | _, _, _, .nil, h => by cases h; rfl
  | _, _, ks, .cons (v := v) (d := d) (ds := ds) a b, h => by
    unfold D.keys at h
    cases e1 : d.key with
    | none => simp [e1] at h
    | some k =>
      cases e2 : D.keys ds with
      | none => simp [e1, e2] at h
      | some r =>
        simp only [e1, e2] at h
        cases h
        rw [a.key e1, b.keys e2]
        rfl
/-- the value at a key, of a dict as it stands: none: no such lookup; some none: not there -/
def D.look (x y : D) : Option (Option D) := match x with
  | .dK kds => y.key.map (valD kds)
  | .dT kds => (match y with
    | .tup ds => (D.keys ds).map (valD kds)
    | _ => none)
  | _ => none
theorem cur_dK {K : PySem.W.Frag} {F H : Hp} {G : GH} {v : V} {d : D} {kds : List (Key × D)} (g : Gok K F H G) (r : Rep K F v d) (p : d.cur G = .dK kds) : ∃ a kvs, v = .ref a ∧ H a = some (.dK kvs) ∧ KR K F kvs kds := by
  cases d with
  | rf a =>
    cases r
    unfold D.cur at p
    cases q : G a with
    | none => simp only [q] at p; cases p
    | some o =>
      cases o with
      | dK kd =>
        simp only [q] at p; cases p
        obtain ⟨kvs, e, h1, h2⟩ := (g.at_ a _ q).2
        exact ⟨a, kvs, rfl, e, h1, h2⟩
      | lst xs => simp only [q] at p; cases p
      | dT kd => simp only [q] at p; cases p
      | ins C kd => simp only [q] at p; cases p
      | deck k1 k2 k3 n => simp only [q] at p; cases p
      | dcell => simp only [q] at p; cases p
      | lkT o kvs kds => simp only [q] at p; cases p
      | lkK o kvs kds => simp only [q] at p; cases p
      | dN w kds => simp only [q] at p; cases p
      | lkN w o xs kds => simp only [q] at p; cases p
      | dU w kds => simp only [q] at p; cases p
      | lkU w o xs kds => simp only [q] at p; cases p
      | tupU o vs ds => simp only [q] at p; cases p
      | tab z => simp only [q] at p; cases p
  | dK kd =>
    cases p
    cases r with
    | dK h h1 h2 => exact ⟨_, _, rfl, g.ex _ _ h, h1, h2⟩
  | _ => cases p
theorem cur_dT {K : PySem.W.Frag} {F H : Hp} {G : GH} {v : V} {d : D} {kds : List (List Key × D)} (g : Gok K F H G) (r : Rep K F v d) (p : d.cur G = .dT kds) : ∃ a kvs, v = .ref a ∧ H a = some (.dT kvs) ∧ KR K F kvs kds := by
  cases d with
  | rf a =>
    cases r
    unfold D.cur at p
    cases q : G a with
    | none => simp only [q] at p; cases p
    | some o =>
      cases o with
      | dT kd =>
        simp only [q] at p; cases p
        obtain ⟨kvs, e, h1, h2⟩ := (g.at_ a _ q).2
        exact ⟨a, kvs, rfl, e, h1, h2⟩
      | lst xs => simp only [q] at p; cases p
      | dK kd => simp only [q] at p; cases p
      | ins C kd => simp only [q] at p; cases p
      | deck k1 k2 k3 n => simp only [q] at p; cases p
      | dcell => simp only [q] at p; cases p
      | lkT o kvs kds => simp only [q] at p; cases p
      | lkK o kvs kds => simp only [q] at p; cases p
      | dN w kds => simp only [q] at p; cases p
      | lkN w o xs kds => simp only [q] at p; cases p
      | dU w kds => simp only [q] at p; cases p
      | lkU w o xs kds => simp only [q] at p; cases p
      | tupU o vs ds => simp only [q] at p; cases p
      | tab z => simp only [q] at p; cases p
  | dT kd =>
    cases p
    cases r with
    | dT h h1 h2 => exact ⟨_, _, rfl, g.ex _ _ h, h1, h2⟩
  | _ => cases p
theorem look_get {K : PySem.W.Frag} {F H : Hp} {G : GH} {v u : V} {x y : D} {o : Option D} (g : Gok K F H G) (r : Rep K F v x) (ry : Rep K F u y) (h : (x.cur G).look y = some o) :
    ∃ a o', v = .ref a ∧ DGet H a u o' ∧ (∀ d, o = some d → ∃ z, o' = some z ∧ Rep K F z d) ∧ (o = none → o' = none) := by
  unfold D.look at h
  cases e : x.cur G with
  | dK kds =>
    simp only [e] at h
    obtain ⟨a, kvs, rfl, ha, kr⟩ := cur_dK g r e
    cases ek : y.key with
    | none => simp [ek] at h
    | some k =>
      simp only [ek, Option.map_some, Option.some.injEq] at h
      rw [ry.key ek]
      refine ⟨a, _, rfl, DGet.k (k := k) ha, fun d z => ?_, fun z => ?_⟩
      · obtain ⟨v, h1, h2⟩ := kr.val.1 d (h.trans z)
        exact ⟨v, h1, h2⟩
      · exact kr.val.2 (h.trans z)
  | dT kds =>
    simp only [e] at h
    obtain ⟨a, kvs, rfl, ha, kr⟩ := cur_dT g r e
    cases ry with
    | tup hb rs =>
      simp only at h
      rename_i ds
      cases ek : D.keys ds with
      | none => simp [ek] at h
      | some k =>
        simp only [ek, Option.map_some, Option.some.injEq] at h
        have eb := rs.keys ek
        subst eb
        refine ⟨a, _, rfl, DGet.t (k := k) ha (g.ex _ _ hb), fun d z => ?_, fun z => ?_⟩
        · obtain ⟨v, h1, h2⟩ := kr.val.1 d (h.trans z)
          exact ⟨v, h1, h2⟩
        · exact kr.val.2 (h.trans z)
    | _ => simp at h
  | _ => simp [e] at h
section
variable {X : Cx} {pos : Pos}
def rAddD : DR2 := fun x y G Q => match x.cur G, y.cur G with
  | .int i, .int j => Q (.int (i + j)) G
  | .str a, .str b => a.length + b.length ≤ sizeLine ∧ Q (.str (a ++ b)) G
  | .tup a, .tup b => a.length + b.length ≤ sizeLine ∧ Q (.tup (a ++ b)) G
  | .lst a, .lst b => a.length + b.length ≤ sizeLine ∧ Q (.lst (a ++ b)) G
  | _, _ => False
theorem cur_int {K : PySem.W.Frag} {F : Hp} {G : GH} {v : V} {d : D} {i : Int} (r : Rep K F v d) (h : d.cur G = .int i) : v = .int i := by
  cases d with
  | rf a =>
    unfold D.cur at h
    cases q : G a with
    | none => simp only [q] at h; cases h
    | some o => cases o <;> (simp only [q] at h; cases h)
  | int j => cases h; cases r; rfl
  | _ => cases h
theorem cur_str {K : PySem.W.Frag} {F : Hp} {G : GH} {v : V} {d : D} {i : Str} (r : Rep K F v d) (h : d.cur G = .str i) : v = .str i := by
  cases d with
  | rf a =>
    unfold D.cur at h
    cases q : G a with
    | none => simp only [q] at h; cases h
    | some o => cases o <;> (simp only [q] at h; cases h)
  | str j => cases h; cases r; rfl
  | _ => cases h
theorem cur_tup {K : PySem.W.Frag} {F : Hp} {G : GH} {v : V} {d : D} {ds : List D} (r : Rep K F v d) (h : d.cur G = .tup ds) : ∃ a vs, v = .ref a ∧ F a = some (.tup vs) ∧ Reps K F vs ds := by
  cases d with
  | rf a =>
    unfold D.cur at h
    cases q : G a with
    | none => simp only [q] at h; cases h
    | some o => cases o <;> (simp only [q] at h; cases h)
  | tup j =>
    cases h
    cases r with
    | tup ha rs => exact ⟨_, _, rfl, ha, rs⟩
  | _ => cases h
theorem cur_kup {K : PySem.W.Frag} {F : Hp} {G : GH} {v : V} {d : D} {ds : List D} (r : Rep K F v d) (h : d.cur G = .kup ds) : ∃ a vs, v = .ref a ∧ SqT K F a vs ∧ Reps K F vs ds := by
  cases d with
  | rf a =>
    unfold D.cur at h
    cases q : G a with
    | none => simp only [q] at h; cases h
    | some o => cases o <;> (simp only [q] at h; cases h)
  | kup j =>
    cases h
    cases r with
    | kup ha rs => exact ⟨_, _, rfl, ha, rs⟩
  | _ => cases h
theorem od_add : OpD X (binaryOp .Add) rAddD := by
  refine ⟨_, op_add.or (op_add_str.or (op_catA.or op_cat)), fun F H G x y dx dy g rx ry Q' h Q k => ?_⟩
  unfold rAddD at h
  split at h
  · rename_i i j e1 e2
    exact .inl ⟨i, j, cur_int rx e1, cur_int ry e2, k F H _ _ G Go.refl g (.int _) h⟩
  · rename_i a b e1 e2
    exact .inr (.inl ⟨a, b, cur_str rx e1, cur_str ry e2, h.1, k F H _ _ G Go.refl g (.str _) h.2⟩)
  · rename_i a b e1 e2
    obtain ⟨p, xs, rfl, hp, r1⟩ := cur_tup rx e1
    obtain ⟨q, ys, rfl, hq, r2⟩ := cur_tup ry e2
    refine .inr (.inr (.inl ⟨p, q, xs, ys, rfl, rfl, .inl (.inl (g.ex _ _ hp)), .inl (.inl (g.ex _ _ hq)), by rw [r1.length, r2.length]; exact h.1, fun z => ?_, fun z1 z2 => ?_, fun z1 z2 p' hp' => ?_⟩))
    · subst z
      cases r1
      exact k F H _ _ G Go.refl g (.tup hq r2) h.2
    · subst z2
      cases r2
      have h2 := h.2
      rw [List.append_nil] at h2
      exact k F H _ _ G Go.refl g (.tup hp r1) h2
    · have gr : Gr F H (upd F p' (.tup (xs ++ ys))) (upd H p' (.tup (xs ++ ys))) := Gr.new g.ex hp'
      exact k _ _ _ _ G gr.go (g.grow gr) (.tup upd_same ((r1.append r2).mono gr.ff)) h.2
  · rename_i a b e1 e2
    obtain ⟨p, xs, rfl, hp, r1⟩ := cur_list g rx e1
    obtain ⟨q, ys, rfl, hq, r2⟩ := cur_list g ry e2
    refine .inr (.inr (.inr ⟨p, q, xs, ys, rfl, rfl, hp, hq, by rw [r1.length, r2.length]; exact h.1, fun p' hp' => ?_⟩))
    have gr : Gr F H (upd F p' (.lst (xs ++ ys))) (upd H p' (.lst (xs ++ ys))) := Gr.new g.ex hp'
    exact k _ _ _ _ G gr.go (g.grow gr) (.lst upd_same ((r1.append r2).mono gr.ff)) h.2
  · exact h.elim
def rIntD (C : Int → Int → Prop) (f : Int → Int → Int) : DR2 := fun x y G Q => match x, y with
  | .int i, .int j => C i j ∧ Q (.int (f i j)) G
  | _, _ => False
theorem od_int {op : Operator} {C : Int → Int → Prop} {f : Int → Int → Int} (h : OpR X (binaryOp op) (rI C fun i j => .int (f i j))) : OpD X (binaryOp op) (rIntD C f) := by
  refine ⟨_, h, fun F H G x y dx dy g rx ry Q' h Q k => ?_⟩
  unfold rIntD at h
  split at h
  · cases rx; cases ry
    exact ⟨_, _, rfl, rfl, h.1, k F H _ _ G Go.refl g (.int _) h.2⟩
  · exact h.elim
theorem od_fdiv : OpD X (binaryOp .FloorDiv) (rIntD CDiv fun i j => i / j) := od_int op_fdiv
theorem od_mod : OpD X (binaryOp .Mod) (rIntD (fun _ j => 0 < j) fun i j => i % j) := od_int op_mod
theorem od_pow : OpD X (binaryOp .Pow) (rIntD CPow fun i j => i ^ j.toNat) := od_int op_pow
def rMulD : DR2 := fun x y G Q => match x.cur G, y.cur G with
  | .int i, .int j => CMul i j ∧ Q (.int (i * j)) G
  | .lst a, .int j => -(2 ^ 63) ≤ j ∧ j < 2 ^ 63 ∧ a.length * j.toNat ≤ sizeLine ∧ Q (.lst (List.replicate j.toNat a).flatten) G
  | _, _ => False
theorem Reps.rep {K : PySem.W.Frag} {F : Hp} {vs : List V} {ds : List D} (r : Reps K F vs ds) : ∀ n : Nat, Reps K F (List.replicate n vs).flatten (List.replicate n ds).flatten
  | 0 => .nil
  | n + 1 => by
    rw [List.replicate_succ, List.replicate_succ, List.flatten_cons, List.flatten_cons]
    exact r.append (Reps.rep r n)
theorem od_mul : OpD X (binaryOp .Mult) rMulD := by
  refine ⟨_, op_mul.or op_rep, fun F H G x y dx dy g rx ry Q' h Q k => ?_⟩
  unfold rMulD at h
  split at h
  · rename_i i j e1 e2
    exact .inl ⟨i, j, cur_int rx e1, cur_int ry e2, h.1, k F H _ _ G Go.refl g (.int _) h.2⟩
  · rename_i a j e1 e2
    obtain ⟨p, xs, rfl, hp, r1⟩ := cur_list g rx e1
    obtain ⟨h1, h2, h3, h4⟩ := h
    refine .inr ⟨p, j, xs, rfl, cur_int ry e2, hp, h1, h2, by rw [r1.length]; exact h3, fun p' hp' => ?_⟩
    have gr := Gr.new (u := .lst (List.replicate j.toNat xs).flatten) g.ex hp'
    exact k _ _ _ _ G gr.go (g.grow gr) (.lst upd_same ((r1.rep _).mono gr.ff)) h4
  · exact h.elim
def rNegD : DR1 := fun x G Q => match x with
  | .int i => Q (.int (-i)) G
  | _ => False
theorem ud_neg : UnD X (unaryOp .USub) rNegD := by
  refine ⟨_, un_neg, fun F H G x dx g rx Q' h Q k => ?_⟩
  unfold rNegD at h
  split at h
  · cases rx
    exact ⟨_, rfl, k F H _ _ G Go.refl g (.int _) h⟩
  · exact h.elim
def D.isNon : D → Bool
  | .non => true
  | _ => false
theorem Rep.isNon {K : PySem.W.Frag} {F : Hp} {v : V} {d : D} (r : Rep K F v d) : decide (v = .non) = d.isNon := by
  cases r <;> first | rfl | exact decide_eq_false (by intro h; cases h)
theorem od_isN : OpD X (compareOp .Is) (fun x y G Q => match y with | .non => Q (.bl x.isNon) G | _ => False) := by
  refine ⟨_, op_isN, fun F H G x y dx dy g rx ry Q' h Q k => ?_⟩
  split at h
  · cases ry
    refine ⟨rfl, ?_⟩
    rw [rx.isNon]
    exact k F H _ _ G Go.refl g (.bl _) h
  · exact h.elim
theorem od_notN : OpD X (compareOp .IsNot) (fun x y G Q => match y with | .non => Q (.bl (!x.isNon)) G | _ => False) := by
  refine ⟨_, op_notN, fun F H G x y dx dy g rx ry Q' h Q k => ?_⟩
  split at h
  · cases ry
    refine ⟨rfl, ?_⟩
    rw [rx.isNon]
    exact k F H _ _ G Go.refl g (.bl _) h
  · exact h.elim
def strIn (x z : Str) : Bool := !(Builtin.Str.occurrences z x 0 z.length 1).isEmpty
def okI (x : D) (ys : List D) : Bool := x.pl && D.pls ys && decide (min (PyData.depthAll (D.pys ys)) x.py.depth ≤ 60)
def D.isIn (x : D) (ys : List D) : Bool := (D.pys ys).any fun z => PyData.eqv z x.py
/-- x in y: none where it is not served -/
def D.inn (x y : D) : Option Bool := match y with
  | .str z => (match x with
    | .str w => some (strIn w z)
    | _ => none)
  | .lst ys => if okI x ys = true then some (x.isIn ys) else none
  | .tup ys => if okI x ys = true then some (x.isIn ys) else none
  | y => (y.look x).map Option.isSome
def rInP (K : PySem.W.Frag) (neg : Bool) : R2 := fun x y H Q => ∃ d ds b, Dp K H x d ∧ (Dp K H y (.list ds) ∨ Dp K H y (.tuple ds)) ∧ d.plain = true ∧ PyData.plainAll ds = true ∧ min (PyData.depthAll ds) d.depth ≤ 60 ∧ b = (if neg then !(ds.any fun z => PyData.eqv z d) else ds.any fun z => PyData.eqv z d) ∧ Q (.bl b) H
def rInDict (neg : Bool) : R2 := fun x y H Q => ∃ a o, y = .ref a ∧ DGet H a x o ∧ Q (.bl (if neg then !o.isSome else o.isSome)) H
theorem op_inP (hu : X.A.units + 100 < cLine) : OpR X (compareOp .In) (rInP X.K false) := by
  intro pins s σ H x y v u Q I rx ry h
  obtain ⟨d, ds, b, hd, hy, p1, p2, hm, rfl, q⟩ := h
  obtain ⟨as, r1⟩ := Dp.reads I d x v hd rx
  rcases hy with hy | hy
  · obtain ⟨bs, r2⟩ := Dp.reads I _ y u hy ry
    exact SeqAt.in_list_data r2 r1 p2 p1 (by omega) ⟨.bl _, H, I, rfl, q⟩
  · obtain ⟨bs, r2⟩ := Dp.reads I _ y u hy ry
    exact SeqAt.in_tuple_data r2 r1 p2 p1 (by omega) ⟨.bl _, H, I, rfl, q⟩
theorem op_notInP (hu : X.A.units + 100 < cLine) : OpR X (compareOp .NotIn) (rInP X.K true) := by
  intro pins s σ H x y v u Q I rx ry h
  obtain ⟨d, ds, b, hd, hy, p1, p2, hm, rfl, q⟩ := h
  obtain ⟨as, r1⟩ := Dp.reads I d x v hd rx
  rcases hy with hy | hy
  · obtain ⟨bs, r2⟩ := Dp.reads I _ y u hy ry
    exact SeqAt.notIn_list_data r2 r1 p2 p1 (by omega) ⟨.bl _, H, I, rfl, q⟩
  · obtain ⟨bs, r2⟩ := Dp.reads I _ y u hy ry
    exact SeqAt.notIn_tuple_data r2 r1 p2 p1 (by omega) ⟨.bl _, H, I, rfl, q⟩
theorem op_inDict (hu : X.A.units + 100 < cLine) : OpR X (compareOp .In) (rInDict false) := by
  intro pins s σ H x y v u Q I rx ry h
  obtain ⟨a, o, rfl, g, q⟩ := h
  obtain rfl : u = Value.ref a := ry
  exact d_in (by omega) I g rx fun s' I' => ⟨.bl _, H, I', rfl, q⟩
theorem op_notInDict (hu : X.A.units + 100 < cLine) : OpR X (compareOp .NotIn) (rInDict true) := by
  intro pins s σ H x y v u Q I rx ry h
  obtain ⟨a, o, rfl, g, q⟩ := h
  obtain rfl : u = Value.ref a := ry
  exact d_notIn (by omega) I g rx fun s' I' => ⟨.bl _, H, I', rfl, q⟩
theorem in_core {neg : Bool} {r : R2} (hs : ∀ x y H Q, (∃ i j, x = V.str i ∧ y = V.str j ∧ Q (.bl (if neg then !(strIn i j) else strIn i j)) H) → r x y H Q) (hl : ∀ x y H Q, rInP X.K neg x y H Q → r x y H Q) (hd : ∀ x y H Q, rInDict neg x y H Q → r x y H Q)
    {F H : Hp} {G : GH} {x y : V} {dx dy : D} (g : Gok X.K F H G) (rx : Rep X.K F x dx) (ry : Rep X.K F y dy) {Q' : DQ} {b : Bool} (h : D.inn dx (dy.cur G) = some b) (q : Q' (.bl (if neg then !b else b)) G) {Q : VK} (k : KpE X.K F H G Q' Q) : r x y H Q := by
  have fin : Q (.bl (if neg then !b else b)) H := k F H _ _ G Go.refl g (.bl _) q
  unfold D.inn at h
  have seqs : ∀ (ys : List D), okI dx ys = true → dx.isIn ys = b → (Dp X.K H y (.list (D.pys ys)) ∨ Dp X.K H y (.tuple (D.pys ys))) → r x y H Q := by
    intro ys ok e hy
    unfold okI at ok
    simp only [Bool.and_eq_true, decide_eq_true_eq] at ok
    obtain ⟨⟨p1, p2⟩, p3⟩ := ok
    refine hl _ _ _ _ ⟨dx.py, D.pys ys, _, ?_, hy, D.py_plain _ p1, D.pys_plain _ p2, p3, rfl, ?_⟩
    · exact Dp.mono' g.ex _ (Rep.dp _ rx p1)
    · unfold D.isIn at e
      rw [e]
      exact fin
  split at h
  · rename_i z e
    split at h
    · cases h
      cases rx
      exact hs _ _ _ _ ⟨_, _, rfl, cur_str ry e, fin⟩
    · cases h
  · rename_i ys e
    split at h
    · rename_i ok
      cases h
      obtain ⟨a, vs, rfl, ha, rs⟩ := cur_list g ry e
      unfold okI at ok
      simp only [Bool.and_eq_true, decide_eq_true_eq] at ok
      refine seqs ys (by unfold okI; simp [ok]) rfl (.inl (.lst (.inl (.inl ha)) (DpAll.mono' g.ex _ (Reps.dp _ rs ok.1.2))))
    · cases h
  · rename_i ys e
    split at h
    · rename_i ok
      cases h
      obtain ⟨a, vs, rfl, ha, rs⟩ := cur_tup ry e
      unfold okI at ok
      simp only [Bool.and_eq_true, decide_eq_true_eq] at ok
      refine seqs ys (by unfold okI; simp [ok]) rfl (.inr (.tup (.inl (.inl (g.ex _ _ ha))) (DpAll.mono' g.ex _ (Reps.dp _ rs ok.1.2))))
    · cases h
  · cases e : (dy.cur G).look dx with
    | none => rw [e] at h; cases h
    | some o =>
      rw [e] at h
      cases h
      obtain ⟨a, o', rfl, dg, h1, h2⟩ := look_get g ry rx e
      refine hd _ _ _ _ ⟨a, o', rfl, dg, ?_⟩
      have eo : o'.isSome = o.isSome := by
        cases o with
        | none => simp [h2 rfl]
        | some d =>
          obtain ⟨z, ez, _⟩ := h1 d rfl
          rw [ez]; rfl
      rw [eo]
      exact fin
theorem od_in (hu : X.A.units + 100 < cLine) : OpD X (compareOp .In) (fun x y G Q => match D.inn x (y.cur G) with | some b => Q (.bl b) G | none => False) := by
  refine ⟨_, op_in_str.or ((op_inP hu).or (op_inDict hu)), fun F H G x y dx dy g rx ry Q' h Q k => ?_⟩
  split at h
  · rename_i b e
    exact in_core (neg := false) (r := fun x y H Q => (∃ i j, x = .str i ∧ y = .str j ∧ Q (.bl (!(Builtin.Str.occurrences j i 0 j.length 1).isEmpty)) H) ∨ rInP X.K false x y H Q ∨ rInDict false x y H Q) (fun x y H Q h => .inl h) (fun x y H Q h => .inr (.inl h)) (fun x y H Q h => .inr (.inr h)) g rx ry e h k
  · exact h.elim
theorem od_notIn (hu : X.A.units + 100 < cLine) : OpD X (compareOp .NotIn) (fun x y G Q => match D.inn x (y.cur G) with | some b => Q (.bl (!b)) G | none => False) := by
  refine ⟨_, op_notin_str.or ((op_notInP hu).or (op_notInDict hu)), fun F H G x y dx dy g rx ry Q' h Q k => ?_⟩
  split at h
  · rename_i b e
    exact in_core (neg := true) (r := fun x y H Q => (∃ i j, x = .str i ∧ y = .str j ∧ Q (.bl (!(!(Builtin.Str.occurrences j i 0 j.length 1).isEmpty))) H) ∨ rInP X.K true x y H Q ∨ rInDict true x y H Q) (fun x y H Q h => .inl h) (fun x y H Q h => .inr (.inl h)) (fun x y H Q h => .inr (.inr h)) g rx ry e h k
  · exact h.elim
end
end DL
end
section
set_option Elab.async false
set_option linter.all false
set_option maxRecDepth 100000
set_option maxHeartbeats 4000000
namespace DL
open PySem PySem.Spec PyProof.Rows L2
theorem atI_rep {K : PySem.W.Frag} {F : Hp} {vs : List V} {ds : List D} {i : Int} {d : D} (r : Reps K F vs ds) (h : atI ds i = some d) : ∃ v, atI vs i = some v ∧ Rep K F v d := by
  unfold atI at h ⊢
  rw [r.length]
  cases e : ixN ds.length i with
  | none => rw [e] at h; cases h
  | some j =>
    rw [e] at h
    exact r.get h
def D.item (x y : D) : Option D := match x with
  | .tup xs => (match y with
    | .int i => atI xs i
    | _ => none)
  | .lst xs => (match y with
    | .int i => atI xs i
    | _ => none)
  | .str z => (match y with
    | .int i => if z.length ≤ sizeLine then (atI z.cps.toList i).map fun c => .str ⟨#[c]⟩ else none
    | _ => none)
  | .kup xs => (match y with
    | .int i => atI xs i
    | _ => none)
  | x => (x.look y).join
def cutD {α : Type} (xs : List α) (lo hi : Option Int) : List α := (xs.drop (HT.sIx xs.length 0 lo)).take (HT.sIx xs.length xs.length hi - HT.sIx xs.length 0 lo)
theorem Reps.cut {K : PySem.W.Frag} {F : Hp} {vs : List V} {ds : List D} (r : Reps K F vs ds) (lo hi : Option Int) : Reps K F (cutV vs lo hi) (cutD ds lo hi) := by
  unfold cutV cutD
  rw [r.length]
  exact (r.drop _).take _
def putFD (f : Str) (d : D) : List (Str × D) → List (Str × D)
  | [] => [(f, d)]
  | p :: r => if p.1 = f then (f, d) :: r else p :: putFD f d r
theorem KR.look {K : PySem.W.Frag} {F : Hp} {f : Str} : ∀ {kds : List (Str × D)} {kvs : List (Str × V)}, KR K F kvs kds → (∀ d, kds.lookup f = some d → ∃ v, kvs.lookup f = some v ∧ Rep K F v d) ∧ (kds.lookup f = none → kvs.lookup f = none)
  | [], kvs, h => by
    obtain rfl := h.unnil
    exact ⟨fun d z => (by cases z), fun _ => rfl⟩
  | (k', d') :: kds, kvs, h => by
    obtain ⟨v, r, rfl, rv, t⟩ := h.uncons
    by_cases e : f = k'
    · subst e
      simp only [List.lookup_cons, beq_self_eq_true]
      exact ⟨fun d z => (by cases z; exact ⟨v, rfl, rv⟩), fun z => (by cases z)⟩
    · have e' : (f == k') = false := by simpa using e
      simp only [List.lookup_cons, e']
      exact KR.look t
theorem KR.putF {K : PySem.W.Frag} {F : Hp} {f : Str} {v : V} {d : D} (rv : Rep K F v d) : ∀ {kds : List (Str × D)} {kvs : List (Str × V)}, KR K F kvs kds → KR K F (L2.putF f v kvs) (putFD f d kds)
  | [], kvs, h => by
    obtain rfl := h.unnil
    exact .cons rv .nil
  | (k', d') :: kds, kvs, h => by
    obtain ⟨v', r, rfl, rv', t⟩ := h.uncons
    unfold L2.putF putFD
    by_cases e : k' = f
    · subst e
      simp only [if_pos]
      exact .cons rv t
    · simp only [if_neg e]
      exact .cons rv' (KR.putF rv t)
theorem cur_obj {K : PySem.W.Frag} {F H : Hp} {G : GH} {v : V} {d : D} {C : Addr} {kds : List (Str × D)} (g : Gok K F H G) (r : Rep K F v d) (p : d.cur G = .obj C kds) : ∃ a dx kvs, v = .ref a ∧ H a = some (.ins C dx kvs) ∧ KR K F kvs kds := by
  cases d with
  | rf a =>
    cases r
    unfold D.cur at p
    cases q : G a with
    | none => simp only [q] at p; cases p
    | some o =>
      cases o with
      | ins C' kd =>
        simp only [q] at p; cases p
        obtain ⟨dx, kvs, e, h1, h2⟩ := (g.at_ a _ q).2
        exact ⟨a, dx, kvs, rfl, e, h1, h2⟩
      | lst xs => simp only [q] at p; cases p
      | dK kd => simp only [q] at p; cases p
      | dT kd => simp only [q] at p; cases p
      | deck k1 k2 k3 n => simp only [q] at p; cases p
      | dcell => simp only [q] at p; cases p
      | lkT o kvs kds => simp only [q] at p; cases p
      | lkK o kvs kds => simp only [q] at p; cases p
      | dN w kds => simp only [q] at p; cases p
      | lkN w o xs kds => simp only [q] at p; cases p
      | dU w kds => simp only [q] at p; cases p
      | lkU w o xs kds => simp only [q] at p; cases p
      | tupU o vs ds => simp only [q] at p; cases p
      | tab z => simp only [q] at p; cases p
  | obj C' kd =>
    cases p
    cases r with
    | obj h h1 h2 => exact ⟨_, _, _, rfl, g.ex _ _ h, h1, h2⟩
  | _ => cases p
section
variable {X : Cx} {pos : Pos}
def rIxDict : R2 := fun x y H Q => ∃ a v, x = .ref a ∧ DGet H a y (some v) ∧ Q v H
theorem ix_dict (hu : X.A.units + 100 < cLine) : IxR X rIxDict := by
  intro value slice pins s σ H x y v u Q I rx ry h hs
  obtain ⟨a, z, rfl, g, q⟩ := h
  obtain rfl : v = Value.ref a := rx
  exact tail_any (dict_typeIs I g) PySem.F.slot_dict_getitem.lookup (d_getItem (by omega) I g ry fun w' s' I' r' => ⟨z, H, I', r', q⟩) hs
def rItem : DR2 := fun x y G Q => match D.item (x.cur G) y with
  | some d => Q d G
  | none => False
theorem de_ix {a b : Expr} {ta tb : DTE} (hu : X.A.units + 100 < cLine) (ha : DE X a ta) (hb : DE X b tb) (hs : PlainIx b := by intro _ _; rfl) : DE X (.Subscript a b pos) (dOp rItem ta tb) := by
  obtain ⟨t1, p1, r1⟩ := ha.ex
  obtain ⟨t2, p2, r2⟩ := hb.ex
  refine ⟨_, pe_ix ((ix_seq (X := X)).or (ix_dict hu)) p1 p2 hs, dop_of (a := a) (b := b) ?_ r1 r2⟩
  intro F H G x y dx dy g rx ry Q' h Q k
  unfold rItem at h
  split at h
  · rename_i d e
    have fin : ∀ v, Rep X.K F v d → Q v H := fun v r => k F H _ _ G Go.refl g r h
    unfold D.item at e
    split at e
    · rename_i xs ex
      split at e
      · cases ry
        obtain ⟨p, vs, rfl, hp, rs⟩ := cur_tup rx ex
        obtain ⟨v, hv, rv⟩ := atI_rep rs e
        exact .inl (.inr (.inl ⟨p, vs, _, v, rfl, rfl, .inl (.inl (g.ex _ _ hp)), hv, fin v rv⟩))
      · cases e
    · rename_i xs ex
      split at e
      · cases ry
        obtain ⟨p, vs, rfl, hp, rs⟩ := cur_list g rx ex
        obtain ⟨v, hv, rv⟩ := atI_rep rs e
        exact .inl (.inl ⟨p, vs, _, v, rfl, rfl, .inl (.inl hp), hv, fin v rv⟩)
      · cases e
    · rename_i z ex
      split at e
      · cases ry
        split at e
        · rename_i hz
          rename_i i
          cases ec : atI z.cps.toList i with
          | none => rw [ec] at e; cases e
          | some c =>
            rw [ec] at e
            cases e
            exact .inl (.inr (.inr ⟨z, _, c, cur_str rx ex, rfl, hz, ec, fin _ (.str _)⟩))
        · cases e
      · cases e
    · rename_i xs ex
      split at e
      · cases ry
        obtain ⟨p, vs, rfl, hp, rs⟩ := cur_kup rx ex
        obtain ⟨v, hv, rv⟩ := atI_rep rs e
        exact .inl (.inr (.inl ⟨p, vs, _, v, rfl, rfl, g.ex.sqt hp, hv, fin v rv⟩))
      · cases e
    · cases el : (dx.cur G).look dy with
      | none => rw [el] at e; cases e
      | some o =>
        rw [el] at e
        have e' : o = some d := e
        obtain ⟨a', o', rfl, dg, h1, _⟩ := look_get g rx ry el
        obtain ⟨z, rfl, rz⟩ := h1 d e'
        exact .inr ⟨a', z, rfl, dg, fin z rz⟩
  · exact h.elim
abbrev DTO := DS → GH → (Option Int → GH → Prop) → Prop
structure DO (X : Cx) (e : Option Expr) (t' : DTO) : Prop where
  ex : ∃ t, PO X e t ∧ ∀ F H σ S G, Ok X.K F H σ S G → ∀ Q', t' S G Q' → ∀ Q : Option Int → Hp → Prop, (∀ F' H' o G', Go F H G F' H' G' → Gok X.K F' H' G' → Q' o G' → Q o H') → t σ H Q
def dNoPart : DTO := fun _ G Q => Q none G
def dPart (ta : DTE) : DTO := fun S G Q => ta S G fun d G1 => match d with
  | .int i => Q (some i) G1
  | _ => False
theorem do_none : DO X none dNoPart := ⟨_, po_none, fun F H σ S G o Q' h Q k => k F H none G Go.refl o.g h⟩
theorem do_some {e : Expr} {ta : DTE} (h : DE X e ta) : DO X (some e) (dPart ta) := by
  obtain ⟨t1, p1, r1⟩ := h.ex
  refine ⟨_, po_some p1, fun F H σ S G o Q' h Q k => ?_⟩
  refine r1 F H σ S G o _ h _ fun F1 H1 v d G1 e1 g1 q1 h1 => ?_
  dsimp only at h1
  split at h1
  · cases q1
    exact ⟨_, rfl, k F1 H1 _ G1 e1 g1 h1⟩
  · exact h1.elim
def rSlice (x : D) (lo hi : Option Int) (G : GH) (Q : DQ) : Prop := match x.cur G with
  | .tup xs => Q (.tup (cutD xs lo hi)) G
  | .lst xs => Q (.lst (cutD xs lo hi)) G
  | .str z => z.length ≤ sizeLine ∧ Q (.str (cutS z lo hi)) G
  | .scr ns => Q (.lst ((cutD ns lo hi).map .int)) G
  | .kup xs => if HT.sIx xs.length 0 lo = 0 ∧ HT.sIx xs.length xs.length hi = xs.length then Q (.kup xs) G else Q (.tup (cutD xs lo hi)) G
  | _ => False
def dSlice (ta : DTE) (tl th : DTO) : DTE := fun S G Q => ta S G fun x G1 => tl S G1 fun lo G2 => th S G2 fun hi G3 => rSlice x lo hi G3 Q
theorem Reps.ints {K : PySem.W.Frag} {F : Hp} : ∀ (ns : List Int), Reps K F (ns.map V.int) (ns.map D.int)
  | [] => .nil
  | n :: ns => .cons (.int n) (Reps.ints ns)
theorem de_slice {e : Expr} {lo hi : Option Expr} {ta : DTE} {tl th : DTO} {p2 : Pos} (he : DE X e ta) (hl : DO X lo tl) (hh : DO X hi th) : DE X (.Subscript e (.Slice lo hi none p2) pos) (dSlice ta tl th) := by
  obtain ⟨t1, p1, r1⟩ := he.ex
  obtain ⟨t2, p2', r2⟩ := hl.ex
  obtain ⟨t3, p3, r3⟩ := hh.ex
  refine ⟨_, pe_slice ((sl_tupA (X := X)).or ((sl_list (X := X)).or (sl_str (X := X)))) p1 p2' p3, fun F H σ S G o Q' h Q k => ?_⟩
  refine r1 F H σ S G o _ h _ fun F1 H1 v d G1 e1 g1 q1 h1 => ?_
  refine r2 F1 H1 σ S G1 (o.go e1 g1) _ h1 _ fun F2 H2 lo G2 e2 g2 h2 => ?_
  refine r3 F2 H2 σ S G2 ((o.go e1 g1).go e2 g2) _ h2 _ fun F3 H3 hi G3 e3 g3 h3 => ?_
  have r := (q1.mono e2.ex).mono e3.ex
  have kk := k.mono ((e1.trans e2).trans e3)
  unfold rSlice at h3
  split at h3
  · rename_i xs ex
    obtain ⟨p, vs, rfl, hp, rs⟩ := cur_tup r ex
    refine .inl ⟨p, vs, rfl, .inl (.inl (g3.ex _ _ hp)), fun z => ?_, fun _ p' hp' => ?_⟩
    · have ec : cutD xs lo hi = xs := by
        unfold cutD
        rw [rs.length] at z
        rw [z.1, z.2]
        simp
      rw [ec] at h3
      exact kk F3 H3 _ _ G3 Go.refl g3 (.tup hp rs) h3
    · have gr := Gr.new (u := .tup (cutV vs lo hi)) g3.ex hp'
      exact kk _ _ _ _ G3 gr.go (g3.grow gr) (.tup upd_same ((rs.cut lo hi).mono gr.ff)) h3
  · rename_i xs ex
    obtain ⟨p, vs, rfl, hp, rs⟩ := cur_list g3 r ex
    refine .inr (.inl ⟨p, vs, rfl, .inl (.inl hp), fun p' hp' => ?_⟩)
    have gr := Gr.new (u := .lst (cutV vs lo hi)) g3.ex hp'
    exact kk _ _ _ _ G3 gr.go (g3.grow gr) (.lst upd_same ((rs.cut lo hi).mono gr.ff)) h3
  · rename_i z ex
    exact .inr (.inr ⟨z, cur_str r ex, h3.1, kk F3 H3 _ _ G3 Go.refl g3 (.str _) h3.2⟩)
  · rename_i ns ex
    have hd : d = .scr ns := by
      cases d with
      | rf a =>
        unfold D.cur at ex
        cases q : G3 a with
        | none => simp only [q] at ex; cases ex
        | some o => cases o <;> (simp only [q] at ex; cases ex)
      | _ => exact ex
    subst hd
    cases r with
    | scr hs =>
      refine .inr (.inl ⟨_, ns.map V.int, rfl, g3.ex.sql hs, fun p' hp' => ?_⟩)
      have gr := Gr.new (u := .lst (cutV (ns.map V.int) lo hi)) g3.ex hp'
      have rc : Reps X.K F3 (cutV (ns.map V.int) lo hi) ((cutD ns lo hi).map .int) := by
        have := (Reps.ints (K := X.K) (F := F3) ns).cut lo hi
        have e : cutD (ns.map D.int) lo hi = (cutD ns lo hi).map .int := by
          unfold cutD
          simp [List.map_take, List.map_drop]
        rw [e] at this
        exact this
      exact kk _ _ _ _ G3 gr.go (g3.grow gr) (.lst upd_same (rc.mono gr.ff)) h3
  · rename_i xs ex
    obtain ⟨p, vs, rfl, hp, rs⟩ := cur_kup r ex
    refine .inl ⟨p, vs, rfl, g3.ex.sqt hp, fun z => ?_, fun z p' hp' => ?_⟩
    · rw [rs.length] at z
      rw [if_pos z] at h3
      exact kk F3 H3 _ _ G3 Go.refl g3 (.kup hp rs) h3
    · rw [rs.length] at z
      rw [if_neg z] at h3
      have gr := Gr.new (u := .tup (cutV vs lo hi)) g3.ex hp'
      exact kk _ _ _ _ G3 gr.go (g3.grow gr) (.tup upd_same ((rs.cut lo hi).mono gr.ff)) h3
  · exact h3.elim
def dFld (C : Addr) (f : Str) (ta : DTE) : DTE := fun S G Q => ta S G fun d G1 => match d.cur G1 with
  | .obj C' fs => C' = C ∧ (match fs.lookup f with
    | some v => Q v G1
    | none => False)
  | _ => False
theorem de_fld {e : Expr} {f : Str} {C : Addr} {ta : DTE} (c : Cls X.K C) (na : NoAttr X.K C f) (he : DE X e ta) (hb : attributeBase e f X.env (eval e X.env) = eval e X.env := by rfl) : DE X (.Attribute e f pos) (dFld C f ta) := by
  obtain ⟨t1, p1, r1⟩ := he.ex
  refine ⟨_, pe_fld p1 hb, fun F H σ S G o Q' h Q k => ?_⟩
  refine r1 F H σ S G o _ h _ fun F1 H1 v d G1 e1 g1 q1 h1 => ?_
  dsimp only at h1
  split at h1
  · rename_i C' fs ex
    obtain ⟨rfl, h1⟩ := h1
    obtain ⟨a, dx, kvs, rfl, ha, kr⟩ := cur_obj g1 q1 ex
    split at h1
    · rename_i z ez
      obtain ⟨y, hy, ry⟩ := kr.look.1 _ ez
      exact ⟨a, C', dx, kvs, y, rfl, ha, c, na, hy, k F1 H1 _ _ G1 e1 g1 ry h1⟩
    · exact h1.elim
  · exact h1.elim
def dSetFld (C : Addr) (f : Str) (ta tv : DTE) : DTS := fun D' S G => tv S G fun y G1 => ta S G1 fun x G2 => match x with
  | .rf a => (match G2 a with
    | some (.ins C' fs) => C' = C ∧ fs.length < 1000 ∧ D'.nx S (gput G2 a (.ins C (putFD f y fs)))
    | _ => False)
  | _ => False
theorem dp_setFld {e value : Expr} {f : Str} {C : Addr} {ta tv : DTE} {pos' : Pos} (c : Cls X.K C) (na : NoAttr X.K C f) (he : DE X e ta) (hv : DE X value tv) (hs : swapsWith value (some (.Attribute e f pos')) pos.line X.env = pure false := by rfl) :
    DP X (.Assign [.Attribute e f pos'] value pos) (dSetFld C f ta tv) := by
  obtain ⟨t1, p1, r1⟩ := he.ex
  obtain ⟨t2, p2, r2⟩ := hv.ex
  refine ⟨_, ps_fld p1 p2 hs, fun F H σ S G o D' h D0 k => ?_⟩
  refine r2 F H σ S G o _ h _ fun F1 H1 v d G1 e1 g1 q1 h1 => ?_
  refine r1 F1 H1 σ S G1 (o.go e1 g1) _ h1 _ fun F2 H2 u d2 G2 e2 g2 q2 h2 => ?_
  dsimp only at h2
  split at h2
  · rename_i a
    split at h2
    · rename_i C' fs eg
      obtain ⟨rfl, hl, h2⟩ := h2
      cases q2
      obtain ⟨fa, dx, kvs, ha, h3, h4⟩ := g2.at_ a _ eg
      have kr : KR X.K F2 kvs fs := ⟨h3, h4⟩
      have kr2 := kr.putF (f := f) (q1.mono e2.ex)
      refine ⟨a, C', dx, kvs, rfl, ha, c, na, by rw [kr.len]; exact hl, ?_⟩
      have g3 := g2.put (u := .ins C' dx (L2.putF f v kvs)) (o := .ins C' (putFD f d fs)) eg rfl rfl ⟨dx, _, upd_same, kr2.ks, kr2.vs⟩
      exact k.nx F2 _ σ S _ ((e1.trans e2).trans (Go.put eg)) ⟨g3, (o.s.mono e1.ex).mono e2.ex⟩ h2
    · exact h2.elim
  · exact h2.elim
def dSetSub (to ti : DTE) : DTG := fun v S G Q => to S G fun x G1 => ti S G1 fun i G2 => match x with
  | .rf a => (match G2 a with
    | some (.lst xs) => (match i with
      | .int j => (match ixN xs.length j with
        | some n => Q S (gput G2 a (.lst (xs.set n v)))
        | none => False)
      | _ => False)
    | some (.dK kds) => (match i.key with
      | some k => kds.length < sizeLine ∧ Q S (gput G2 a (.dK (putD kds k v)))
      | none => False)
    | some (.dT kds) => (match i with
      | .tup ds => (match D.keys ds with
        | some k => kds.length < sizeLine ∧ Q S (gput G2 a (.dT (putD kds k v)))
        | none => False)
      | _ => False)
    | _ => False)
  | _ => False
def rSetD : V → V → V → Hp → (Hp → Prop) → Prop := fun o i v H Q => ∃ a H', o = .ref a ∧ DPut H a i v H' ∧ Q H'
theorem set_dict (hu : X.A.units + 100 < cLine) : PSet X rSetD := by
  intro pins s σ H o i v ov iv u Q I ro ri rv h
  obtain ⟨a, H', rfl, g, q⟩ := h
  obtain rfl : ov = Value.ref a := ro
  exact d_setItem (by omega) I g ri rv fun s' I' => ⟨H', I', q⟩
theorem PSet.or {r r' : TSet} (h : PSet X r) (h' : PSet X r') : PSet X (fun o i v H Q => r o i v H Q ∨ r' o i v H Q) := by
  intro pins s σ H o i v ov iv u Q I ro ri rv q
  rcases q with q | q
  · exact h pins s σ H o i v ov iv u Q I ro ri rv q
  · exact h' pins s σ H o i v ov iv u Q I ro ri rv q
theorem dg_sub {o i : Expr} {to ti : DTE} (hu : X.A.units + 100 < cLine) (ho : DE X o to) (hi : DE X i ti)
    (ha : ∀ v, assign (.Subscript o i pos) X.env v = (do let ov ← holding [v] (eval o X.env); let iv ← holding [v, ov] (eval i X.env); standAt pos; holding [v, ov, iv] (setItem ov iv v); release [v, ov, iv] []) := by intro _; rfl) : DG X (.Subscript o i pos) (dSetSub to ti) := by
  obtain ⟨t1, p1, r1⟩ := ho.ex
  obtain ⟨t2, p2, r2⟩ := hi.ex
  refine ⟨_, pg_sub p1 p2 (PSet.or set_list (set_dict hu)) ha, fun F H σ S G v d o' r Q' h Q k => ?_⟩
  refine r1 F H σ S G o' _ h _ fun F1 H1 x dx G1 e1 g1 q1 h1 => ?_
  refine r2 F1 H1 σ S G1 (o'.go e1 g1) _ h1 _ fun F2 H2 y dy G2 e2 g2 q2 h2 => ?_
  have rv := (r.mono e1.ex).mono e2.ex
  dsimp only at h2
  split at h2
  · rename_i a
    cases q1
    split at h2
    · rename_i xs eg
      split at h2
      · rename_i j
        cases q2
        split at h2
        · rename_i n en
          obtain ⟨fa, vs, ha, rs⟩ := g2.at_ a _ eg
          refine .inl ⟨a, vs, j, n, rfl, rfl, ha, by rw [rs.length]; exact en, ?_⟩
          have g3 := g2.put (u := .lst (vs.set n v)) (o := .lst (xs.set n d)) eg rfl rfl ⟨_, upd_same, rs.set rv n⟩
          exact k F2 _ σ S _ ((e1.trans e2).trans (Go.put eg)) ⟨g3, (o'.s.mono e1.ex).mono e2.ex⟩ h2
        · exact h2.elim
      · exact h2.elim
    · rename_i kds eg
      split at h2
      · rename_i kk ek
        obtain ⟨hl, h2⟩ := h2
        obtain ⟨fa, kvs, ha, h3, h4⟩ := g2.at_ a _ eg
        have kr : KR X.K F2 kvs kds := ⟨h3, h4⟩
        have kr2 := kr.put (k := kk) rv
        have ey := q2.key ek
        subst ey
        refine .inr ⟨a, _, rfl, DPut.k (k := kk) ha (by rw [kr.len]; exact hl), ?_⟩
        have g3 := g2.put (u := .dK (putK kvs kk v)) (o := .dK (putD kds kk d)) eg rfl rfl ⟨_, upd_same, kr2.ks, kr2.vs⟩
        exact k F2 _ σ S _ ((e1.trans e2).trans (Go.put eg)) ⟨g3, (o'.s.mono e1.ex).mono e2.ex⟩ h2
      · exact h2.elim
    · rename_i kds eg
      split at h2
      · rename_i ds
        split at h2
        · rename_i kk ek
          obtain ⟨hl, h2⟩ := h2
          obtain ⟨fa, kvs, ha, h3, h4⟩ := g2.at_ a _ eg
          have kr : KR X.K F2 kvs kds := ⟨h3, h4⟩
          have kr2 := kr.put (k := kk) rv
          cases q2 with
          | tup hb rs =>
            have eb := rs.keys ek
            subst eb
            refine .inr ⟨a, _, rfl, DPut.t (k := kk) ha (g2.ex _ _ hb) (by rw [kr.len]; exact hl), ?_⟩
            have g3 := g2.put (u := .dT (putK kvs kk v)) (o := .dT (putD kds kk d)) eg rfl rfl ⟨_, upd_same, kr2.ks, kr2.vs⟩
            exact k F2 _ σ S _ ((e1.trans e2).trans (Go.put eg)) ⟨g3, (o'.s.mono e1.ex).mono e2.ex⟩ h2
        · exact h2.elim
      · exact h2.elim
    · exact h2.elim
  · exact h2.elim
def dMeth (C : Addr) (m : Str) (sp : SpD) (ta : DTE) (tr : DTA) : DTE := fun S G Q => ta S G fun d G1 => match d.cur G1 with
  | .obj C' fs => C' = C ∧ fs.lookup m = none ∧ tr S G1 fun ds G2 => sp (d :: ds) G2 Q
  | _ => False
theorem de_meth {pl : Sem Bool} {o e : Expr} {es : List Expr} {C f : Addr} {m : Str} {k : Nat} {fd : FuncData} {ps : List Str} {sp : SpD} {ta : DTE} {tr : DTA} {apos : Pos} (he : DE X o ta) (c : Cls X.K C) (hm : Meth X.K C m f) (Fn : FnG X.prog X.w X.K X.mg X.base CX0 k f fd ps (SpOf X.K sp)) (hA : X.A.guards = some []) (hr : Room k X.A) (hb : Binds X.K fd ps []) (ha : DA X (e :: es) tr)
    (hst : starEach (e :: es) X.env = (false, eval e X.env) :: starEach es X.env := by rfl) (hpl : (backTo pos (starEach es X.env)).any (·.1) = false := by rfl)
    (ht : eval (.Call (.Attribute o m apos) (e :: es) [] pos) X.env = (do let ov ← eval o X.env; standAt apos.atName; let (f, first) ← holding [ov] (getMethod ov m pl); callWith pos f first (backTo pos (starEach (e :: es) X.env)) (backToKw pos (keywordEach [] X.env))) := by rfl) :
    DE X (.Call (.Attribute o m apos) (e :: es) [] pos) (dMeth C m sp ta tr) := by
  obtain ⟨t1, p1, r1⟩ := he.ex
  obtain ⟨t2, p2, r2⟩ := ha.ex
  refine ⟨_, pg_meth p1 c hm Fn hA hr hb .nil pass0 p2 hst hpl ht, fun F H σ S G o Q' h Q k => ?_⟩
  refine r1 F H σ S G o _ h _ fun F1 H1 v d G1 e1 g1 q1 h1 => ?_
  dsimp only at h1
  split at h1
  · rename_i C' fs ex
    obtain ⟨rfl, hl, h1⟩ := h1
    obtain ⟨a, dx, kvs, rfl, ha', kr⟩ := cur_obj g1 q1 ex
    refine ⟨a, dx, kvs, rfl, ha', kr.look.2 hl, ?_⟩
    refine r2 F1 H1 σ S G1 (o.go e1 g1) _ h1 _ fun F2 H2 vs ds G2 e2 g2 q2 h2 => ?_
    rw [List.append_nil]
    exact ⟨F2, G2, d :: ds, Q', g2, .cons (q1.mono e2.ex) q2, h2, k.mono (e1.trans e2)⟩
  · exact h1.elim
def dMake (C : Addr) (sp : SpD) (tr : DTA) : DTE := fun S G Q => tr S G fun ds G1 => ∀ y, G1 y = none → sp (.rf y :: ds) (gput G1 y (.ins C [])) fun d G2 => match d with
  | .non => Q (.rf y) G2
  | _ => False
theorem de_make {e : Expr} {es : List Expr} {C f : Addr} {x : Str} {k : Nat} {fd : FuncData} {ps : List Str} {sp : SpD} {tr : DTA} {p : Pos} (M : Mk X.K C f) (Fn : FnG X.prog X.w X.K X.mg X.base CX0 k f fd ps (SpOf X.K sp)) (hA : X.A.guards = some []) (hr : Room (k + 1) X.A) (hg : Gl X x) (hm : X.mg x = some (.ref C)) (hb : Binds X.K fd ps []) (ha : DA X (e :: es) tr)
    (hdb : (x == ("__debug__" : Str)) = false := by decide) (he : starEach (e :: es) X.env = (false, eval e X.env) :: starEach es X.env := by rfl) (hpl : (backTo pos (starEach es X.env)).any (·.1) = false := by rfl) :
    DE X (.Call (.Name x p) (e :: es) [] pos) (dMake C sp tr) := by
  obtain ⟨t2, p2, r2⟩ := ha.ex
  refine ⟨_, pg_make M Fn hA hr hg hm hb .nil pass0 p2 hdb he hpl, fun F H σ S G o Q' h Q k => ?_⟩
  refine r2 F H σ S G o _ h _ fun F1 H1 vs ds G1 e1 g1 q1 h1 => ?_
  intro y dy ny ndy ne
  rw [List.append_nil]
  have gr := Gr.only (u := .own y) g1.ex ndy
  have g2 := g1.grow gr
  have ny2 : upd H1 dy (.own y) y = none := by rw [upd_ne (fun z => ne z.symm)]; exact ny
  have g3 := g2.alloc (u := .ins C dy []) (o := .ins C []) ny2 rfl ⟨dy, [], upd_same, rfl, .nil⟩
  have go3 : Go F1 H1 G1 F1 _ (gput G1 y (.ins C [])) := (gr.go (G := G1)).trans (Go.alloc (u := .ins C dy []) (o := .ins C []) ny2)
  refine ⟨F1, _, .rf y :: ds, _, g3, .cons (.rf y) q1, h1 y (g1.free ny), ?_⟩
  intro F4 H4 v d G4 e4 g4 q4 h4
  split at h4
  · cases q4
    exact ⟨rfl, k F4 H4 _ _ G4 ((e1.trans go3).trans e4) g4 (.rf y) h4⟩
  · exact h4.elim
end
end DL
end
section
set_option Elab.async false
set_option linter.all false
set_option maxRecDepth 100000
set_option maxHeartbeats 4000000
namespace DL
open PySem PySem.Spec PyProof.Rows L2
section
variable {X : Cx} {pos : Pos} {tg : Expr}
def dNoGuard : GH → Prop := fun _ => True
def diTup (te : DTE) : DTI := fun S G R => te S G fun d G1 => match d with
  | .tup ds => R ds dNoGuard G1
  | .kup ds => R ds dNoGuard G1
  | _ => False
theorem di_tup {e : Expr} {te : DTE} (h : DE X e te) : DI X tg e (diTup te) := by
  obtain ⟨t, p, r⟩ := h.ex
  refine ⟨_, pi_tup p, fun F H σ S G o R' h R k => ?_⟩
  refine r F H σ S G o _ h _ fun F1 H1 v d G1 e1 g1 q1 h1 => ?_
  dsimp only at h1
  split at h1
  · cases q1 with
    | tup ha rs =>
      rename_i a vs
      refine ⟨a, rfl, ⟨vs, .inl (.inl (g1.ex _ _ ha))⟩, k F1 H1 G1 _ _ _ e1 g1 ⟨fun F2 H2 G2 i d e2 g2 _ hd => ?_, fun F2 H2 G2 e2 g2 _ => ?_⟩ h1⟩
      · have hs : SqT X.K H2 a vs := .inl (.inl (g2.ex _ _ (e2 _ _ ha)))
        obtain ⟨v, hv, rv⟩ := rs.get hd
        refine ⟨⟨vs, v, hs, hv⟩, fun x H3 hy => ?_⟩
        obtain ⟨rfl, hx⟩ := hy
        have := hx vs hs
        rw [hv] at this
        cases this
        exact ⟨F2, Go.refl, g2, rv.mono e2⟩
      · exact ⟨vs, .inl (.inl (g2.ex _ _ (e2 _ _ ha))), by rw [rs.length]; exact Nat.le_refl _⟩
  · cases q1 with
    | kup ha rs =>
      rename_i a vs
      refine ⟨a, rfl, ⟨vs, g1.ex.sqt ha⟩, k F1 H1 G1 _ _ _ e1 g1 ⟨fun F2 H2 G2 i d e2 g2 _ hd => ?_, fun F2 H2 G2 e2 g2 _ => ?_⟩ h1⟩
      · have hs : SqT X.K H2 a vs := g2.ex.sqt (e2.sqt ha)
        obtain ⟨v, hv, rv⟩ := rs.get hd
        refine ⟨⟨vs, v, hs, hv⟩, fun x H3 hy => ?_⟩
        obtain ⟨rfl, hx⟩ := hy
        have := hx vs hs
        rw [hv] at this
        cases this
        exact ⟨F2, Go.refl, g2, rv.mono e2⟩
      · exact ⟨vs, g2.ex.sqt (e2.sqt ha), by rw [rs.length]; exact Nat.le_refl _⟩
  · exact h1.elim
def diList (te : DTE) : DTI := fun S G R => te S G fun d G1 => match d with
  | .lst ds => R ds dNoGuard G1
  | .rf a => (match G1 a with
    | some (.lst ds) => R ds (fun G => G a = some (.lst ds)) G1
    | _ => False)
  | _ => False
theorem di_list {e : Expr} {te : DTE} (h : DE X e te) : DI X tg e (diList te) := by
  obtain ⟨t, p, r⟩ := h.ex
  refine ⟨_, pi_list p, fun F H σ S G o R' h R k => ?_⟩
  refine r F H σ S G o _ h _ fun F1 H1 v d G1 e1 g1 q1 h1 => ?_
  dsimp only at h1
  split at h1
  · cases q1 with
    | lst ha rs =>
      rename_i a vs
      refine ⟨a, rfl, ⟨vs, .inl (.inl (g1.ex _ _ ha))⟩, k F1 H1 G1 _ _ _ e1 g1 ⟨fun F2 H2 G2 i d e2 g2 _ hd => ?_, fun F2 H2 G2 e2 g2 _ => ?_⟩ h1⟩
      · have hs : SqL X.K H2 a vs := .inl (.inl (g2.ex _ _ (e2 _ _ ha)))
        obtain ⟨v, hv, rv⟩ := rs.get hd
        refine ⟨⟨vs, v, hs, hv⟩, fun x H3 hy => ?_⟩
        obtain ⟨rfl, hx⟩ := hy
        have := hx vs hs
        rw [hv] at this
        cases this
        exact ⟨F2, Go.refl, g2, rv.mono e2⟩
      · exact ⟨vs, .inl (.inl (g2.ex _ _ (e2 _ _ ha))), by rw [rs.length]; exact Nat.le_refl _⟩
  · rename_i a
    split at h1
    · rename_i ds eg
      cases q1
      obtain ⟨fa, vs0, ha0, rs0⟩ := g1.at_ a _ eg
      refine ⟨a, rfl, ⟨vs0, .inl (.inl ha0)⟩, k F1 H1 G1 _ _ _ e1 g1 ⟨fun F2 H2 G2 i d e2 g2 gd hd => ?_, fun F2 H2 G2 e2 g2 gd => ?_⟩ h1⟩
      · obtain ⟨fa2, vs, ha, rs⟩ := g2.at_ a _ gd
        have hs : SqL X.K H2 a vs := .inl (.inl ha)
        obtain ⟨v, hv, rv⟩ := rs.get hd
        refine ⟨⟨vs, v, hs, hv⟩, fun x H3 hy => ?_⟩
        obtain ⟨rfl, hx⟩ := hy
        have := hx vs hs
        rw [hv] at this
        cases this
        exact ⟨F2, Go.refl, g2, rv⟩
      · obtain ⟨fa2, vs, ha, rs⟩ := g2.at_ a _ gd
        exact ⟨vs, .inl (.inl ha), by rw [rs.length]; exact Nat.le_refl _⟩
    · exact h1.elim
  · exact h1.elim
def signs (x : Str) : List D := x.cps.toList.map fun c => .str ⟨#[c]⟩
def diStr (te : DTE) : DTI := fun S G R => te S G fun d G1 => match d with
  | .str x => R (signs x) dNoGuard G1
  | _ => False
theorem di_str {e : Expr} {te : DTE} (h : DE X e te) : DI X tg e (diStr te) := by
  obtain ⟨t, p, r⟩ := h.ex
  refine ⟨_, pi_str p, fun F H σ S G o R' h R k => ?_⟩
  refine r F H σ S G o _ h _ fun F1 H1 v d G1 e1 g1 q1 h1 => ?_
  dsimp only at h1
  split at h1
  · rename_i x
    cases q1
    refine ⟨x, rfl, k F1 H1 G1 _ _ _ e1 g1 ⟨fun F2 H2 G2 i d e2 g2 _ hd => ?_, fun F2 H2 G2 e2 g2 _ => ?_⟩ h1⟩
    · unfold signs at hd
      rw [List.getElem?_map] at hd
      cases ec : x.cps.toList[i]? with
      | none => rw [ec] at hd; cases hd
      | some c =>
        rw [ec] at hd
        cases hd
        have hl : i < x.cps.size := by
          have := (List.getElem?_eq_some_iff.mp ec).1
          simpa using this
        refine ⟨hl, fun y H3 hy => ?_⟩
        obtain ⟨rfl, c', hc', rfl⟩ := hy
        have e2' : x.cps[i]? = some c := by rw [← ec]; simp
        rw [e2'] at hc'
        cases hc'
        exact ⟨F2, Go.refl, g2, .str _⟩
    · show x.cps.size ≤ (signs x).length
      simp [signs]
  · exact h1.elim
def diRange1 (ta : DTA) : DTI := fun S G R => ta S G fun ds G1 => match ds with
  | [.int n] => -(2 ^ 62) ≤ n ∧ n < 2 ^ 62 ∧ R ((List.range n.toNat).map fun i => .int (i : Nat)) dNoGuard G1
  | _ => False
theorem itr_ok {K : PySem.W.Frag} {F : Hp} (lo : Int) (n : Nat) : ItOk K F (Itr lo n) ((List.range n).map fun i => .int (lo + (i : Nat))) dNoGuard := by
  refine ⟨fun F2 H2 G2 i d e2 g2 _ hd => ?_, fun F2 H2 G2 e2 g2 _ => ?_⟩
  · rw [List.getElem?_map] at hd
    cases ec : (List.range n)[i]? with
    | none => rw [ec] at hd; cases hd
    | some c =>
      rw [ec] at hd
      cases hd
      have hl := (List.getElem?_eq_some_iff.mp ec)
      obtain ⟨h1, h2⟩ := hl
      rw [List.length_range] at h1
      rw [List.getElem_range] at h2
      subst h2
      refine ⟨h1, fun y H3 hy => ?_⟩
      obtain ⟨rfl, rfl⟩ := hy
      exact ⟨F2, Go.refl, g2, .int _⟩
  · show n ≤ _
    simp
theorem di_range1 {a : Expr} {ta : DTA} {p : Pos} (hg : Gl X "range") (hm : X.mg "range" = none) (ha : DA X [a] ta) (hs : starEach [a] X.env = [(false, eval a X.env)] := by rfl) : DI X tg (.Call (.Name "range" p) [a] [] pos) (diRange1 ta) := by
  obtain ⟨t, p1, r⟩ := ha.ex
  refine ⟨_, pi_range1 hg hm p1 hs, fun F H σ S G o R' h R k => ?_⟩
  refine r F H σ S G o _ h _ fun F1 H1 vs ds G1 e1 g1 q1 h1 => ?_
  dsimp only at h1
  split at h1
  · rename_i n
    cases q1 with
    | cons a b =>
      cases a; cases b
      obtain ⟨h2, h3, h4⟩ := h1
      refine ⟨n, rfl, h2, h3, k F1 H1 G1 _ _ _ e1 g1 (itr_ok 0 n.toNat) ?_⟩
      have e : ((List.range n.toNat).map fun i => D.int (0 + ((i : Nat) : Int))) = (List.range n.toNat).map fun i => D.int ((i : Nat) : Int) := by
        congr 1
        funext i
        rw [Int.zero_add]
      rw [e]
      exact h4
  · exact h1.elim
def diRange2 (ta : DTA) : DTI := fun S G R => ta S G fun ds G1 => match ds with
  | [.int m, .int n] => (-(2 ^ 62) ≤ m ∧ m < 2 ^ 62 ∧ -(2 ^ 62) ≤ n ∧ n < 2 ^ 62) ∧ R ((List.range (n - m).toNat).map fun i => .int (m + (i : Nat))) dNoGuard G1
  | _ => False
def dCB (r : List D → GH → DQ → Prop) (ta : DTA) : DTE := fun S G Q => ta S G fun ds G1 => r ds G1 Q
theorem de_callB {id : String} {r' : List D → GH → DQ → Prop} {x : Str} {e : Expr} {es : List Expr} {ta : DTA} {p : Pos} (hc : CallD X (.builtin id) r') (hg : Gl X x) (hm : X.mg x = none) (hv : bootBuiltins x = some (.builtin id)) (ha : DA X (e :: es) ta) (hn : x ≠ "__name__" := by decide) (hdb : (x == ("__debug__" : Str)) = false := by decide)
    (he : starEach (e :: es) X.env = (false, eval e X.env) :: starEach es X.env := by rfl) (hpl : (backTo pos (starEach es X.env)).any (·.1) = false := by rfl) : DE X (.Call (.Name x p) (e :: es) [] pos) (dCB r' ta) := by
  obtain ⟨r, hr, rr⟩ := hc.ex
  obtain ⟨t, p1, r1⟩ := ha.ex
  refine ⟨_, pe_callB hr hg hm hv p1 hn hdb he hpl, fun F H σ S G o Q' h Q k => ?_⟩
  refine r1 F H σ S G o _ h _ fun F1 H1 vs ds G1 e1 g1 q1 h1 => ?_
  exact rr F1 H1 G1 vs ds g1 q1 Q' h1 Q (k.mono e1)
theorem de_callTy {T : String} {r' : List D → GH → DQ → Prop} {x : Str} {e : Expr} {es : List Expr} {ta : DTA} {p : Pos} (hc : CallD X (.type T) r') (hg : Gl X x) (hm : X.mg x = none) (hv : bootBuiltins x = some (.type T)) (ha : DA X (e :: es) ta) (hn : x ≠ "__name__" := by decide) (hdb : (x == ("__debug__" : Str)) = false := by decide)
    (he : starEach (e :: es) X.env = (false, eval e X.env) :: starEach es X.env := by rfl) (hpl : (backTo pos (starEach es X.env)).any (·.1) = false := by rfl) : DE X (.Call (.Name x p) (e :: es) [] pos) (dCB r' ta) := by
  obtain ⟨r, hr, rr⟩ := hc.ex
  obtain ⟨t, p1, r1⟩ := ha.ex
  refine ⟨_, pe_callTy hr hg hm hv p1 hn hdb he hpl, fun F H σ S G o Q' h Q k => ?_⟩
  refine r1 F H σ S G o _ h _ fun F1 H1 vs ds G1 e1 g1 q1 h1 => ?_
  exact rr F1 H1 G1 vs ds g1 q1 Q' h1 Q (k.mono e1)
theorem CallR.or {f : Value} {r r' : List V → Hp → VK → Prop} (h : CallR X f r) (h' : CallR X f r') : CallR X f (fun xs H Q => r xs H Q ∨ r' xs H Q) := by
  intro pins s σ H xs us Q I rx q
  rcases q with q | q
  · exact h pins s σ H xs us Q I rx q
  · exact h' pins s σ H xs us Q I rx q
/-- len -/
def D.len : D → Option Nat
  | .tup xs => some xs.length
  | .lst xs => some xs.length
  | .str z => if z.length ≤ sizeLine then some z.length else none
  | .dK kds => some kds.length
  | .dT kds => some kds.length
  | .kup xs => some xs.length
  | _ => none
def rLenD (ds : List D) (G : GH) (Q : DQ) : Prop := match ds with
  | [d] => (match (d.cur G).len with
    | some n => Q (.int (n : Nat)) G
    | none => False)
  | _ => False
theorem cd_len : CallD X (.builtin "len") rLenD := by
  refine ⟨_, CallR.or call_len (CallR.or call_lenD call_len_dT), fun F H G vs ds g rs Q' h Q k => ?_⟩
  unfold rLenD at h
  split at h
  · rename_i d
    cases rs with
    | cons r b =>
      cases b
      split at h
      · rename_i n en
        have fin : Q (.int (n : Nat)) H := k F H _ _ G Go.refl g (.int _) h
        unfold D.len at en
        split at en
        · rename_i xs ex
          cases en
          obtain ⟨a, vs, rfl, ha, rs⟩ := cur_tup r ex
          exact .inl ⟨_, _, rfl, .inr ⟨vs, .inl (.inl (g.ex _ _ ha)), rs.length.symm⟩, fin⟩
        · rename_i xs ex
          cases en
          obtain ⟨a, vs, rfl, ha, rs⟩ := cur_list g r ex
          exact .inl ⟨_, _, rfl, .inl ⟨vs, .inl (.inl ha), rs.length.symm⟩, fin⟩
        · rename_i z ex
          split at en
          · rename_i hz
            cases en
            have := cur_str r ex
            subst this
            exact .inl ⟨_, _, rfl, ⟨hz, rfl⟩, fin⟩
          · cases en
        · rename_i kds ex
          cases en
          obtain ⟨a, kvs, rfl, ha, kr⟩ := cur_dK g r ex
          exact .inr (.inl ⟨a, kvs, rfl, ha, by rw [kr.len]; exact fin⟩)
        · rename_i kds ex
          cases en
          obtain ⟨a, kvs, rfl, ha, kr⟩ := cur_dT g r ex
          exact .inr (.inr ⟨a, kvs, rfl, ha, by rw [kr.len]; exact fin⟩)
        · rename_i xs ex
          cases en
          obtain ⟨a, vs, rfl, ha, rs⟩ := cur_kup r ex
          exact .inl ⟨_, _, rfl, .inr ⟨vs, g.ex.sqt ha, rs.length.symm⟩, fin⟩
        · cases en
      · exact h.elim
  · exact h.elim
/-- tuple(x) of a list, a tuple -/
def rTupleD (ds : List D) (G : GH) (Q : DQ) : Prop := match ds with
  | [d] => (match d.cur G with
    | .tup xs => Q (.tup xs) G
    | .lst xs => Q (.tup xs) G
    | _ => False)
  | _ => False
theorem cd_tuple : CallD X (.type "tuple") rTupleD := by
  refine ⟨_, call_tuple_of, fun F H G vs ds g rs Q' h Q k => ?_⟩
  unfold rTupleD at h
  split at h
  · rename_i d
    cases rs with
    | cons r b =>
      cases b
      split at h
      · rename_i xs ex
        obtain ⟨a, vs, rfl, ha, rs⟩ := cur_tup r ex
        exact ⟨a, vs, rfl, .inr ⟨.inl (.inl (g.ex _ _ ha)), k F H _ _ G Go.refl g (.tup ha rs) h⟩⟩
      · rename_i xs ex
        obtain ⟨a, vs, rfl, ha, rs⟩ := cur_list g r ex
        refine ⟨a, vs, rfl, .inl ⟨.inl (.inl ha), fun l hl => ?_⟩⟩
        have gr := Gr.new (u := .tup vs) g.ex hl
        exact k _ _ _ _ G gr.go (g.grow gr) (.tup upd_same (rs.mono gr.ff)) h
      · exact h.elim
  · exact h.elim
/-- {}: a dict that will change -/
def dNewK : DTE := fun _ G Q => ∀ p, G p = none → Q (.rf p) (gput G p (.dK []))
def dNewT : DTE := fun _ G Q => ∀ p, G p = none → Q (.rf p) (gput G p (.dT []))
theorem de_newK : DE X (.Dict [] [] pos) dNewK := by
  refine ⟨_, pe_dnewK, fun F H σ S G o Q' h Q k => ?_⟩
  intro p hp
  exact k _ _ _ _ _ (Go.alloc hp) (o.g.alloc (o := .dK []) hp rfl ⟨[], upd_same, rfl, .nil⟩) (.rf p) (h p (o.g.free hp))
theorem de_newT : DE X (.Dict [] [] pos) dNewT := by
  refine ⟨_, pe_dnewT, fun F H σ S G o Q' h Q k => ?_⟩
  intro p hp
  exact k _ _ _ _ _ (Go.alloc hp) (o.g.alloc (o := .dT []) hp rfl ⟨[], upd_same, rfl, .nil⟩) (.rf p) (h p (o.g.free hp))
/-- sorted(d) of a dict with int keys, fewer than 64 -/
def intKeys : List (Key × D) → Option (List Int)
  | [] => some []
  | (.inl i, _) :: r => (intKeys r).map (i :: ·)
  | (.inr _, _) :: _ => none
theorem intKeys_map : ∀ {kds : List (Key × D)} {ns : List Int}, intKeys kds = some ns → kds.map (·.1) = ns.map Sum.inl
  | [], _, h => by cases h; rfl
  | (.inl i, d) :: r, ns, h => by
    unfold intKeys at h
    cases e : intKeys r with
    | none => rw [e] at h; cases h
    | some m =>
      rw [e] at h
      cases h
      simp [intKeys_map e]
  | (.inr _, _) :: _, _, h => by cases h
end
end DL
end
section
set_option Elab.async false
set_option linter.all false
set_option maxRecDepth 100000
set_option maxHeartbeats 4000000
namespace DL
open PySem PySem.Spec PyProof.Rows L2
def hatE (K : PySem.W.Frag) (t' : DTE) : TE := fun σ H Q => ∃ F S G Q', Ok K F H σ S G ∧ t' S G Q' ∧ KpE K F H G Q' Q
def hatT (K : PySem.W.Frag) (t' : DTT) : TT := fun σ H Q => ∃ F S G Q', Ok K F H σ S G ∧ t' S G Q' ∧ KpT K F H G Q' Q
theorem DE.hat {X : Cx} {e : Expr} {t' : DTE} (h : DE X e t') : PE X e (hatE X.K t') := by
  obtain ⟨t, p, r⟩ := h.ex
  exact ⟨fun pins s σ H Q I ⟨F, S, G, Q', o, h1, k⟩ => p.run pins s σ H Q I (r F H σ S G o Q' h1 Q k)⟩
theorem DT.hat {X : Cx} {e : Expr} {t' : DTT} (h : DT X e t') : PT X e (hatT X.K t') := by
  obtain ⟨t, p, r⟩ := h.ex
  exact ⟨fun pins s σ H Q I ⟨F, S, G, Q', o, h1, k⟩ => p.run pins s σ H Q I (r F H σ S G o Q' h1 Q k)⟩
/-- the tests of a comprehension -/
structure DTs (X : Cx) (ifs : List Expr) (t' : DTT) : Prop where
  pt : PTs X ifs (hatT X.K t')
def dYes : DTT := fun _ G Q => Q true G
theorem dts_nil {X : Cx} : DTs X [] dYes := ⟨⟨fun pins s σ H Q I ⟨F, S, G, Q', o, h1, k⟩ => (pts_nil (X := X)).run pins s σ H Q I (k F H true G Go.refl o.g h1)⟩⟩
theorem dts_one {X : Cx} {c : Expr} {t' : DTT} (h : DT X c t') : DTs X [c] t' := ⟨pts_one h.hat⟩
inductive Pat where
  | nm (i : Nat) | tp (is : List Nat) | tn (i : Nat) (is : List Nat) | nt (is : List Nat) (j : Nat) | nn (is js : List Nat)
def gNames : List Nat → TGs
  | [] => gNil
  | i :: is => gCons (gName i) (gNames is)
def Pat.g (K : PySem.W.Frag) : Pat → TG
  | .nm i => gName i
  | .tp is => gTup K is.length (gNames is)
  | .tn i is => gTup K 2 (gCons (gName i) (gCons (gTup K is.length (gNames is)) gNil))
  | .nt is j => gTup K 2 (gCons (gTup K is.length (gNames is)) (gCons (gName j) gNil))
  | .nn is js => gTup K 2 (gCons (gTup K is.length (gNames is)) (gCons (gTup K js.length (gNames js)) gNil))
def Pat.at_ : Pat → List Nat
  | .nm i => [i]
  | .tp is => is
  | .tn i is => i :: is
  | .nt is j => is ++ [j]
  | .nn is js => is ++ js
def D.parts : D → Option (List D)
  | .tup ds => some ds
  | .kup ds => some ds
  | _ => none
theorem Rep.parts {K : PySem.W.Frag} {F : Hp} {v : V} {d : D} {ds : List D} (r : Rep K F v d) (h : d.parts = some ds) : ∃ a vs, v = .ref a ∧ SqT K F a vs ∧ Reps K F vs ds := by
  cases r with
  | tup ha rs => cases h; exact ⟨_, _, rfl, .inl (.inl ha), rs⟩
  | kup ha rs => cases h; exact ⟨_, _, rfl, ha, rs⟩
  | _ => cases h
def setAll : List Nat → List D → DS → Option DS
  | [], [], S => some S
  | i :: is, d :: ds, S => setAll is ds (S.set i (some d))
  | _, _, _ => none
def Pat.put (p : Pat) (d : D) (S : DS) : Option DS := match p with
  | .nm i => some (S.set i (some d))
  | .tp is => (match d with
    | .tup ds => setAll is ds S
    | .kup ds => setAll is ds S
    | _ => none)
  | .tn i is => (match d with
    | .tup [x, .tup ds] => setAll is ds (S.set i (some x))
    | _ => none)
  | .nt is j => (match d with
    | .tup [x, y] => (match x.parts with
      | some ds => (setAll is ds S).map fun S2 => S2.set j (some y)
      | none => none)
    | _ => none)
  | .nn is js => (match d with
    | .tup [x, y] => (match x.parts, y.parts with
      | some ds, some es => (match setAll is ds S with
        | some S2 => setAll js es S2
        | none => none)
      | _, _ => none)
    | _ => none)
def dwipe (S : DS) : List Nat → DS
  | [] => S
  | v :: vs => (dwipe S vs).set v none
theorem wipe_slots {K : PySem.W.Frag} {F : Hp} {σ : L2.St} {S : DS} (h : Slots K F σ S) : ∀ vs : List Nat, Slots K F (wipe σ vs) (dwipe S vs)
  | [] => h
  | v :: vs => (wipe_slots h vs).setN none v
theorem wipe_set {σ : L2.St} {i : Nat} {x : Option V} : ∀ {vs : List Nat}, i ∈ vs → wipe (σ.set i x) vs = wipe σ vs
  | [], h => by simp at h
  | v :: vs, h => by
    unfold wipe
    by_cases e : i ∈ vs
    · rw [wipe_set e]
    · have iv : i = v := by
        rcases List.mem_cons.mp h with h | h
        · exact h
        · exact absurd h e
      subst iv
      have aux : ∀ us : List Nat, i ∉ us → wipe (σ.set i x) us = (wipe σ us).set i x := by
        intro us
        induction us with
        | nil => intro _; rfl
        | cons u us ih =>
          intro hu
          rw [List.mem_cons, not_or] at hu
          unfold wipe
          rw [ih hu.2, List.set_comm _ _ hu.1]
      rw [aux vs e, List.set_set]
theorem wipe_wipe {σ : L2.St} {vs : List Nat} : wipe (wipe σ vs) vs = wipe σ vs := by
  have aux : ∀ us : List Nat, (∀ u ∈ us, u ∈ vs) → wipe (wipe σ us) vs = wipe σ vs := by
    intro us
    induction us with
    | nil => intro _; rfl
    | cons u us ih =>
      intro hu
      show wipe ((wipe σ us).set u none) vs = _
      rw [wipe_set (hu u (by simp)), ih fun w hw => hu w (by simp [hw])]
  exact aux vs fun _ h => h
theorem names_ok {K : PySem.W.Frag} {F H : Hp} {G : GH} {vs0 : List Nat} : ∀ {is : List Nat} {ds : List D} {vs : List V} {σ : L2.St} {S S2 : DS} {Q : L2.St → Hp → Prop}, (∀ i ∈ is, i ∈ vs0) → Ok K F H σ S G → Reps K F vs ds → setAll is ds S = some S2 →
    (∀ σ2, wipe σ2 vs0 = wipe σ vs0 → Ok K F H σ2 S2 G → Q σ2 H) → gNames is vs σ H Q
  | [], [], vs, σ, S, S2, Q, _, o, r, h, k => by
    cases r
    cases h
    exact ⟨rfl, k σ rfl o⟩
  | i :: is, d :: ds, vs, σ, S, S2, Q, hi, o, r, h, k => by
    cases r with
    | cons a b =>
      refine ⟨_, _, rfl, ?_⟩
      show gNames is _ _ H Q
      refine names_ok (S := S.set i (some d)) (fun j hj => hi j (by simp [hj])) ⟨o.g, o.s.set a i⟩ b h fun σ2 e o2 => k σ2 ?_ o2
      rw [e, wipe_set (hi i (by simp))]
  | [], _ :: _, _, _, _, _, _, _, _, _, h, _ => by cases h
  | _ :: _, [], _, _, _, _, _, _, _, _, h, _ => by cases h
theorem setAll_len : ∀ {is : List Nat} {ds : List D} {S S2 : DS}, setAll is ds S = some S2 → ds.length = is.length
  | [], [], _, _, _ => rfl
  | [], _ :: _, _, _, h => by cases h
  | _ :: _, [], _, _, h => by cases h
  | i :: is, d :: ds, S, S2, h => by
    have := setAll_len (is := is) (ds := ds) (S := S.set i (some d)) h
    simp [this]
theorem put_tn {i : Nat} {is : List Nat} {d : D} {S S2 : DS} (h : (Pat.tn i is).put d S = some S2) : ∃ x ds, d = .tup [x, .tup ds] ∧ setAll is ds (S.set i (some x)) = some S2 := by
  unfold Pat.put at h
  simp only at h
  split at h
  · exact ⟨_, _, rfl, h⟩
  · cases h
theorem pat_ok {K : PySem.W.Frag} {F H : Hp} {G : GH} {vs0 : List Nat} {p : Pat} {d : D} {v : V} {σ : L2.St} {S S2 : DS} {Q : L2.St → Hp → Prop} (hp : ∀ i ∈ p.at_, i ∈ vs0) (o : Ok K F H σ S G) (r : Rep K F v d) (h : p.put d S = some S2)
    (k : ∀ σ2, wipe σ2 vs0 = wipe σ vs0 → Ok K F H σ2 S2 G → Q σ2 H) : p.g K v σ H Q := by
  cases p with
  | nm i =>
    cases h
    exact k _ (wipe_set (hp i (by simp [Pat.at_]))) ⟨o.g, o.s.set r i⟩
  | tp is =>
    unfold Pat.put at h
    cases d with
    | tup ds =>
      simp only at h
      cases r with
      | tup ha rs =>
        have hl : ds.length = is.length := by
          clear ha rs o k hp
          induction is generalizing ds S with
          | nil => cases ds with
            | nil => rfl
            | cons a b => cases h
          | cons i is ih => cases ds with
            | nil => cases h
            | cons a b => simpa using ih _ h
        exact ⟨_, _, rfl, .inl (.inl (o.g.ex _ _ ha)), by rw [rs.length]; exact hl, names_ok hp o rs h k⟩
    | kup ds =>
      simp only at h
      cases r with
      | kup ha rs => exact ⟨_, _, rfl, o.g.ex.sqt ha, by rw [rs.length]; exact setAll_len h, names_ok hp o rs h k⟩
    | _ => cases h
  | tn i is =>
    obtain ⟨x, ds, rfl, h⟩ := put_tn h
    cases r with
    | tup ha rs =>
      cases rs with
      | cons rx rs =>
        cases rs with
        | cons ry rs =>
          cases rs
          cases ry with
          | tup hb ts =>
            have hl : ds.length = is.length := setAll_len h
            refine ⟨_, _, rfl, .inl (.inl (o.g.ex _ _ ha)), rfl, _, _, rfl, ?_⟩
            refine ⟨_, _, rfl, ?_⟩
            refine ⟨_, _, rfl, .inl (.inl (o.g.ex _ _ hb)), by rw [ts.length]; exact hl, ?_⟩
            refine names_ok (S := S.set i (some x)) (fun j hj => hp j (by simp [Pat.at_, hj])) ⟨o.g, o.s.set rx i⟩ ts h fun σ2 e o2 => ⟨rfl, k σ2 ?_ o2⟩
            rw [e, wipe_set (hp i (by simp [Pat.at_]))]
  | nt is j =>
    unfold Pat.put at h
    simp only at h
    split at h
    · rename_i x y
      split at h
      · rename_i ds ex
        cases e2 : setAll is ds S with
        | none => rw [e2] at h; cases h
        | some S3 =>
          rw [e2] at h
          cases h
          cases r with
          | tup ha rs =>
            cases rs with
            | cons rx rs =>
              cases rs with
              | cons ry rs =>
                cases rs
                obtain ⟨a, vs, rfl, hb, ts⟩ := rx.parts ex
                have hl := setAll_len e2
                refine ⟨_, _, rfl, .inl (.inl (o.g.ex _ _ ha)), rfl, _, _, rfl, ?_⟩
                refine ⟨_, _, rfl, o.g.ex.sqt hb, by rw [ts.length]; exact hl, ?_⟩
                refine names_ok (fun i hi => hp i (by simp [Pat.at_, hi])) o ts e2 fun σ2 e o2 => ⟨_, _, rfl, rfl, k _ ?_ ⟨o2.g, o2.s.set ry j⟩⟩
                rw [wipe_set (hp j (by simp [Pat.at_])), e]
      · cases h
    · cases h
  | nn is js =>
    unfold Pat.put at h
    simp only at h
    split at h
    · rename_i x y
      split at h
      · rename_i ds es ex ey
        cases e2 : setAll is ds S with
        | none => rw [e2] at h; cases h
        | some S3 =>
          rw [e2] at h
          cases r with
          | tup ha rs =>
            cases rs with
            | cons rx rs =>
              cases rs with
              | cons ry rs =>
                cases rs
                obtain ⟨a, vs, rfl, hb, ts⟩ := rx.parts ex
                obtain ⟨a', vs', rfl, hb', ts'⟩ := ry.parts ey
                refine ⟨_, _, rfl, .inl (.inl (o.g.ex _ _ ha)), rfl, _, _, rfl, ?_⟩
                refine ⟨_, _, rfl, o.g.ex.sqt hb, by rw [ts.length]; exact setAll_len e2, ?_⟩
                refine names_ok (fun i hi => hp i (by simp [Pat.at_, hi])) o ts e2 fun σ2 e o2 => ⟨_, _, rfl, ?_⟩
                refine ⟨_, _, rfl, o2.g.ex.sqt hb', by rw [ts'.length]; exact setAll_len h, ?_⟩
                refine names_ok (fun i hi => hp i (by simp [Pat.at_, hi])) o2 ts' h fun σ4 e4 o4 => ⟨rfl, k σ4 ?_ o4⟩
                rw [e4, e]
      · cases h
    · cases h
section
variable {X : Cx} {pos : Pos}
/-- [e for p in .. if t] -/
def dLc (wi : DTI) (p : Pat) (tt : DTT) (te : DTE) (vs : List Nat) : DTE := fun S G Q => wi S G fun ds gd G1 => ds.length ≤ sizeLine ∧ ∃ W : Nat → List D → GH → Prop, W 0 [] G1 ∧ (∀ i acc G, W i acc G → gd G) ∧
  (∀ i acc G d, W i acc G → ds[i]? = some d → ∃ S2, p.put d (dwipe S vs) = some S2 ∧ tt S2 G fun b G2 => if b = true then te S2 G2 fun y G3 => W (i + 1) (acc ++ [y]) G3 else W (i + 1) acc G2) ∧
  ∀ acc G, W ds.length acc G → Q (.lst acc) G
/-- the same, the list may change later -/
def dLcM (wi : DTI) (p : Pat) (tt : DTT) (te : DTE) (vs : List Nat) : DTE := fun S G Q => dLc wi p tt te vs S G fun d G' => match d with
  | .lst acc => ∀ a, G' a = none → Q (.rf a) (gput G' a (.lst acc))
  | _ => False
theorem lc_refine {wi : DTI} {p : Pat} {tt : DTT} {te : DTE} {vs : List Nat} {tw : TI} (hp : ∀ i ∈ p.at_, i ∈ vs)
    (r0 : ∀ F H σ S G, Ok X.K F H σ S G → ∀ R', wi S G R' → ∀ R : It → Hp → Prop, (∀ F1 H1 G1 J ds gd, Go F H G F1 H1 G1 → Gok X.K F1 H1 G1 → ItOk X.K F1 J ds gd → R' ds gd G1 → R J H1) → tw σ H R)
    {F H : Hp} {σ : L2.St} {S : DS} {G : GH} (o : Ok X.K F H σ S G) {Q' : List D → GH → Prop} {Q : VK}
    (h : wi S G fun ds gd G1 => ds.length ≤ sizeLine ∧ ∃ W : Nat → List D → GH → Prop, W 0 [] G1 ∧ (∀ i acc G, W i acc G → gd G) ∧
      (∀ i acc G d, W i acc G → ds[i]? = some d → ∃ S2, p.put d (dwipe S vs) = some S2 ∧ tt S2 G fun b G2 => if b = true then te S2 G2 fun y G3 => W (i + 1) (acc ++ [y]) G3 else W (i + 1) acc G2) ∧ ∀ acc G, W ds.length acc G → Q' acc G)
    (k : ∀ F' H' G' D accV acc, H D = none → Go F H G F' H' G' → Gok X.K F' H' G' → H' D = some (.lst accV) → Reps X.K F' accV acc → F' D = none → G' D = none → Q' acc G' → Q (.ref D) H') :
    tLc tw (p.g X.K) (hatT X.K tt) (hatE X.K te) vs σ H Q := by
  refine r0 F H σ S G o _ h _ fun F1 H1 G1 J ds gd e1 g1 it h1 => ?_
  obtain ⟨hz, W, w0, wg, turn, done⟩ := h1
  intro D hD
  have gD : G1 D = none := g1.free hD
  have fD : F1 D = none := g1.ex.nope hD
  have go0 : Go F1 H1 G1 F1 (upd H1 D (.lst [])) G1 := by
    have := (Gr.only (u := .lst []) g1.ex hD).go (G := G1)
    exact this
  have g0 : Gok X.K F1 (upd H1 D (.lst [])) G1 := g1.grow (Gr.only g1.ex hD)
  refine ⟨fun i m H2 => i + m = ds.length ∧ ∃ F2 G2 accV acc, Go F1 H1 G1 F2 H2 G2 ∧ Gok X.K F2 H2 G2 ∧ H2 D = some (.lst accV) ∧ Reps X.K F2 accV acc ∧ F2 D = none ∧ G2 D = none ∧ acc.length ≤ i ∧ W i acc G2,
    ⟨ds.length, Nat.zero_add _, F1, G1, [], [], go0, g0, upd_same, .nil, fD, gD, Nat.le_refl _, w0⟩, ?_⟩
  rintro i m H2 ⟨him, F2, G2, accV, acc, e2, g2, hd2, rs2, fd2, gd2, hl2, w2⟩
  have gg := wg i acc G2 w2
  cases m with
  | zero =>
    have hi : i = ds.length := him
    refine .inl ⟨hi ▸ it.stop F2 H2 G2 e2.ex g2 gg, ?_⟩
    exact k F2 H2 G2 D accV acc (e1.st D hD) (e1.trans e2) g2 hd2 rs2 fd2 gd2 (done acc G2 (hi ▸ w2))
  | succ m =>
    have hlt : i < ds.length := by omega
    have hd : ds[i]? = some ds[i] := List.getElem?_eq_getElem hlt
    obtain ⟨ig, iy⟩ := it.go F2 H2 G2 i _ e2.ex g2 gg hd
    refine .inr ⟨ig, fun H3 => ∃ F3 G3 accV acc, Go F1 H1 G1 F3 H3 G3 ∧ Gok X.K F3 H3 G3 ∧ H3 D = some (.lst accV) ∧ Reps X.K F3 accV acc ∧ F3 D = none ∧ G3 D = none ∧ acc.length ≤ i + 1 ∧ W (i + 1) acc G3,
      fun H3 z => ⟨m, Nat.lt_succ_self m, by omega, z⟩, fun x H3 hy => ?_⟩
    obtain ⟨F3, e3, g3, q3⟩ := iy x H3 hy
    obtain ⟨S2, hS2, body⟩ := turn i acc G2 _ w2 hd
    have o3 : Ok X.K F3 H3 (wipe σ vs) (dwipe S vs) G2 := ⟨g3, wipe_slots (((o.s.mono e1.ex).mono e2.ex).mono e3.ex) vs⟩
    have hd3 : H3 D = some (.lst accV) := (e3.fr D _ hd2 gd2).1
    have fd3 : F3 D = none := e3.no D _ hd2 gd2 fd2 (fun _ z => nomatch z)
    refine pat_ok hp o3 q3 hS2 fun σ2 ew o4 => ⟨by rw [ew, wipe_wipe], ?_⟩
    refine ⟨F3, S2, G2, _, o4, body, fun F5 H5 b G5 e5 g5 h5 => ?_⟩
    have hd5 := e5.fr D _ hd3 gd2
    have fd5 := e5.no D _ hd3 gd2 fd3 (fun _ z => nomatch z)
    cases b with
    | true =>
      dsimp only
      rw [if_pos rfl] at h5 ⊢
      refine ⟨F5, S2, G5, _, o4.go e5 g5, h5, fun F6 H6 y dy G6 e6 g6 r6 h6 => ?_⟩
      have hd6 := e6.fr D _ hd5.1 hd5.2
      have fd6 := e6.no D _ hd5.1 hd5.2 fd5 (fun _ z => nomatch z)
      have r6' := ((rs2.mono e3.ex).mono e5.ex).mono e6.ex
      refine ⟨accV, hd6.1, by rw [rs2.length]; omega, F6, G6, accV ++ [y], acc ++ [dy], ?_, ?_, upd_same, r6'.append (.one r6), fd6, hd6.2, by simp; omega, h6⟩
      · have ea := (((e2.trans e3).trans e5).trans e6)
        refine ⟨ea.ex, fun b u hb gb => ?_, ea.no, fun b z => ea.st b (upd_none z)⟩
        have q : b ≠ D := fun z => by rw [z, hD] at hb; cases hb
        rw [upd_ne q]
        exact ea.fr b u hb gb
      · refine ⟨g6.ex.updR fd6, fun a w ha => ?_, g6.one⟩
        have q : a ≠ D := fun z => by rw [z, hd6.2] at ha; cases ha
        obtain ⟨fa, ma⟩ := g6.at_ a w ha
        refine ⟨fa, ma.move (Ex.refl F6) (fun b u hb hc => ?_) fun c z => z⟩
        have q2 : b ≠ D := fun z => by
          rcases hc with hc | hc
          · exact q (hc ▸ z)
          · rw [z, hd6.2] at hc; cases hc
        rw [upd_ne q2]; exact hb
    | false =>
      dsimp only
      rw [if_neg Bool.false_ne_true] at h5 ⊢
      exact ⟨F5, G5, accV, acc, (e2.trans e3).trans e5, g5, hd5.1, (rs2.mono e3.ex).mono e5.ex, fd5, hd5.2, by omega, h5⟩
/-- freeze what is in no one's hands -/
theorem hold_freeze {K : PySem.W.Frag} {F H : Hp} {G : GH} {D : Addr} {u : HO} (g : Gok K F H G) (hd : H D = some u) (fd : F D = none) (gd : G D = none) : Gok K (upd F D u) H G := by
  refine ⟨fun a w z => ?_, fun a w e => ?_, g.one⟩
  · by_cases q : a = D
    · subst q; rw [upd_same] at z; cases z; exact hd
    · rw [upd_ne q] at z; exact g.ex a w z
  · have q : a ≠ D := fun y => by rw [y, gd] at e; cases e
    obtain ⟨f, m⟩ := g.at_ a w e
    exact ⟨by rw [upd_ne q]; exact f, m.move (Ex.new fd) (fun b w hb _ => hb) fun c z => z⟩
theorem go_hold {F H F' H' : Hp} {G G' : GH} {D : Addr} {u : HO} (h : H D = none) (go : Go F H G F' H' G') (fd : F' D = none) : Go F H G (upd F' D u) H' G' := by
  refine ⟨go.ex.trans (Ex.new fd), go.fr, fun b w hb gb fb t => ?_, go.st⟩
  have q : b ≠ D := fun z => by rw [z, h] at hb; cases hb
  rw [upd_ne q]; exact go.no b w hb gb fb t
theorem de_lc {elt tg iter : Expr} {ifs : List Expr} {scope : Scope} {own : List (Str × Nat)} {wi : DTI} {p : Pat} {tt : DTT} {te : DTE} (hc : X.calm = true) (hN : X.N.Nodup) (hi : DI X tg iter wi) (ok : BlkOk X.N X.env.scope scope own) (hp : ∀ i ∈ p.at_, i ∈ own.map (·.2))
    (hg : ∀ (s : Shared) (H : Hp) (C : Addr) (cl : List (Str × Addr)) (fp : List Addr), PG (X.blk s H scope (compEnvC scope cl C X.env) fp) tg (p.g X.K)) (ht : ∀ (s : Shared) (H : Hp) (C : Addr) (cl : List (Str × Addr)) (fp : List Addr), DTs (X.blk s H scope (compEnvC scope cl C X.env) fp) ifs tt)
    (he : ∀ (s : Shared) (H : Hp) (C : Addr) (cl : List (Str × Addr)) (fp : List Addr), DE (X.blk s H scope (compEnvC scope cl C X.env) fp) elt te) (hs : ∀ x, foldedSetIterable iter X.env x = pure x := by intro _; rfl) :
    DE X (.ListComp elt [⟨tg, iter, ifs, 0⟩] scope pos) (dLc wi p tt te (own.map (·.2))) := by
  obtain ⟨tw, p0, r0⟩ := hi.ex
  refine ⟨_, pe_lc (tt := hatT X.K tt) (te := hatE X.K te) hc hN p0 ok hg (fun s H C cl fp => (ht s H C cl fp).pt) (fun s H C cl fp => (he s H C cl fp).hat) hs, fun F H σ S G o Q' h Q k => ?_⟩
  refine lc_refine hp r0 o (Q' := fun acc G' => Q' (.lst acc) G') h fun F' H' G' D accV acc hD go g hd rs fd gd q => ?_
  exact k _ H' _ _ G' (go_hold hD go fd) (hold_freeze g hd fd gd) (.lst upd_same (rs.mono (Ex.new fd))) q
/-- name = [..] on one line -/
theorem dp_setLc {i : Nat} {y : Str} {py spos : Pos} {elt tg iter : Expr} {ifs : List Expr} {scope : Scope} {own : List (Str × Nat)} {wi : DTI} {p : Pat} {tt : DTT} {te : DTE} (hc : X.calm = true) (hN : X.N.Nodup) (hy : X.N[i]? = some y) (hyl : X.env.scope.names.lookup y = some .local)
    (hsw : swapsWith (.ListComp elt [⟨tg, iter, ifs, 0⟩] scope pos) (some (.Name y py)) spos.line X.env = pure true) (hi : DI X tg iter wi) (ok : BlkOk X.N X.env.scope scope own) (hp : ∀ i ∈ p.at_, i ∈ own.map (·.2))
    (hg : ∀ (s : Shared) (H : Hp) (C : Addr) (cl : List (Str × Addr)) (fp : List Addr), PG (X.blk s H scope (compEnvC scope cl C X.env) fp) tg (p.g X.K)) (ht : ∀ (s : Shared) (H : Hp) (C : Addr) (cl : List (Str × Addr)) (fp : List Addr), DTs (X.blk s H scope (compEnvC scope cl C X.env) fp) ifs tt)
    (he : ∀ (s : Shared) (H : Hp) (C : Addr) (cl : List (Str × Addr)) (fp : List Addr), DE (X.blk s H scope (compEnvC scope cl C X.env) fp) elt te) (hs : ∀ x, foldedSetIterable iter X.env x = pure x := by intro _; rfl) :
    DP X (.Assign [.Name y py] (.ListComp elt [⟨tg, iter, ifs, 0⟩] scope pos) spos) (dAsg (dLc wi p tt te (own.map (·.2))) (dgName i)) := by
  obtain ⟨tw, p0, r0⟩ := hi.ex
  refine ⟨_, ps_setLc (tt := hatT X.K tt) (te := hatE X.K te) hc hN hy hyl hsw p0 ok hg (fun s H C cl fp => (ht s H C cl fp).pt) (fun s H C cl fp => (he s H C cl fp).hat) hs, fun F H σ S G o D' h D0 k => ?_⟩
  refine lc_refine hp r0 o (Q' := fun acc G' => D'.nx (S.set i (some (.lst acc))) G') h fun F' H' G' D accV acc hD go g hd rs fd gd q => ?_
  have go2 := go_hold (u := .lst accV) hD go fd
  exact k.nx _ H' _ _ G' go2 ⟨hold_freeze g hd fd gd, (o.s.mono go2.ex).set (.lst upd_same (rs.mono (Ex.new fd))) i⟩ q
end
end DL
end
section
set_option Elab.async false
set_option linter.all false
set_option maxRecDepth 100000
set_option maxHeartbeats 4000000
namespace DL
open PySem PySem.Spec PyProof.Rows L2
def D.hasTy (T : String) : D → Bool
  | .lst _ => T == "list"
  | .str _ => T == "str"
  | .dK _ => T == "dict"
  | .dT _ => T == "dict"
  | _ => false
section
variable {X : Cx} {pos : Pos}
structure MtD (X : Cx) (id : String) (r' : D → List D → GH → DQ → Prop) : Prop where
  ex : ∃ r, MtR X id r ∧ ∀ F H G x dx vs ds, Gok X.K F H G → Rep X.K F x dx → Reps X.K F vs ds → ∀ Q', r' dx ds G Q' → ∀ Q, KpE X.K F H G Q' Q → r x vs H Q
theorem hasTy_tyV {F H : Hp} {G : GH} {v : V} {d : D} {T : String} (g : Gok X.K F H G) (r : Rep X.K F v d) (h : D.hasTy T (d.cur G) = true) : tyV X.K T v H := by
  cases e : d.cur G with
  | lst xs =>
    rw [e] at h
    obtain ⟨a, vs, rfl, ha, _⟩ := cur_list g r e
    exact .inl ⟨by simpa [D.hasTy] using h, vs, .inl (.inl ha)⟩
  | str z =>
    rw [e] at h
    rw [cur_str r e]
    show T = "str"
    simpa [D.hasTy] using h
  | dK kds =>
    rw [e] at h
    obtain ⟨a, kvs, rfl, ha, _⟩ := cur_dK g r e
    exact .inr (.inr (.inl ⟨by simpa [D.hasTy] using h, .inl ⟨kvs, ha⟩⟩))
  | dT kds =>
    rw [e] at h
    obtain ⟨a, kvs, rfl, ha, _⟩ := cur_dT g r e
    exact .inr (.inr (.inl ⟨by simpa [D.hasTy] using h, .inr ⟨kvs, ha⟩⟩))
  | _ => rw [e] at h; cases h
def dBM (T : String) (r : D → List D → GH → DQ → Prop) (to : DTE) (ta : DTA) : DTE := fun S G Q => to S G fun x G1 => D.hasTy T (x.cur G1) = true ∧ ta S G1 fun ds G2 => r x ds G2 Q
theorem de_bm {T id : String} {name : Str} {o e : Expr} {es : List Expr} {r' : D → List D → GH → DQ → Prop} {to : DTE} {ta : DTA} {apos : Pos} (pa : PlainAttrs T) (slot : Slot T name id) (hty : typeOf (.builtin id) = pure (.type "method_descriptor")) (hm : MtD X id r') (ho : DE X o to) (ha : DA X (e :: es) ta)
    (hbase : attributeBase o name X.env (eval o X.env) = eval o X.env := by rfl)
    (hfew : ((backTo pos (starEach (e :: es) X.env)).all (fun x => !x.1) && (backToKw pos (keywordEach [] X.env)).all (fun x => x.1.isSome) && decide ((e :: es).length + ([] : List Keyword).length + (if ([] : List Keyword).isEmpty then 0 else 1) < 30)) = true := by rfl)
    (hline : (apos.endLine == pos.line) = true := by rfl) (hs : starEach (e :: es) X.env = (false, eval e X.env) :: starEach es X.env := by rfl) (hplain : (backTo pos (starEach es X.env)).any (·.1) = false := by rfl) :
    DE X (.Call (.Attribute o name apos) (e :: es) [] pos) (dBM T r' to ta) := by
  obtain ⟨r, hr, rr⟩ := hm.ex
  obtain ⟨t1, p1, r1⟩ := ho.ex
  obtain ⟨t2, p2, r2⟩ := ha.ex
  refine ⟨_, pe_bm pa slot hty hr p1 p2 hbase hfew hline hs hplain, fun F H σ S G o Q' h Q k => ?_⟩
  refine r1 F H σ S G o _ h _ fun F1 H1 v d G1 e1 g1 q1 h1 => ?_
  refine ⟨hasTy_tyV g1 q1 h1.1, ?_⟩
  refine r2 F1 H1 σ S G1 (o.go e1 g1) _ h1.2 _ fun F2 H2 vs ds G2 e2 g2 q2 h2 => ?_
  exact rr F2 H2 G2 v d vs ds g2 (q1.mono e2.ex) q2 Q' h2 Q (k.mono (e1.trans e2))
def dBM0 (T : String) (r : D → List D → GH → DQ → Prop) (to : DTE) : DTE := fun S G Q => to S G fun x G1 => D.hasTy T (x.cur G1) = true ∧ r x [] G1 Q
theorem de_bm0 {T id : String} {name : Str} {o : Expr} {r' : D → List D → GH → DQ → Prop} {to : DTE} {apos : Pos} (pa : PlainAttrs T) (slot : Slot T name id) (hty : typeOf (.builtin id) = pure (.type "method_descriptor")) (hm : MtD X id r') (ho : DE X o to)
    (hbase : attributeBase o name X.env (eval o X.env) = eval o X.env := by rfl) (hline : (apos.endLine == pos.line) = true := by rfl) :
    DE X (.Call (.Attribute o name apos) [] [] pos) (dBM0 T r' to) := by
  obtain ⟨r, hr, rr⟩ := hm.ex
  obtain ⟨t1, p1, r1⟩ := ho.ex
  refine ⟨_, pe_bm0 pa slot hty hr p1 hbase hline, fun F H σ S G o Q' h Q k => ?_⟩
  refine r1 F H σ S G o _ h _ fun F1 H1 v d G1 e1 g1 q1 h1 => ?_
  exact ⟨hasTy_tyV g1 q1 h1.1, rr F1 H1 G1 v d [] [] g1 q1 .nil Q' h1.2 Q (k.mono e1)⟩
/-- l.append(e) -/
def rAppendD (x : D) (ds : List D) (G : GH) (Q : DQ) : Prop := match x, ds with
  | .rf a, [d] => (match G a with
    | some (.lst xs) => xs.length < sizeLine ∧ Q .non (gput G a (.lst (xs ++ [d])))
    | _ => False)
  | _, _ => False
theorem md_append : MtD X "list.append" rAppendD := by
  refine ⟨_, mt_append, fun F H G x dx vs ds g rx rs Q' h Q k => ?_⟩
  unfold rAppendD at h
  split at h
  · rename_i a d
    split at h
    · rename_i xs eg
      cases rx
      cases rs with
      | cons r b =>
        cases b
        obtain ⟨fa, ws, ha, rw'⟩ := g.at_ a _ eg
        refine ⟨a, ws, _, rfl, rfl, ha, by rw [rw'.length]; exact h.1, ?_⟩
        exact k F _ _ _ _ (Go.put eg) (g.put (o := .lst (xs ++ [d])) eg rfl rfl ⟨_, upd_same, rw'.append (.one r)⟩) .non h.2
    · exact h.elim
  · exact h.elim
/-- l.extend(m) -/
def rExtendD (x : D) (ds : List D) (G : GH) (Q : DQ) : Prop := match x, ds with
  | .rf a, [d] => (match G a, d.cur G with
    | some (.lst xs), .lst ys => xs.length + ys.length ≤ sizeLine ∧ Q .non (gput G a (.lst (xs ++ ys)))
    | _, _ => False)
  | _, _ => False
theorem md_extend : MtD X "list.extend" rExtendD := by
  refine ⟨_, mt_extend, fun F H G x dx vs ds g rx rs Q' h Q k => ?_⟩
  unfold rExtendD at h
  split at h
  · rename_i a d
    split at h
    · rename_i xs ys eg ey
      cases rx
      cases rs with
      | cons r b =>
        cases b
        obtain ⟨fa, ws, ha, rw'⟩ := g.at_ a _ eg
        obtain ⟨b, zs, rfl, hb, rz⟩ := cur_list g r ey
        refine ⟨a, b, ws, zs, rfl, rfl, ha, hb, by rw [rw'.length, rz.length]; exact h.1, ?_⟩
        exact k F _ _ _ _ (Go.put eg) (g.put (o := .lst (xs ++ ys)) eg rfl rfl ⟨_, upd_same, rw'.append rz⟩) .non h.2
    · exact h.elim
  · exact h.elim
/-- l.pop() -/
def rPopD (x : D) (ds : List D) (G : GH) (Q : DQ) : Prop := match x, ds with
  | .rf a, [] => (match G a with
    | some (.lst xs) => (match xs[xs.length - 1]? with
      | some d => Q d (gput G a (.lst xs.dropLast))
      | none => False)
    | _ => False)
  | _, _ => False
theorem Reps.dropLast {K : PySem.W.Frag} {F : Hp} {vs : List V} {ds : List D} (r : Reps K F vs ds) : Reps K F vs.dropLast ds.dropLast := by
  rw [List.dropLast_eq_take, List.dropLast_eq_take, r.length]
  exact r.take _
theorem md_pop : MtD X "list.pop" rPopD := by
  refine ⟨_, mt_pop, fun F H G x dx vs ds g rx rs Q' h Q k => ?_⟩
  unfold rPopD at h
  split at h
  · rename_i a
    split at h
    · rename_i xs eg
      split at h
      · rename_i d ed
        cases rx
        cases rs
        obtain ⟨fa, ws, ha, rw'⟩ := g.at_ a _ eg
        obtain ⟨v, hv, rv⟩ := rw'.get ed
        refine ⟨a, ws, v, rfl, rfl, ha, by rw [rw'.length]; exact hv, ?_⟩
        exact k F _ _ _ _ (Go.put eg) (g.put (o := .lst xs.dropLast) eg rfl rfl ⟨_, upd_same, rw'.dropLast⟩) rv h
      · exact h.elim
    · exact h.elim
  · exact h.elim
/-- sep.join(texts) -/
def texts : List D → Option (List Str)
  | [] => some []
  | .str x :: r => (texts r).map (x :: ·)
  | _ :: _ => none
theorem texts_rep {K : PySem.W.Frag} {F : Hp} : ∀ {ds : List D} {xs : List Str} {vs : List V}, texts ds = some xs → Reps K F vs ds → vs = xs.map V.str
  | [], xs, _, h, .nil => by cases h; rfl
  | .str x :: r, xs, _, h, .cons a b => by
    unfold texts at h
    cases e : texts r with
    | none => rw [e] at h; cases h
    | some m =>
      rw [e] at h
      cases h
      cases a
      simp [texts_rep e b]
  | .non :: _, _, _, h, _ => by cases h
  | .bl _ :: _, _, _, h, _ => by cases h
  | .int _ :: _, _, _, h, _ => by cases h
  | .ty _ :: _, _, _, h, _ => by cases h
  | .tup _ :: _, _, _, h, _ => by cases h
  | .lst _ :: _, _, _, h, _ => by cases h
  | .dK _ :: _, _, _, h, _ => by cases h
  | .dT _ :: _, _, _, h, _ => by cases h
  | .obj _ _ :: _, _, _, h, _ => by cases h
  | .rf _ :: _, _, _, h, _ => by cases h
  | .scr _ :: _, _, _, h, _ => by cases h
  | .kup _ :: _, _, _, h, _ => by cases h
def rJoinD (x : D) (ds : List D) (G : GH) (Q : DQ) : Prop := match x, ds with
  | .str a, [d] => (match d.cur G with
    | .lst ys => (match texts ys with
      | some zs => (zs.map (·.length)).sum + zs.length * a.length ≤ 16777216 ∧ Q (.str (Txt.join a zs)) G
      | none => False)
    | .tup ys => (match texts ys with
      | some zs => (zs.map (·.length)).sum + zs.length * a.length ≤ 16777216 ∧ Q (.str (Txt.join a zs)) G
      | none => False)
    | _ => False)
  | _, _ => False
theorem md_join : MtD X "str.join" rJoinD := by
  refine ⟨_, mt_join, fun F H G x dx vs ds g rx rs Q' h Q k => ?_⟩
  unfold rJoinD at h
  split at h
  · rename_i a d
    cases rx
    cases rs with
    | cons r b =>
      cases b
      split at h
      · rename_i ys ey
        split at h
        · rename_i zs ez
          obtain ⟨p, ws, rfl, hp, rw'⟩ := cur_list g r ey
          have := texts_rep ez rw'
          subst this
          exact ⟨a, p, zs, rfl, rfl, .inl (.inl (.inl hp)), h.1, k F H _ _ G Go.refl g (.str _) h.2⟩
        · exact h.elim
      · rename_i ys ey
        split at h
        · rename_i zs ez
          obtain ⟨p, ws, rfl, hp, rw'⟩ := cur_tup r ey
          have := texts_rep ez rw'
          subst this
          exact ⟨a, p, zs, rfl, rfl, .inr (.inl (.inl (g.ex _ _ hp))), h.1, k F H _ _ G Go.refl g (.str _) h.2⟩
        · exact h.elim
      · exact h.elim
  · exact h.elim
def dGet1 (td ty : DTE) : DTE := fun S G Q => td S G fun x G1 => D.hasTy "dict" (x.cur G1) = true ∧ ty S G1 fun y G2 => match (x.cur G2).look y with
  | some o => Q (o.getD .non) G2
  | none => False
def dGet2 (td ty tx : DTE) : DTE := fun S G Q => td S G fun x G1 => D.hasTy "dict" (x.cur G1) = true ∧ ty S G1 fun y G2 => tx S G2 fun z G3 => match (x.cur G3).look y with
  | some o => Q (o.getD z) G3
  | none => False
theorem de_ty {x : Str} {T : String} (hg : Gl X x) (hm : X.mg x = none) (hv : bootBuiltins x = some (.type T)) (hn : x ≠ "__name__" := by decide) (hd : (x == ("__debug__" : Str)) = false := by decide) : DE X (.Name x pos) (dC (.ty T)) :=
  dc_of (pe_bltn (v := .ty T) hg hm hv rfl hn hd) fun _ => .ty T
def D.tyN : D → Option String
  | .non => some "NoneType"
  | .bl _ => some "bool"
  | .int _ => some "int"
  | .str _ => some "str"
  | .tup _ => some "tuple"
  | .lst _ => some "list"
  | .dK _ => some "dict"
  | .dT _ => some "dict"
  | _ => none
theorem tyN_of {F H : Hp} {G : GH} {v : V} {d : D} {n : String} (g : Gok X.K F H G) (r : Rep X.K F v d) (h : (d.cur G).tyN = some n) : TyOf X.K H v (.type n) := by
  cases e : d.cur G with
  | lst xs =>
    rw [e] at h; cases h
    obtain ⟨a, vs, rfl, ha, _⟩ := cur_list g r e
    exact .lst ha
  | tup xs =>
    rw [e] at h; cases h
    obtain ⟨a, vs, rfl, ha, _⟩ := cur_tup r e
    exact .tup (g.ex _ _ ha)
  | dK kds =>
    rw [e] at h; cases h
    obtain ⟨a, kvs, rfl, ha, _⟩ := cur_dK g r e
    exact .dK ha
  | dT kds =>
    rw [e] at h; cases h
    obtain ⟨a, kvs, rfl, ha, _⟩ := cur_dT g r e
    exact .dT ha
  | str z => rw [e] at h; cases h; rw [cur_str r e]; exact .str z
  | int z => rw [e] at h; cases h; rw [cur_int r e]; exact .int z
  | non =>
    rw [e] at h; cases h
    cases d <;> first | (cases r; exact .non) | (exfalso; simp [D.cur] at e; done) | skip
    · rename_i a
      exfalso
      unfold D.cur at e
      cases q : G a with
      | none => simp only [q] at e; cases e
      | some o => cases o <;> (simp only [q] at e; cases e)
  | bl b =>
    rw [e] at h; cases h
    cases d <;> first | (cases e; cases r; exact .bl _) | (exfalso; simp [D.cur] at e; done) | skip
    · rename_i a
      exfalso
      unfold D.cur at e
      cases q : G a with
      | none => simp only [q] at e; cases e
      | some o => cases o <;> (simp only [q] at e; cases e)
  | _ => rw [e] at h; cases h
def rIsiD (ds : List D) (G : GH) (Q : DQ) : Prop := match ds with
  | [d, .ty T] => (match (d.cur G).tyN with
    | some n => (match kitB n T with
      | some b => Q (.bl b) G
      | none => False)
    | none => False)
  | _ => False
theorem cd_isi : CallD X (.builtin "isinstance") rIsiD := by
  refine ⟨_, call_isi, fun F H G vs ds g rs Q' h Q k => ?_⟩
  unfold rIsiD at h
  split at h
  · rename_i d T
    split at h
    · rename_i n en
      split at h
      · rename_i b eb
        cases rs with
        | cons r rest =>
          cases rest with
          | cons r2 rest2 =>
            cases rest2
            cases r2
            exact ⟨_, _, .type n, .type T, b, rfl, .ty T, .base (tyN_of g r en), kit_ty eb, k F H _ _ G Go.refl g (.bl _) h⟩
      · exact h.elim
    · exact h.elim
  · exact h.elim
def bools : List D → Option (List Bool)
  | [] => some []
  | .bl x :: r => (bools r).map (x :: ·)
  | _ :: _ => none
theorem bools_rep {K : PySem.W.Frag} {F : Hp} : ∀ {ds : List D} {xs : List Bool} {vs : List V}, bools ds = some xs → Reps K F vs ds → vs = xs.map V.bl
  | [], xs, _, h, .nil => by cases h; rfl
  | .bl x :: r, xs, _, h, .cons a b => by
    unfold bools at h
    cases e : bools r with
    | none => rw [e] at h; cases h
    | some m =>
      rw [e] at h
      cases h
      cases a
      simp [bools_rep e b]
  | .non :: _, _, _, h, _ => by cases h
  | .str _ :: _, _, _, h, _ => by cases h
  | .int _ :: _, _, _, h, _ => by cases h
  | .ty _ :: _, _, _, h, _ => by cases h
  | .tup _ :: _, _, _, h, _ => by cases h
  | .lst _ :: _, _, _, h, _ => by cases h
  | .dK _ :: _, _, _, h, _ => by cases h
  | .dT _ :: _, _, _, h, _ => by cases h
  | .obj _ _ :: _, _, _, h, _ => by cases h
  | .rf _ :: _, _, _, h, _ => by cases h
  | .scr _ :: _, _, _, h, _ => by cases h
  | .kup _ :: _, _, _, h, _ => by cases h
theorem bools_map (bs : List Bool) : bools (bs.map D.bl) = some bs := by
  induction bs with
  | nil => rfl
  | cons b bs ih => simp [bools, ih]
def rAllD (ds : List D) (G : GH) (Q : DQ) : Prop := match ds with
  | [d] => (match d.cur G with
    | .lst ys => (match bools ys with
      | some bs => Q (.bl (bs.all id)) G
      | none => False)
    | _ => False)
  | _ => False
theorem cd_all (hc : X.calm = true) : CallD X (.builtin "all") rAllD := by
  refine ⟨_, cr_all hc, fun F H G vs ds g rs Q' h Q k => ?_⟩
  unfold rAllD at h
  split at h
  · rename_i d
    cases rs with
    | cons r b =>
      cases b
      split at h
      · rename_i ys ey
        split at h
        · rename_i bs eb
          obtain ⟨p, ws, rfl, hp, rw'⟩ := cur_list g r ey
          have := bools_rep eb rw'
          subst this
          exact ⟨p, bs, rfl, .inl (.inl hp), k F H _ _ G Go.refl g (.bl _) h⟩
        · exact h.elim
      · exact h.elim
  · exact h.elim
end
end DL
end
section
set_option Elab.async false
set_option linter.all false
set_option maxRecDepth 100000
set_option maxHeartbeats 4000000
namespace DL
open PySem PySem.Spec PyProof.Rows L2
def D.le (x y : D) : Bool := PySem.W.dataLe false D.py x y
def sortD (ds : List D) : List D := ds.mergeSort D.le
def okS (ds : List D) : Bool := D.pls ds && (ds.all fun x => ds.all fun y => PySem.W.alike x.py y.py) && (ds.all fun x => decide (x.py.depth ≤ 60)) &&
  ((ds.all fun x => match x with | .tup (_ :: _) => true | _ => false) || (ds.all fun x => match x with | .tup _ => false | .kup _ => false | .non => false | _ => true))
def rSortA (K : PySem.W.Frag) : List V → Hp → VK → Prop := fun vs H Q => ∃ (a : Addr) (bs : List (V × D)), vs = [.ref a] ∧ SqL K H a (bs.map (·.1)) ∧ (∀ b ∈ bs, Dp K H b.1 b.2.py) ∧ okS (bs.map (·.2)) = true ∧
  ∀ p, H p = none → Q (.ref p) (upd H p (.lst ((bs.mergeSort (PySem.W.dataLe false fun b => b.2.py)).map (·.1))))
section
variable {X : Cx} {pos : Pos}
theorem each_of {R : Value → (V × D) → Prop} : ∀ {us : List Value} {bs : List (V × D)}, Vals (bs.map (·.1)) us → (∀ b ∈ bs, ∀ u, RelV b.1 u → R u b) → PySem.W.EachIs R us bs
  | _, [], r, _ => by
    cases r
    exact .nil
  | _, b :: bs, r, h => by
    rw [List.map_cons] at r
    cases r with
    | cons a t => exact .cons (h b (by simp) _ a) (each_of t fun c hc => h c (by simp [hc]))
theorem vals_each : ∀ {us : List Value} {bs : List (V × D)}, PySem.W.EachIs (fun u b => RelV b.1 u) us bs → Vals (bs.map (·.1)) us
  | _, _, .nil => .nil
  | _, _, .cons h t => .cons h (vals_each t)
theorem okS_of {ds : List D} (h : okS ds = true) : D.pls ds = true ∧ PySem.W.AllAlike (ds.map D.py) ∧ (∀ d ∈ ds, d.py.depth ≤ 60) ∧ PySem.W.Sortable (ds.map D.py) := by
  unfold okS at h
  simp only [Bool.and_eq_true, Bool.or_eq_true, List.all_eq_true, decide_eq_true_eq] at h
  obtain ⟨⟨⟨h1, h2⟩, h3⟩, h4⟩ := h
  refine ⟨h1, fun d hd d' hd' => ?_, h3, ?_⟩
  · obtain ⟨x, hx, rfl⟩ := List.mem_map.mp hd
    obtain ⟨y, hy, rfl⟩ := List.mem_map.mp hd'
    exact h2 x hx y hy
  · rcases h4 with h4 | h4
    · refine .inl fun d hd => ?_
      obtain ⟨x, hx, rfl⟩ := List.mem_map.mp hd
      have := h4 x hx
      split at this
      · exact ⟨_, _, rfl⟩
      · cases this
    · refine .inr fun d hd => ?_
      obtain ⟨x, hx, rfl⟩ := List.mem_map.mp hd
      have := h4 x hx
      have hp : x.pl = true := by
        rw [D.pls_all, List.all_eq_true] at h1
        exact h1 x hx
      cases x <;> first | (simp at this; done) | (simp [D.pl] at hp; done) | exact ⟨by simp [D.py], fun xs => by simp [D.py]⟩
theorem cr_sortA (hu : X.A.units + 100 < cLine) : CallR X (.builtin "sorted") (rSortA X.K) := by
  intro pins s σ H vs us Q I r h
  obtain ⟨a, bs, rfl, hs, hd, hok, q⟩ := h
  obtain ⟨its, rv, hl, hz⟩ := I.list hs
  rw [Vals.ref1 r]
  obtain ⟨o1, o2, o3, o4⟩ := okS_of hok
  have hz' : bs.length ≤ sizeLine := by simpa using hz
  have em : (bs.map fun b => b.2.py) = (bs.map (·.2)).map D.py := by simp
  refine PySem.W.sorted_data (R := fun u b => RelV b.1 u) (enc := fun b : V × D => b.2.py) (bs := bs) hl.isList (each_of rv fun b _ u ru => ru) (each_of rv fun b hb u ru => ?_) (by rw [em]; exact o2) (by rw [em]; exact o4) hz' (fun b hb => ?_) fun out hlen ho => ?_
  · exact Dp.reads I _ _ _ (hd b hb) ru
  · have := o3 b.2 (List.mem_map.mpr ⟨b, hb, rfl⟩)
    show X.A.units + 2 + b.2.py.depth < cLine
    omega
  · obtain ⟨ep, he'⟩ := PyProof.Rows.sortedAll_at s.heap its out.toArray
    have hlen' : ((bs.mergeSort (PySem.W.dataLe false fun b => b.2.py)).map (·.1)).length ≤ sizeLine := by
      rw [List.length_map, List.length_mergeSort]
      exact hz'
    exact ⟨.ref _, upd H (s.heap.objs.size + 1) (.lst ((bs.mergeSort (PySem.W.dataLe false fun b => b.2.py)).map (·.1))), I.laid (t' := s.toks) (fun _ _ => PyProof.Rows.sortedAll_old) (Nat.le_succ _) ⟨hlen', out, ep, vals_each ho, he'⟩, rfl, q _ (I.hok.fresh (Nat.le_succ _))⟩
theorem zip_fst : ∀ {K : PySem.W.Frag} {F : Hp} {vs : List V} {ds : List D}, Reps K F vs ds → (vs.zip ds).map (·.1) = vs ∧ (vs.zip ds).map (·.2) = ds
  | _, _, _, _, .nil => ⟨rfl, rfl⟩
  | _, _, _, _, .cons a b => by
    obtain ⟨h1, h2⟩ := zip_fst b
    simp [h1, h2]
theorem zip_rep : ∀ {K : PySem.W.Frag} {F : Hp} {vs : List V} {ds : List D}, Reps K F vs ds → ∀ b ∈ vs.zip ds, Rep K F b.1 b.2
  | _, _, _, _, .nil, b, h => by simp at h
  | _, _, _, _, .cons (v := v) (d := d) a t, b, h => by
    rw [List.zip_cons_cons, List.mem_cons] at h
    rcases h with rfl | h
    · exact a
    · exact zip_rep t b h
theorem Reps.of_zip {K : PySem.W.Frag} {F : Hp} : ∀ (bs : List (V × D)), (∀ b ∈ bs, Rep K F b.1 b.2) → Reps K F (bs.map (·.1)) (bs.map (·.2))
  | [], _ => .nil
  | b :: bs, h => .cons (h b (by simp)) (Reps.of_zip bs fun c hc => h c (by simp [hc]))
/-- sorted(l): a new list; of a dict with int keys -/
def rSortD (ds : List D) (G : GH) (Q : DQ) : Prop := match ds with
  | [d] => (match d.cur G with
    | .lst xs => okS xs = true ∧ Q (.lst (sortD xs)) G
    | .dK kds => (match intKeys kds with
      | some ns => ns.length < 100000 ∧ Q (.lst ((ns.mergeSort (· ≤ ·)).map .int)) G
      | none => False)
    | _ => False)
  | _ => False
theorem isort_uniq {ns ms : List Int} (p : ms.Perm ns) (s : ms.Pairwise (· ≤ ·)) : ms = ns.mergeSort (· ≤ ·) := by
  have h2 : (ns.mergeSort (· ≤ ·)).Pairwise (fun a b : Int => (decide (a ≤ b)) = true) := List.pairwise_mergeSort (le := fun a b : Int => decide (a ≤ b)) (by intro a b c; simp; omega) (by intro a b; simp; omega) ns
  refine List.Perm.eq_of_pairwise (le := fun a b : Int => a ≤ b) (fun a b _ _ h1 h2 => Int.le_antisymm h1 h2) s (h2.imp fun h => of_decide_eq_true h) (p.trans (List.mergeSort_perm ns _).symm)
/-- sorted(d) of a dict whose keys are ints, however many -/
theorem cr_sortKeys (hc : X.calm = true) : CallR X (.builtin "sorted") (fun vs H Q => ∃ (a : Addr) (kvs : List (Key × V)) (ns : List Int), vs = [.ref a] ∧ Rd H a (.dK kvs) ∧ kvs.map (·.1) = ns.map Sum.inl ∧ ns.length < 100000 ∧
    ∀ (ms : List Int) (p : Addr), ms.Perm ns → ms.Pairwise (· ≤ ·) → H p = none → Q (.ref p) (upd H p (.lst (ms.map V.int)))) := by
  intro pins s σ H vs us Q I r h
  obtain ⟨a, kvs, ns, rfl, hd, hk, hz, q⟩ := h
  rw [Vals.ref1 r]
  obtain ⟨z, lo, ws, rel, dd⟩ := dk_rd I.hok hd
  obtain ⟨ep, hat⟩ := dd.dictAt
  have wk : ws.map (·.1) = ns.map Sum.inl := rel.keys.symm.trans hk
  have wl : ws.length = ns.length := by simpa using congrArg List.length wk
  have big : 100000 < sizeLine := by rw [sizeLine_eq]; omega
  refine Calls.call_function_entry PyProof.Rows.kind_sorted PyProof.Rows.plain_sorted PyProof.Rows.entry_sorted (PyProof.Rows.args_sorted1 _) ?_
  unfold Builtin.«sorted»
  refine wpAny_bind (m := checkCount "sorted" 1 1 _) (wpAny_pure ?_)
  refine wpAny_bind (PySem.W.kdu_collect (A := X.A.in1) (PySem.W.kdl_dict (knd := mixKind X.prog X.w) (kvs := ws) (ep := ep) lo) (I.ok.hd hc) hat (by omega) fun h' tk acc hs hacc => ?_)
  have al : acc.toList.length = ns.length := by rw [Array.length_toList, hacc.1, wl]
  have its : IntsAre acc.toList ns := L2.ints_each al fun j v e => by
    obtain ⟨k, x, e1, e2⟩ := hacc.2 j v (by rw [← Array.getElem?_toList]; exact e)
    have e3 : (ns.map (Sum.inl (β := Str)))[j]? = some k := by rw [← wk, List.getElem?_map, e1]; rfl
    obtain ⟨n, e4, rfl⟩ : ∃ n, ns[j]? = some n ∧ Sum.inl n = k := by
      rw [List.getElem?_map] at e3
      cases e4 : ns[j]? with
      | none => rw [e4] at e3; cases e3
      | some n => rw [e4] at e3; exact ⟨n, rfl, by simpa using e3⟩
    rcases keyIs_shape (show keyIs (Sum.inl n) v = true from e2) with ⟨i, t, ek, ev⟩ | ⟨_, _, ek, _⟩
    · cases ek
      exact ⟨n, t, e4, ev⟩
    · cases ek
  have I1 : Inv X pins σ H { s with heap := h', toks := tk } := I.kept hs
  refine wpAny_bind (wpAny_newList ?_ (by rw [al]; omega))
  have atL : (h'.push (seqObj "list" acc.toList.toArray 0)).get? h'.objs.size = some (seqObj "list" acc.toList.toArray 0) := Heap.get?_push_size _ rfl
  show wpAny _ _ _ _ _ { s with heap := h'.push (seqObj "list" acc.toList.toArray 0), toks := tk }
  refine wpAny_bind (wpAny_holding (wpAny_call_entry PyProof.Rows.slot_list_sort ⟨_, atL, rfl⟩ PyProof.Rows.entry_list_sort
    (PyProof.Rows.list_sort_treeAny (s := { s with heap := h'.push (seqObj "list" acc.toList.toArray 0), toks := tk }) atL its (by rw [al]; omega) fun out ms g1 g2 g3 => ⟨_, rfl, ?_⟩) (PyProof.Rows.args_list_sort _)))
  obtain ⟨e', he'⟩ := PyProof.Rows.sortedHeap_at (vs := acc.toList) (out := out) atL
  refine wpAny_pure ⟨_, rfl, .ref h'.objs.size, upd H h'.objs.size (.lst (ms.map V.int)), I1.laid (t' := tk) (fun b u e => ?_) (Nat.le_refl _)
    (show ObjOk X.prog X.w _ _ _ (.lst (ms.map V.int)) from ⟨by rw [List.length_map, g2.length_eq]; omega, out.toList, e', vals_of_ints g1, by rw [Array.toArray_toList]; exact he'⟩), rfl, q ms _ g2 g3 (I1.hok.fresh (Nat.le_refl _))⟩
  have hb : b < h'.objs.size := Heap.lt_size e
  rw [PyProof.Rows.sortedHeap_old (Nat.ne_of_lt hb) (by rw [size_push']; exact Nat.lt_succ_of_lt hb)]
  exact Heap.get?_push_of_some _ e
theorem cd_sorted (hu : X.A.units + 100 < cLine) (hc : X.calm = true) : CallD X (.builtin "sorted") rSortD := by
  refine ⟨_, CallR.or (cr_sortA hu) (cr_sortKeys hc), fun F H G vs ds g rs Q' h Q k => ?_⟩
  unfold rSortD at h
  split at h
  · rename_i d
    cases rs with
    | cons r b =>
      cases b
      split at h
      · rename_i xs ex
        obtain ⟨a, ws, rfl, ha, rw'⟩ := cur_list g r ex
        obtain ⟨z1, z2⟩ := zip_fst rw'
        obtain ⟨o1, o2, o3, o4⟩ := okS_of h.1
        refine .inl ⟨a, ws.zip xs, rfl, by rw [z1]; exact .inl (.inl ha), fun b hb => ?_, by rw [z2]; exact h.1, fun p hp => ?_⟩
        · have hm : b.2 ∈ xs := by rw [← z2]; exact List.mem_map.mpr ⟨b, hb, rfl⟩
          have hp : b.2.pl = true := by
            rw [D.pls_all, List.all_eq_true] at o1
            exact o1 _ hm
          exact Dp.mono' g.ex _ (Rep.dp _ (zip_rep rw' b hb) hp)
        · have em : ((ws.zip xs).mergeSort (PySem.W.dataLe false fun b => b.2.py)).map (·.2) = sortD xs := by
            unfold sortD
            have h3 := PySem.W.sort_maps (r := PySem.W.dataLe false fun b : V × D => b.2.py) (s := D.le) Prod.snd (l := ws.zip xs) (fun a _ b _ => rfl)
            rw [h3, z2]
          have rr : Reps X.K F (((ws.zip xs).mergeSort (PySem.W.dataLe false fun b => b.2.py)).map (·.1)) (sortD xs) := by
            rw [← em]
            exact Reps.of_zip _ fun b hb => zip_rep rw' b ((List.mergeSort_perm _ _).mem_iff.mp hb)
          have gr := Gr.new (u := .lst (((ws.zip xs).mergeSort (PySem.W.dataLe false fun b => b.2.py)).map (·.1))) g.ex hp
          exact k _ _ _ _ G gr.go (g.grow gr) (.lst upd_same (rr.mono gr.ff)) h.2
      · rename_i kds ex
        split at h
        · rename_i ns en
          obtain ⟨a, kvs, rfl, ha, kr⟩ := cur_dK g r ex
          refine .inr ⟨a, kvs, ns, rfl, .inl ha, by rw [kr.ks, intKeys_map en], h.1, fun ys p hp hs hn => ?_⟩
          have e := isort_uniq hp hs
          subst e
          have gr := Gr.new (u := .lst ((ns.mergeSort (· ≤ ·)).map V.int)) g.ex hn
          exact k _ _ _ _ G gr.go (g.grow gr) (.lst upd_same (Reps.ints _)) h.2
        · exact h.elim
      · exact h.elim
  · exact h.elim
def dChain (r r' : DR2) (ta tb tc : DTE) : DTE := fun S G Q => ta S G fun x G1 => tb S G1 fun y G2 => r x y G2 fun z G3 => match z with
  | .bl k => if k = true then tc S G3 fun w G4 => r' y w G4 Q else Q (.bl false) G3
  | _ => False
theorem chain_core {op op' : CmpOp} {r r' : DR2} {a b c : Expr} {ta tb tc : DTE} (ho : OpD X (compareOp op) r) (ho' : OpD X (compareOp op') r') (ha : DE X a ta) (hb : DE X b tb) (hc : DE X c tc) :
    ∃ (q q' : R2) (t1 t2 t3 : TE), OpR X (compareOp op) q ∧ OpR X (compareOp op') q' ∧ PE X a t1 ∧ PE X b t2 ∧ PE X c t3 ∧ ∀ F H σ S G, Ok X.K F H σ S G → ∀ Q', dChain r r' ta tb tc S G Q' → ∀ Q, KpE X.K F H G Q' Q → tChain q q' t1 t2 t3 σ H Q := by
  obtain ⟨q, hq, rq⟩ := ho.ex
  obtain ⟨q', hq', rq'⟩ := ho'.ex
  obtain ⟨t1, p1, r1⟩ := ha.ex
  obtain ⟨t2, p2, r2⟩ := hb.ex
  obtain ⟨t3, p3, r3⟩ := hc.ex
  refine ⟨q, q', t1, t2, t3, hq, hq', p1, p2, p3, fun F H σ S G o Q' h Q k => ?_⟩
  refine r1 F H σ S G o _ h _ fun F1 H1 v d G1 e1 g1 q1 h1 => ?_
  refine r2 F1 H1 σ S G1 (o.go e1 g1) _ h1 _ fun F2 H2 u d2 G2 e2 g2 q2 h2 => ?_
  refine rq F2 H2 G2 v u d d2 g2 (q1.mono e2.ex) q2 _ h2 _ fun F3 H3 z d3 G3 e3 g3 q3 h3 => ?_
  dsimp only at h3
  split at h3
  · rename_i kb
    cases q3
    refine ⟨kb, rfl, ?_⟩
    cases kb with
    | true =>
      rw [if_pos rfl] at h3 ⊢
      refine r3 F3 H3 σ S G3 (((o.go e1 g1).go e2 g2).go e3 g3) _ h3 _ fun F4 H4 w d4 G4 e4 g4 q4 h4 => ?_
      exact rq' F4 H4 G4 u w d2 d4 g4 ((q2.mono e3.ex).mono e4.ex) q4 Q' h4 Q (k.mono (((e1.trans e2).trans e3).trans e4))
    | false =>
      rw [if_neg Bool.false_ne_true] at h3 ⊢
      exact k F3 H3 _ _ G3 ((e1.trans e2).trans e3) g3 (.bl _) h3
  · exact h3.elim
theorem dt_chain {op op' : CmpOp} {r r' : DR2} {a b c : Expr} {ta tb tc : DTE} (ho : OpD X (compareOp op) r) (ho' : OpD X (compareOp op') r') (ha : DE X a ta) (hb : DE X b tb) (hc : DE X c tc) (hm : lastMarks [op, op'] [b, c] = false := by with_unfolding_all rfl) : DT X (.Compare a [op, op'] [b, c] pos) (dTest (dChain r r' ta tb tc)) := by
  obtain ⟨q, q', t1, t2, t3, hq, hq', p1, p2, p3, rr⟩ := chain_core ho ho' ha hb hc
  refine ⟨_, pt_chain hq hq' p1 p2 p3 hm, fun F H σ S G o Q' h Q k => ?_⟩
  refine rr F H σ S G o _ h _ fun F1 H1 v d G1 e1 g1 q1 h1 => ?_
  dsimp only at h1
  split at h1
  · cases q1
    exact ⟨_, rfl, k F1 H1 _ G1 e1 g1 h1⟩
  · exact h1.elim
theorem de_chain {op op' : CmpOp} {r r' : DR2} {a b c : Expr} {ta tb tc : DTE} (ho : OpD X (compareOp op) r) (ho' : OpD X (compareOp op') r') (ha : DE X a ta) (hb : DE X b tb) (hc : DE X c tc) (hm : lastMarks [op, op'] [b, c] = false := by with_unfolding_all rfl) : DE X (.Compare a [op, op'] [b, c] pos) (dChain r r' ta tb tc) := by
  obtain ⟨q, q', t1, t2, t3, hq, hq', p1, p2, p3, rr⟩ := chain_core ho ho' ha hb hc
  exact ⟨_, pe_chain hq hq' p1 p2 p3 hm, rr⟩
def dPar (i j : Nat) (ta : DTA) : DTS := fun D' S G => ta S G fun ds G1 => match ds with
  | [x, y] => D'.nx ((S.set i (some x)).set j (some y)) G1
  | _ => False
end
end DL
end
section
set_option Elab.async false
set_option linter.all false
set_option maxRecDepth 100000
set_option maxHeartbeats 4000000
namespace DL
open PySem PySem.Spec PyProof.Rows L2
theorem sqt_at {K : PySem.W.Frag} {H : Hp} {a : Addr} {xs : List V} (h : SqT K H a xs) : (∃ u, H a = some u) ∨ ∃ o, K.lookup a = some o := by
  rcases h with (h | ⟨o, h⟩) | ⟨o, _, _, h, _⟩
  · exact .inl ⟨_, h⟩
  · exact .inl ⟨_, h⟩
  · exact .inr ⟨o, h⟩
theorem fp_noK {X : Cx} {pins : List (Addr × Obj)} {σ : L2.St} {H : Hp} {s : Shared} (I : Inv X pins σ H s) {e b : Addr} (hf : FpOk X pins H e) (h : (∃ u, H b = some u) ∨ ∃ o, X.K.lookup b = some o) : e ≠ b := by
  rintro rfl
  rcases h with ⟨u, h⟩ | ⟨o, h⟩
  · rw [hf.1] at h; cases h
  · have hb := I.mod.kin _ _ h
    rcases hf.2.2.2.1 with z | z
    · exact I.ok.noex _ _ hb z
    · exact absurd (Nat.lt_of_lt_of_le (Heap.lt_size (I.ok.bs _ _ hb).1) z) (Nat.lt_irrefl _)
theorem sqt_lt {X : Cx} {pins : List (Addr × Obj)} {σ : L2.St} {H : Hp} {s : Shared} (I : Inv X pins σ H s) {a : Addr} {xs : List V} (h : SqT X.K H a xs) : a < s.heap.objs.size := by
  obtain ⟨_, _, p, _⟩ := I.tuple h
  exact p.lt
def ItE (xs : List V) (ok : Hp → Prop) : It :=
  ⟨fun i H => ok H ∧ i < xs.length, fun i H v H' => ∃ T x, v = .ref T ∧ H T = none ∧ H' = upd H T (.tup [.int (i : Nat), x]) ∧ xs[i]? = some x, fun i H => ok H ∧ i = xs.length⟩
theorem turn_enumOf {P : Program} {w : World} {K : PySem.W.Frag} {elts : List Expr} {kk : Nat} {tpos : Pos} {xs : List V} {ok : Hp → Prop} {e it : Addr} {Si : Nat → Heap → Prop}
    (live : ∀ i h, Si i h → ∃ o, h.get? it = some o ∧ ∀ v, o.data ≠ .cell v) (keep : ∀ i h h', Si i h → (∀ o, h.get? it = some o → h'.get? it = some o) → Si i h')
    (dr : ∀ (X : Cx) (pins : List (Addr × Obj)) (σ : L2.St) (H : Hp) (s : Shared), X.prog = P → X.w = w → X.K = K → X.A.handled = none → Inv X pins σ H s → ok H → ∃ (fp : List Addr) (Pv : Nat → Value → Prop) (St : Nat → Heap → Prop), it ∈ fp ∧ (∀ b ∈ fp, b ≠ it → (∃ u, H b = some u) ∨ ∃ o, X.K.lookup b = some o) ∧ Draws P w X.A.in1 it fp xs.length Pv St ∧
      (∀ i, Si i s.heap → St i s.heap) ∧ (∀ i h, St i h → Si i h) ∧ ∀ i u x, Pv i u → xs[i]? = some x → RelV x u) :
    Turn P w K (.Tuple elts kk tpos) (ItE xs ok) [e, it] e (fun i h => (∃ old, IsEnum h e it ((i : Nat) : Int) old) ∧ Si i h ∧ e ≠ it) where
  mem := by simp
  obj := by
    intro i h st b hb
    obtain ⟨⟨old, he⟩, hs, _⟩ := st
    have q : b = e ∨ b = it := by simpa using hb
    rcases q with q | q
    · subst q; exact ⟨_, he, fun v z => nomatch z⟩
    · subst q; exact live i h hs
  keep := by
    intro i h h' st k
    obtain ⟨⟨old, he⟩, hs, ne⟩ := st
    exact ⟨⟨old, k e (by simp) _ he⟩, keep i h h' hs fun o z => k it (by simp) o z, ne⟩
  item := by
    intro X hP hw hK hc i pins s σ H E I hf st hg
    obtain ⟨⟨old, he⟩, hs, ne⟩ := st
    obtain ⟨hok, hi⟩ := hg
    obtain ⟨fp, Pv, St, m0, mt, Dr, s1, s2, rel⟩ := dr X pins σ H s hP hw hK (I.ok.hd hc) I hok
    subst hP hw hK
    have el : e < s.heap.objs.size := Heap.lt_size he
    have il : it < s.heap.objs.size := by
      obtain ⟨o, z, _⟩ := live i _ hs
      exact Heap.lt_size z
    have ef : e ∉ fp := by
      intro z
      exact fp_noK I (hf e (by simp)) (mt e z ne) rfl
    refine wpAny_pyNext_enum_itemC Dr he (s1 i hs) hi ne ef ?_
    intro x h' tk px ho hst hT hsz hk
    refine ⟨_, rfl, wpAny_letOwnedTupleGo_enum (s := { s with heap := h', toks := tk + 1 }) ho ?_⟩
    intro h'' he' sb
    have hx : xs[i]? = some xs[i] := List.getElem?_eq_getElem hi
    have rx := rel i x _ px hx
    have hT2 := (sb.2 _ (Nat.ne_of_gt el)).trans hT
    have nw : ObjOk X.prog X.w (upd H s.heap.objs.size (.tup [.int (i : Nat), xs[i]])) h'' s.heap.objs.size (.tup [.int (i : Nat), xs[i]]) :=
      ⟨(by decide : 2 ≤ sizeLine), [.int i tk, x], .cons ⟨_, rfl⟩ (.cons rx .nil), ⟨_, hT2, rfl, _, rfl⟩⟩
    have J : Inv X pins σ (upd H s.heap.objs.size (.tup [.int (i : Nat), xs[i]])) { s with heap := h'', toks := tk + 1 } := by
      refine I.turnedNew (ch := [e, it]) ?_ hf (Nat.le_refl _) nw
      intro b ob hb q
      have b1 : b ≠ e := fun z => hb (by simp [z])
      have b2 : b ≠ it := fun z => hb (by simp [z])
      exact (sb.2 b b1).trans (hk b ob b1 b2 q)
    refine ⟨.ref s.heap.objs.size, _, J, rfl, ⟨_, _, rfl, I.hok.fresh (Nat.le_refl _), rfl, hx⟩, ⟨⟨x, ?_⟩, ?_, ne⟩, ?_⟩
    · have z : ((i + 1 : Nat) : Int) = (i : Int) + 1 := by omega
      rw [z]; exact he'
    · exact keep _ _ _ (s2 _ _ hst) fun o q => (sb.2 it (Ne.symm ne)).trans q
    · intro b hb
      have q : b = e ∨ b = it := by simpa using hb
      have lt : b < s.heap.objs.size := by rcases q with q | q <;> (rw [q]; assumption)
      rw [upd_ne (Nat.ne_of_lt lt)]
      exact (hf b hb).1
  done := by
    intro X hP hw hK hc i pins s σ H E I hf st hg
    obtain ⟨⟨old, he⟩, hs, ne⟩ := st
    obtain ⟨hok, hi⟩ := hg
    obtain ⟨fp, Pv, St, m0, mt, Dr, s1, s2, rel⟩ := dr X pins σ H s hP hw hK (I.ok.hd hc) I hok
    subst hP hw hK
    subst hi
    refine wpAny_pyNext_enum_endD Dr he (s1 _ hs) ?_
    intro h' eb
    refine ⟨rfl, I.turnedL (t' := s.toks) (ch := [e, it]) ?_ hf⟩
    intro b o hb q
    exact eb b o (fun z => hb (by simp [z])) q
  self := fun A i s Q E st h => let ⟨⟨_, he⟩, _⟩ := st; wpAny_pyIter_enum he h
set_option maxHeartbeats 4000000 in
theorem meets_enumB {v : Value} {o : Obj} {Hh : Heap → Prop} (B : Begins v o Hh) :
    Meets (Builtin.«enumerate.__new__» ⟨[.type "enumerate", v], []⟩) (fun _ R s => Hh s.heap ∧
      R (.ok (.ret (.ref (s.heap.push o).objs.size))) { s with heap := (s.heap.push o).push { cls := .type "enumerate", data := .fields #[.none, .bool false, .ref s.heap.objs.size, rawInt 0, .none, .none] } }) := by
  refine Meets.of_wp fun prog w A R s h => ?_
  obtain ⟨hp, g, d, tk, os⟩ := s
  obtain ⟨h1, h⟩ := h
  have hsub := PySem.sub_enumerate
  have q1 : ∀ {A' : Around} {E : Value → Shared → Prop} {Q : Value → Shared → Prop}, Q (.ref hp.objs.size) ⟨hp.push o, g, d, tk, os⟩ → wpAny (model prog w) A' (pyIter v) Q E ⟨hp, g, d, tk, os⟩ := by
    intro A' E Q q
    exact B.iter prog w _ _ ⟨hp, g, d, tk, os⟩ _ h1 q
  wp_walk using q1
  refine wpAny_stack_any fun st => wpAny_pure ?_
  split
  · rename_i c _ _ _ _ _
    cases (c == Value.type "enumerate") <;> (wp_walk using q1; exact ⟨_, rfl, h⟩)
  · wp_walk using q1
    exact ⟨_, rfl, h⟩
theorem call_enumB {prog : Program} {w : World} {A : Around} {E : Value → Shared → Prop} {s : Shared} {v : Value} {o : Obj} {Hh : Heap → Prop} {Q : Value → Shared → Prop} (B : Begins v o Hh) (h1 : Hh s.heap)
    (h : ∀ h', IsEnum h' (s.heap.objs.size + 1) s.heap.objs.size 0 .none → h'.get? s.heap.objs.size = some o → h'.objs.size = s.heap.objs.size + 2 → (∀ b o, s.heap.get? b = some o → h'.get? b = some o) → Q (.ref (s.heap.objs.size + 1)) { s with heap := h' }) :
    wpAny (model prog w) A (call (.type "enumerate") [v]) Q E s := by
  refine callType_new F.called_enumerate (by decide) (F.typeCall_enumerate_1 _) (F.newCall_enumerate_1 _) (fun obj => F.args_object_init_2 obj _) F.entry_enumerate_new (meets_enumB B) ⟨h1, ?_⟩
  have z1 : (s.heap.push o).objs.size = s.heap.objs.size + 1 := Heap.size_push ..
  show _ ∧ _
  rw [z1]
  have he : IsEnum ((s.heap.push o).push { cls := .type "enumerate", data := .fields #[.none, .bool false, .ref s.heap.objs.size, rawInt 0, .none, .none] }) (s.heap.objs.size + 1) s.heap.objs.size 0 .none := by
    have z2 := Heap.get?_push_size (s.heap.push o) (o := { cls := .type "enumerate", data := .fields #[.none, .bool false, .ref s.heap.objs.size, rawInt 0, .none, .none] }) rfl
    rw [z1] at z2
    exact z2
  refine ⟨⟨_, he, rfl⟩, h _ he (Heap.get?_push_of_some _ (Heap.get?_push_size _ B.free)) (by rw [Heap.size_push, z1]) ?_⟩
  intro b ob x
  exact Heap.get?_push_of_some _ (Heap.get?_push_of_some _ x)
def iEnumT (K : PySem.W.Frag) (ta : TA) : TI := fun σ H R => ta σ H fun vs H1 => ∃ a xs, vs = [.ref a] ∧ SqT K H1 a xs ∧ R (ItE xs fun H => SqT K H a xs) H1
theorem fresh_fp {X : Cx} {pins : List (Addr × Obj)} {σ : L2.St} {H : Hp} {s : Shared} (I : Inv X pins σ H s) {l : List Addr} (h : ∀ b ∈ l, s.heap.objs.size ≤ b) : ∀ b ∈ l, FpOk X pins H b := fun b hb => I.fpOk (h b hb) (I.hok.fresh (h b hb))
theorem vals_getD {xs : List V} {us : List Value} (r : Vals xs us) {i : Nat} {u : Value} {x : V} (hu : us[i]? = some u) (hx : xs[i]? = some x) : RelV x u := by
  obtain ⟨w, hw, rw'⟩ := r.get hx
  rw [hu] at hw
  cases hw
  exact rw'
theorem pi_enumT {X : Cx} {e : Expr} {ta : TA} {p pos tpos : Pos} {elts : List Expr} {kk : Nat} (hg : Gl X "enumerate") (hm : X.mg "enumerate" = none) (ha : PA X [e] ta) (hs : starEach [e] X.env = [(false, eval e X.env)] := by rfl) :
    PI X (.Tuple elts kk tpos) (.Call (.Name "enumerate" p) [e] [] pos) (iEnumT X.K ta) := by
  constructor
  intro pins s σ H R I h
  refine Call_ (ld_blt I hg hm boot_enumerate (PyProof.Rows.callWith_type1 (thn (ha.run pos pins s σ H _ I h) ?_) hs rfl))
  rintro us s1 ⟨vs, H1, I1, r1, a, xs, rfl, hq, q⟩
  cases r1 with
  | cons r rr =>
    cases rr
    cases r
    obtain ⟨its, rv, tu, hz⟩ := I1.tuple (xs := xs) (a := a) hq
    have hl := rv.length
    refine call_enumB (begins_tuple a its.toArray) tu ?_
    intro h' he hit hsz hk
    refine wpAny_pyIter_enum he ?_
    have J : Inv X pins σ H1 { s1 with heap := h' } := I1.kept (t' := s1.toks) hk
    refine ⟨s1.heap.objs.size + 1, [s1.heap.objs.size + 1, s1.heap.objs.size], _, _, H1, rfl, J, turn_enumOf (Si := fun i h => h.IsTupleIter s1.heap.objs.size a i) ?_ ?_ ?_, ⟨⟨.none, he⟩, ⟨_, hit, rfl, rfl⟩, Nat.succ_ne_self _⟩, ?_, q⟩
    · rintro i h ⟨o, z, c, d⟩
      exact ⟨o, z, fun v y => by rw [d] at y; cases y⟩
    · rintro i h h' ⟨o, z, c⟩ k
      exact ⟨o, k o z, c⟩
    · intro X2 pins2 σ2 H2 s2 hP hw hK hh I2 hok
      have hne : a ≠ s1.heap.objs.size := Nat.ne_of_lt (sqt_lt I1 hq)
      rw [← hK] at hok
      obtain ⟨its2, rv2, tu2, hz2⟩ := I2.tuple (xs := xs) (a := a) hok
      have hl2 := rv2.length
      refine ⟨[s1.heap.objs.size, a], fun i v => its2.toArray[i]? = some v, fun i h => h.IsTupleIter s1.heap.objs.size a i ∧ h.IsTuple a its2.toArray, by simp, fun b hb hb2 => ?_, ?_, fun i z => ⟨z, tu2⟩, fun i h z => z.1, fun i u x pu hx => ?_⟩
      · have : b = a := by
          have q : b = s1.heap.objs.size ∨ b = a := by simpa using hb
          rcases q with q | q
          · exact absurd q hb2
          · exact q
        subst this
        exact sqt_at hok
      · have := Draws.tuple (prog := X.prog) (w := X.w) (A := X2.A.in1) hh s1.heap.objs.size a hne its2.toArray
        have ez : its2.toArray.size = xs.length := by rw [hl2]; simp
        rw [ez] at this
        exact this
      · refine vals_getD rv2 ?_ hx
        simpa using pu
    · refine fresh_fp I1 fun b hb => ?_
      have q : b = s1.heap.objs.size + 1 ∨ b = s1.heap.objs.size := by simpa using hb
      rcases q with q | q
      · rw [q]; exact Nat.le_add_right _ _
      · rw [q]; exact Nat.le_refl _
section
variable {X : Cx} {pos : Pos}
/-- for i, x in enumerate(t), t a tuple -/
def diEnumT (ta : DTA) : DTI := fun S G R => ta S G fun ds G1 => match ds with
  | [.tup xs] => R (xs.mapIdx fun i x => .tup [.int (i : Nat), x]) dNoGuard G1
  | [.kup xs] => R (xs.mapIdx fun i x => .tup [.int (i : Nat), x]) dNoGuard G1
  | _ => False
theorem di_enumT {e : Expr} {ta : DTA} {p tpos : Pos} {elts : List Expr} {kk : Nat} (hg : Gl X "enumerate") (hm : X.mg "enumerate" = none) (ha : DA X [e] ta) (hs : starEach [e] X.env = [(false, eval e X.env)] := by rfl) :
    DI X (.Tuple elts kk tpos) (.Call (.Name "enumerate" p) [e] [] pos) (diEnumT ta) := by
  obtain ⟨t, p1, r⟩ := ha.ex
  refine ⟨_, pi_enumT hg hm p1 hs, fun F H σ S G o R' h R k => ?_⟩
  refine r F H σ S G o _ h _ fun F1 H1 vs ds G1 e1 g1 q1 h1 => ?_
  dsimp only at h1
  split at h1
  · rename_i xs
    cases q1 with
    | cons q rest =>
      cases rest
      cases q with
      | tup hq rs =>
        rename_i a ws
        refine ⟨a, ws, rfl, g1.ex.sqt (.inl (.inl hq)), k F1 H1 G1 _ _ _ e1 g1 ⟨fun F2 H2 G2 i d e2 g2 _ hd => ?_, fun F2 H2 G2 e2 g2 _ => ?_⟩ h1⟩
        · rw [List.getElem?_mapIdx] at hd
          cases ex : xs[i]? with
          | none => rw [ex] at hd; cases hd
          | some x =>
            rw [ex] at hd
            cases hd
            have hi : i < ws.length := by
              rw [rs.length]
              exact (List.getElem?_eq_some_iff.mp ex).1
            refine ⟨⟨g2.ex.sqt (e2.sqt (.inl (.inl hq))), hi⟩, fun y H3 hy => ?_⟩
            obtain ⟨T, z, rfl, hT, rfl, hz⟩ := hy
            obtain ⟨x', hx', rx'⟩ := rs.get' hz
            rw [ex] at hx'
            cases hx'
            have gr := Gr.new (u := .tup [.int (i : Nat), z]) g2.ex hT
            exact ⟨_, gr.go, g2.grow gr, .tup upd_same (.cons (.int _) (.cons ((rx'.mono e2).mono gr.ff) .nil))⟩
        · refine ⟨g2.ex.sqt (e2.sqt (.inl (.inl hq))), ?_⟩
          rw [List.length_mapIdx, rs.length]
  · rename_i xs
    cases q1 with
    | cons q rest =>
      cases rest
      cases q with
      | kup hq rs =>
        rename_i a ws
        refine ⟨a, ws, rfl, g1.ex.sqt hq, k F1 H1 G1 _ _ _ e1 g1 ⟨fun F2 H2 G2 i d e2 g2 _ hd => ?_, fun F2 H2 G2 e2 g2 _ => ?_⟩ h1⟩
        · rw [List.getElem?_mapIdx] at hd
          cases ex : xs[i]? with
          | none => rw [ex] at hd; cases hd
          | some x =>
            rw [ex] at hd
            cases hd
            have hi : i < ws.length := by
              rw [rs.length]
              exact (List.getElem?_eq_some_iff.mp ex).1
            refine ⟨⟨g2.ex.sqt (e2.sqt hq), hi⟩, fun y H3 hy => ?_⟩
            obtain ⟨T, z, rfl, hT, rfl, hz⟩ := hy
            obtain ⟨x', hx', rx'⟩ := rs.get' hz
            rw [ex] at hx'
            cases hx'
            have gr := Gr.new (u := .tup [.int (i : Nat), z]) g2.ex hT
            exact ⟨_, gr.go, g2.grow gr, .tup upd_same (.cons (.int _) (.cons ((rx'.mono e2).mono gr.ff) .nil))⟩
        · refine ⟨g2.ex.sqt (e2.sqt hq), ?_⟩
          rw [List.length_mapIdx, rs.length]
  · exact h1.elim
end
end DL
end
section
set_option Elab.async false
set_option linter.all false
set_option maxRecDepth 100000
set_option maxHeartbeats 4000000
namespace DL
open PySem PySem.Spec PyProof.Rows L2
def sgn (c : Nat) : Str := ⟨#[c]⟩
def ItZ (x y : Str) : It :=
  ⟨fun i _ => i < min x.cps.size y.cps.size, fun i H v H' => ∃ T a b, v = .ref T ∧ H T = none ∧ H' = upd H T (.tup [.str (sgn a), .str (sgn b)]) ∧ x.cps[i]? = some a ∧ y.cps[i]? = some b, fun i _ => i = min x.cps.size y.cps.size⟩
theorem turn_zipS {P : Program} {w : World} {K : PySem.W.Frag} {elts : List Expr} {kk : Nat} {tpos : Pos} {x y : Str} {t1 t2 : Tok} {z TI TO i1 i2 : Addr} (Sp : ZipSep2 z TI TO i1 i2 [i1] [i2]) :
    Turn P w K (.Tuple elts kk tpos) (ItZ x y) [z, TI, TO, i1, i2] z (fun i h => IsZip h z TI TO .none ∧ IsTupOf2 h TI (.ref i1) (.ref i2) ∧ (∃ a b, IsTupOf2 h TO a b) ∧ h.IsStrIter i1 (strIterType x) x t1 i ∧ h.IsStrIter i2 (strIterType y) y t2 i) where
  mem := by simp
  obj := by
    rintro i h ⟨hz, hTI, ⟨a, b, hTO⟩, ⟨o1, z1, _, d1⟩, ⟨o2, z2, _, d2⟩⟩ c hc
    have q : c = z ∨ c = TI ∨ c = TO ∨ c = i1 ∨ c = i2 := by simpa using hc
    rcases q with q | q | q | q | q <;> subst q
    · exact ⟨_, hz, fun v y => nomatch y⟩
    · exact ⟨_, hTI, fun v y => nomatch y⟩
    · exact ⟨_, hTO, fun v y => nomatch y⟩
    · exact ⟨o1, z1, fun v y => by rw [d1] at y; cases y⟩
    · exact ⟨o2, z2, fun v y => by rw [d2] at y; cases y⟩
  keep := by
    rintro i h h' ⟨hz, hTI, ⟨a, b, hTO⟩, ⟨o1, z1, r1⟩, ⟨o2, z2, r2⟩⟩ k
    exact ⟨k z (by simp) _ hz, k TI (by simp) _ hTI, ⟨a, b, k TO (by simp) _ hTO⟩, ⟨o1, k i1 (by simp) _ z1, r1⟩, ⟨o2, k i2 (by simp) _ z2, r2⟩⟩
  item := by
    intro X hP hw hK hc i pins s σ H E I hf st hg
    subst hP hw hK
    obtain ⟨hz, hTI, ⟨a0, b0, hTO⟩, s1, s2⟩ := st
    have hg' : i < min x.cps.size y.cps.size := hg
    have g1 : i < x.cps.size := by omega
    have g2 : i < y.cps.size := by omega
    have hh := I.ok.hd hc
    have zl : z < s.heap.objs.size := Heap.lt_size hz
    refine wpAny_pyNext_zipD2_item Sp (Draws.text (A := X.A.in1) hh i1 x t1) (Draws.text (A := X.A.in1) hh i2 y t2) hz hTI hTO s1 s2 g1 g2 ?_
    rintro u1 u2 h' tk ⟨c1, k1, e1, rfl⟩ ⟨c2, k2, e2, rfl⟩ hz' hTO' s1' s2' hT hsz hk
    refine ⟨_, rfl, wpAny_letOwnedTupleGo_zip (s := { s with heap := h', toks := tk }) hz' ?_⟩
    intro h'' hz'' sb
    have hT2 := (sb.2 _ (Nat.ne_of_gt zl)).trans hT
    have nw : ObjOk X.prog X.w (upd H s.heap.objs.size (.tup [.str (sgn c1), .str (sgn c2)])) h'' s.heap.objs.size (.tup [.str (sgn c1), .str (sgn c2)]) :=
      ⟨(by decide : 2 ≤ sizeLine), [.str (sgn c1) k1, .str (sgn c2) k2], .cons ⟨_, rfl⟩ (.cons ⟨_, rfl⟩ .nil), ⟨_, hT2, rfl, _, rfl⟩⟩
    have J : Inv X pins σ (upd H s.heap.objs.size (.tup [.str (sgn c1), .str (sgn c2)])) { s with heap := h'', toks := tk } := by
      refine I.turnedNew (ch := [z, TI, TO, i1, i2]) ?_ hf (Nat.le_refl _) nw
      intro c o hb q
      have b1 : c ≠ z := fun w => hb (by simp [w])
      have b3 : c ≠ TO := fun w => hb (by simp [w])
      have b4 : c ≠ i1 := fun w => hb (by simp [w])
      have b5 : c ≠ i2 := fun w => hb (by simp [w])
      exact (sb.2 c b1).trans (hk c o b1 b3 b4 b5 q)
    refine ⟨.ref s.heap.objs.size, _, J, rfl, ⟨_, c1, c2, rfl, I.hok.fresh (Nat.le_refl _), rfl, e1, e2⟩, ⟨hz'', ?_, ⟨.str (sgn c1) k1, .str (sgn c2) k2, ?_⟩, ?_, ?_⟩, ?_⟩
    · exact (sb.2 _ Sp.TIz).trans (hk _ _ Sp.TIz Sp.TITO Sp.TIi1 Sp.TIi2 hTI)
    · exact (sb.2 _ Sp.TOz).trans hTO'
    · obtain ⟨o, q, r⟩ := s1'
      exact ⟨o, (sb.2 _ (Ne.symm Sp.zi1)).trans q, r⟩
    · obtain ⟨o, q, r⟩ := s2'
      exact ⟨o, (sb.2 _ (Ne.symm Sp.zi2)).trans q, r⟩
    · intro c hcm
      have lt : c < s.heap.objs.size := by
        have q : c = z ∨ c = TI ∨ c = TO ∨ c = i1 ∨ c = i2 := by simpa using hcm
        rcases q with q | q | q | q | q
        · rw [q]; exact zl
        · rw [q]; exact Heap.lt_size hTI
        · rw [q]; exact Heap.lt_size hTO
        · rw [q]; obtain ⟨_, w, _⟩ := s1; exact Heap.lt_size w
        · rw [q]; obtain ⟨_, w, _⟩ := s2; exact Heap.lt_size w
      rw [upd_ne (Nat.ne_of_lt lt)]
      exact (hf c hcm).1
  done := by
    intro X hP hw hK hc i pins s σ H E I hf st hg
    subst hP hw hK
    obtain ⟨hz, hTI, ⟨a0, b0, hTO⟩, s1, s2⟩ := st
    have hg' : i = min x.cps.size y.cps.size := hg
    have hh := I.ok.hd hc
    refine wpAny_pyNext_zipD2_end Sp (Draws.text (A := X.A.in1) hh i1 x t1) (Draws.text (A := X.A.in1) hh i2 y t2) hz hTI hTO s1 s2 (by omega) (by omega) (by omega) ?_
    intro h' tk hk
    refine ⟨rfl, I.turnedL (t' := tk) (ch := [z, TI, TO, i1, i2]) ?_ hf⟩
    intro c o hb q
    exact hk c o (fun w => hb (by simp [w])) (fun w => hb (by simp [w])) (fun w => hb (by simp [w])) (fun w => hb (by simp [w])) q
  self := fun A i s Q E st h => wpAny_pyIter_zip st.1 h
def iZipS (ta : TA) : TI := fun σ H R => ta σ H fun vs H1 => ∃ x y, vs = [.str x, .str y] ∧ R (ItZ x y) H1
theorem pi_zipS {X : Cx} {e e2 : Expr} {ta : TA} {p pos tpos : Pos} {elts : List Expr} {kk : Nat} (hg : Gl X "zip") (hm : X.mg "zip" = none) (ha : PA X [e, e2] ta)
    (hs : starEach [e, e2] X.env = (false, eval e X.env) :: starEach [e2] X.env := by rfl) (hpl : (backTo pos (starEach [e2] X.env)).any (·.1) = false := by rfl) :
    PI X (.Tuple elts kk tpos) (.Call (.Name "zip" p) [e, e2] [] pos) (iZipS ta) := by
  constructor
  intro pins s σ H R I h
  refine Call_ (ld_blt I hg hm PyProof.Rows.boot_zip (PyProof.Rows.callWith_type1 (thn (ha.run pos pins s σ H _ I h) ?_) hs hpl))
  rintro us s1 ⟨vs, H1, I1, r1, x, y, rfl, q⟩
  cases r1 with
  | cons r rr =>
    cases rr with
    | cons r' rr =>
      cases rr
      obtain ⟨t1, rfl⟩ := r
      obtain ⟨t2, rfl⟩ := r'
      refine zip_begins2 (begins_text x t1) (begins_text y t2) trivial trivial ?_
      intro h' hz hTI hTO h1 h2 hsz hk
      refine wpAny_pyIter_zip hz ?_
      have J : Inv X pins σ H1 { s1 with heap := h' } := I1.kept (t' := s1.toks) hk
      have sep : ZipSep2 (s1.heap.objs.size + 4) (s1.heap.objs.size + 2) (s1.heap.objs.size + 3) s1.heap.objs.size (s1.heap.objs.size + 1) [s1.heap.objs.size] [s1.heap.objs.size + 1] := zip_sep2 (N := s1.heap.objs.size) (fp1 := []) (fp2 := []) (by simp) (by simp)
      refine ⟨s1.heap.objs.size + 4, [s1.heap.objs.size + 4, s1.heap.objs.size + 2, s1.heap.objs.size + 3, s1.heap.objs.size, s1.heap.objs.size + 1], _, _, H1, rfl, J, turn_zipS (x := x) (y := y) (t1 := t1) (t2 := t2) sep, ⟨hz, hTI, ⟨_, _, hTO⟩, ⟨_, h1, rfl, rfl⟩, ⟨_, h2, rfl, rfl⟩⟩, ?_, q⟩
      refine fresh_fp I1 fun b hb => ?_
      have z : b = s1.heap.objs.size + 4 ∨ b = s1.heap.objs.size + 2 ∨ b = s1.heap.objs.size + 3 ∨ b = s1.heap.objs.size ∨ b = s1.heap.objs.size + 1 := by simpa using hb
      rcases z with z | z | z | z | z
      · rw [z]; exact Nat.le_add_right _ _
      · rw [z]; exact Nat.le_add_right _ _
      · rw [z]; exact Nat.le_add_right _ _
      · rw [z]; exact Nat.le_refl _
      · rw [z]; exact Nat.le_add_right _ _
section
variable {X : Cx} {pos : Pos}
def diZipS (ta : DTA) : DTI := fun S G R => ta S G fun ds G1 => match ds with
  | [.str x, .str y] => R (List.zipWith (fun a b => .tup [.str (sgn a), .str (sgn b)]) x.cps.toList y.cps.toList) dNoGuard G1
  | _ => False
theorem di_zipS {e e2 : Expr} {ta : DTA} {p tpos : Pos} {elts : List Expr} {kk : Nat} (hg : Gl X "zip") (hm : X.mg "zip" = none) (ha : DA X [e, e2] ta)
    (hs : starEach [e, e2] X.env = (false, eval e X.env) :: starEach [e2] X.env := by rfl) (hpl : (backTo pos (starEach [e2] X.env)).any (·.1) = false := by rfl) : DI X (.Tuple elts kk tpos) (.Call (.Name "zip" p) [e, e2] [] pos) (diZipS ta) := by
  obtain ⟨t, p1, r⟩ := ha.ex
  refine ⟨_, pi_zipS hg hm p1 hs hpl, fun F H σ S G o R' h R k => ?_⟩
  refine r F H σ S G o _ h _ fun F1 H1 vs ds G1 e1 g1 q1 h1 => ?_
  dsimp only at h1
  split at h1
  · rename_i x y
    cases q1 with
    | cons a b =>
      cases a
      cases b with
      | cons c d =>
        cases c; cases d
        refine ⟨x, y, rfl, k F1 H1 G1 _ _ _ e1 g1 ⟨fun F2 H2 G2 i d e2 g2 _ hd => ?_, fun F2 H2 G2 e2 g2 _ => ?_⟩ h1⟩
        · rw [List.getElem?_zipWith] at hd
          cases ea : x.cps.toList[i]? with
          | none => simp [ea] at hd
          | some a =>
            cases eb : y.cps.toList[i]? with
            | none => simp [ea, eb] at hd
            | some b =>
              simp only [ea, eb] at hd
              cases hd
              have la := (List.getElem?_eq_some_iff.mp ea).1
              have lb := (List.getElem?_eq_some_iff.mp eb).1
              rw [Array.length_toList] at la lb
              refine ⟨by show i < min _ _; omega, fun v H3 hy => ?_⟩
              obtain ⟨T, a', b', rfl, hT, rfl, ha', hb'⟩ := hy
              have za : x.cps[i]? = some a := by rw [← ea]; simp
              have zb : y.cps[i]? = some b := by rw [← eb]; simp
              rw [za] at ha'; rw [zb] at hb'
              cases ha'; cases hb'
              have gr := Gr.new (u := .tup [.str (sgn a), .str (sgn b)]) g2.ex hT
              exact ⟨_, gr.go, g2.grow gr, .tup upd_same (.cons (.str _) (.cons (.str _) .nil))⟩
        · show _ = min _ _
          simp
  · exact h1.elim
/-- zip of two tuples -/
def diZipT (ta : DTA) : DTI := fun S G R => ta S G fun ds G1 => match ds with
  | [.tup xs, .tup ys] => R (List.zipWith (fun a b => .tup [a, b]) xs ys) dNoGuard G1
  | _ => False
theorem di_zipT {e e2 : Expr} {ta : DTA} {p tpos : Pos} {elts : List Expr} {kk : Nat} (hg : Gl X "zip") (hm : X.mg "zip" = none) (ha : DA X [e, e2] ta)
    (hs : starEach [e, e2] X.env = (false, eval e X.env) :: starEach [e2] X.env := by rfl) (hpl : (backTo pos (starEach [e2] X.env)).any (·.1) = false := by rfl) : DI X (.Tuple elts kk tpos) (.Call (.Name "zip" p) [e, e2] [] pos) (diZipT ta) := by
  obtain ⟨t, p1, r⟩ := ha.ex
  refine ⟨_, RZ.pi_zipA hg hm p1 hs hpl, fun F H σ S G o R' h R k => ?_⟩
  refine r F H σ S G o _ h _ fun F1 H1 vs ds G1 e1 g1 q1 h1 => ?_
  dsimp only at h1
  split at h1
  · rename_i xs ys
    cases q1 with
    | cons a b =>
      cases b with
      | cons c d =>
        cases d
        cases a with
        | tup ha ra =>
          cases c with
          | tup hb rb =>
            rename_i pa va pb vb
            refine ⟨pa, pb, va, vb, rfl, .inr ⟨.inl (.inl (g1.ex _ _ ha)), .inl (.inl (g1.ex _ _ hb)), k F1 H1 G1 _ _ _ e1 g1 ⟨fun F2 H2 G2 i d e2 g2 _ hd => ?_, fun F2 H2 G2 e2 g2 _ => ?_⟩ h1⟩⟩
            · have sa : SqT X.K H2 pa va := .inl (.inl (g2.ex _ _ (e2 _ _ ha)))
              have sb : SqT X.K H2 pb vb := .inl (.inl (g2.ex _ _ (e2 _ _ hb)))
              rw [List.getElem?_zipWith] at hd
              cases ea : xs[i]? with
              | none => simp [ea] at hd
              | some a =>
                cases eb : ys[i]? with
                | none => simp [ea, eb] at hd
                | some b =>
                  simp only [ea, eb] at hd
                  cases hd
                  obtain ⟨u, hu, ru⟩ := ra.get ea
                  obtain ⟨w, hw, rw'⟩ := rb.get eb
                  refine ⟨⟨va, vb, u, w, sa, sb, hu, hw⟩, fun v H3 hy => ?_⟩
                  obtain ⟨T, u', w', rfl, hT, rfl, h3, h4⟩ := hy
                  have z1 := h3 va sa
                  have z2 := h4 vb sb
                  rw [hu] at z1; rw [hw] at z2
                  cases z1; cases z2
                  have gr := Gr.new (u := .tup [u, w]) g2.ex hT
                  exact ⟨_, gr.go, g2.grow gr, .tup upd_same (.cons ((ru.mono e2).mono gr.ff) (.cons ((rw'.mono e2).mono gr.ff) .nil))⟩
            · refine ⟨va, vb, .inl (.inl (g2.ex _ _ (e2 _ _ ha))), .inl (.inl (g2.ex _ _ (e2 _ _ hb))), ?_⟩
              rw [ra.length, rb.length, List.length_zipWith]
              omega
  · exact h1.elim
end
end DL
end
section
set_option Elab.async false
set_option linter.all false
set_option maxRecDepth 100000
set_option maxHeartbeats 4000000
namespace DL
open PySem PySem.Spec PyProof.Rows L2
section
variable {X : Cx} {pos : Pos}
theorem dp_par {i j : Nat} {x y : Str} {a b : Expr} {ta : DTA} {px py pt : Pos} {kt k2 pt2} (hc : X.calm = true) (hN : X.N.Nodup) (hi : X.N[i]? = some x := by rfl) (hj : X.N[j]? = some y := by rfl) (hij : i ≠ j := by decide)
    (hx : X.env.scope.names.lookup x = some .local := by rfl) (hy : X.env.scope.names.lookup y = some .local := by rfl) (ha : DA X [a, b] ta)
    (hw : swappedStores [.Tuple [.Name x px, .Name y py] kt pt] (.Tuple [a, b] k2 pt2) X.env = pure (some [x, y]) := by rfl)
    (hs : swapsWithSole [.Tuple [.Name x px, .Name y py] kt pt] (.Tuple [a, b] k2 pt2) pos.line X.env = pure false := by rfl) :
    DP X (.Assign [.Tuple [.Name x px, .Name y py] kt pt] (.Tuple [a, b] k2 pt2) pos) (dPar i j ta) := by
  obtain ⟨t, p, r⟩ := ha.ex
  refine ⟨_, ps_par hc hN hi hj hij hx hy p hw hs, fun F H σ S G o D' h D0 k => ?_⟩
  refine r F H σ S G o _ h _ fun F1 H1 vs ds G1 e1 g1 q1 h1 => ?_
  dsimp only at h1
  split at h1
  · cases q1 with
    | cons a1 b1 =>
      cases b1 with
      | cons a2 b2 =>
        cases b2
        exact ⟨_, _, rfl, k.nx F1 H1 _ _ G1 e1 ⟨g1, (((o.s.mono e1.ex).set a1 i).set a2 j)⟩ h1⟩
  · exact h1.elim
def dPar3 (i j l : Nat) (ta : DTA) : DTS := fun D' S G => ta S G fun ds G1 => match ds with
  | [x, y, z] => D'.nx (((S.set i (some x)).set j (some y)).set l (some z)) G1
  | _ => False
theorem dp_par3 {i j l : Nat} {x y z : Str} {a b c : Expr} {ta : DTA} {px py pz pt : Pos} {kt k2 pt2} (hc : X.calm = true) (hN : X.N.Nodup) (hi : X.N[i]? = some x := by rfl) (hj : X.N[j]? = some y := by rfl) (hl : X.N[l]? = some z := by rfl) (hij : i ≠ j := by decide) (hil : i ≠ l := by decide) (hjl : j ≠ l := by decide)
    (hx : X.env.scope.names.lookup x = some .local := by rfl) (hy : X.env.scope.names.lookup y = some .local := by rfl) (hz : X.env.scope.names.lookup z = some .local := by rfl) (ha : DA X [a, b, c] ta)
    (hw : swappedStores [.Tuple [.Name x px, .Name y py, .Name z pz] kt pt] (.Tuple [a, b, c] k2 pt2) X.env = pure (some [x, y, z]) := by rfl)
    (hs : swapsWithSole [.Tuple [.Name x px, .Name y py, .Name z pz] kt pt] (.Tuple [a, b, c] k2 pt2) pos.line X.env = pure false := by rfl) :
    DP X (.Assign [.Tuple [.Name x px, .Name y py, .Name z pz] kt pt] (.Tuple [a, b, c] k2 pt2) pos) (dPar3 i j l ta) := by
  obtain ⟨t, p, r⟩ := ha.ex
  refine ⟨_, ps_par3 hc hN hi hj hl hij hil hjl hx hy hz p hw hs, fun F H σ S G o D' h D0 k => ?_⟩
  refine r F H σ S G o _ h _ fun F1 H1 vs ds G1 e1 g1 q1 h1 => ?_
  dsimp only at h1
  split at h1
  · cases q1 with
    | cons a1 b1 =>
      cases b1 with
      | cons a2 b2 =>
        cases b2 with
        | cons a3 b3 =>
          cases b3
          exact ⟨_, _, _, rfl, k.nx F1 H1 _ _ G1 e1 ⟨g1, ((((o.s.mono e1.ex).set a1 i).set a2 j).set a3 l)⟩ h1⟩
  · exact h1.elim
/-- x += e, whole numbers -/
def dAug (i : Nat) (te : DTE) (f : Int → Int → Int) : DTS := fun D' S G => match S[i]? with
  | some (some (.int a)) => te S G fun d G1 => (match d with
    | .int b => D'.nx (S.set i (some (.int (f a b)))) G1
    | _ => False)
  | _ => False
theorem dp_aug {i : Nat} {x : Str} {e : Expr} {te : DTE} {op : Operator} {f : Int → Int → Int} {pos' : Pos} (hN : X.N.Nodup) (ho : PIp X op (ipI f)) (he : DE X e te) (hi : X.N[i]? = some x := by rfl) (hx : Loc X.env.scope x := by first | exact Or.inl rfl | exact Or.inr rfl) (hf : X.fn x = true ∨ X.env.scope.names.lookup x = some .local := by first | exact .inl rfl | exact .inr rfl | assumption) :
    DP X (.AugAssign (.Name x pos') op e pos) (dAug i te f) := by
  obtain ⟨t, p, r⟩ := he.ex
  refine ⟨_, ps_aug hN hi hx p ho hf, fun F H σ S G o D' h D0 k => ?_⟩
  unfold dAug at h
  split at h
  · rename_i a ea
    obtain ⟨v, hv, rv⟩ := o.s.get ea
    cases rv
    refine ⟨_, hv, r F H σ S G o _ h _ fun F1 H1 u d G1 e1 g1 q1 h1 => ?_⟩
    dsimp only at h1
    split at h1
    · cases q1
      exact ⟨_, _, rfl, rfl, k.nx F1 H1 _ _ G1 e1 ⟨g1, (o.s.mono e1.ex).set (.int _) i⟩ h1⟩
    · exact h1.elim
  · exact h.elim
def dRevL (te : DTE) : DTE := fun S G Q => te S G fun d G1 => match d.cur G1 with
  | .lst xs => Q (.lst xs.reverse) G1
  | _ => False
def dRevLM (te : DTE) : DTE := fun S G Q => te S G fun d G1 => match d.cur G1 with
  | .lst xs => ∀ p, G1 p = none → Q (.rf p) (gput G1 p (.lst xs.reverse))
  | _ => False
theorem de_revLM {e : Expr} {te : DTE} {k : Nat} {p1 p2 p3 : Pos} (he : DE X e te) : DE X (.Subscript e (.Slice none none (some (.UnaryOp .USub (.Constant (.int 1) k p1) p2)) p3) pos) (dRevLM te) := by
  obtain ⟨t, p, r⟩ := he.ex
  refine ⟨_, pe_revL p, fun F H σ S G o Q' h Q kk => ?_⟩
  refine r F H σ S G o _ h _ fun F1 H1 v d G1 e1 g1 q1 h1 => ?_
  dsimp only at h1
  split at h1
  · rename_i xs ex
    obtain ⟨a, vs, rfl, ha, rs⟩ := cur_list g1 q1 ex
    refine ⟨a, vs, rfl, .inl (.inl ha), fun p hp => ?_⟩
    exact kk _ _ _ _ _ (e1.trans (Go.alloc hp)) (g1.alloc (o := .lst xs.reverse) hp rfl ⟨_, upd_same, rs.reverse⟩) (.rf p) (h1 p (g1.free hp))
  · exact h1.elim
abbrev DTP := DS → GH → (List (D × D) → GH → Prop) → Prop
inductive RepP (K : PySem.W.Frag) (F : Hp) : List (V × V) → List (D × D) → Prop
  | nil : RepP K F [] []
  | cons {a b : V} {c d : D} {ps : List (V × V)} {qs : List (D × D)} : Rep K F a c → Rep K F b d → RepP K F ps qs → RepP K F ((a, b) :: ps) ((c, d) :: qs)
theorem RepP.mono {K : PySem.W.Frag} {F F' : Hp} (e : Ex F F') : ∀ {ps : List (V × V)} {qs : List (D × D)}, RepP K F ps qs → RepP K F' ps qs
  | _, _, .nil => .nil
  | _, _, .cons a b t => .cons (a.mono e) (b.mono e) (RepP.mono e t)
structure DPp (X : Cx) (pos : Pos) (keys : List (Option Expr)) (values : List Expr) (t' : DTP) : Prop where
  ex : ∃ trs, PPs X pos keys values trs ∧ ∀ F H σ S G, Ok X.K F H σ S G → ∀ Q', t' S G Q' → ∀ Q : List (V × V) → Hp → Prop, (∀ F' H' ps qs G', Go F H G F' H' G' → Gok X.K F' H' G' → RepP X.K F' ps qs → Q' qs G' → Q ps H') → tPairs trs σ H Q
def dpNil : DTP := fun _ G Q => Q [] G
def dpCons (tk tv : DTE) (tr : DTP) : DTP := fun S G Q => tk S G fun k G1 => tv S G1 fun v G2 => tr S G2 fun qs G3 => Q ((k, v) :: qs) G3
theorem dpp_nil : DPp X pos [] [] dpNil := ⟨_, pps_nil, fun F H σ S G o Q' h Q k => k F H [] [] G Go.refl o.g .nil h⟩
theorem dpp_cons {k v : Expr} {ks : List (Option Expr)} {vs : List Expr} {tk tv : DTE} {tr : DTP} (hk : DE X k tk) (hv : DE X v tv) (hr : DPp X pos ks vs tr) : DPp X pos (some k :: ks) (v :: vs) (dpCons tk tv tr) := by
  obtain ⟨t1, p1, r1⟩ := hk.ex
  obtain ⟨t2, p2, r2⟩ := hv.ex
  obtain ⟨t3, p3, r3⟩ := hr.ex
  refine ⟨_, pps_cons p1 p2 p3, fun F H σ S G o Q' h Q kk => ?_⟩
  refine r1 F H σ S G o _ h _ fun F1 H1 v1 d1 G1 e1 g1 q1 h1 => ?_
  refine r2 F1 H1 σ S G1 (o.go e1 g1) _ h1 _ fun F2 H2 v2 d2 G2 e2 g2 q2 h2 => ?_
  refine r3 F2 H2 σ S G2 ((o.go e1 g1).go e2 g2) _ h2 _ fun F3 H3 ps qs G3 e3 g3 q3 h3 => ?_
  exact kk F3 H3 _ _ G3 ((e1.trans e2).trans e3) g3 (.cons ((q1.mono e2.ex).mono e3.ex) (q2.mono e3.ex) q3) h3
def keyed : List (D × D) → Option (List (Key × D))
  | [] => some []
  | (k, v) :: r => match k.key, keyed r with
    | some k, some r => some ((k, v) :: r)
    | _, _ => none
theorem keyed_rep {K : PySem.W.Frag} {F : Hp} : ∀ {ps : List (V × V)} {qs : List (D × D)} {kds : List (Key × D)}, RepP K F ps qs → keyed qs = some kds → ∃ kvs : List (Key × V), ps = kvs.map (fun kv => (kV kv.1, kv.2)) ∧ KR K F kvs kds
  | _, _, _, .nil, h => by cases h; exact ⟨[], rfl, .nil⟩
  | _, _, kds, .cons (c := c) (d := d) (qs := qs) a b t, h => by
    unfold keyed at h
    cases e1 : c.key with
    | none => simp [e1] at h
    | some k =>
      cases e2 : keyed qs with
      | none => simp [e1, e2] at h
      | some r =>
        simp only [e1, e2] at h
        cases h
        obtain ⟨kvs, rfl, kr⟩ := keyed_rep t e2
        have := a.key e1
        subst this
        exact ⟨(k, _) :: kvs, rfl, .cons b kr⟩
def mergeD (kds more : List (Key × D)) : List (Key × D) := more.foldl (fun acc kv => putD acc kv.1 kv.2) kds
theorem KR.merge {K : PySem.W.Frag} {F : Hp} : ∀ {more : List (Key × D)} {mv : List (Key × V)} {kds : List (Key × D)} {kvs : List (Key × V)}, KR K F mv more → KR K F kvs kds → KR K F (mergeK kvs mv) (mergeD kds more)
  | [], mv, kds, kvs, h, r => by
    obtain rfl := h.unnil
    exact r
  | (k, d) :: more, mv, kds, kvs, h, r => by
    obtain ⟨v, mv', rfl, rv, t⟩ := h.uncons
    show KR K F (mergeK (putK kvs k v) mv') (mergeD (putD kds k d) more)
    exact KR.merge t (r.put rv)
def dDisp (tp : DTP) : DTE := fun S G Q => tp S G fun qs G1 => match keyed qs with
  | some kds => kds.length ≤ 15 ∧ Q (.dK (mergeD [] kds)) G1
  | none => False
theorem disp_core {keys : List (Option Expr)} {values : List Expr} {tp : DTP} (h : DPp X pos keys values tp) (hall : keys.all (·.isSome) = true) (hl : keys.length = values.length) (h0 : keys ≠ []) (h15 : keys.length ≤ 15) :
    ∃ t, PE X (.Dict keys values pos) t ∧ ∀ F H σ S G, Ok X.K F H σ S G → ∀ Q' : List (Key × D) → GH → Prop, (tp S G fun qs G1 => match keyed qs with | some kds => kds.length ≤ 15 ∧ Q' (mergeD [] kds) G1 | none => False) → ∀ Q : VK,
      (∀ F' H' G' p kvs kds, H p = none → Go F H G F' H' G' → Gok X.K F' H' G' → F' p = none → G' p = none → KR X.K F' kvs kds → Q' kds G' → H' p = some (.dK []) → Q (.ref p) (upd H' p (.dK kvs))) → t σ H Q := by
  obtain ⟨trs, p1, r⟩ := h.ex
  refine ⟨_, pe_disp p1 hall hl h0 h15, fun F H σ S G o Q' h Q k => ?_⟩
  intro p hp
  have gp : G p = none := o.g.free hp
  have fp : F p = none := o.g.ex.nope hp
  have gr : Gr F H F (upd H p (.dK [])) := Gr.only o.g.ex hp
  refine r F _ σ S G ⟨o.g.grow gr, o.s⟩ _ h _ fun F1 H1 ps qs G1 e1 g1 q1 h1 => ?_
  split at h1
  · rename_i kds ek
    obtain ⟨kvs, rfl, kr⟩ := keyed_rep q1 ek
    have fr := e1.fr p _ upd_same gp
    refine ⟨fr.1, kvs, rfl, by rw [kr.len]; exact h1.1, ?_⟩
    exact k F1 H1 G1 p _ _ hp ((gr.go (G := G)).trans e1) g1 (e1.no p _ upd_same gp fp (fun _ z => nomatch z)) fr.2 (KR.merge kr .nil) h1.2 fr.1
  · exact h1.elim
theorem de_disp {keys : List (Option Expr)} {values : List Expr} {tp : DTP} (h : DPp X pos keys values tp) (hall : keys.all (·.isSome) = true := by rfl) (hl : keys.length = values.length := by rfl) (h0 : keys ≠ [] := by intro z; cases z) (h15 : keys.length ≤ 15 := by decide) : DE X (.Dict keys values pos) (dDisp tp) := by
  obtain ⟨t, p1, r⟩ := disp_core h hall hl h0 h15
  refine ⟨t, p1, fun F H σ S G o Q' h Q k => ?_⟩
  refine r F H σ S G o (fun kds G' => Q' (.dK kds) G') h Q fun F' H' G' p kvs kds hp go g fp gp kr q hd => ?_
  have g2 : Gok X.K (upd F' p (.dK kvs)) (upd H' p (.dK kvs)) G' := by
    refine ⟨g.ex.upds _, fun a w e => ?_, g.one⟩
    have nq : a ≠ p := fun y => by rw [y, gp] at e; cases e
    obtain ⟨f, m⟩ := g.at_ a w e
    refine ⟨by rw [upd_ne nq]; exact f, m.move (Ex.new fp) (fun b u hb hc => ?_) fun c z => z⟩
    have n2 : b ≠ p := fun z => by
      rcases hc with hc | hc
      · exact nq (hc ▸ z)
      · rw [z, gp] at hc; cases hc
    rw [upd_ne n2]; exact hb
  have go2 : Go F H G (upd F' p (.dK kvs)) (upd H' p (.dK kvs)) G' := by
    refine ⟨go.ex.trans (Ex.new fp), fun b u hb gb => ?_, fun b u hb gb fb t => ?_, fun b z => go.st b (upd_none z)⟩
    · have n2 : b ≠ p := fun z => by rw [z, hp] at hb; cases hb
      rw [upd_ne n2]; exact go.fr b u hb gb
    · have n2 : b ≠ p := fun z => by rw [z, hp] at hb; cases hb
      rw [upd_ne n2]; exact go.no b u hb gb fb t
  have kr2 := kr.mono (Ex.new (o := .dK kvs) fp)
  exact k _ _ _ _ G' go2 g2 (.dK upd_same kr2.ks kr2.vs) q
def dDispM (tp : DTP) : DTE := fun S G Q => tp S G fun qs G1 => match keyed qs with
  | some kds => kds.length ≤ 15 ∧ ∀ p, G1 p = none → Q (.rf p) (gput G1 p (.dK (mergeD [] kds)))
  | none => False
theorem de_dispM {keys : List (Option Expr)} {values : List Expr} {tp : DTP} (h : DPp X pos keys values tp) (hall : keys.all (·.isSome) = true := by rfl) (hl : keys.length = values.length := by rfl) (h0 : keys ≠ [] := by intro z; cases z) (h15 : keys.length ≤ 15 := by decide) : DE X (.Dict keys values pos) (dDispM tp) := by
  obtain ⟨t, p1, r⟩ := disp_core h hall hl h0 h15
  refine ⟨t, p1, fun F H σ S G o Q' h Q k => ?_⟩
  refine r F H σ S G o (fun kds G' => ∀ p, G' p = none → Q' (.rf p) (gput G' p (.dK kds))) h Q fun F' H' G' p kvs kds hp go g fp gp kr q hd => ?_
  have g2 : Gok X.K F' (upd H' p (.dK kvs)) (gput G' p (.dK kds)) := by
    refine ⟨g.ex.updR fp, fun a w e => ?_, fun a b k1 k2 k3 n j1 j2 j3 m e1 e2 => ?_⟩
    · by_cases nq : a = p
      · subst nq
        rw [gput_same] at e; cases e
        exact ⟨fp, _, upd_same, kr.ks, kr.vs⟩
      · rw [gput_ne nq] at e
        obtain ⟨f, m⟩ := g.at_ a w e
        refine ⟨f, m.move (Ex.refl F') (fun b u hb hc => ?_) fun c z => ?_⟩
        · have n2 : b ≠ p := fun z => by
            rcases hc with hc | hc
            · exact nq (hc ▸ z)
            · rw [z, gp] at hc; cases hc
          rw [upd_ne n2]; exact hb
        · have n2 : c ≠ p := fun y => by rw [y, gp] at z; cases z
          rw [gput_ne n2]; exact z
    · have ha : a ≠ p := fun y => by rw [y, gput_same] at e1; cases e1
      have hb : b ≠ p := fun y => by rw [y, gput_same] at e2; cases e2
      rw [gput_ne ha] at e1; rw [gput_ne hb] at e2
      exact g.one a b k1 k2 k3 n j1 j2 j3 m e1 e2
  have go2 : Go F H G F' (upd H' p (.dK kvs)) (gput G' p (.dK kds)) := by
    refine ⟨go.ex, fun b u hb gb => ?_, go.no, fun b z => go.st b (upd_none z)⟩
    have n2 : b ≠ p := fun z => by rw [z, hp] at hb; cases hb
    rw [upd_ne n2, gput_ne n2]; exact go.fr b u hb gb
  exact k _ _ _ _ _ go2 g2 (.rf p) (q p gp)
def D.shown (d : D) : Str := d.py.shown
structure Cal (P : Program) (w : World) (K : PySem.W.Frag) (mg : Str → Option Value) (base : Heap) (x : Str) (k : Nat) (ps : List Str) (sp : SpD) : Prop where
  ex : ∃ f fd, FnG P w K mg base CX0 k f fd ps (SpOf K sp) ∧ mg x = some (.ref f) ∧ PySem.W.keepIn K (.ref f) = true ∧ Binds K fd ps []
theorem de_cal {x : Str} {k : Nat} {ps : List Str} {sp : SpD} {p : Pos} {e : Expr} {es : List Expr} {ta : DTA} (c : Cal X.prog X.w X.K X.mg X.base x k ps sp) (hA : X.A.guards = some []) (hr : Room k X.A) (ha : DA X (e :: es) ta) (hg : Gl X x := by rfl) (hdb : (x == ("__debug__" : Str)) = false := by decide)
    (he : starEach (e :: es) X.env = (false, eval e X.env) :: starEach es X.env := by rfl) (hpl : (backTo pos (starEach es X.env)).any (·.1) = false := by rfl) : DE X (.Call (.Name x p) (e :: es) [] pos) (dCall sp ta) := by
  obtain ⟨f, fd, Fn, hm, hk, hb⟩ := c.ex
  exact de_call Fn hA hr hg hm hk hb ha hdb he hpl
end
structure Def (K : PySem.W.Frag) (mg : Str → Option Value) (x : Str) (st : Stmt) : Prop where
  ex : ∃ f fd, Fun K x x st f fd ∧ mg x = some (.ref f)
theorem cal_mk {P : Program} {w : World} {K : PySem.W.Frag} {mg : Str → Option Value} {base : Heap} {x : Str} {st : Stmt} {N ps : List Str} {k : Nat} {sp : SpD} (d : Def K mg x st) (sc : FnScope N ps (defScope st)) (len : ∀ ds G Q, sp ds G Q → ds.length = ps.length)
    (bi : ∀ (kV doc pm : Value) (an : Option Addr) (cdv ct : Value) (us : List Value), us.length = ps.length → bindArgs (PySem.W.fnOf x x (defArgs st) (defBody st) (defScope st) .none kV doc pm an cdv ct) ⟨us, []⟩ = pure (ps.zip us))
    (hb : ∀ (f : Addr) (cdv : Value) (A : Around) (outer : List Env) (s : Shared) (H : Hp) (E : XK), A.guards = some [] → Room k (A.deeper (envOfC x (defScope st) s.heap.objs.size f cdv)) →
      ∃ t', DPs (cxOf CX0 P w K mg base N x (defScope st) f cdv A outer s H E).nox (defBody st) t' ∧ ∀ ds G Q, sp ds G Q → t' (fin Q) (dstart N ds) G) : Cal P w K mg base x (k + 1) ps sp := by
  obtain ⟨f, fd, Fu, hm⟩ := d.ex
  exact ⟨f, fd, fn_mk Fu sc len (hb f), hm, Fu.kp, Fu.binds bi⟩
end DL
end
section
set_option Elab.async false
set_option linter.all false
set_option maxRecDepth 100000
namespace DL
open PySem PySem.Spec PyProof.Rows L2
/-- the loop of a for over what is known -/
def ForB (ds : List D) (gd : GH → Prop) (g : DTG) (tb : DTS) (D' : DEnds) (S : DS) (G1 : GH) : Prop := ∃ W : Nat → DS → GH → Prop, W 0 S G1 ∧ (∀ i S G, W i S G → gd G) ∧
  (∀ i S G d, W i S G → ds[i]? = some d → g d S G fun S2 G2 => tb { D' with nx := W (i + 1), ct := W (i + 1), bk := D'.nx } S2 G2) ∧ (∀ S G, W ds.length S G → D'.nx S G)
def WhB (c : DTT) (tb : DTS) (D' : DEnds) (S : DS) (G : GH) : Prop := ∃ W : Nat → DS → GH → Prop, (∃ m, W m S G) ∧ ∀ m S G, W m S G →
  c S G fun b G1 => if b = true then tb { D' with nx := fun S' G' => ∃ m', m' < m ∧ W m' S' G', ct := fun S' G' => ∃ m', m' < m ∧ W m' S' G', bk := D'.nx } S G1 else D'.nx S G1
def LcB (ds : List D) (gd : GH → Prop) (p : Pat) (tt : DTT) (te : DTE) (vs : List Nat) (S : DS) (G1 : GH) (Q : DQ) : Prop := ds.length ≤ sizeLine ∧ ∃ W : Nat → List D → GH → Prop, W 0 [] G1 ∧ (∀ i acc G, W i acc G → gd G) ∧
  (∀ i acc G d, W i acc G → ds[i]? = some d → ∃ S2, p.put d (dwipe S vs) = some S2 ∧ tt S2 G fun b G2 => if b = true then te S2 G2 fun y G3 => W (i + 1) (acc ++ [y]) G3 else W (i + 1) acc G2) ∧
  ∀ acc G, W ds.length acc G → Q (.lst acc) G
theorem x_var (i : Nat) (S : DS) (G : GH) (Q : DQ) : dVar i S G Q = (match S[i]? with | some (some d) => Q d G | _ => False) := rfl
theorem x_C (d : D) (S : DS) (G : GH) (Q : DQ) : dC d S G Q = Q d G := rfl
theorem x_nil (S : DS) (G : GH) (Q : List D → GH → Prop) : dNil S G Q = Q [] G := rfl
theorem x_cons (ta : DTE) (tr : DTA) (S : DS) (G : GH) (Q : List D → GH → Prop) : dCons ta tr S G Q = (ta S G fun d G1 => tr S G1 fun ds G2 => Q (d :: ds) G2) := rfl
theorem x_tup (ta : DTA) (S : DS) (G : GH) (Q : DQ) : dTup ta S G Q = (ta S G fun ds G1 => ds.length ≤ sizeLine ∧ Q (.tup ds) G1) := rfl
theorem x_lst (ta : DTA) (S : DS) (G : GH) (Q : DQ) : dLst ta S G Q = (ta S G fun ds G1 => ds.length ≤ sizeLine ∧ Q (.lst ds) G1) := rfl
theorem x_lstM (ta : DTA) (S : DS) (G : GH) (Q : DQ) : dLstM ta S G Q = (ta S G fun ds G1 => ds.length ≤ sizeLine ∧ ∀ p, G1 p = none → Q (.rf p) (gput G1 p (.lst ds))) := rfl
theorem x_op (r : DR2) (ta tb : DTE) (S : DS) (G : GH) (Q : DQ) : dOp r ta tb S G Q = (ta S G fun x G1 => tb S G1 fun y G2 => r x y G2 Q) := rfl
theorem x_un (r : DR1) (ta : DTE) (S : DS) (G : GH) (Q : DQ) : dUn r ta S G Q = (ta S G fun x G1 => r x G1 Q) := rfl
theorem x_test (ta : DTE) (S : DS) (G : GH) (Q : Bool → GH → Prop) : dTest ta S G Q = (ta S G fun d G1 => match d with | .bl b => Q b G1 | _ => False) := rfl
theorem x_not (t : DTT) (S : DS) (G : GH) (Q : Bool → GH → Prop) : dNot t S G Q = (t S G fun b G1 => Q (!b) G1) := rfl
theorem x_and (t u : DTT) (S : DS) (G : GH) (Q : Bool → GH → Prop) : dAnd t u S G Q = (t S G fun b G1 => if b = true then u S G1 Q else Q false G1) := rfl
theorem x_or (t u : DTT) (S : DS) (G : GH) (Q : Bool → GH → Prop) : dOr t u S G Q = (t S G fun b G1 => if b = true then Q true G1 else u S G1 Q) := rfl
theorem x_if (t : DTT) (ta tb : DTE) (S : DS) (G : GH) (Q : DQ) : dIf t ta tb S G Q = (t S G fun b G1 => if b = true then ta S G1 Q else tb S G1 Q) := rfl
theorem x_andV (ta tb : DTE) (S : DS) (G : GH) (Q : DQ) : dAndV ta tb S G Q = (ta S G fun d G1 => match d with | .bl b => if b = true then tb S G1 Q else Q (.bl false) G1 | _ => False) := rfl
theorem x_orV (ta tb : DTE) (S : DS) (G : GH) (Q : DQ) : dOrV ta tb S G Q = (ta S G fun d G1 => match d with | .bl b => if b = true then Q (.bl true) G1 else tb S G1 Q | _ => False) := rfl
theorem x_notV (ta : DTE) (S : DS) (G : GH) (Q : DQ) : dNotV ta S G Q = (ta S G fun d G1 => match d with | .bl b => Q (.bl (!b)) G1 | _ => False) := rfl
theorem x_gname (i : Nat) (d : D) (S : DS) (G : GH) (Q : DS → GH → Prop) : dgName i d S G Q = Q (S.set i (some d)) G := rfl
theorem x_gkup (n : Nat) (u : DTGs) (ds : List D) (S : DS) (G : GH) (Q : DS → GH → Prop) : dgTup n u (.kup ds) S G Q = (ds.length = n ∧ u ds S G Q) := rfl
theorem x_gtup (n : Nat) (u : DTGs) (ds : List D) (S : DS) (G : GH) (Q : DS → GH → Prop) : dgTup n u (.tup ds) S G Q = (ds.length = n ∧ u ds S G Q) := rfl
theorem x_gnil (S : DS) (G : GH) (Q : DS → GH → Prop) : dgNil [] S G Q = Q S G := rfl
theorem x_gcons (t : DTG) (u : DTGs) (d : D) (ds : List D) (S : DS) (G : GH) (Q : DS → GH → Prop) : dgCons t u (d :: ds) S G Q = (t d S G fun S1 G1 => u ds S1 G1 Q) := rfl
theorem x_next (D' : DEnds) (S : DS) (G : GH) : dNext D' S G = D'.nx S G := rfl
theorem x_seq (t u : DTS) (D' : DEnds) (S : DS) (G : GH) : dSeq t u D' S G = t { D' with nx := u D' } S G := rfl
theorem x_asg (te : DTE) (g : DTG) (D' : DEnds) (S : DS) (G : GH) : dAsg te g D' S G = (te S G fun d G1 => g d S G1 D'.nx) := rfl
theorem x_drop (te : DTE) (D' : DEnds) (S : DS) (G : GH) : dDrop te D' S G = (te S G fun _ G1 => D'.nx S G1) := rfl
theorem x_ret (te : DTE) (D' : DEnds) (S : DS) (G : GH) : dRet te D' S G = te S G D'.rt := rfl
theorem x_retN (D' : DEnds) (S : DS) (G : GH) : dRetN D' S G = D'.rt .non G := rfl
theorem x_ifS (c : DTT) (t u : DTS) (D' : DEnds) (S : DS) (G : GH) : dIfS c t u D' S G = (c S G fun b G1 => if b = true then t D' S G1 else u D' S G1) := rfl
theorem x_never (D' : DEnds) (S : DS) (G : GH) : dNever D' S G = False := rfl
theorem x_break (D' : DEnds) (S : DS) (G : GH) : dBreak D' S G = D'.bk S G := rfl
theorem x_cont (D' : DEnds) (S : DS) (G : GH) : dCont D' S G = D'.ct S G := rfl
theorem x_call (sp : SpD) (ta : DTA) (S : DS) (G : GH) (Q : DQ) : dCall sp ta S G Q = (ta S G fun ds G1 => sp ds G1 Q) := rfl
theorem x_cb (r : List D → GH → DQ → Prop) (ta : DTA) (S : DS) (G : GH) (Q : DQ) : dCB r ta S G Q = (ta S G fun ds G1 => r ds G1 Q) := rfl
theorem x_bm (T : String) (r : D → List D → GH → DQ → Prop) (to : DTE) (ta : DTA) (S : DS) (G : GH) (Q : DQ) : dBM T r to ta S G Q = (to S G fun x G1 => D.hasTy T (x.cur G1) = true ∧ ta S G1 fun ds G2 => r x ds G2 Q) := rfl
theorem x_bm0 (T : String) (r : D → List D → GH → DQ → Prop) (to : DTE) (S : DS) (G : GH) (Q : DQ) : dBM0 T r to S G Q = (to S G fun x G1 => D.hasTy T (x.cur G1) = true ∧ r x [] G1 Q) := rfl
theorem x_nopart (S : DS) (G : GH) (Q : Option Int → GH → Prop) : dNoPart S G Q = Q none G := rfl
theorem x_part (ta : DTE) (S : DS) (G : GH) (Q : Option Int → GH → Prop) : dPart ta S G Q = (ta S G fun d G1 => match d with | .int i => Q (some i) G1 | _ => False) := rfl
theorem x_slice (ta : DTE) (tl th : DTO) (S : DS) (G : GH) (Q : DQ) : dSlice ta tl th S G Q = (ta S G fun x G1 => tl S G1 fun lo G2 => th S G2 fun hi G3 => rSlice x lo hi G3 Q) := rfl
theorem x_newK (S : DS) (G : GH) (Q : DQ) : dNewK S G Q = (∀ p, G p = none → Q (.rf p) (gput G p (.dK []))) := rfl
theorem x_newT (S : DS) (G : GH) (Q : DQ) : dNewT S G Q = (∀ p, G p = none → Q (.rf p) (gput G p (.dT []))) := rfl
theorem x_yes (S : DS) (G : GH) (Q : Bool → GH → Prop) : dYes S G Q = Q true G := rfl
theorem x_pnil (S : DS) (G : GH) (Q : List (D × D) → GH → Prop) : dpNil S G Q = Q [] G := rfl
theorem x_pcons (tk tv : DTE) (tr : DTP) (S : DS) (G : GH) (Q : List (D × D) → GH → Prop) : dpCons tk tv tr S G Q = (tk S G fun k G1 => tv S G1 fun v G2 => tr S G2 fun qs G3 => Q ((k, v) :: qs) G3) := rfl
theorem x_dCold (ta : DTE) (S : DS) (G : GH) (Q : DQ) : dCold ta S G Q = (ta S G fun d G1 => match d with
  | .rf a => (match G1 a with
    | some o => (match o.cold with
      | some d => Q d (gdel G1 a)
      | none => False)
    | none => False)
  | d => Q d G1) := rfl
theorem x_dFld (C : Addr) (f : Str) (ta : DTE) (S : DS) (G : GH) (Q : DQ) : dFld C f ta S G Q = (ta S G fun d G1 => match d.cur G1 with
  | .obj C' fs => C' = C ∧ (match fs.lookup f with
    | some v => Q v G1
    | none => False)
  | _ => False) := rfl
theorem x_dSetFld (C : Addr) (f : Str) (ta tv : DTE) (D' : DEnds) (S : DS) (G : GH) : dSetFld C f ta tv D' S G = (tv S G fun y G1 => ta S G1 fun x G2 => match x with
  | .rf a => (match G2 a with
    | some (.ins C' fs) => C' = C ∧ fs.length < 1000 ∧ D'.nx S (gput G2 a (.ins C (putFD f y fs)))
    | _ => False)
  | _ => False) := rfl
theorem x_dSetSub (to ti : DTE) (v : D) (S : DS) (G : GH) (Q : DS → GH → Prop) : dSetSub to ti v S G Q = (to S G fun x G1 => ti S G1 fun i G2 => match x with
  | .rf a => (match G2 a with
    | some (.lst xs) => (match i with
      | .int j => (match ixN xs.length j with
        | some n => Q S (gput G2 a (.lst (xs.set n v)))
        | none => False)
      | _ => False)
    | some (.dK kds) => (match i.key with
      | some k => kds.length < sizeLine ∧ Q S (gput G2 a (.dK (putD kds k v)))
      | none => False)
    | some (.dT kds) => (match i with
      | .tup ds => (match D.keys ds with
        | some k => kds.length < sizeLine ∧ Q S (gput G2 a (.dT (putD kds k v)))
        | none => False)
      | _ => False)
    | _ => False)
  | _ => False) := rfl
theorem x_dMeth (C : Addr) (m : Str) (sp : SpD) (ta : DTE) (tr : DTA) (S : DS) (G : GH) (Q : DQ) : dMeth C m sp ta tr S G Q = (ta S G fun d G1 => match d.cur G1 with
  | .obj C' fs => C' = C ∧ fs.lookup m = none ∧ tr S G1 fun ds G2 => sp (d :: ds) G2 Q
  | _ => False) := rfl
theorem x_dMake (C : Addr) (sp : SpD) (tr : DTA) (S : DS) (G : GH) (Q : DQ) : dMake C sp tr S G Q = (tr S G fun ds G1 => ∀ y, G1 y = none → sp (.rf y :: ds) (gput G1 y (.ins C [])) fun d G2 => match d with
  | .non => Q (.rf y) G2
  | _ => False) := rfl
theorem x_diTup (te : DTE) (S : DS) (G : GH) (R : List D → (GH → Prop) → GH → Prop) : diTup te S G R = (te S G fun d G1 => match d with
  | .tup ds => R ds dNoGuard G1
  | .kup ds => R ds dNoGuard G1
  | _ => False) := rfl
theorem x_diList (te : DTE) (S : DS) (G : GH) (R : List D → (GH → Prop) → GH → Prop) : diList te S G R = (te S G fun d G1 => match d with
  | .lst ds => R ds dNoGuard G1
  | .rf a => (match G1 a with
    | some (.lst ds) => R ds (fun G => G a = some (.lst ds)) G1
    | _ => False)
  | _ => False) := rfl
theorem x_diStr (te : DTE) (S : DS) (G : GH) (R : List D → (GH → Prop) → GH → Prop) : diStr te S G R = (te S G fun d G1 => match d with
  | .str x => R (signs x) dNoGuard G1
  | _ => False) := rfl
theorem x_diRange1 (ta : DTA) (S : DS) (G : GH) (R : List D → (GH → Prop) → GH → Prop) : diRange1 ta S G R = (ta S G fun ds G1 => match ds with
  | [.int n] => -(2 ^ 62) ≤ n ∧ n < 2 ^ 62 ∧ R ((List.range n.toNat).map fun i => .int (i : Nat)) dNoGuard G1
  | _ => False) := rfl
theorem x_diRange2 (ta : DTA) (S : DS) (G : GH) (R : List D → (GH → Prop) → GH → Prop) : diRange2 ta S G R = (ta S G fun ds G1 => match ds with
  | [.int m, .int n] => (-(2 ^ 62) ≤ m ∧ m < 2 ^ 62 ∧ -(2 ^ 62) ≤ n ∧ n < 2 ^ 62) ∧ R ((List.range (n - m).toNat).map fun i => .int (m + (i : Nat))) dNoGuard G1
  | _ => False) := rfl
theorem x_dLcM (wi : DTI) (p : Pat) (tt : DTT) (te : DTE) (vs : List Nat) (S : DS) (G : GH) (Q : DQ) : dLcM wi p tt te vs S G Q = (dLc wi p tt te vs S G fun d G' => match d with
  | .lst acc => ∀ a, G' a = none → Q (.rf a) (gput G' a (.lst acc))
  | _ => False) := rfl
theorem x_dGet1 (td ty : DTE) (S : DS) (G : GH) (Q : DQ) : dGet1 td ty S G Q = (td S G fun x G1 => D.hasTy "dict" (x.cur G1) = true ∧ ty S G1 fun y G2 => match (x.cur G2).look y with
  | some o => Q (o.getD .non) G2
  | none => False) := rfl
theorem x_dGet2 (td ty tx : DTE) (S : DS) (G : GH) (Q : DQ) : dGet2 td ty tx S G Q = (td S G fun x G1 => D.hasTy "dict" (x.cur G1) = true ∧ ty S G1 fun y G2 => tx S G2 fun z G3 => match (x.cur G3).look y with
  | some o => Q (o.getD z) G3
  | none => False) := rfl
theorem x_diEnumT (ta : DTA) (S : DS) (G : GH) (R : List D → (GH → Prop) → GH → Prop) : diEnumT ta S G R = (ta S G fun ds G1 => match ds with
  | [.tup xs] => R (xs.mapIdx fun i x => .tup [.int (i : Nat), x]) dNoGuard G1
  | [.kup xs] => R (xs.mapIdx fun i x => .tup [.int (i : Nat), x]) dNoGuard G1
  | _ => False) := rfl
theorem x_diZipS (ta : DTA) (S : DS) (G : GH) (R : List D → (GH → Prop) → GH → Prop) : diZipS ta S G R = (ta S G fun ds G1 => match ds with
  | [.str x, .str y] => R (List.zipWith (fun a b => .tup [.str (sgn a), .str (sgn b)]) x.cps.toList y.cps.toList) dNoGuard G1
  | _ => False) := rfl
theorem x_diZipT (ta : DTA) (S : DS) (G : GH) (R : List D → (GH → Prop) → GH → Prop) : diZipT ta S G R = (ta S G fun ds G1 => match ds with
  | [.tup xs, .tup ys] => R (List.zipWith (fun a b => .tup [a, b]) xs ys) dNoGuard G1
  | _ => False) := rfl
theorem x_dPar (i j : Nat) (ta : DTA) (D' : DEnds) (S : DS) (G : GH) : dPar i j ta D' S G = (ta S G fun ds G1 => match ds with
  | [x, y] => D'.nx ((S.set i (some x)).set j (some y)) G1
  | _ => False) := rfl
theorem x_dPar3 (i j l : Nat) (ta : DTA) (D' : DEnds) (S : DS) (G : GH) : dPar3 i j l ta D' S G = (ta S G fun ds G1 => match ds with
  | [x, y, z] => D'.nx (((S.set i (some x)).set j (some y)).set l (some z)) G1
  | _ => False) := rfl
theorem x_dAug (i : Nat) (te : DTE) (f : Int → Int → Int) (D' : DEnds) (S : DS) (G : GH) : dAug i te f D' S G = (match S[i]? with
  | some (some (.int a)) => te S G fun d G1 => (match d with
    | .int b => D'.nx (S.set i (some (.int (f a b)))) G1
    | _ => False)
  | _ => False) := rfl
theorem x_dRevL (te : DTE) (S : DS) (G : GH) (Q : DQ) : dRevL te S G Q = (te S G fun d G1 => match d.cur G1 with
  | .lst xs => Q (.lst xs.reverse) G1
  | _ => False) := rfl
theorem x_dRevLM (te : DTE) (S : DS) (G : GH) (Q : DQ) : dRevLM te S G Q = (te S G fun d G1 => match d.cur G1 with
  | .lst xs => ∀ p, G1 p = none → Q (.rf p) (gput G1 p (.lst xs.reverse))
  | _ => False) := rfl
theorem x_dDisp (tp : DTP) (S : DS) (G : GH) (Q : DQ) : dDisp tp S G Q = (tp S G fun qs G1 => match keyed qs with
  | some kds => kds.length ≤ 15 ∧ Q (.dK (mergeD [] kds)) G1
  | none => False) := rfl
theorem x_dDispM (tp : DTP) (S : DS) (G : GH) (Q : DQ) : dDispM tp S G Q = (tp S G fun qs G1 => match keyed qs with
  | some kds => kds.length ≤ 15 ∧ ∀ p, G1 p = none → Q (.rf p) (gput G1 p (.dK (mergeD [] kds)))
  | none => False) := rfl
theorem x_dChain (r r' : DR2) (ta tb tc : DTE) (S : DS) (G : GH) (Q : DQ) : dChain r r' ta tb tc S G Q = (ta S G fun x G1 => tb S G1 fun y G2 => r x y G2 fun z G3 => match z with
  | .bl k => if k = true then tc S G3 fun w G4 => r' y w G4 Q else Q (.bl false) G3
  | _ => False) := rfl
theorem x_for (wi : DTI) (g : DTG) (tb : DTS) (D' : DEnds) (S : DS) (G : GH) : dFor wi g tb D' S G = (wi S G fun ds gd G1 => ForB ds gd g tb D' S G1) := rfl
theorem x_while (c : DTT) (tb : DTS) (D' : DEnds) (S : DS) (G : GH) : dWhile c tb D' S G = WhB c tb D' S G := rfl
theorem x_lc (wi : DTI) (p : Pat) (tt : DTT) (te : DTE) (vs : List Nat) (S : DS) (G : GH) (Q : DQ) : dLc wi p tt te vs S G Q = (wi S G fun ds gd G1 => LcB ds gd p tt te vs S G1 Q) := rfl
theorem x_curK (G : GH) (a : Addr) : D.cur G (.rf a) = (match G a with
    | some (.lst xs) => .lst xs
    | some (.dK kds) => .dK kds
    | some (.dT kds) => .dT kds
    | some (.ins C kds) => .obj C kds
    | _ => .rf a) := rfl
theorem x_cur_non (G : GH)  : D.cur G (.non ) = .non  := rfl
theorem x_cur_bl (G : GH) (b : Bool) : D.cur G (.bl b) = .bl b := rfl
theorem x_cur_int (G : GH) (i : Int) : D.cur G (.int i) = .int i := rfl
theorem x_cur_str (G : GH) (x : Str) : D.cur G (.str x) = .str x := rfl
theorem x_ty_str (T : String) (x : Str) : D.hasTy T (.str x) = (T == "str") := rfl
theorem x_cur_ty (G : GH) (n : String) : D.cur G (.ty n) = .ty n := rfl
theorem x_cur_tup (G : GH) (xs : List D) : D.cur G (.tup xs) = .tup xs := rfl
theorem x_cur_lst (G : GH) (xs : List D) : D.cur G (.lst xs) = .lst xs := rfl
theorem x_ty_lst (T : String) (xs : List D) : D.hasTy T (.lst xs) = (T == "list") := rfl
theorem x_cur_dK (G : GH) (kvs : List (Key × D)) : D.cur G (.dK kvs) = .dK kvs := rfl
theorem x_ty_dK (T : String) (kvs : List (Key × D)) : D.hasTy T (.dK kvs) = (T == "dict") := rfl
theorem x_cur_dT (G : GH) (kvs : List (List Key × D)) : D.cur G (.dT kvs) = .dT kvs := rfl
theorem x_ty_dT (T : String) (kvs : List (List Key × D)) : D.hasTy T (.dT kvs) = (T == "dict") := rfl
theorem x_cur_obj (G : GH) (C : Addr) (fs : List (Str × D)) : D.cur G (.obj C fs) = .obj C fs := rfl
theorem x_cur_scr (G : GH) (ns : List Int) : D.cur G (.scr ns) = .scr ns := rfl
theorem x_cur_kup (G : GH) (xs : List D) : D.cur G (.kup xs) = .kup xs := rfl
theorem x_item (x y : D) (G : GH) (Q : DQ) : rItem x y G Q = (match D.item (x.cur G) y with | some d => Q d G | none => False) := rfl
theorem x_int (C : Int → Int → Prop) (f : Int → Int → Int) (i j : Int) (G : GH) (Q : DQ) : rIntD C f (.int i) (.int j) G Q = (C i j ∧ Q (.int (f i j)) G) := rfl
theorem x_neg (i : Int) (G : GH) (Q : DQ) : rNegD (.int i) G Q = Q (.int (-i)) G := rfl
theorem dxs : (((((((∀ (i : Nat) (S : DS) (G : GH) (Q : DQ), dVar i S G Q = (match S[i]? with | some (some d) => Q d G | _ => False)) ∧
 (∀ (d : D) (S : DS) (G : GH) (Q : DQ), dC d S G Q = Q d G)) ∧
 ((∀ (S : DS) (G : GH) (Q : List D → GH → Prop), dNil S G Q = Q [] G) ∧
 ((∀ (ta : DTE) (tr : DTA) (S : DS) (G : GH) (Q : List D → GH → Prop), dCons ta tr S G Q = (ta S G fun d G1 => tr S G1 fun ds G2 => Q (d :: ds) G2)) ∧
 (∀ (ta : DTA) (S : DS) (G : GH) (Q : DQ), dTup ta S G Q = (ta S G fun ds G1 => ds.length ≤ sizeLine ∧ Q (.tup ds) G1))))) ∧
 (((∀ (ta : DTA) (S : DS) (G : GH) (Q : DQ), dLst ta S G Q = (ta S G fun ds G1 => ds.length ≤ sizeLine ∧ Q (.lst ds) G1)) ∧
 ((∀ (ta : DTA) (S : DS) (G : GH) (Q : DQ), dLstM ta S G Q = (ta S G fun ds G1 => ds.length ≤ sizeLine ∧ ∀ p, G1 p = none → Q (.rf p) (gput G1 p (.lst ds)))) ∧
 (∀ (r : DR2) (ta tb : DTE) (S : DS) (G : GH) (Q : DQ), dOp r ta tb S G Q = (ta S G fun x G1 => tb S G1 fun y G2 => r x y G2 Q)))) ∧
 ((∀ (r : DR1) (ta : DTE) (S : DS) (G : GH) (Q : DQ), dUn r ta S G Q = (ta S G fun x G1 => r x G1 Q)) ∧
 ((∀ (ta : DTE) (S : DS) (G : GH) (Q : Bool → GH → Prop), dTest ta S G Q = (ta S G fun d G1 => match d with | .bl b => Q b G1 | _ => False)) ∧
 (∀ (t : DTT) (S : DS) (G : GH) (Q : Bool → GH → Prop), dNot t S G Q = (t S G fun b G1 => Q (!b) G1)))))) ∧
 ((((∀ (t u : DTT) (S : DS) (G : GH) (Q : Bool → GH → Prop), dAnd t u S G Q = (t S G fun b G1 => if b = true then u S G1 Q else Q false G1)) ∧
 ((∀ (t u : DTT) (S : DS) (G : GH) (Q : Bool → GH → Prop), dOr t u S G Q = (t S G fun b G1 => if b = true then Q true G1 else u S G1 Q)) ∧
 (∀ (t : DTT) (ta tb : DTE) (S : DS) (G : GH) (Q : DQ), dIf t ta tb S G Q = (t S G fun b G1 => if b = true then ta S G1 Q else tb S G1 Q)))) ∧
 ((∀ (ta tb : DTE) (S : DS) (G : GH) (Q : DQ), dAndV ta tb S G Q = (ta S G fun d G1 => match d with | .bl b => if b = true then tb S G1 Q else Q (.bl false) G1 | _ => False)) ∧
 ((∀ (ta tb : DTE) (S : DS) (G : GH) (Q : DQ), dOrV ta tb S G Q = (ta S G fun d G1 => match d with | .bl b => if b = true then Q (.bl true) G1 else tb S G1 Q | _ => False)) ∧
 (∀ (ta : DTE) (S : DS) (G : GH) (Q : DQ), dNotV ta S G Q = (ta S G fun d G1 => match d with | .bl b => Q (.bl (!b)) G1 | _ => False))))) ∧
 (((∀ (i : Nat) (d : D) (S : DS) (G : GH) (Q : DS → GH → Prop), dgName i d S G Q = Q (S.set i (some d)) G) ∧
 ((∀ (n : Nat) (u : DTGs) (ds : List D) (S : DS) (G : GH) (Q : DS → GH → Prop), dgTup n u (.kup ds) S G Q = (ds.length = n ∧ u ds S G Q)) ∧
 (∀ (n : Nat) (u : DTGs) (ds : List D) (S : DS) (G : GH) (Q : DS → GH → Prop), dgTup n u (.tup ds) S G Q = (ds.length = n ∧ u ds S G Q)))) ∧
 ((∀ (S : DS) (G : GH) (Q : DS → GH → Prop), dgNil [] S G Q = Q S G) ∧
 ((∀ (t : DTG) (u : DTGs) (d : D) (ds : List D) (S : DS) (G : GH) (Q : DS → GH → Prop), dgCons t u (d :: ds) S G Q = (t d S G fun S1 G1 => u ds S1 G1 Q)) ∧
 (∀ (D' : DEnds) (S : DS) (G : GH), dNext D' S G = D'.nx S G)))))) ∧
 (((((∀ (t u : DTS) (D' : DEnds) (S : DS) (G : GH), dSeq t u D' S G = t { D' with nx := u D' } S G) ∧
 (∀ (te : DTE) (g : DTG) (D' : DEnds) (S : DS) (G : GH), dAsg te g D' S G = (te S G fun d G1 => g d S G1 D'.nx))) ∧
 ((∀ (te : DTE) (D' : DEnds) (S : DS) (G : GH), dDrop te D' S G = (te S G fun _ G1 => D'.nx S G1)) ∧
 ((∀ (te : DTE) (D' : DEnds) (S : DS) (G : GH), dRet te D' S G = te S G D'.rt) ∧
 (∀ (D' : DEnds) (S : DS) (G : GH), dRetN D' S G = D'.rt .non G)))) ∧
 (((∀ (c : DTT) (t u : DTS) (D' : DEnds) (S : DS) (G : GH), dIfS c t u D' S G = (c S G fun b G1 => if b = true then t D' S G1 else u D' S G1)) ∧
 ((∀ (D' : DEnds) (S : DS) (G : GH), dNever D' S G = False) ∧
 (∀ (D' : DEnds) (S : DS) (G : GH), dBreak D' S G = D'.bk S G))) ∧
 ((∀ (D' : DEnds) (S : DS) (G : GH), dCont D' S G = D'.ct S G) ∧
 ((∀ (sp : SpD) (ta : DTA) (S : DS) (G : GH) (Q : DQ), dCall sp ta S G Q = (ta S G fun ds G1 => sp ds G1 Q)) ∧
 (∀ (r : List D → GH → DQ → Prop) (ta : DTA) (S : DS) (G : GH) (Q : DQ), dCB r ta S G Q = (ta S G fun ds G1 => r ds G1 Q)))))) ∧
 ((((∀ (T : String) (r : D → List D → GH → DQ → Prop) (to : DTE) (ta : DTA) (S : DS) (G : GH) (Q : DQ), dBM T r to ta S G Q = (to S G fun x G1 => D.hasTy T (x.cur G1) = true ∧ ta S G1 fun ds G2 => r x ds G2 Q)) ∧
 ((∀ (T : String) (r : D → List D → GH → DQ → Prop) (to : DTE) (S : DS) (G : GH) (Q : DQ), dBM0 T r to S G Q = (to S G fun x G1 => D.hasTy T (x.cur G1) = true ∧ r x [] G1 Q)) ∧
 (∀ (S : DS) (G : GH) (Q : Option Int → GH → Prop), dNoPart S G Q = Q none G))) ∧
 ((∀ (ta : DTE) (S : DS) (G : GH) (Q : Option Int → GH → Prop), dPart ta S G Q = (ta S G fun d G1 => match d with | .int i => Q (some i) G1 | _ => False)) ∧
 ((∀ (ta : DTE) (tl th : DTO) (S : DS) (G : GH) (Q : DQ), dSlice ta tl th S G Q = (ta S G fun x G1 => tl S G1 fun lo G2 => th S G2 fun hi G3 => rSlice x lo hi G3 Q)) ∧
 (∀ (S : DS) (G : GH) (Q : DQ), dNewK S G Q = (∀ p, G p = none → Q (.rf p) (gput G p (.dK []))))))) ∧
 (((∀ (S : DS) (G : GH) (Q : DQ), dNewT S G Q = (∀ p, G p = none → Q (.rf p) (gput G p (.dT [])))) ∧
 ((∀ (S : DS) (G : GH) (Q : Bool → GH → Prop), dYes S G Q = Q true G) ∧
 (∀ (S : DS) (G : GH) (Q : List (D × D) → GH → Prop), dpNil S G Q = Q [] G))) ∧
 ((∀ (tk tv : DTE) (tr : DTP) (S : DS) (G : GH) (Q : List (D × D) → GH → Prop), dpCons tk tv tr S G Q = (tk S G fun k G1 => tv S G1 fun v G2 => tr S G2 fun qs G3 => Q ((k, v) :: qs) G3)) ∧
 ((∀ (ta : DTE) (S : DS) (G : GH) (Q : DQ), dCold ta S G Q = (ta S G fun d G1 => match d with
  | .rf a => (match G1 a with
    | some o => (match o.cold with
      | some d => Q d (gdel G1 a)
      | none => False)
    | none => False)
  | d => Q d G1)) ∧
 (∀ (C : Addr) (f : Str) (ta : DTE) (S : DS) (G : GH) (Q : DQ), dFld C f ta S G Q = (ta S G fun d G1 => match d.cur G1 with
  | .obj C' fs => C' = C ∧ (match fs.lookup f with
    | some v => Q v G1
    | none => False)
  | _ => False)))))))) ∧
 ((((((∀ (C : Addr) (f : Str) (ta tv : DTE) (D' : DEnds) (S : DS) (G : GH), dSetFld C f ta tv D' S G = (tv S G fun y G1 => ta S G1 fun x G2 => match x with
  | .rf a => (match G2 a with
    | some (.ins C' fs) => C' = C ∧ fs.length < 1000 ∧ D'.nx S (gput G2 a (.ins C (putFD f y fs)))
    | _ => False)
  | _ => False)) ∧
 (∀ (to ti : DTE) (v : D) (S : DS) (G : GH) (Q : DS → GH → Prop), dSetSub to ti v S G Q = (to S G fun x G1 => ti S G1 fun i G2 => match x with
  | .rf a => (match G2 a with
    | some (.lst xs) => (match i with
      | .int j => (match ixN xs.length j with
        | some n => Q S (gput G2 a (.lst (xs.set n v)))
        | none => False)
      | _ => False)
    | some (.dK kds) => (match i.key with
      | some k => kds.length < sizeLine ∧ Q S (gput G2 a (.dK (putD kds k v)))
      | none => False)
    | some (.dT kds) => (match i with
      | .tup ds => (match D.keys ds with
        | some k => kds.length < sizeLine ∧ Q S (gput G2 a (.dT (putD kds k v)))
        | none => False)
      | _ => False)
    | _ => False)
  | _ => False))) ∧
 ((∀ (C : Addr) (m : Str) (sp : SpD) (ta : DTE) (tr : DTA) (S : DS) (G : GH) (Q : DQ), dMeth C m sp ta tr S G Q = (ta S G fun d G1 => match d.cur G1 with
  | .obj C' fs => C' = C ∧ fs.lookup m = none ∧ tr S G1 fun ds G2 => sp (d :: ds) G2 Q
  | _ => False)) ∧
 ((∀ (C : Addr) (sp : SpD) (tr : DTA) (S : DS) (G : GH) (Q : DQ), dMake C sp tr S G Q = (tr S G fun ds G1 => ∀ y, G1 y = none → sp (.rf y :: ds) (gput G1 y (.ins C [])) fun d G2 => match d with
  | .non => Q (.rf y) G2
  | _ => False)) ∧
 (∀ (te : DTE) (S : DS) (G : GH) (R : List D → (GH → Prop) → GH → Prop), diTup te S G R = (te S G fun d G1 => match d with
  | .tup ds => R ds dNoGuard G1
  | .kup ds => R ds dNoGuard G1
  | _ => False))))) ∧
 (((∀ (te : DTE) (S : DS) (G : GH) (R : List D → (GH → Prop) → GH → Prop), diList te S G R = (te S G fun d G1 => match d with
  | .lst ds => R ds dNoGuard G1
  | .rf a => (match G1 a with
    | some (.lst ds) => R ds (fun G => G a = some (.lst ds)) G1
    | _ => False)
  | _ => False)) ∧
 ((∀ (te : DTE) (S : DS) (G : GH) (R : List D → (GH → Prop) → GH → Prop), diStr te S G R = (te S G fun d G1 => match d with
  | .str x => R (signs x) dNoGuard G1
  | _ => False)) ∧
 (∀ (ta : DTA) (S : DS) (G : GH) (R : List D → (GH → Prop) → GH → Prop), diRange1 ta S G R = (ta S G fun ds G1 => match ds with
  | [.int n] => -(2 ^ 62) ≤ n ∧ n < 2 ^ 62 ∧ R ((List.range n.toNat).map fun i => .int (i : Nat)) dNoGuard G1
  | _ => False)))) ∧
 ((∀ (ta : DTA) (S : DS) (G : GH) (R : List D → (GH → Prop) → GH → Prop), diRange2 ta S G R = (ta S G fun ds G1 => match ds with
  | [.int m, .int n] => (-(2 ^ 62) ≤ m ∧ m < 2 ^ 62 ∧ -(2 ^ 62) ≤ n ∧ n < 2 ^ 62) ∧ R ((List.range (n - m).toNat).map fun i => .int (m + (i : Nat))) dNoGuard G1
  | _ => False)) ∧
 ((∀ (wi : DTI) (p : Pat) (tt : DTT) (te : DTE) (vs : List Nat) (S : DS) (G : GH) (Q : DQ), dLcM wi p tt te vs S G Q = (dLc wi p tt te vs S G fun d G' => match d with
  | .lst acc => ∀ a, G' a = none → Q (.rf a) (gput G' a (.lst acc))
  | _ => False)) ∧
 (∀ (td ty : DTE) (S : DS) (G : GH) (Q : DQ), dGet1 td ty S G Q = (td S G fun x G1 => D.hasTy "dict" (x.cur G1) = true ∧ ty S G1 fun y G2 => match (x.cur G2).look y with
  | some o => Q (o.getD .non) G2
  | none => False)))))) ∧
 ((((∀ (td ty tx : DTE) (S : DS) (G : GH) (Q : DQ), dGet2 td ty tx S G Q = (td S G fun x G1 => D.hasTy "dict" (x.cur G1) = true ∧ ty S G1 fun y G2 => tx S G2 fun z G3 => match (x.cur G3).look y with
  | some o => Q (o.getD z) G3
  | none => False)) ∧
 ((∀ (ta : DTA) (S : DS) (G : GH) (R : List D → (GH → Prop) → GH → Prop), diEnumT ta S G R = (ta S G fun ds G1 => match ds with
  | [.tup xs] => R (xs.mapIdx fun i x => .tup [.int (i : Nat), x]) dNoGuard G1
  | [.kup xs] => R (xs.mapIdx fun i x => .tup [.int (i : Nat), x]) dNoGuard G1
  | _ => False)) ∧
 (∀ (ta : DTA) (S : DS) (G : GH) (R : List D → (GH → Prop) → GH → Prop), diZipS ta S G R = (ta S G fun ds G1 => match ds with
  | [.str x, .str y] => R (List.zipWith (fun a b => .tup [.str (sgn a), .str (sgn b)]) x.cps.toList y.cps.toList) dNoGuard G1
  | _ => False)))) ∧
 ((∀ (ta : DTA) (S : DS) (G : GH) (R : List D → (GH → Prop) → GH → Prop), diZipT ta S G R = (ta S G fun ds G1 => match ds with
  | [.tup xs, .tup ys] => R (List.zipWith (fun a b => .tup [a, b]) xs ys) dNoGuard G1
  | _ => False)) ∧
 ((∀ (i j : Nat) (ta : DTA) (D' : DEnds) (S : DS) (G : GH), dPar i j ta D' S G = (ta S G fun ds G1 => match ds with
  | [x, y] => D'.nx ((S.set i (some x)).set j (some y)) G1
  | _ => False)) ∧
 (∀ (i j l : Nat) (ta : DTA) (D' : DEnds) (S : DS) (G : GH), dPar3 i j l ta D' S G = (ta S G fun ds G1 => match ds with
  | [x, y, z] => D'.nx (((S.set i (some x)).set j (some y)).set l (some z)) G1
  | _ => False))))) ∧
 (((∀ (i : Nat) (te : DTE) (f : Int → Int → Int) (D' : DEnds) (S : DS) (G : GH), dAug i te f D' S G = (match S[i]? with
  | some (some (.int a)) => te S G fun d G1 => (match d with
    | .int b => D'.nx (S.set i (some (.int (f a b)))) G1
    | _ => False)
  | _ => False)) ∧
 ((∀ (te : DTE) (S : DS) (G : GH) (Q : DQ), dRevL te S G Q = (te S G fun d G1 => match d.cur G1 with
  | .lst xs => Q (.lst xs.reverse) G1
  | _ => False)) ∧
 (∀ (te : DTE) (S : DS) (G : GH) (Q : DQ), dRevLM te S G Q = (te S G fun d G1 => match d.cur G1 with
  | .lst xs => ∀ p, G1 p = none → Q (.rf p) (gput G1 p (.lst xs.reverse))
  | _ => False)))) ∧
 ((∀ (tp : DTP) (S : DS) (G : GH) (Q : DQ), dDisp tp S G Q = (tp S G fun qs G1 => match keyed qs with
  | some kds => kds.length ≤ 15 ∧ Q (.dK (mergeD [] kds)) G1
  | none => False)) ∧
 ((∀ (tp : DTP) (S : DS) (G : GH) (Q : DQ), dDispM tp S G Q = (tp S G fun qs G1 => match keyed qs with
  | some kds => kds.length ≤ 15 ∧ ∀ p, G1 p = none → Q (.rf p) (gput G1 p (.dK (mergeD [] kds)))
  | none => False)) ∧
 (∀ (r r' : DR2) (ta tb tc : DTE) (S : DS) (G : GH) (Q : DQ), dChain r r' ta tb tc S G Q = (ta S G fun x G1 => tb S G1 fun y G2 => r x y G2 fun z G3 => match z with
  | .bl k => if k = true then tc S G3 fun w G4 => r' y w G4 Q else Q (.bl false) G3
  | _ => False))))))) ∧
 (((((∀ (wi : DTI) (g : DTG) (tb : DTS) (D' : DEnds) (S : DS) (G : GH), dFor wi g tb D' S G = (wi S G fun ds gd G1 => ForB ds gd g tb D' S G1)) ∧
 (∀ (c : DTT) (tb : DTS) (D' : DEnds) (S : DS) (G : GH), dWhile c tb D' S G = WhB c tb D' S G)) ∧
 ((∀ (wi : DTI) (p : Pat) (tt : DTT) (te : DTE) (vs : List Nat) (S : DS) (G : GH) (Q : DQ), dLc wi p tt te vs S G Q = (wi S G fun ds gd G1 => LcB ds gd p tt te vs S G1 Q)) ∧
 ((∀ (G : GH) (a : Addr), D.cur G (.rf a) = (match G a with
    | some (.lst xs) => .lst xs
    | some (.dK kds) => .dK kds
    | some (.dT kds) => .dT kds
    | some (.ins C kds) => .obj C kds
    | _ => .rf a)) ∧
 (∀ (G : GH), D.cur G (.non ) = .non)))) ∧
 (((∀ (G : GH) (b : Bool), D.cur G (.bl b) = .bl b) ∧
 ((∀ (G : GH) (i : Int), D.cur G (.int i) = .int i) ∧
 (∀ (G : GH) (x : Str), D.cur G (.str x) = .str x))) ∧
 ((∀ (G : GH) (n : String), D.cur G (.ty n) = .ty n) ∧
 ((∀ (G : GH) (xs : List D), D.cur G (.tup xs) = .tup xs) ∧
 (∀ (G : GH) (xs : List D), D.cur G (.lst xs) = .lst xs))))) ∧
 ((((∀ (G : GH) (kvs : List (Key × D)), D.cur G (.dK kvs) = .dK kvs) ∧
 ((∀ (G : GH) (kvs : List (List Key × D)), D.cur G (.dT kvs) = .dT kvs) ∧
 (∀ (G : GH) (C : Addr) (fs : List (Str × D)), D.cur G (.obj C fs) = .obj C fs))) ∧
 ((∀ (G : GH) (ns : List Int), D.cur G (.scr ns) = .scr ns) ∧
 ((∀ (G : GH) (xs : List D), D.cur G (.kup xs) = .kup xs) ∧
 (∀ (T : String) (xs : List D), D.hasTy T (.lst xs) = (T == "list"))))) ∧
 (((∀ (T : String) (x : Str), D.hasTy T (.str x) = (T == "str")) ∧
 ((∀ (T : String) (kvs : List (Key × D)), D.hasTy T (.dK kvs) = (T == "dict")) ∧
 (∀ (T : String) (kvs : List (List Key × D)), D.hasTy T (.dT kvs) = (T == "dict")))) ∧
 ((∀ (x y : D) (G : GH) (Q : DQ), rItem x y G Q = (match D.item (x.cur G) y with | some d => Q d G | none => False)) ∧
 ((∀ (C : Int → Int → Prop) (f : Int → Int → Int) (i j : Int) (G : GH) (Q : DQ), rIntD C f (.int i) (.int j) G Q = (C i j ∧ Q (.int (f i j)) G)) ∧
 (∀ (i : Int) (G : GH) (Q : DQ), rNegD (.int i) G Q = Q (.int (-i)) G)))))))) :=
 ⟨⟨⟨⟨⟨⟨@x_var, @x_C⟩, ⟨@x_nil, ⟨@x_cons, @x_tup⟩⟩⟩, ⟨⟨@x_lst, ⟨@x_lstM, @x_op⟩⟩, ⟨@x_un, ⟨@x_test, @x_not⟩⟩⟩⟩, ⟨⟨⟨@x_and, ⟨@x_or, @x_if⟩⟩, ⟨@x_andV, ⟨@x_orV, @x_notV⟩⟩⟩, ⟨⟨@x_gname, ⟨@x_gkup, @x_gtup⟩⟩, ⟨@x_gnil, ⟨@x_gcons, @x_next⟩⟩⟩⟩⟩, ⟨⟨⟨⟨@x_seq, @x_asg⟩, ⟨@x_drop, ⟨@x_ret, @x_retN⟩⟩⟩, ⟨⟨@x_ifS, ⟨@x_never, @x_break⟩⟩, ⟨@x_cont, ⟨@x_call, @x_cb⟩⟩⟩⟩, ⟨⟨⟨@x_bm, ⟨@x_bm0, @x_nopart⟩⟩, ⟨@x_part, ⟨@x_slice, @x_newK⟩⟩⟩, ⟨⟨@x_newT, ⟨@x_yes, @x_pnil⟩⟩, ⟨@x_pcons, ⟨@x_dCold, @x_dFld⟩⟩⟩⟩⟩⟩, ⟨⟨⟨⟨⟨@x_dSetFld, @x_dSetSub⟩, ⟨@x_dMeth, ⟨@x_dMake, @x_diTup⟩⟩⟩, ⟨⟨@x_diList, ⟨@x_diStr, @x_diRange1⟩⟩, ⟨@x_diRange2, ⟨@x_dLcM, @x_dGet1⟩⟩⟩⟩, ⟨⟨⟨@x_dGet2, ⟨@x_diEnumT, @x_diZipS⟩⟩, ⟨@x_diZipT, ⟨@x_dPar, @x_dPar3⟩⟩⟩, ⟨⟨@x_dAug, ⟨@x_dRevL, @x_dRevLM⟩⟩, ⟨@x_dDisp, ⟨@x_dDispM, @x_dChain⟩⟩⟩⟩⟩, ⟨⟨⟨⟨@x_for, @x_while⟩, ⟨@x_lc, ⟨@x_curK, @x_cur_non⟩⟩⟩, ⟨⟨@x_cur_bl, ⟨@x_cur_int, @x_cur_str⟩⟩, ⟨@x_cur_ty, ⟨@x_cur_tup, @x_cur_lst⟩⟩⟩⟩, ⟨⟨⟨@x_cur_dK, ⟨@x_cur_dT, @x_cur_obj⟩⟩, ⟨@x_cur_scr, ⟨@x_cur_kup, @x_ty_lst⟩⟩⟩, ⟨⟨@x_ty_str, ⟨@x_ty_dK, @x_ty_dT⟩⟩, ⟨@x_item, ⟨@x_int, @x_neg⟩⟩⟩⟩⟩⟩⟩
theorem gs {α : Type} (a : α) (l : List α) : (a :: l)[0]? = some a := rfl
theorem dl : (∀ (G : GH) (a : Addr) (o : MO), gput G a o a = some o) ∧ (∀ (α : Type) (a : α) (l : List α), (a :: l)[0]? = some a) ∧ (∀ (α : Type) (a : α) (l : List α) (i : Nat), (a :: l)[i + 1]? = l[i]?) ∧
  (∀ (α : Type) (a b : α) (l : List α), (a :: l).set 0 b = b :: l) ∧ (∀ (α : Type) (a b : α) (l : List α) (i : Nat), (a :: l).set (i + 1) b = a :: l.set i b) ∧ (∀ (α : Type) (a : α) (l : List α), (a :: l).length = l.length + 1) ∧ (∀ (α : Type), ([] : List α).length = 0) :=
  ⟨fun _ _ _ => gput_same, fun _ _ _ => rfl, fun _ _ _ _ => rfl, fun _ _ _ _ => rfl, fun _ _ _ _ _ => rfl, fun _ _ _ => rfl, fun _ => rfl⟩
end DL
end
section
set_option Elab.async false
set_option linter.all false
set_option maxRecDepth 100000
namespace DL
open PySem PySem.Spec PyProof.Rows L2
theorem okE_str (a b : Str) : okE (.str a) (.str b) = true := rfl
theorem eqv_str (a b : Str) : D.eqv (.str a) (.str b) = (a == b) := by simp [D.eqv, D.py, PyData.eqv]
theorem okE_int (a b : Int) : okE (.int a) (.int b) = true := rfl
theorem eqv_int (a b : Int) : D.eqv (.int a) (.int b) = (a == b) := by simp [D.eqv, D.py, PyData.eqv]
theorem okL_int (a b : Int) : okL (.int a) (.int b) = true := rfl
theorem okL_str (a b : Str) : okL (.str a) (.str b) = true := rfl
theorem lt_int (a b : Int) : D.lt (.int a) (.int b) = decide (a < b) := PySem.W.dataLt_int a b
theorem lt_str (a b : Str) : D.lt (.str a) (.str b) = decide (a.cps.toList < b.cps.toList) := PySem.W.dataLt_str a b
mutual
def D.si : D → Bool
  | .non | .int _ | .str _ => true
  | .tup xs | .lst xs => D.sis xs
  | _ => false
def D.sis : List D → Bool
  | [] => true
  | x :: xs => D.si x && D.sis xs
end
mutual
theorem D.si_pl : ∀ d : D, d.si = true → d.pl = true
  | .non, _ => rfl
  | .int _, _ => rfl
  | .str _, _ => rfl
  | .tup xs, h => D.sis_pls xs h
  | .lst xs, h => D.sis_pls xs h
  | .bl _, h => by cases h
  | .ty _, h => by cases h
  | .dK _, h => by cases h
  | .dT _, h => by cases h
  | .obj _ _, h => by cases h
  | .rf _, h => by cases h
  | .scr _, h => by cases h
  | .kup _, h => by cases h
theorem D.sis_pls : ∀ xs : List D, D.sis xs = true → D.pls xs = true
  | [], _ => rfl
  | x :: xs, h => by
    simp only [D.sis, Bool.and_eq_true] at h
    simp only [D.pls, Bool.and_eq_true]
    exact ⟨D.si_pl x h.1, D.sis_pls xs h.2⟩
end
mutual
theorem D.si_eqv : ∀ x y : D, x.si = true → y.si = true → (D.eqv x y = true ↔ x = y)
  | .non, y, _, h => by cases y <;> first | (cases h; done) | simp [D.eqv, D.py, PyData.eqv]
  | .int _, y, _, h => by cases y <;> first | (cases h; done) | simp [D.eqv, D.py, PyData.eqv]
  | .str _, y, _, h => by cases y <;> first | (cases h; done) | simp [D.eqv, D.py, PyData.eqv]
  | .tup xs, .tup ys, hx, hy => by
    have := D.sis_eqv xs ys hx hy
    simp only [D.eqv, D.py, PyData.eqv, D.tup.injEq]
    exact this
  | .lst xs, .lst ys, hx, hy => by
    have := D.sis_eqv xs ys hx hy
    simp only [D.eqv, D.py, PyData.eqv, D.lst.injEq]
    exact this
  | .tup xs, .non, _, _ => by simp [D.eqv, D.py, PyData.eqv]
  | .tup xs, .int _, _, _ => by simp [D.eqv, D.py, PyData.eqv]
  | .tup xs, .str _, _, _ => by simp [D.eqv, D.py, PyData.eqv]
  | .tup xs, .lst _, _, _ => by simp [D.eqv, D.py, PyData.eqv]
  | .lst xs, .non, _, _ => by simp [D.eqv, D.py, PyData.eqv]
  | .lst xs, .int _, _, _ => by simp [D.eqv, D.py, PyData.eqv]
  | .lst xs, .str _, _, _ => by simp [D.eqv, D.py, PyData.eqv]
  | .lst xs, .tup _, _, _ => by simp [D.eqv, D.py, PyData.eqv]
  | .tup _, .bl _, _, h => by cases h
  | .tup _, .ty _, _, h => by cases h
  | .tup _, .dK _, _, h => by cases h
  | .tup _, .dT _, _, h => by cases h
  | .tup _, .obj _ _, _, h => by cases h
  | .tup _, .rf _, _, h => by cases h
  | .tup _, .scr _, _, h => by cases h
  | .tup _, .kup _, _, h => by cases h
  | .lst _, .bl _, _, h => by cases h
  | .lst _, .ty _, _, h => by cases h
  | .lst _, .dK _, _, h => by cases h
  | .lst _, .dT _, _, h => by cases h
  | .lst _, .obj _ _, _, h => by cases h
  | .lst _, .rf _, _, h => by cases h
  | .lst _, .scr _, _, h => by cases h
  | .lst _, .kup _, _, h => by cases h
  | .bl _, _, h, _ => by cases h
  | .ty _, _, h, _ => by cases h
  | .dK _, _, h, _ => by cases h
  | .dT _, _, h, _ => by cases h
  | .obj _ _, _, h, _ => by cases h
  | .rf _, _, h, _ => by cases h
  | .scr _, _, h, _ => by cases h
  | .kup _, _, h, _ => by cases h
theorem D.sis_eqv : ∀ xs ys : List D, D.sis xs = true → D.sis ys = true → (PyData.eqvAll (D.pys xs) (D.pys ys) = true ↔ xs = ys)
  | [], [], _, _ => by simp [D.pys, PyData.eqvAll]
  | [], _ :: _, _, _ => by simp [D.pys, PyData.eqvAll]
  | _ :: _, [], _, _ => by simp [D.pys, PyData.eqvAll]
  | x :: xs, y :: ys, hx, hy => by
    simp only [D.sis, Bool.and_eq_true] at hx hy
    have h1 := D.si_eqv x y hx.1 hy.1
    have h2 := D.sis_eqv xs ys hx.2 hy.2
    simp only [D.eqv] at h1
    simp only [D.pys, PyData.eqvAll, Bool.and_eq_true, h1, h2, List.cons.injEq]
end
mutual
def D.dp : D → Nat
  | .tup xs | .lst xs | .kup xs => D.dps xs + 1
  | _ => 0
def D.dps : List D → Nat
  | [] => 0
  | x :: xs => max (D.dp x) (D.dps xs)
end
mutual
theorem D.dp_ok : ∀ d : D, d.py.depth ≤ d.dp
  | .non => by simp [D.py, PyData.depth]
  | .bl _ => by simp [D.py, PyData.depth]
  | .int _ => by simp [D.py, PyData.depth]
  | .str _ => by simp [D.py, PyData.depth]
  | .tup xs => by have := D.dps_ok xs; simp only [D.py, PyData.depth, D.dp]; omega
  | .lst xs => by have := D.dps_ok xs; simp only [D.py, PyData.depth, D.dp]; omega
  | .ty _ => by simp [D.py, PyData.depth]
  | .dK _ => by simp [D.py, PyData.depth]
  | .dT _ => by simp [D.py, PyData.depth]
  | .obj _ _ => by simp [D.py, PyData.depth]
  | .rf _ => by simp [D.py, PyData.depth]
  | .scr _ => by simp [D.py, PyData.depth]
  | .kup xs => by have := D.dps_ok xs; simp only [D.py, PyData.depth, D.dp]; omega
theorem D.dps_ok : ∀ xs : List D, PyData.depthAll (D.pys xs) ≤ D.dps xs
  | [] => by simp [D.pys, PyData.depthAll]
  | x :: xs => by have := D.dp_ok x; have := D.dps_ok xs; simp only [D.pys, PyData.depthAll, D.dps]; omega
end
theorem dps_le {xs : List D} {n : Nat} (h : ∀ x ∈ xs, x.dp ≤ n) : D.dps xs ≤ n := by
  induction xs with
  | nil => simp [D.dps]
  | cons x xs ih =>
    have h1 := h x (by simp)
    have h2 := ih fun y hy => h y (by simp [hy])
    simp only [D.dps]; omega
theorem sis_all {xs : List D} : D.sis xs = true ↔ ∀ x ∈ xs, x.si = true := by
  induction xs with
  | nil => simp [D.sis]
  | cons x xs ih => simp [D.sis, ih]
theorem okE_si {x y : D} (hx : x.si = true) (hy : y.si = true) (hd : x.dp ≤ 60) : okE x y = true := by
  have := D.dp_ok x
  simp only [okE, Bool.and_eq_true, decide_eq_true_eq]
  exact ⟨⟨D.si_pl x hx, D.si_pl y hy⟩, by omega⟩
theorem eqv_si {x y : D} (hx : x.si = true) (hy : y.si = true) : D.eqv x y = true ↔ x = y := D.si_eqv x y hx hy
theorem isIn_si {x : D} {ys : List D} (hx : x.si = true) (hy : D.sis ys = true) : D.isIn x ys = true ↔ x ∈ ys := by
  induction ys with
  | nil => simp [D.isIn, D.pys]
  | cons y ys ih =>
    simp only [D.sis, Bool.and_eq_true] at hy
    have h1 := D.si_eqv y x hy.1 hx
    have h2 := ih hy.2
    simp only [D.eqv] at h1
    simp only [D.isIn, D.pys, List.any_cons, Bool.or_eq_true, h1, List.mem_cons] at h2 ⊢
    rw [h2]
    exact ⟨fun h => h.imp Eq.symm id, fun h => h.imp Eq.symm id⟩
end DL
end
section
set_option Elab.async false
set_option linter.all false
set_option maxRecDepth 100000
set_option maxHeartbeats 4000000
namespace DL
open PySem PySem.Spec PyProof.Rows L2
abbrev eSet (w : World) : Obj := { cls := .type "set", dict := none, data := .set #[] 0 (.fresh 0 0 (!w.params.followText "set-order")) }
section
variable {P : Program} {w : World} {A : Around} {E : Value → Shared → Prop} {s : Shared}
theorem call_set_lstI {l : Addr} {its : Array Value} (ns : List Int) {Q : Value → Shared → Prop} (zh : A.handled = none) (zl : s.heap.IsList l its) (zit : IntsAre its.toList ns) (zb : ns.length + 1 < scanBound)
    (h : ∀ (h' : Heap) (tk1 c : Nat), SetR w h' s.heap.objs.size (fun j => decide (j ∈ ns)) c → c ≤ ns.length → (∀ b o, s.heap.get? b = some o → h'.get? b = some o) → Q (.ref s.heap.objs.size) { s with heap := h', toks := tk1 }) : wpAny (model P w) A (call (.type "set") [.ref l]) Q E s := by
  have zsz : its.size = ns.length := by
    have q := IntsAre.length zit
    rw [Array.length_toList] at q
    exact q
  obtain ⟨c, tl, zmro⟩ := F.called_set.mro
  have zmade := F.called_set.made
  have zsub := F.called_set.sub
  (refine wpAny_call (codeAny_of_tree ?_))
  (show wpAny _ _ (callAny (.type "set") _) _ _ _)
  (refine wpAny_pure ⟨Code.quiet_builtin _ (by decide +kernel), codeAny_builtin F.entry_type_call ?_⟩)
  (rw [Around.under_plain (weight_type_call_type "set" [.ref l] []) rfl])
  have z1 := F.called_set.notType
  have z2 := F.called_set.canCreate
  have zct := F.typeCall_set_1 (.ref l)
  (repeat (any_goals (first | assumption | wp_step)))
  refine codeAny_mono (code_set_led1 (.ref l) (E := E) (Q₁ := fun ob s1 => ob = .ref s.heap.objs.size ∧ s1 = { s with heap := s.heap.push (eSet w) }) ⟨rfl, rfl⟩) fun r s1 zr => ?_
  cases r with
  | error e => exact zr
  | ok fl1 =>
    cases fl1 with
    | ret ob =>
      obtain ⟨rfl, rfl⟩ := zr
      have zS : (s.heap.push (eSet w)).get? s.heap.objs.size = some (eSet w) := Heap.get?_push_size _ rfl
      have zT : Shared.TypeIs { s with heap := s.heap.push (eSet w) } (.ref s.heap.objs.size) "set" := ⟨_, zS, rfl⟩
      have zli := F.called_set.init.lookup
      have zbi := F.called_set.init.bind (.ref s.heap.objs.size)
      (repeat (any_goals (first | assumption | wp_step)))
      refine codeAny_mono (codeAny_call_builtin (R := wants (fun r s2 => r = .none ∧ ∃ h' tk1 c, s2 = { s with heap := h', toks := tk1 } ∧ SetR w h' s.heap.objs.size (fun j => decide (j ∈ ns)) c ∧ c ≤ ns.length ∧
          (∀ b o, s.heap.get? b = some o → h'.get? b = some o)) E) F.called_set.init.plain F.entry_set_init (check_set_init_1 zT ?_)) fun r2 s2 zr2 => ?_
      · obtain ⟨zo, zol, zcl, zn, zdl⟩ := zl
        obtain ⟨zc1, zc2, zc3, zc4⟩ := zo
        simp only at zcl zdl
        subst zcl; subst zdl
        have zol' : (s.heap.push (eSet w)).get? l = some { cls := .type "list", dict := zc2, data := .seq its zn, slots := zc4 } := Heap.get?_push_of_some _ zol
        have zs1 := F.sub_list_set
        have zs2 := F.sub_list_frozenset
        have zne : (Value.type "list" == Value.type "dict") = false := by decide
        have zl1 : (s.heap.push (eSet w)).IsList l its := ⟨_, zol', rfl, zn, rfl⟩
        (unfold Builtin.«set.__init__» noKeywords Builtin.Frozenset.updateFrom)
        generalize zPI : pyIter = ZI
        wp_walk
        subst zPI
        refine wpAny_pyIter_list zl1 ?_
        (refine wpAny_bind (wpAny_runValue ?_))
        have zlS : l < s.heap.objs.size := Heap.lt_size zol
        have zh3 : A.in1.in1.in1.handled = none := by simp [zh]
        have zz1 : (s.heap.push (eSet w)).objs.size = s.heap.objs.size + 1 := Heap.size_push ..
        have zneI : l ≠ (s.heap.push (eSet w)).objs.size := by
          rw [Heap.size_push]; exact Nat.ne_of_lt (Nat.lt_succ_of_lt zlS)
        have zSf : s.heap.objs.size ∉ [(s.heap.push (eSet w)).objs.size, l] := by
          (rw [Heap.size_push]; simp only [List.mem_cons, List.mem_singleton, List.not_mem_nil, or_false, not_or])
          exact ⟨Nat.ne_of_lt (Nat.lt_succ_self _), Nat.ne_of_gt zlS⟩
        have zval : ∀ (i : Nat) (v : Value), its[i]? = some v → ∃ k t, ns[i]? = some k ∧ v = .int k t := fun i v zv => by
          have zi : i < ns.length := by rw [← zsz]; exact (Array.getElem?_eq_some_iff.mp zv).1
          obtain ⟨t, e⟩ := PyProof.Rows.IntsAre.int_at zit i v (by rw [Array.getElem?_toList]; exact zv)
          refine ⟨ns[i], t, List.getElem?_eq_getElem zi, ?_⟩
          rw [e, List.getD_eq_getElem?_getD, List.getElem?_eq_getElem zi] <;> rfl
        refine set_update_ints ((Walks.list zh3 _ l zneI its).toS) s.heap.objs.size
          zSf ns zsz zb zval (its.size - 0) 0 _ (by omega) (Nat.zero_le _)
          ⟨⟨_, Heap.get?_push_size _ rfl, rfl, rfl⟩, (zl1.push _)⟩ ?hS0 ?hR
        case hS0 =>
          have zget : ((s.heap.push (eSet w)).push { cls := .type "list_iterator", data := .fields #[.ref l, .int 0 0] }).get? s.heap.objs.size
              = some (eSet w) := Heap.get?_push_of_some _ zS
          exact ⟨0, Nat.le_refl 0, setR_new_at zget⟩
        case hR =>
          intro s' c' zm zc' zS'
          obtain ⟨h', q2, q3, q4, q5⟩ := s'
          have y1 : q2 = s.gens := zm.gens
          have y2 : q3 = s.drawn := zm.drawn
          have y3 : q5 = s.os := zm.os
          subst y1; subst y2; subst y3
          show wpAny _ _ _ _ _ _
          refine wpAny_pure ?_
          (show wpAny _ _ (ret Value.none) _ _ _)
          rw [zsz] at zc'
          refine wpAny_pure ⟨rfl, h', q4, c', rfl, zS', zc', fun b o e => ?_⟩
          have y4 : b < s.heap.objs.size := Heap.lt_size e
          have y5 : b ≠ s.heap.objs.size := Nat.ne_of_lt y4
          have y6 : b ≠ (s.heap.push (eSet w)).objs.size := by
            rw [Heap.size_push]; exact Nat.ne_of_lt (Nat.lt_succ_of_lt y4)
          exact zm.heap b o (by simp only [List.mem_cons, List.mem_singleton, List.not_mem_nil, or_false, not_or]; exact ⟨y5, y6⟩) (Heap.get?_push_of_some _ (Heap.get?_push_of_some _ e))
      · cases r2 with
        | error e => exact zr2
        | ok fl2 =>
          cases fl2 with
          | ret r =>
            obtain ⟨rfl, h', tk1, c', rfl, zS', zc', zk'⟩ := zr2
            (repeat (any_goals (first | assumption | wp_step)))
            exact h _ _ _ zS' zc' zk'
          | _ => exact zr2.elim
    | _ => exact zr.elim
end
/-- set(l), l a list of ints -/
def rSetL (w : World) (K : PySem.W.Frag) : List V → Hp → VK → Prop := fun vs H Q => ∃ (a : Addr) (ns : List Int), vs = [.ref a] ∧ SqL K H a (ns.map V.int) ∧ ns.length ≤ 1000 ∧
  ∀ p c, H p = none → c ≤ ns.length → Q (.ref p) (upd H p (SetO w p (fun j => decide (j ∈ ns)) c))
section
variable {X : Cx} {pos : Pos}
theorem cr_setL (hc : X.calm = true) : CallR X (.type "set") (rSetL X.w X.K) := by
  intro pins s σ H vs us Q I r h
  obtain ⟨a, ns, rfl, ha, hl, q⟩ := h
  rw [Vals.ref1 r]
  obtain ⟨its, rv, pl, hz⟩ := I.list ha
  refine call_set_lstI ns (I.ok.hd hc) pl.isList (by simpa using ints_of_vals rv) (by unfold scanBound; omega) fun h' tk c R hcn k => ?_
  exact ⟨.ref _, _, I.laid (t' := tk) k (Nat.le_refl _) (setO_new R), rfl, q _ c (I.hok.fresh (Nat.le_refl _)) hcn⟩
end
end DL
end
section
set_option Elab.async false
set_option linter.all false
set_option maxRecDepth 100000
set_option maxHeartbeats 4000000
namespace DL
open PySem PySem.Spec PyProof.Rows L2
section
variable {α : Type} [DecidableEq α]
/-- each at its first time -/
def addF (ks : List α) (t : α) : List α := if t ∈ ks then ks else ks ++ [t]
def firstsF (ts : List α) : List α := ts.foldl addF []
theorem addF_nodup {ks : List α} {t : α} (h : ks.Nodup) : (addF ks t).Nodup := by
  unfold addF
  split
  · exact h
  · rename_i ht
    rw [List.nodup_append]
    refine ⟨h, by simp, fun a ha b hb => ?_⟩
    simp at hb
    subst hb
    exact fun e => ht (e ▸ ha)
theorem addF_mem {ks : List α} {t k : α} : k ∈ addF ks t ↔ k ∈ ks ∨ k = t := by
  unfold addF
  split
  · rename_i h
    exact ⟨.inl, fun q => q.elim id fun e => e ▸ h⟩
  · simp
theorem foldl_addF_nodup : ∀ (ts ks : List α), ks.Nodup → (ts.foldl addF ks).Nodup
  | [], _, h => h
  | t :: ts, _, h => foldl_addF_nodup ts _ (addF_nodup h)
theorem foldl_addF_mem {k : α} : ∀ (ts ks : List α), k ∈ ts.foldl addF ks ↔ k ∈ ks ∨ k ∈ ts
  | [], ks => by simp
  | t :: ts, ks => by
    rw [List.foldl_cons, foldl_addF_mem ts, addF_mem, List.mem_cons, or_assoc]
theorem firstsF_nodup (ts : List α) : (firstsF ts).Nodup := foldl_addF_nodup ts [] List.nodup_nil
theorem firstsF_mem {ts : List α} {k : α} : k ∈ firstsF ts ↔ k ∈ ts := by
  unfold firstsF
  rw [foldl_addF_mem]
  simp
end
section
variable {X : Cx} {pos : Pos}
def intsD : List D → Option (List Int)
  | [] => some []
  | .int n :: r => (intsD r).map (n :: ·)
  | _ :: _ => none
theorem intsD_rep {K : PySem.W.Frag} {F : Hp} : ∀ {ds : List D} {ns : List Int} {vs : List V}, intsD ds = some ns → Reps K F vs ds → vs = ns.map V.int
  | [], ns, _, h, .nil => by cases h; rfl
  | .int n :: r, ns, _, h, .cons a b => by
    unfold intsD at h
    cases e : intsD r with
    | none => rw [e] at h; cases h
    | some m =>
      rw [e] at h
      cases h
      rw [intsD_rep e b]
      cases a
      rfl
theorem intsD_map (ns : List Int) : intsD (ns.map D.int) = some ns := by
  induction ns with
  | nil => rfl
  | cons n ns ih => simp [intsD, ih]
/-- each once, in order -/
def isort1 (ns : List Int) : List Int := (firstsF ns).mergeSort (· ≤ ·)
theorem isort1_uniq {ns ms : List Int} (s : ms.Pairwise (· < ·)) (h : ∀ k, k ∈ ms ↔ k ∈ ns) : ms = isort1 ns := by
  have nd : ms.Nodup := s.imp fun h => by omega
  have pm : ms.Perm (firstsF ns) := (List.perm_ext_iff_of_nodup nd (firstsF_nodup ns)).mpr fun k => by rw [h k, firstsF_mem]
  exact isort_uniq pm (s.imp fun h => by omega)
def dSortSet (te : DTE) : DTE := fun S G Q => te S G fun d G1 => match d.cur G1 with
  | .lst xs => (match intsD xs with
    | some ns => ns.length < 64 ∧ Q (.lst ((isort1 ns).map .int)) G1
    | none => False)
  | _ => False
theorem de_sortSet {e : Expr} {te : DTE} {p q p2 : Pos} (hc : X.calm = true) (hg : Gl X "sorted") (hm : X.mg "sorted" = none) (hg2 : Gl X "set") (hm2 : X.mg "set" = none) (ha : DE X e te)
    (na : starEach [e] X.env = (false, eval e X.env) :: starEach [] X.env := by rfl)
    (nb : starEach [.Call (.Name "set" p2) [e] [] q] X.env = (false, eval (.Call (.Name "set" p2) [e] [] q) X.env) :: starEach [] X.env := by rfl) : DE X (.Call (.Name "sorted" p) [.Call (.Name "set" p2) [e] [] q] [] pos) (dSortSet te) := by
  obtain ⟨t, p1, r1⟩ := ha.ex
  have ps := pe_callTy (pos := q) (p := p2) (cr_setL hc) hg2 hm2 PyProof.Rows.boot_set (pa_cons p1 pa_nil na) (by decide) (by decide) na (by rfl)
  have pp := pe_callB (pos := pos) (p := p) (cr_sortedSet hc) hg hm PyProof.Rows.boot_sorted (pa_cons ps pa_nil nb) (by decide) (by decide) nb (by rfl)
  refine ⟨_, pp, fun F H σ S G o Q' h Q k => ?_⟩
  refine r1 F H σ S G o _ h _ fun F1 H1 v d G1 e1 g1 q1 h1 => ?_
  dsimp only at h1
  split at h1
  · rename_i xs ex
    split at h1
    · rename_i ns en
      obtain ⟨a, vs, rfl, ha, rs⟩ := cur_list g1 q1 ex
      rw [intsD_rep en rs] at ha
      refine ⟨a, ns, rfl, .inl (.inl ha), by omega, fun z c hz hcn => ?_⟩
      refine ⟨z, _, c, rfl, upd_same, by omega, fun ms z2 hs hk hl hz2 => ?_⟩
      have em : ms = isort1 ns := isort1_uniq hs fun j => by rw [hk j]; simp
      subst em
      have gr1 : Gr F1 H1 F1 (upd H1 z (SetO X.w z (fun j => decide (j ∈ ns)) c)) := ⟨Ex.refl _, g1.ex.trans (Ex.new hz), Ex.new hz, fun _ _ _ w => w⟩
      have g2 := g1.grow gr1
      have gr2 := Gr.new (u := .lst ((isort1 ns).map V.int)) g2.ex hz2
      exact k _ _ _ _ G1 (e1.trans (gr1.go.trans gr2.go)) (g2.grow gr2) (.lst upd_same (Reps.ints _)) h1.2
    · exact h1.elim
  · exact h1.elim
end
end DL
end
section
set_option Elab.async false
set_option linter.all false
set_option maxRecDepth 100000
set_option maxHeartbeats 4000000
namespace DL
open PySem PySem.Spec PyProof.Rows L2
def tkey (e : Int × Value) : Str := match e.2 with | .str k _ => k | _ => ""
def TGood (w : World) (e : Int × Value) : Prop := ∃ k tk, e.2 = Value.str k tk ∧ e.1 = hashStr w k
/-- the set of texts at a: ks its members in some order; the table rises and can be walked -/
def SetS (w : World) (h : Heap) (a : Addr) (ks : List Str) : Prop :=
  ∃ o es ep t, h.get? a = some o ∧ o.ExactSet ∧ o.data = .set es ep t ∧ (∀ e ∈ es.toList, TGood w e) ∧ (es.toList.map tkey).Perm ks ∧ ks.Nodup ∧
    es.size < scanBound ∧ t.fits es.size = true ∧ Ris t.place.toList ∧ (w.params.followText "set-order" = true ∨ t.led = true)
section
variable {P : Program} {w : World} {h h' : Heap} {a : Addr} {ks : List Str}
theorem SetS.keep (R : SetS w h a ks) (k : ∀ o, h.get? a = some o → h'.get? a = some o) : SetS w h' a ks := by
  obtain ⟨o, es, ep, t, q, r⟩ := R
  exact ⟨o, es, ep, t, k o q, r⟩
end
end DL
end
section
set_option Elab.async false
set_option linter.all false
set_option maxRecDepth 100000
set_option maxHeartbeats 4000000
namespace DL
open PySem PySem.Spec PyProof.Rows L2
def tDispT (tk tv : TE) : TE := fun σ H Q => ∀ p, H p = none → tPairs [(tk, tv)] σ (upd H p (.dT [])) fun ps H2 => H2 p = some (.dT []) ∧ ∃ k b v, ps = [(.ref b, v)] ∧ H2 b = some (.tup (k.map kV)) ∧ Q (.ref p) (upd H2 p (.dT [(k, v)]))
section
variable {X : Cx} {pos : Pos}
theorem pe_dispT {ke ve : Expr} {tk tv : TE} (hu : X.A.units + 1 < cLine) (hk : PE X ke tk) (hv : PE X ve tv) : PE X (.Dict [some ke] [ve] pos) (tDispT tk tv) := by
  refine ⟨fun pins s σ H Q I q => ?_⟩
  have hn := I.hok.fresh (Nat.le_refl s.heap.objs.size)
  have I1 := I.laid (a := s.heap.objs.size) (o := .dT []) (h' := s.heap.push { cls := .type "dict", data := .dict #[] }) (t' := s.toks) (fun _ _ q => Heap.get?_push_of_some _ q) (Nat.le_refl _) (dt_empty s.heap I.big)
  have hp := pps_cons (pos := pos) hk hv (pps_nil (X := X))
  have hzip := zip_pairTrees [some ke] [ve] X.env pos rfl rfl
  have hlen := pairTrees_length [some ke] [ve] X.env pos rfl rfl
  rw [arm_eval_Dict, hzip, dictDisplay_pairs _ (by intro z; rw [z] at hlen; cases hlen) (by rw [hlen]; exact (by decide : 1 < 17))]
  refine wpAny_bind (wpAny_standAt (wpAny_bind (wpAny_subDictH (knd := tupleKind (mixKind X.prog X.w)) (Q := fun d s' => wpAny (model X.prog X.w) X.A (pure (Value.ref d)) _ X.xe s') (by show X.A.units < cLine; omega) (by rw [hlen]; exact (by decide : 1 ≤ 15)) ?_)))
  refine thn (hp.run pins _ σ _ _ I1 (q _ hn)) fun ws s2 ⟨ps, H2, I2, rel, e, k, b, v, ep, hb, q2⟩ => ?_
  subst ep
  obtain ⟨z, hd, vs0, r0, dd⟩ := dt_of I2.hok e
  cases r0
  cases rel with
  | cons r1 r2 =>
    cases r2
    rename_i w0 _
    obtain ⟨u1, u2⟩ := w0
    obtain ⟨ra, rv⟩ := r1
    cases (show u1 = Value.ref b from ra)
    refine ⟨[(k, b, u2)], ⟨rfl, rfl, key_of I2.hok hb, trivial⟩, dd, fun h' tk' dd' hs => wpAny_pure ⟨.ref s.heap.objs.size, _, ?_, rfl, q2⟩⟩
    obtain ⟨q', es, ep, hq, h2, h3, h4, _, h5⟩ := dd'
    refine d_write I2 (by rw [e]; exact True.intro) hs ⟨q', hq⟩ ⟨by show 1 ≤ sizeLine; rw [sizeLine_eq]; decide, hd, [(k, b, u2)], .cons ⟨rfl, ?_, rv⟩ .nil, q', es, ep, hq, h2, h3, h4, h5⟩
    rw [upd_ne (ne_of hb e (fun z => nomatch z))]
    exact hb
/-- a new thing that may change, laid out before others -/
theorem own_later {K : PySem.W.Frag} {F H F' H' : Hp} {G G' : GH} {p : Addr} {u : HO} {o : MO} (hp : H p = none) (go : Go F H G F' H' G') (g : Gok K F' H' G') (fp : F' p = none) (gp : G' p = none) (hd : o.isDeck = false) (m0 : MRep K F' (upd H' p u) (gput G' p o) p o) :
    Gok K F' (upd H' p u) (gput G' p o) ∧ Go F H G F' (upd H' p u) (gput G' p o) := by
  constructor
  · refine ⟨g.ex.updR fp, fun a w e => ?_, fun a b k1 k2 k3 n j1 j2 j3 m e1 e2 => ?_⟩
    · by_cases nq : a = p
      · subst nq
        rw [gput_same] at e; cases e
        exact ⟨fp, m0⟩
      · rw [gput_ne nq] at e
        obtain ⟨f, m⟩ := g.at_ a w e
        refine ⟨f, m.move (Ex.refl F') (fun b u hb hc => ?_) fun c z => ?_⟩
        · have n2 : b ≠ p := fun z => by
            rcases hc with hc | hc
            · exact nq (hc ▸ z)
            · rw [z, gp] at hc; cases hc
          rw [upd_ne n2]; exact hb
        · have n2 : c ≠ p := fun y => by rw [y, gp] at z; cases z
          rw [gput_ne n2]; exact z
    · have ha : a ≠ p := fun y => by rw [y, gput_same] at e1; cases e1; cases hd
      have hb : b ≠ p := fun y => by rw [y, gput_same] at e2; cases e2; cases hd
      rw [gput_ne ha] at e1; rw [gput_ne hb] at e2
      exact g.one a b k1 k2 k3 n j1 j2 j3 m e1 e2
  · refine ⟨go.ex, fun b u hb gb => ?_, go.no, fun b z => go.st b (upd_none z)⟩
    have n2 : b ≠ p := fun z => by rw [z, hp] at hb; cases hb
    rw [upd_ne n2, gput_ne n2]; exact go.fr b u hb gb
def dDispT (tk tv : DTE) : DTE := fun S G Q => tk S G fun k G1 => tv S G1 fun v G2 => match k with
  | .tup ds => (match D.keys ds with
    | some ks => ∀ p, G2 p = none → Q (.rf p) (gput G2 p (.dT [(ks, v)]))
    | none => False)
  | _ => False
theorem de_dispT {ke ve : Expr} {tk tv : DTE} (hu : X.A.units + 100 < cLine) (hk : DE X ke tk) (hv : DE X ve tv) : DE X (.Dict [some ke] [ve] pos) (dDispT tk tv) := by
  obtain ⟨t1, p1, r1⟩ := hk.ex
  obtain ⟨t2, p2, r2⟩ := hv.ex
  refine ⟨_, pe_dispT (by omega) p1 p2, fun F H σ S G o Q' h Q kk => ?_⟩
  intro p hp
  have gp : G p = none := o.g.free hp
  have fp : F p = none := o.g.ex.nope hp
  have gr : Gr F H F (upd H p (.dT [])) := Gr.only o.g.ex hp
  refine r1 F _ σ S G ⟨o.g.grow gr, o.s⟩ _ h _ fun F1 H1 v1 d1 G1 e1 g1 q1 h1 => ?_
  refine r2 F1 H1 σ S G1 (Ok.go ⟨o.g.grow gr, o.s⟩ e1 g1) _ h1 _ fun F2 H2 v2 d2 G2 e2 g2 q2 h2 => ?_
  have e12 := e1.trans e2
  have fr := e12.fr p _ upd_same gp
  refine ⟨fr.1, ?_⟩
  dsimp only at h2
  split at h2
  · rename_i ds
    split at h2
    · rename_i ks ek
      cases q1 with
      | tup hb rs =>
        have hvs := rs.keys ek
        subst hvs
        refine ⟨ks, _, v2, rfl, g2.ex _ _ (e2.ex _ _ hb), ?_⟩
        have hz := own_later (K := X.K) (u := .dT [(ks, v2)]) (o := .dT [(ks, d2)]) hp ((gr.go (G := G)).trans e12) g2 (e12.no p _ upd_same gp fp (fun _ z => nomatch z)) fr.2 rfl ⟨[(ks, v2)], upd_same, rfl, .cons q2 .nil⟩
        exact kk _ _ _ _ _ hz.2 hz.1 (.rf p) (h2 p fr.2)
    · exact h2.elim
  · exact h2.elim
/-- int(n) -/
def rIntC (ds : List D) (G : GH) (Q : DQ) : Prop := match ds with
  | [.int i] => Q (.int i) G
  | [.bl b] => Q (.int (if b then 1 else 0)) G
  | _ => False
theorem cd_int : CallD X (.type "int") rIntC := by
  refine ⟨_, call_int1, fun F H G vs ds g rs Q' h Q k => ?_⟩
  unfold rIntC at h
  split at h
  · rename_i i
    cases rs with
    | cons r b =>
      cases b
      cases r
      exact .inl ⟨i, rfl, k _ _ _ _ G Go.refl g (.int i) h⟩
  · rename_i b0
    cases rs with
    | cons r b =>
      cases b
      cases r
      exact .inr ⟨b0, rfl, k _ _ _ _ G Go.refl g (.int _) h⟩
  · exact h.elim
end
end DL
end
section
set_option Elab.async false
set_option linter.all false
set_option maxRecDepth 100000
set_option maxHeartbeats 4000000
namespace DL
open PySem PySem.Spec PyProof.Rows L2
structure DK (X : Cx) (kws : List Keyword) (t' : DTA) : Prop where
  ex : ∃ t, PK X kws t ∧ ∀ F H σ S G, Ok X.K F H σ S G → ∀ Q', t' S G Q' → ∀ Q, KpA X.K F H G Q' Q → t σ H Q
/-- the arguments in the order of the parameters -/
def perm {α : Type} (z : α) (js : List Nat) (us ws : List α) : List α := js.map fun j => (us ++ ws)[j]?.getD z
structure CalK (P : Program) (w : World) (K : PySem.W.Frag) (mg : Str → Option Value) (base : Heap) (x : Str) (k : Nat) (ps : List Str) (sp : SpD) (n : Nat) (ks : List Str) (js : List Nat) : Prop where
  ex : ∃ f fd, FnG P w K mg base CX0 k f fd ps (SpOf K sp) ∧ mg x = some (.ref f) ∧ PySem.W.keepIn K (.ref f) = true ∧
    ∀ (s : Shared) (us ws : List Value), us.length = n → ws.length = ks.length → BindsTo s fd ⟨us, ks.zip ws⟩ (ps.zip (perm .none js us ws))
section
variable {X : Cx} {pos kpos : Pos} {nm : Option Str}
theorem dk_nil : DK X [] dNil := ⟨_, pk_nil, fun F H σ S G o Q' h Q k => k F H [] [] G Go.refl o.g .nil h⟩
theorem dk_cons {e : Expr} {kws : List Keyword} {ta : DTE} {tr : DTA} (ha : DE X e ta) (hr : DK X kws tr) : DK X (⟨nm, e, kpos⟩ :: kws) (dCons ta tr) := by
  obtain ⟨t1, p1, r1⟩ := ha.ex
  obtain ⟨t2, p2, r2⟩ := hr.ex
  refine ⟨_, pk_cons p1 p2, fun F H σ S G o Q' h Q k => ?_⟩
  refine r1 F H σ S G o _ h _ fun F1 H1 v d G1 e1 g1 q1 h1 => ?_
  refine r2 F1 H1 σ S G1 (o.go e1 g1) _ h1 _ fun F2 H2 vs ds G2 e2 g2 q2 h2 => ?_
  exact k F2 H2 _ _ G2 (e1.trans e2) g2 (.cons (q1.mono e2.ex) q2) h2
def dCallK (sp : SpD) (n m : Nat) (js : List Nat) (ta tk : DTA) : DTE := fun S G Q => ta S G fun ds G1 => tk S G1 fun zs G2 => (ds.length = n ∧ zs.length = m) ∧ sp (perm .non js ds zs) G2 Q
theorem vals_at {vs : List V} {us : List Value} (r : Vals vs us) (j : Nat) : RelV (vs[j]?.getD .non) (us[j]?.getD .none) := by
  induction r generalizing j with
  | nil => rfl
  | cons a t ih => cases j with
    | zero => exact a
    | succ j => simpa using ih j
theorem reps_at {K : PySem.W.Frag} {F : Hp} {vs : List V} {ds : List D} (r : Reps K F vs ds) (j : Nat) : Rep K F (vs[j]?.getD .non) (ds[j]?.getD .non) := by
  induction ds generalizing vs j with
  | nil => cases r; exact .non
  | cons d ds ih => cases r with
    | cons a t => cases j with
      | zero => exact a
      | succ j => simpa using ih t j
theorem vals_perm {vs zs : List V} {us ws : List Value} (r : Vals vs us) (q : Vals zs ws) : ∀ js : List Nat, Vals (perm .non js vs zs) (perm .none js us ws)
  | [] => .nil
  | j :: js => .cons (vals_at (r.append q) j) (vals_perm r q js)
theorem reps_app {K : PySem.W.Frag} {F : Hp} : ∀ {vs zs : List V} {ds es : List D}, Reps K F vs ds → Reps K F zs es → Reps K F (vs ++ zs) (ds ++ es)
  | _, _, _, _, .nil, q => q
  | _, _, _, _, .cons a t, q => .cons a (reps_app t q)
theorem reps_perm {K : PySem.W.Frag} {F : Hp} {vs zs : List V} {ds es : List D} (r : Reps K F vs ds) (q : Reps K F zs es) : ∀ js : List Nat, Reps K F (perm .non js vs zs) (perm .non js ds es)
  | [] => .nil
  | j :: js => .cons (reps_at (reps_app r q) j) (reps_perm r q js)
/-- f(k = v, ..) -/
theorem de_calK0 {x : Str} {k : Nat} {ps : List Str} {sp : SpD} {ks : List Str} {js : List Nat} {p : Pos} {kws : List Keyword} {tk : DTA} (c : CalK X.prog X.w X.K X.mg X.base x k ps sp 0 ks js) (hA : X.A.guards = some []) (hr : Room k X.A) (hw : DK X kws tk)
    (hg : Gl X x := by rfl) (hall : (backToKw pos (keywordEach kws X.env)).all (·.1.isSome) = true := by rfl) (hks : (backToKw pos (keywordEach kws X.env)).filterMap (·.1) = ks := by rfl)
    (hdb : (x == ("__debug__" : Str)) = false := by decide)
    (hpl : ((backTo pos (starEach [] X.env)).any (·.1) || (backToKw pos (keywordEach kws X.env)).any (·.1.isNone)) = false := by rfl) : DE X (.Call (.Name x p) [] kws pos) (dCallK sp 0 ks.length js dNil tk) := by
  obtain ⟨f, fd, Fn, hm, hk, hb⟩ := c.ex
  obtain ⟨t2, p2, r2⟩ := hw.ex
  refine ⟨fun σ H Q => t2 σ H fun zs H2 => zs.length = ks.length ∧ SpOf X.K sp (perm .non js [] zs) H2 Q (fun _ _ _ => False), ?_, fun F H σ S G o Q' h Q kk => ?_⟩
  · constructor
    intro pins s σ H Q I h
    apply wpAny_Call_Name_kw
    refine ld_glob I hg hm ?_ hdb
    refine PySem.W.callWith_KW0 (h₀ := X.base) I.ok.mod.kin hk hall (thn (p2.run pos pins s σ H _ I h) ?_) hpl
    rintro ws s2 ⟨zs, H2, I2, rz, l2, q2⟩
    refine ⟨I2.kIn, ?_⟩
    rw [hks]
    exact goes_fn (us := []) Fn hA hr _ (fun s3 i l => hb s3 [] ws rfl (by rw [← rz.length]; exact l2)) pass0 I2 (vals_perm .nil rz js) q2
  · refine r2 F H σ S G o _ h _ fun F2 H2 zs es G2 e2 g2 q2 h2 => ?_
    exact ⟨by rw [q2.length]; exact h2.1.2, F2, G2, _, Q', g2, reps_perm .nil q2 js, h2.2, kk.mono e2⟩
end
theorem cal_mkK {P : Program} {w : World} {K : PySem.W.Frag} {mg : Str → Option Value} {base : Heap} {x : Str} {st : Stmt} {N ps : List Str} {k : Nat} {sp : SpD} {n : Nat} {ks : List Str} {js : List Nat} (d : Def K mg x st) (sc : FnScope N ps (defScope st)) (len : ∀ ds G Q, sp ds G Q → ds.length = ps.length)
    (bi : ∀ (kV doc pm : Value) (an : Option Addr) (cdv ct : Value) (us : List Value), us.length = ps.length → bindArgs (PySem.W.fnOf x x (defArgs st) (defBody st) (defScope st) .none kV doc pm an cdv ct) ⟨us, []⟩ = pure (ps.zip us))
    (bk : ∀ (kV doc pm : Value) (an : Option Addr) (cdv ct : Value) (us ws : List Value), us.length = n → ws.length = ks.length → bindArgs (PySem.W.fnOf x x (defArgs st) (defBody st) (defScope st) .none kV doc pm an cdv ct) ⟨us, ks.zip ws⟩ = pure (ps.zip (perm .none js us ws)))
    (hb : ∀ (f : Addr) (cdv : Value) (A : Around) (outer : List Env) (s : Shared) (H : Hp) (E : XK), A.guards = some [] → Room k (A.deeper (envOfC x (defScope st) s.heap.objs.size f cdv)) →
      ∃ t', DPs (cxOf CX0 P w K mg base N x (defScope st) f cdv A outer s H E).nox (defBody st) t' ∧ ∀ ds G Q, sp ds G Q → t' (fin Q) (dstart N ds) G) : Cal P w K mg base x (k + 1) ps sp ∧ CalK P w K mg base x (k + 1) ps sp n ks js := by
  obtain ⟨f, fd, Fu, hm⟩ := d.ex
  have fn := fn_mk (P := P) (w := w) (mg := mg) (base := base) Fu sc len (hb f)
  refine ⟨⟨f, fd, fn, hm, Fu.kp, Fu.binds bi⟩, f, fd, fn, hm, Fu.kp, fun s us ws h1 h2 => ?_⟩
  obtain ⟨oc, od, kV, doc, pm, an, cdv, ct, osl, rfl, lk, hcd⟩ := Fu.ex
  exact .of_eq (bk kV doc pm an cdv ct us ws h1 h2)
end DL
end
section
set_option Elab.async false
set_option linter.all false
set_option maxRecDepth 100000
set_option maxHeartbeats 4000000
namespace DL
open PySem PySem.Spec PyProof.Rows L2
def keyD : Key → D
  | .inl n => .int n
  | .inr x => .str x
def ktD (ks : List Key) : D := .tup (ks.map keyD)
theorem keyD_rep {K : PySem.W.Frag} {F : Hp} (k : Key) : Rep K F (kV k) (keyD k) := by
  cases k with
  | inl n => exact .int n
  | inr x => exact .str x
theorem keysD_rep {K : PySem.W.Frag} {F : Hp} : ∀ ks : List Key, Reps K F (ks.map kV) (ks.map keyD)
  | [] => .nil
  | k :: ks => .cons (keyD_rep k) (keysD_rep ks)
theorem MRep.noTup {K : PySem.W.Frag} {F H : Hp} {G : GH} {a : Addr} {o : MO} {vs : List V} (m : MRep K F H G a o) : H a ≠ some (.tup vs) := by
  intro z
  cases o with
  | lst xs => obtain ⟨_, e, _⟩ := m; rw [e] at z; cases z
  | dK kds => obtain ⟨_, e, _⟩ := m; rw [e] at z; cases z
  | dT kds => obtain ⟨_, e, _⟩ := m; rw [e] at z; cases z
  | ins C kds => obtain ⟨_, _, e, _⟩ := m; rw [e] at z; cases z
  | deck k1 k2 k3 n => obtain ⟨_, _, _, _, e, _⟩ := m; rw [e] at z; cases z
  | dcell => obtain ⟨_, e⟩ := m; rw [e] at z; cases z
  | lkT o kvs kds => rw [m.1] at z; cases z
  | lkK o kvs kds => rw [m.1] at z; cases z
  | dN w kds => obtain ⟨xs, e, _⟩ := m; rw [e] at z; cases z
  | lkN w o xs kds => rw [m.1] at z; cases z
  | dU w kds => obtain ⟨xs, e, _⟩ := m; rw [e] at z; cases z
  | lkU w o xs kds => rw [m.1] at z; cases z
  | tupU o vs ds => rw [m.1] at z; cases z
  | tab q => obtain ⟨ps, e, _⟩ := m; rw [e] at z; cases z
/-- a tuple that stands there is frozen -/
theorem Gok.tupF {K : PySem.W.Frag} {F H : Hp} {G : GH} (g : Gok K F H G) {q : Addr} {vs : List V} {ds : List D} (hq : H q = some (.tup vs)) (rs : ∀ F', Reps K F' vs ds) : ∃ F', Go F H G F' H G ∧ Gok K F' H G ∧ Rep K F' (.ref q) (.tup ds) := by
  have ex : Ex F (upd F q (.tup vs)) := fun a o e => by
    by_cases z : a = q
    · subst z
      have := g.ex _ _ e
      rw [hq] at this; cases this
      exact upd_same
    · rw [upd_ne z]; exact e
  refine ⟨upd F q (.tup vs), ⟨ex, fun _ _ h gh => ⟨h, gh⟩, fun b u hb gb fb t => ?_, fun _ z => z⟩, ⟨fun a o e => ?_, fun a o e => ?_, g.one⟩, .tup upd_same (rs _)⟩
  · have z : b ≠ q := fun z => by rw [z, hq] at hb; cases hb; exact t vs rfl
    rw [upd_ne z]; exact fb
  · by_cases z : a = q
    · subst z; rw [upd_same] at e; cases e; exact hq
    · rw [upd_ne z] at e; exact g.ex _ _ e
  · obtain ⟨f, m⟩ := g.at_ a o e
    have z : a ≠ q := fun z => m.noTup (z ▸ hq)
    exact ⟨by rw [upd_ne z]; exact f, m.move ex (fun _ _ h _ => h) fun _ h => h⟩
section
variable {X : Cx} {pos : Pos} {tg : Expr}
def diKeysT (te : DTE) : DTI := fun S G R => te S G fun d G1 => match d with
  | .rf p => (match G1 p with
    | some (.lkT o kvs kds) => R (kds.map fun kv => ktD kv.1) (fun G => G p = some (.lkT o kvs kds)) G1
    | _ => False)
  | _ => False
theorem di_keysT {e : Expr} {te : DTE} (h : DE X e te) : DI X tg e (diKeysT te) := by
  obtain ⟨t, p, r⟩ := h.ex
  refine ⟨_, pi_keys p, fun F H σ S G o R' h R k => ?_⟩
  refine r F H σ S G o _ h _ fun F1 H1 v d G1 e1 g1 q1 h1 => ?_
  dsimp only at h1
  split at h1
  · rename_i a
    split at h1
    · rename_i ob kvs kds ea
      cases q1
      obtain ⟨_, hh, hk, hr⟩ := g1.at_ a _ ea
      refine ⟨a, ob, rfl, .inr ⟨kvs, hh, k F1 H1 G1 _ _ _ e1 g1 ⟨fun F2 H2 G2 i d e2 g2 gd hd => ?_, fun F2 H2 G2 e2 g2 gd => ?_⟩ h1⟩⟩
      · obtain ⟨_, hh2, hk2, _⟩ := g2.at_ a _ gd
        rw [List.getElem?_map] at hd
        have hlen : kvs.length = kds.length := by simpa using congrArg List.length hk2
        cases ei : kds[i]? with
        | none => rw [ei] at hd; cases hd
        | some kv =>
          rw [ei] at hd
          cases hd
          have hi := (List.getElem?_eq_some_iff.mp ei).1
          refine ⟨⟨hh2, by omega⟩, fun x H3 hy => ?_⟩
          obtain ⟨rfl, kk, vv, q, hkv, rfl, hq⟩ := hy
          have ek : kk = kv.1 := by
            have z := congrArg (fun l => l[i]?) hk2
            simp only [List.getElem?_map, hkv, ei, Option.map_some, Option.some.injEq] at z
            exact z
          subst ek
          exact g2.tupF hq fun F' => keysD_rep _
      · obtain ⟨_, hh2, hk2, _⟩ := g2.at_ a _ gd
        have hlen : kvs.length = kds.length := by simpa using congrArg List.length hk2
        exact ⟨hh2, by simp; omega⟩
    · exact h1.elim
  · exact h1.elim
/-- the dict at p is locked while e is worked out -/
def dLock (t : DTE) : DTE := fun S G Q => ∃ p kds, G p = some (.dT kds) ∧ ∀ o kvs, t S (gput G p (.lkT o kvs kds)) fun d G' => G' p = some (.lkT o kvs kds) ∧ Q d (gput G' p (.dT kds))
theorem de_lock {e : Expr} {t' : DTE} (h : DE X e t') : DE X e (dLock t') := by
  obtain ⟨t, p, r⟩ := h.ex
  refine ⟨_, pe_lock p, fun F H σ S G o Q' h Q k => ?_⟩
  obtain ⟨a, kds, ga, h⟩ := h
  obtain ⟨fa, kvs, ha, hk, hr⟩ := o.g.at_ a _ ga
  refine ⟨a, .dT kvs, ha, trivial, fun od => ?_⟩
  have g1 : Gok X.K F (upd H a (.frz od (.dT kvs))) (gput G a (.lkT od kvs kds)) := o.g.put ga rfl rfl ⟨upd_same, hk, hr⟩
  refine r F _ σ S _ ⟨g1, o.s⟩ _ (h od kvs) _ fun F' H' v d G' go g2 rv q => ?_
  obtain ⟨ga2, q⟩ := q
  obtain ⟨fa2, hh2, hk2, hr2⟩ := g2.at_ a _ ga2
  refine ⟨hh2, ?_⟩
  have g3 : Gok X.K F' (upd H' a (.dT kvs)) (gput G' a (.dT kds)) := g2.put ga2 rfl rfl ⟨kvs, upd_same, hk2, hr2⟩
  refine k F' _ v d _ ?_ g3 rv q
  exact ((Go.put (u := .frz od (.dT kvs)) ga).trans go).trans (Go.put ga2)
def rItemL : DR2 := fun x y G Q => match x with
  | .rf p => (match G p with
    | some (.lkT _ _ kds) => (match y with
      | .tup ds => (match D.keys ds with
        | some k => (match valD kds k with
          | some d => Q d G
          | none => False)
        | none => False)
      | _ => False)
    | _ => False)
  | _ => False
theorem de_ixL {a b : Expr} {ta tb : DTE} (hu : X.A.units + 100 < cLine) (ha : DE X a ta) (hb : DE X b tb) (hs : PlainIx b := by intro _ _; rfl) : DE X (.Subscript a b pos) (dOp rItemL ta tb) := by
  obtain ⟨t1, p1, r1⟩ := ha.ex
  obtain ⟨t2, p2, r2⟩ := hb.ex
  refine ⟨_, pe_ix (ix_dict hu) p1 p2 hs, dop_of (a := a) (b := b) ?_ r1 r2⟩
  intro F H G x y dx dy g rx ry Q' h Q k
  unfold rItemL at h
  split at h
  · rename_i p
    split at h
    · rename_i o kvs kds gp
      split at h
      · rename_i ds
        split at h
        · rename_i ks ek
          split at h
          · rename_i d ed
            obtain ⟨_, hh, hk, hr⟩ := g.at_ p _ gp
            cases rx
            cases ry with
            | tup hb rs =>
              have eb := rs.keys ek
              subst eb
              have kr : KR X.K F kvs kds := ⟨hk, hr⟩
              obtain ⟨z, h1, h2⟩ := kr.val.1 d ed
              exact ⟨p, z, rfl, .inr ⟨kvs, ks, _, .inr ⟨o, hh⟩, rfl, g.ex _ _ hb, h1.symm⟩, k F H _ _ G Go.refl g h2 h⟩
          · exact h.elim
        · exact h.elim
      · exact h.elim
    · exact h.elim
  · exact h.elim
end
end DL
end
section
set_option Elab.async false
set_option linter.all false
set_option maxRecDepth 100000
set_option maxHeartbeats 4000000
namespace DL
open PySem PySem.Spec PyProof.Rows L2
structure PT where
  p : Addr
  k : List Key
  b : Addr
  v : V
def mergeT (kvs : List (List Key × V)) (es : List PT) : List (List Key × V) := es.foldl (fun acc e => putK acc e.k e.v) kvs
section
variable {X : Cx} {pos : Pos}
theorem pts_of {pins : List (Addr × Obj)} {σ : L2.St} {H : Hp} {s : Shared} (I : Inv X pins σ H s) : ∀ {es : List PT}, (∀ e ∈ es, H e.p = some (.tup [.ref e.b, e.v])) →
    ∃ ws : List (PT × Value), ws.map (·.1) = es ∧ ∀ x ∈ ws, IsTup s.heap x.1.p #[.ref x.1.b, x.2] ∧ RelV x.1.v x.2
  | [], _ => ⟨[], rfl, fun x hx => by simp at hx⟩
  | e :: es, h => by
    obtain ⟨ws, hw, hx⟩ := pts_of I (es := es) fun y hy => h y (by simp [hy])
    obtain ⟨its, rv, ht, _⟩ := I.tuple (.inl (.inl (h e (by simp))))
    obtain ⟨u, y, ei, ru, ry⟩ := vals2 rv
    subst ei
    cases (show u = Value.ref e.b from ru)
    refine ⟨(e, y) :: ws, by simp [hw], fun x hm => ?_⟩
    rcases List.mem_cons.mp hm with rfl | hm
    · exact ⟨ht, ry⟩
    · exact hx x hm
theorem KT_all {H : Hp} : ∀ {ws : List (PT × Value)} {kvs : List (List Key × V)} {xs : List (List Key × Addr × Value)}, KT H kvs xs → (∀ x ∈ ws, H x.1.b = some (.tup (x.1.k.map kV)) ∧ RelV x.1.v x.2) →
    KT H (mergeT kvs (ws.map (·.1))) (storedAllH xs (ws.map fun x => (x.1.k, x.1.b, x.2)))
  | [], kvs, xs, r, _ => r
  | w :: ws, kvs, xs, r, h => by
    obtain ⟨h1, h2⟩ := h w (by simp)
    exact KT_all (ws := ws) (r.put w.1.k h1 h2) fun x hx => h x (by simp [hx])
theorem mergeT_len : ∀ (es : List PT) (kvs : List (List Key × V)), (mergeT kvs es).length ≤ kvs.length + es.length
  | [], kvs => by simp [mergeT]
  | e :: es, kvs => by
    have h1 := mergeT_len es (putK kvs e.k e.v)
    have h2 := length_putK kvs e.k e.v
    have : mergeT kvs (e :: es) = mergeT (putK kvs e.k e.v) es := rfl
    rw [this, List.length_cons]
    omega
theorem cr_dictT (hc : X.calm = true) (hu : X.A.units + 100 < cLine) : CallR X (.type "dict") (fun xs H Q => ∃ (a : Addr) (es : List PT), xs = [.ref a] ∧ SqL X.K H a (es.map fun e => V.ref e.p) ∧ (∀ e ∈ es, H e.p = some (.tup [.ref e.b, e.v])) ∧ (∀ e ∈ es, H e.b = some (.tup (e.k.map kV))) ∧
    ∀ p, H p = none → Q (.ref p) (upd H p (.dT (mergeT [] es)))) := by
  intro pins s σ H xs us Q I r q
  obtain ⟨a, es, ex, hq, hp, hb, q⟩ := q
  subst ex
  obtain ⟨u, eu, rx⟩ := vals1 r
  subst eu
  cases rx
  obtain ⟨its, rv, pl, hz⟩ := I.list hq
  have ei := refs_at (ps := es.map (·.p)) (by rw [List.map_map]; exact rv)
  subst ei
  rw [List.length_map] at hz
  obtain ⟨ws, hw, hx⟩ := pts_of I hp
  subst hw
  obtain ⟨o, n, ho, hcl, hd, hdat⟩ := pl
  have hitems : PairItems s.heap (((ws.map (·.1)).map (·.p)).map Value.ref).toArray (fun j => ((ws.map fun x => x.1.p)[j]?).getD 0) (ws.map fun x => (Value.ref x.1.b, x.2)) := by
    refine ⟨by simp, fun j k v hj => ?_⟩
    rw [List.getElem?_map] at hj
    cases e : ws[j]? with
    | none => rw [e] at hj; cases hj
    | some x =>
      rw [e] at hj; cases hj
      refine ⟨by simp [e], .inl ?_⟩
      have hh := (hx x (List.mem_of_getElem? e)).1
      have e' : ((ws.map fun x => x.1.p)[j]?).getD 0 = x.1.p := by simp [e]
      show s.heap.IsTuple (((ws.map fun x => x.1.p)[j]?).getD 0) _
      rw [e']
      exact hh
  refine call_dict_pairsH (knd := tupleKind (mixKind X.prog X.w)) (ps := ws.map fun x => (x.1.k, x.1.b, x.2)) (PairArg.list a _ _ _) (I.ok.hd hc) (by show X.A.in1.in1.units < cLine; simp; omega) ⟨⟨o, n, ho, hcl, hd, hdat⟩, hitems⟩ ⟨by simp, fun i key v hr => ?_⟩ (fun h' hk x hxm => ?_) (by simpa using hz) fun h' tk hd' k => ?_
  · rw [PairRel, List.getElem?_map] at hr
    cases e : ws[i]? with
    | none => rw [e] at hr; cases hr
    | some x => rw [e] at hr; cases hr; exact ⟨x.1.k, x.1.b, by simp [e], rfl⟩
  · obtain ⟨y, hy, rfl⟩ := List.mem_map.mp hxm
    have hby := hb y.1 (List.mem_map.mpr ⟨y, hy, rfl⟩)
    obtain ⟨oo, items, n2, h1, h2, h3, h4⟩ := key_of I.hok hby
    have hlt := Heap.lt_size h1
    exact ⟨oo, items, n2, hk _ _ (Nat.ne_of_lt hlt) (by simp) h1, h2, h3, h4⟩
  · have hm : (s.heap.objs.size == sysModules) = false := beq_eq_false_iff_ne.mpr (Nat.ne_of_gt I.big)
    have hn := I.hok.fresh (Nat.le_refl s.heap.objs.size)
    have hlen : (mergeT [] (ws.map (·.1))).length ≤ sizeLine := by
      have := mergeT_len (ws.map (·.1)) []
      simp at this hz
      simp
      omega
    obtain ⟨q', es', ep, hq', h2, h3, h4, _, h5⟩ := hd'
    have kt : KT H (mergeT [] (ws.map (·.1))) (storedAllH [] (ws.map fun x => (x.1.k, x.1.b, x.2))) := KT_all .nil fun x hxm => ⟨hb x.1 (List.mem_map.mpr ⟨x, hxm, rfl⟩), (hx x hxm).2⟩
    refine ⟨.ref s.heap.objs.size, upd H s.heap.objs.size (.dT (mergeT [] (ws.map (·.1)))), I.laid (t' := tk) (fun b ob e => k b ob (by simp) e) (Nat.le_refl _) ⟨hlen, hm, _, kt.keeps fun c ys ec => ?_, q', es', ep, hq', h2, h3, h4, h5⟩, rfl, q _ hn⟩
    rw [upd_ne (ne_of_none ec hn)]
    exact ec
/-- pairs with tuple keys -/
def prsT : List D → Option (List (List Key × D))
  | [] => some []
  | .tup [.tup ks, v] :: r => (match D.keys ks, prsT r with
    | some k, some m => some ((k, v) :: m)
    | _, _ => none)
  | _ :: _ => none
def mergeDT (kds more : List (List Key × D)) : List (List Key × D) := more.foldl (fun acc kv => putD acc kv.1 kv.2) kds
theorem prsT_rep {K : PySem.W.Frag} {F : Hp} : ∀ {xs : List D} {ms : List (List Key × D)} {vs : List V}, prsT xs = some ms → Reps K F vs xs →
    ∃ es : List PT, vs = es.map (fun e => V.ref e.p) ∧ (∀ e ∈ es, F e.p = some (.tup [.ref e.b, e.v])) ∧ (∀ e ∈ es, F e.b = some (.tup (e.k.map kV))) ∧ es.map (·.k) = ms.map (·.1) ∧ Reps K F (es.map (·.v)) (ms.map (·.2))
  | [], ms, _, h, .nil => by
    cases h
    exact ⟨[], rfl, fun e he => by simp at he, fun e he => by simp at he, rfl, .nil⟩
  | x :: r, ms, _, h, .cons a b => by
    unfold prsT at h
    split at h
    · rename_i h1; cases h1
    · rename_i ks v r' h1
      cases h1
      split at h
      · rename_i k m ek em
        cases h
        obtain ⟨es, h2, h3, h4, h5, h6⟩ := prsT_rep em b
        cases a with
        | tup ha rs =>
          rename_i p ws
          cases rs with
          | cons r1 r2 =>
            cases r2 with
            | cons r3 r4 =>
              cases r4
              cases r1 with
              | tup hb rk =>
                rename_i bb wk
                have hk := rk.keys ek
                subst hk
                rename_i vv
                refine ⟨⟨p, k, bb, _⟩ :: es, by rw [h2]; rfl, fun e he => ?_, fun e he => ?_, by simp [h5], .cons r3 h6⟩
                · rcases List.mem_cons.mp he with rfl | he
                  · exact ha
                  · exact h3 e he
                · rcases List.mem_cons.mp he with rfl | he
                  · exact hb
                  · exact h4 e he
      · cases h
    · cases h
theorem KR_mergeT {K : PySem.W.Frag} {F : Hp} : ∀ {es : List PT} {ms : List (List Key × D)} {kvs : List (List Key × V)} {kds : List (List Key × D)}, es.map (·.k) = ms.map (·.1) → Reps K F (es.map (·.v)) (ms.map (·.2)) → KR K F kvs kds → KR K F (mergeT kvs es) (mergeDT kds ms)
  | [], [], kvs, kds, _, _, r => r
  | e :: es, m :: ms, kvs, kds, h, rs, r => by
    simp only [List.map_cons, List.cons.injEq] at h
    cases rs with
    | cons a b =>
      have : mergeT kvs (e :: es) = mergeT (putK kvs e.k e.v) es := rfl
      rw [this]
      show KR K F _ (mergeDT (putD kds m.1 m.2) ms)
      refine KR_mergeT h.2 b ?_
      rw [h.1]
      exact r.put a
  | [], _ :: _, _, _, h, _, _ => by simp at h
  | _ :: _, [], _, _, h, _, _ => by simp at h
def rDictT (ds : List D) (G : GH) (Q : DQ) : Prop := match ds with
  | [d] => (match d.cur G with
    | .lst xs => (match prsT xs with
      | some ms => Q (.dT (mergeDT [] ms)) G
      | none => False)
    | _ => False)
  | _ => False
theorem cd_dictT (hc : X.calm = true) (hu : X.A.units + 100 < cLine) : CallD X (.type "dict") rDictT := by
  refine ⟨_, cr_dictT hc hu, fun F H G vs ds g rs Q' h Q k => ?_⟩
  unfold rDictT at h
  split at h
  · rename_i d
    cases rs with
    | cons r b =>
      cases b
      split at h
      · rename_i xs ex
        split at h
        · rename_i ms em
          obtain ⟨a, ws, rfl, ha, rw'⟩ := cur_list g r ex
          obtain ⟨es, rfl, h3, h4, h5, h6⟩ := prsT_rep em rw'
          refine ⟨a, es, rfl, .inl (.inl ha), fun e he => g.ex _ _ (h3 e he), fun e he => g.ex _ _ (h4 e he), fun p hp => ?_⟩
          have gr := Gr.new (u := .dT (mergeT [] es)) g.ex hp
          have kr : KR X.K F (mergeT [] es) (mergeDT [] ms) := KR_mergeT h5 h6 ⟨rfl, .nil⟩
          have kr2 := kr.mono gr.ff
          exact k _ _ _ _ G gr.go (g.grow gr) (.dT upd_same kr2.ks kr2.vs) h
        · exact h.elim
      · exact h.elim
  · exact h.elim
end
end DL
end
section
set_option Elab.async false
set_option linter.all false
set_option maxRecDepth 100000
set_option maxHeartbeats 4000000
namespace DL
open PySem PySem.Spec PyProof.Rows L2
/-- what is known of the heap by G is known by some G' x, too -/
def Cv (G : GH) {α : Type} (P : α → Prop) (G' : α → GH) : Prop := ∀ K F H, Gok K F H G → ∃ x, P x ∧ Gok K F H (G' x) ∧ ∀ b, G b = none → G' x b = none
def Cv1 (G G' : GH) : Prop := ∀ K F H, Gok K F H G → Gok K F H G' ∧ ∀ b, G b = none → G' b = none
theorem go_view {F H : Hp} {G G' : GH} (h : ∀ b, G b = none → G' b = none) : Go F H G F H G' := ⟨Ex.refl F, fun b u e g => ⟨e, h b g⟩, fun _ _ _ _ f _ => f, fun _ z => z⟩
section
variable {X : Cx} {pos : Pos}
def dIn (t : DTS) : DTS := fun D' S G => ∃ (α : Type) (P : α → Prop) (G' : α → GH), Cv G P G' ∧ ∀ x, P x → t D' S (G' x)
theorem dps_in {body : List Stmt} {t' : DTS} (h : DPs X body t') : DPs X body (dIn t') := by
  obtain ⟨t, p, r⟩ := h.ex
  refine ⟨t, p, fun F H σ S G o D' h D0 k => ?_⟩
  obtain ⟨α, P, G', cv, h⟩ := h
  obtain ⟨x, px, g, fr⟩ := cv X.K F H o.g
  exact r F H σ S (G' x) ⟨g, o.s⟩ D' (h x px) D0 (k.mono (go_view fr))
def outE (D' : DEnds) : DEnds := { nx := fun S G => ∃ G2, Cv1 G G2 ∧ D'.nx S G2, rt := fun d G => ∃ G2, Cv1 G G2 ∧ D'.rt d G2, bk := fun S G => ∃ G2, Cv1 G G2 ∧ D'.bk S G2, ct := fun S G => ∃ G2, Cv1 G G2 ∧ D'.ct S G2 }
def dOut (t : DTS) : DTS := fun D' S G => t (outE D') S G
theorem dps_out {body : List Stmt} {t' : DTS} (h : DPs X body t') : DPs X body (dOut t') := by
  obtain ⟨t, p, r⟩ := h.ex
  refine ⟨t, p, fun F H σ S G o D' h D0 k => r F H σ S G o (outE D') h D0 ⟨?_, ?_, ?_, ?_⟩⟩
  · rintro F1 H1 σ1 S1 G1 e1 o1 ⟨G2, cv, q⟩
    obtain ⟨g, fr⟩ := cv X.K F1 H1 o1.g
    exact k.nx F1 H1 σ1 S1 G2 (e1.trans (go_view fr)) ⟨g, o1.s⟩ q
  · rintro F1 H1 v d G1 e1 g1 r1 ⟨G2, cv, q⟩
    obtain ⟨g, fr⟩ := cv X.K F1 H1 g1
    exact k.rt F1 H1 v d G2 (e1.trans (go_view fr)) g r1 q
  · rintro F1 H1 σ1 S1 G1 e1 o1 ⟨G2, cv, q⟩
    obtain ⟨g, fr⟩ := cv X.K F1 H1 o1.g
    exact k.bk F1 H1 σ1 S1 G2 (e1.trans (go_view fr)) ⟨g, o1.s⟩ q
  · rintro F1 H1 σ1 S1 G1 e1 o1 ⟨G2, cv, q⟩
    obtain ⟨g, fr⟩ := cv X.K F1 H1 o1.g
    exact k.ct F1 H1 σ1 S1 G2 (e1.trans (go_view fr)) ⟨g, o1.s⟩ q
end
/-- what may stand in an open deck -/
structure Deck where
  c : Addr
  g : Int
  t : Int
  ns : List Int
def Deck.ok (x : Deck) (n : Nat) : Prop := 0 ≤ x.t ∧ x.t + n ≤ 1099511627776 ∧ 0 ≤ x.g ∧ x.g < 4294967296 ∧ x.ns.length ≤ 63
def openG (G : GH) (p : Addr) (k1 k2 k3 : Str) (x : Deck) : GH := gput (gput G x.c (.lst (x.ns.map .int))) p (.dK [(.inr k1, .rf x.c), (.inr k2, .int x.g), (.inr k3, .int x.t)])
theorem MRep.other {K : PySem.W.Frag} {F H : Hp} {G G' : GH} {a : Addr} {o : MO} (h : MRep K F H G a o) (nd : ∀ k1 k2 k3 n, o ≠ .deck k1 k2 k3 n) : MRep K F H G' a o := by
  cases o with
  | deck k1 k2 k3 n => exact absurd rfl (nd k1 k2 k3 n)
  | _ => exact h
theorem ints_vs {K : PySem.W.Frag} {F : Hp} {ns : List Int} {vs : List V} (r : Reps K F vs (ns.map .int)) : vs = ns.map V.int := by
  induction ns generalizing vs with
  | nil => cases r; rfl
  | cons n ns ih => cases r with
    | cons a b => cases a; rw [ih b]; rfl
theorem deck_open {G : GH} {p : Addr} {k1 k2 k3 : Str} {n : Nat} (h : G p = some (.deck k1 k2 k3 n)) : Cv G (fun x : Deck => x.ok n ∧ G x.c = some .dcell ∧ x.c ≠ p ∧ ∀ a, a ≠ p → ∀ j1 j2 j3 m, G a ≠ some (.deck j1 j2 j3 m)) (openG G p k1 k2 k3) := by
  intro K F H g
  obtain ⟨fp, c, g0, t, ns, hp, hc, gc, h1, h2, h3, h4, h5⟩ := g.at_ p _ h
  have ne : c ≠ p := fun z => by rw [z, h] at gc; cases gc
  refine ⟨⟨c, g0, t, ns⟩, ⟨⟨h1, h2, h3, h4, h5⟩, gc, ne, fun a na j1 j2 j3 m z => na (g.one a p _ _ _ _ _ _ _ _ z h)⟩, ⟨g.ex, fun a o e => ?_, fun a b j1 j2 j3 m i1 i2 i3 m2 e1 e2 => ?_⟩, fun b hb => ?_⟩
  · unfold openG at e
    by_cases q : a = p
    · subst q
      rw [gput_same] at e; cases e
      exact ⟨fp, _, hp, rfl, .cons (.rf c) (.cons (.int _) (.cons (.int _) .nil))⟩
    · rw [gput_ne q] at e
      by_cases q2 : a = c
      · subst q2
        rw [gput_same] at e; cases e
        exact ⟨(g.at_ a _ gc).1, _, hc, Reps.ints ns⟩
      · rw [gput_ne q2] at e
        obtain ⟨f, m⟩ := g.at_ a o e
        refine ⟨f, m.other fun j1 j2 j3 m z => ?_⟩
        subst z
        exact q (g.one a p _ _ _ _ _ _ _ _ e h)
  · have n1 : ∀ a j1 j2 j3 m, openG G p k1 k2 k3 ⟨c, g0, t, ns⟩ a ≠ some (.deck j1 j2 j3 m) := fun a j1 j2 j3 m z => by
      unfold openG at z
      by_cases q : a = p
      · subst q; rw [gput_same] at z; cases z
      · rw [gput_ne q] at z
        by_cases q2 : a = c
        · subst q2; rw [gput_same] at z; cases z
        · rw [gput_ne q2] at z
          exact q (g.one a p _ _ _ _ _ _ _ _ z h)
    exact absurd e1 (n1 a j1 j2 j3 m)
  · have q : b ≠ p := fun z => by rw [z, h] at hb; cases hb
    have q2 : b ≠ c := fun z => by rw [z, gc] at hb; cases hb
    unfold openG
    rw [gput_ne q, gput_ne q2]; exact hb
def NoDeck (G : GH) : Prop := ∀ a k1 k2 k3 n, G a ≠ some (.deck k1 k2 k3 n)
/-- shut: budget n -/
def shutG (G : GH) (p c : Addr) (k1 k2 k3 : Str) (n : Nat) : GH := gput (gput G c .dcell) p (.deck k1 k2 k3 n)
theorem deck_shut {G : GH} {p : Addr} {k1 k2 k3 : Str} {n : Nat} {x : Deck} (nd : NoDeck G) (hp : G p = some (.dK [(.inr k1, .rf x.c), (.inr k2, .int x.g), (.inr k3, .int x.t)])) (hc : G x.c = some (.lst (x.ns.map .int))) (ok : x.ok n) : Cv1 G (shutG G p x.c k1 k2 k3 n) := by
  intro K F H g
  obtain ⟨fp, kvs, e1, e2, e3⟩ := g.at_ p _ hp
  obtain ⟨fc, vs, f1, f2⟩ := g.at_ x.c _ hc
  have ne : x.c ≠ p := fun z => by rw [z, hp] at hc; cases hc
  have ev := ints_vs f2
  subst ev
  have ek : kvs = [(.inr k1, .ref x.c), (.inr k2, .int x.g), (.inr k3, .int x.t)] := by
    match kvs, e2, e3 with
    | [(a1, b1), (a2, b2), (a3, b3)], e2, e3 =>
      simp only [List.map_cons, List.map_nil, List.cons.injEq, and_true] at e2
      obtain ⟨rfl, rfl, rfl⟩ := e2
      cases e3 with
      | cons r1 r2 => cases r2 with
        | cons r3 r4 => cases r4 with
          | cons r5 r6 => cases r1; cases r3; cases r5; rfl
  subst ek
  obtain ⟨o1, o2, o3, o4, o5⟩ := ok
  refine ⟨⟨g.ex, fun a o e => ?_, fun a b j1 j2 j3 m i1 i2 i3 m2 z1 z2 => ?_⟩, fun b hb => ?_⟩
  · unfold shutG at e
    by_cases q : a = p
    · subst q
      rw [gput_same] at e; cases e
      refine ⟨fp, x.c, x.g, x.t, x.ns, e1, f1, ?_, o1, o2, o3, o4, o5⟩
      unfold shutG
      rw [gput_ne ne, gput_same]
    · rw [gput_ne q] at e
      by_cases q2 : a = x.c
      · subst q2
        rw [gput_same] at e; cases e
        exact ⟨fc, _, f1⟩
      · rw [gput_ne q2] at e
        obtain ⟨f, m⟩ := g.at_ a o e
        exact ⟨f, m.other fun j1 j2 j3 m z => nd a j1 j2 j3 m (z ▸ e)⟩
  · have n1 : ∀ a j1 j2 j3 m, shutG G p x.c k1 k2 k3 n a = some (.deck j1 j2 j3 m) → a = p := fun a j1 j2 j3 m z => by
      unfold shutG at z
      by_cases q : a = p
      · exact q
      · rw [gput_ne q] at z
        by_cases q2 : a = x.c
        · subst q2; rw [gput_same] at z; cases z
        · rw [gput_ne q2] at z; exact absurd z (nd a j1 j2 j3 m)
    rw [n1 _ _ _ _ _ z1, n1 _ _ _ _ _ z2]
  · have q : b ≠ p := fun z => by rw [z, hp] at hb; cases hb
    have q2 : b ≠ x.c := fun z => by rw [z, hc] at hb; cases hb
    unfold shutG
    rw [gput_ne q, gput_ne q2]; exact hb
/-- one draw taken -/
theorem shut_open {G : GH} {p c : Addr} {k1 k2 k3 : Str} {m n : Nat} {o1 o2 : MO} (h : G p = some (.deck k1 k2 k3 m)) (hc : G c = some .dcell) (ne : c ≠ p) : shutG (gput (gput G c o1) p o2) p c k1 k2 k3 n = gput G p (.deck k1 k2 k3 n) := by
  funext b
  unfold shutG
  by_cases q : b = p
  · subst q; rw [gput_same, gput_same]
  · rw [gput_ne q, gput_ne q]
    by_cases q2 : b = c
    · subst q2; rw [gput_same, hc]
    · rw [gput_ne q2, gput_ne q, gput_ne q2]
theorem open_nodeck {G : GH} {p : Addr} {k1 k2 k3 : Str} {x : Deck} (nd : ∀ a, a ≠ p → ∀ j1 j2 j3 m, G a ≠ some (.deck j1 j2 j3 m)) : NoDeck (openG G p k1 k2 k3 x) := by
  intro a j1 j2 j3 m z
  unfold openG at z
  by_cases q : a = p
  · subst q; rw [gput_same] at z; cases z
  · rw [gput_ne q] at z
    by_cases q2 : a = x.c
    · subst q2; rw [gput_same] at z; cases z
    · rw [gput_ne q2] at z; exact nd a q j1 j2 j3 m z
theorem deck_close {G : GH} {p : Addr} {k1 k2 k3 : Str} {m n : Nat} {x : Deck} (h : G p = some (.deck k1 k2 k3 m)) (gc : G x.c = some .dcell) (ne : x.c ≠ p) (nd : ∀ a, a ≠ p → ∀ j1 j2 j3 m, G a ≠ some (.deck j1 j2 j3 m)) (ok : x.ok n) :
    Cv1 (openG G p k1 k2 k3 x) (gput G p (.deck k1 k2 k3 n)) := by
  have := deck_shut (G := openG G p k1 k2 k3 x) (p := p) (k1 := k1) (k2 := k2) (k3 := k3) (n := n) (x := x) (open_nodeck nd) gput_same (by unfold openG; rw [gput_ne ne, gput_same]) ok
  unfold openG at this
  rw [shut_open h gc ne] at this
  exact this
end DL
end
section
set_option Elab.async false
set_option linter.all false
set_option maxRecDepth 100000
namespace DL
open PySem PySem.Spec PyProof.Rows L2
theorem dx2 : (∀ (tk tv : DTE) (S : DS) (G : GH) (Q : DQ), dDispT tk tv S G Q = (tk S G fun k G1 => tv S G1 fun v G2 => match k with
    | .tup ds => (match D.keys ds with
      | some ks => ∀ p, G2 p = none → Q (.rf p) (gput G2 p (.dT [(ks, v)]))
      | none => False)
    | _ => False)) ∧
  (∀ (te : DTE) (S : DS) (G : GH) (Q : DQ), dSortSet te S G Q = (te S G fun d G1 => match d.cur G1 with
    | .lst xs => (match intsD xs with
      | some ns => ns.length < 64 ∧ Q (.lst ((isort1 ns).map .int)) G1
      | none => False)
    | _ => False)) ∧
  (∀ (sp : SpD) (n m : Nat) (js : List Nat) (ta tk : DTA) (S : DS) (G : GH) (Q : DQ), dCallK sp n m js ta tk S G Q = (ta S G fun ds G1 => tk S G1 fun zs G2 => (ds.length = n ∧ zs.length = m) ∧ sp (perm .non js ds zs) G2 Q)) ∧
  (∀ (t : DTS) (D' : DEnds) (S : DS) (G : GH), dOut t D' S G = t (outE D') S G) ∧
  (∀ (te : DTE) (S : DS) (G : GH) (R : List D → (GH → Prop) → GH → Prop), diKeysT te S G R = (te S G fun d G1 => match d with
    | .rf p => (match G1 p with
      | some (.lkT o kvs kds) => R (kds.map fun kv => ktD kv.1) (fun G => G p = some (.lkT o kvs kds)) G1
      | _ => False)
    | _ => False)) := ⟨fun _ _ _ _ _ => rfl, fun _ _ _ _ => rfl, fun _ _ _ _ _ _ _ _ _ => rfl, fun _ _ _ _ => rfl, fun _ _ _ _ => rfl⟩
theorem gput_comm {G : GH} {a b : Addr} {o o' : MO} (h : a ≠ b) : gput (gput G a o) b o' = gput (gput G b o') a o := by
  funext c
  by_cases q : c = a
  · subst q; rw [gput_ne h, gput_same, gput_same]
  · rw [gput_ne q]
    by_cases q2 : c = b
    · subst q2; rw [gput_same, gput_same]
    · rw [gput_ne q2, gput_ne q2, gput_ne q]
/-- a thing changed under another -/
theorem gput_under {G : GH} {a b : Addr} {o o' o2 : MO} (h : a ≠ b) : gput (gput (gput G a o) b o') a o2 = gput (gput G a o2) b o' := by
  rw [gput_comm h, gput_gput, ← gput_comm h]
theorem sub_new2 {G : GH} {p z : Addr} {o o' : MO} (hp : G p = none) (hz : G z = none) (ne : z ≠ p) (h1 : o.isDeck = false) (h2 : o'.isDeck = false) : Sub G (gput (gput G p o) z o') :=
  (sub_new hp h1).trans (sub_new (by rw [gput_ne ne]; exact hz) h2)
theorem item_dT (kds : List (List Key × D)) (ds : List D) : D.item (.dT kds) (.tup ds) = ((D.keys ds).map (valD kds)).join := rfl
theorem item_lst (xs : List D) (n : Int) : D.item (.lst xs) (.int n) = atI xs n := rfl
theorem inn_dT (kds : List (List Key × D)) (ds : List D) : D.inn (.tup ds) (.dT kds) = ((D.keys ds).map (valD kds)).map Option.isSome := rfl
structure Mak (P : Program) (w : World) (K : PySem.W.Frag) (mg : Str → Option Value) (base : Heap) (x : Str) (C : Addr) (k : Nat) (ps : List Str) (sp : SpD) : Prop where
  ex : ∃ f fd, Mk K C f ∧ FnG P w K mg base CX0 k f fd ps (SpOf K sp) ∧ mg x = some (.ref C) ∧ Binds K fd ps []
theorem de_mak {X : Cx} {pos : Pos} {x : Str} {C : Addr} {k : Nat} {ps : List Str} {sp : SpD} {p : Pos} {e : Expr} {es : List Expr} {ta : DTA} (c : Mak X.prog X.w X.K X.mg X.base x C k ps sp) (hA : X.A.guards = some []) (hr : Room (k + 1) X.A) (ha : DA X (e :: es) ta) (hg : Gl X x := by rfl) (hdb : (x == ("__debug__" : Str)) = false := by decide)
    (he : starEach (e :: es) X.env = (false, eval e X.env) :: starEach es X.env := by rfl) (hpl : (backTo pos (starEach es X.env)).any (·.1) = false := by rfl) : DE X (.Call (.Name x p) (e :: es) [] pos) (dCold (dMake C sp ta)) := by
  obtain ⟨f, fd, M, Fn, hm, hb⟩ := c.ex
  exact de_cold (de_make M Fn hA hr hg hm hb ha hdb he hpl)
/-- the __init__ of the class at C -/
structure DefI (K : PySem.W.Frag) (C : Addr) (qual : Str) (st : Stmt) : Prop where
  ex : ∃ f fd, Fun K "__init__" qual st f fd ∧ Mk K C f
theorem mak_mk {P : Program} {w : World} {K : PySem.W.Frag} {mg : Str → Option Value} {base : Heap} {x qual : Str} {C : Addr} {st : Stmt} {N ps : List Str} {k : Nat} {sp : SpD} (d : DefI K C qual st) (hm : mg x = some (.ref C)) (sc : FnScope N ps (defScope st)) (len : ∀ ds G Q, sp ds G Q → ds.length = ps.length)
    (bi : ∀ (kV doc pm : Value) (an : Option Addr) (cdv ct : Value) (us : List Value), us.length = ps.length → bindArgs (PySem.W.fnOf "__init__" qual (defArgs st) (defBody st) (defScope st) .none kV doc pm an cdv ct) ⟨us, []⟩ = pure (ps.zip us))
    (hb : ∀ (f : Addr) (cdv : Value) (A : Around) (outer : List Env) (s : Shared) (H : Hp) (E : XK), A.guards = some [] → Room k (A.deeper (envOfC qual (defScope st) s.heap.objs.size f cdv)) →
      ∃ t', DPs (cxOf CX0 P w K mg base N qual (defScope st) f cdv A outer s H E).nox (defBody st) t' ∧ ∀ ds G Q, sp ds G Q → t' (fin Q) (dstart N ds) G) : Mak P w K mg base x C (k + 1) ps sp := by
  obtain ⟨f, fd, Fu, M⟩ := d.ex
  exact ⟨f, fd, M, fn_mk Fu sc len (hb f), hm, Fu.binds bi⟩
theorem dx3 : (∀ (x : Str) (G : GH) (Q : DQ), rIsiD [.str x, .ty "str"] G Q = Q (.bl true) G) ∧ (∀ (x : Int) (G : GH) (Q : DQ), rIsiD [.int x, .ty "int"] G Q = Q (.bl true) G) ∧ (∀ (x : Int) (G : GH) (Q : DQ), rIsiD [.int x, .ty "bool"] G Q = Q (.bl false) G) ∧
  (∀ (xs : List D) (G : GH) (Q : DQ), rIsiD [.tup xs, .ty "tuple"] G Q = Q (.bl true) G) ∧
  (∀ (xs : List D) (G : GH) (Q : DQ), rTupleD [.lst xs] G Q = Q (.tup xs) G) ∧ (∀ (xs : List D) (G : GH) (Q : DQ), rTupleD [.tup xs] G Q = Q (.tup xs) G) ∧
  (∀ (xs : List D) (G : GH) (Q : DQ), rLenD [.lst xs] G Q = Q (.int (xs.length : Nat)) G) ∧ (∀ (xs : List D) (G : GH) (Q : DQ), rLenD [.tup xs] G Q = Q (.int (xs.length : Nat)) G) ∧
  (∀ (i : Int) (G : GH) (Q : DQ), rIntC [.int i] G Q = Q (.int i) G) ∧
  (∀ (x : Str) (lo hi : Option Int) (G : GH) (Q : DQ), rSlice (.str x) lo hi G Q = (x.length ≤ sizeLine ∧ Q (.str (cutS x lo hi)) G)) ∧
  (∀ (xs : List D) (lo hi : Option Int) (G : GH) (Q : DQ), rSlice (.tup xs) lo hi G Q = Q (.tup (DL.cutD xs lo hi)) G) ∧
  (∀ (xs : List D) (lo hi : Option Int) (G : GH) (Q : DQ), rSlice (.lst xs) lo hi G Q = Q (.lst (DL.cutD xs lo hi)) G) ∧
  (∀ (ns : List Int) (lo hi : Option Int) (G : GH) (Q : DQ), rSlice (.scr ns) lo hi G Q = Q (.lst ((DL.cutD ns lo hi).map .int)) G) ∧
  (∀ (i j : Int) (G : GH) (Q : DQ), rAddD (.int i) (.int j) G Q = Q (.int (i + j)) G) ∧
  (∀ (a b : Str) (G : GH) (Q : DQ), rAddD (.str a) (.str b) G Q = (a.length + b.length ≤ sizeLine ∧ Q (.str (a ++ b)) G)) ∧
  (∀ (a b : List D) (G : GH) (Q : DQ), rAddD (.tup a) (.tup b) G Q = (a.length + b.length ≤ sizeLine ∧ Q (.tup (a ++ b)) G)) ∧
  (∀ (i j : Int) (G : GH) (Q : DQ), rMulD (.int i) (.int j) G Q = (CMul i j ∧ Q (.int (i * j)) G)) ∧
  (∀ (b : Bool), (!(!b)) = b) ∧ (∀ (x y : D), okE x y = true ∧ True ↔ okE x y = true) :=
  ⟨fun _ _ _ => rfl, fun _ _ _ => rfl, fun _ _ _ => rfl, fun _ _ _ => rfl, fun _ _ _ => rfl, fun _ _ _ => rfl, fun _ _ _ => rfl, fun _ _ _ => rfl, fun _ _ _ => rfl, fun _ _ _ _ _ => rfl, fun _ _ _ _ _ => rfl, fun _ _ _ _ _ => rfl, fun _ _ _ _ _ => rfl, fun _ _ _ _ => rfl, fun _ _ _ _ => rfl, fun _ _ _ _ => rfl, fun _ _ _ _ => rfl, fun b => by cases b <;> rfl, fun _ _ => by simp⟩
theorem len_str {x : Str} (h : x.length ≤ sizeLine) (G : GH) (Q : DQ) : rLenD [.str x] G Q = Q (.int (x.length : Nat)) G := by
  simp [rLenD, D.cur, D.len, h]
theorem all_map {α : Type} (f : α → Bool) (l : List α) (G : GH) (Q : DQ) : rAllD [.lst (l.map fun x => .bl (f x))] G Q = Q (.bl (l.all f)) G := by
  have e : bools (l.map fun x => D.bl (f x)) = some (l.map f) := by
    rw [← bools_map, List.map_map]; rfl
  show (match bools (l.map fun x => D.bl (f x)) with | some bs => Q (.bl (bs.all id)) G | none => False) = _
  rw [e]
  simp [List.all_map]
theorem inn_str (x z : Str) : D.inn (.str x) (.str z) = some (strIn x z) := rfl
theorem lc_someA {α : Type} {ds : List D} {gd : GH → Prop} {p : Pat} {tt : DTT} {te : DTE} {vs : List Nat} {S : DS} {G : GH} {Q : DQ} (l : List α) (g : α → D) (b : α → Bool) (f : α → D) (e0 : ds = l.map g) (hz : l.length ≤ sizeLine) (hg : gd G)
    (h : ∀ a ∈ l, ∃ S2, p.put (g a) (dwipe S vs) = some S2 ∧ (∀ Q : Bool → GH → Prop, Q (b a) G → tt S2 G Q) ∧ (b a = true → ∀ Q : DQ, Q (f a) G → te S2 G Q)) (q : Q (.lst ((l.filter b).map f)) G) : LcB ds gd p tt te vs S G Q := by
  subst e0
  refine ⟨by simpa using hz, fun i acc G' => G' = G ∧ acc = ((l.take i).filter b).map f, ⟨rfl, by simp⟩, fun _ _ _ z => z.1 ▸ hg, ?_, ?_⟩
  · rintro i acc G' d ⟨rfl, rfl⟩ hd
    rw [List.getElem?_map] at hd
    cases ei : l[i]? with
    | none => rw [ei] at hd; cases hd
    | some a =>
      rw [ei] at hd
      cases hd
      obtain ⟨S2, h1, h2, h3⟩ := h a (List.mem_of_getElem? ei)
      have e : l.take (i + 1) = l.take i ++ [a] := by rw [List.take_add_one, ei]; rfl
      refine ⟨S2, h1, h2 _ ?_⟩
      cases hb : b a with
      | true =>
        rw [if_pos rfl]
        refine h3 hb _ ⟨rfl, ?_⟩
        rw [e, List.filter_append, List.map_append]
        simp [hb]
      | false =>
        rw [if_neg Bool.false_ne_true]
        refine ⟨rfl, ?_⟩
        rw [e, List.filter_append, List.map_append]
        simp [hb]
  · rintro acc G' ⟨rfl, rfl⟩
    rw [List.length_map, List.take_length]
    exact q
theorem lc_mapA {α : Type} {ds : List D} {gd : GH → Prop} {p : Pat} {te : DTE} {vs : List Nat} {S : DS} {G : GH} {Q : DQ} (l : List α) (g : α → D) (f : α → D) (e0 : ds = l.map g) (hz : l.length ≤ sizeLine) (hg : gd G)
    (h : ∀ a ∈ l, ∃ S2, p.put (g a) (dwipe S vs) = some S2 ∧ ∀ Q : DQ, Q (f a) G → te S2 G Q) (q : Q (.lst (l.map f)) G) : LcB ds gd p dYes te vs S G Q := by
  refine lc_someA l g (fun _ => true) f e0 hz hg (fun a ha => ?_) (by rw [show l.filter (fun _ => true) = l from List.filter_eq_self.mpr fun _ _ => rfl]; exact q)
  obtain ⟨S2, h1, h2⟩ := h a ha
  exact ⟨S2, h1, fun Q z => z, fun _ => h2⟩
theorem zip_map {α β γ : Type} (f : α → β → γ) : ∀ (l : List α) (m : List β), List.zipWith f l m = (l.zip m).map fun p => f p.1 p.2
  | [], _ => by simp
  | _ :: _, [] => by simp
  | a :: l, b :: m => by simp [zip_map f l m]
end DL
end
section
set_option Elab.async false
set_option linter.all false
set_option maxRecDepth 100000
set_option maxHeartbeats 4000000
namespace DL
open PySem PySem.Spec PyProof.Rows L2
end DL
end
section
set_option Elab.async false
set_option linter.all false
set_option maxRecDepth 100000
set_option maxHeartbeats 4000000
namespace DL
open PySem PySem.Spec PyProof.Rows L2
section
variable {X : Cx} {pos : Pos}
def lists : List D → Option (List (List D))
  | [] => some []
  | .lst x :: r => (lists r).map (x :: ·)
  | _ :: _ => none
end
end DL
end
section
set_option Elab.async false
set_option linter.all false
set_option maxRecDepth 100000
set_option maxHeartbeats 4000000
namespace DL
open PySem PySem.Spec PyProof.Rows L2
section
variable {X : Cx} {pos : Pos}
structure CalM (P : Program) (w : World) (K : PySem.W.Frag) (mg : Str → Option Value) (base : Heap) (C : Addr) (m : Str) (k : Nat) (ps : List Str) (sp : SpD) : Prop where
  ex : ∃ f fd, Meth K C m f ∧ FnG P w K mg base CX0 k f fd ps (SpOf K sp) ∧ Binds K fd ps []
theorem de_calM {pl : Sem Bool} {o e : Expr} {es : List Expr} {C : Addr} {m : Str} {k : Nat} {ps : List Str} {sp : SpD} {ta : DTE} {tr : DTA} {apos : Pos} (cl : Cls X.K C) (c : CalM X.prog X.w X.K X.mg X.base C m k ps sp) (hA : X.A.guards = some []) (hr : Room k X.A) (he : DE X o ta) (ha : DA X (e :: es) tr)
    (hst : starEach (e :: es) X.env = (false, eval e X.env) :: starEach es X.env := by rfl) (hpl : (backTo pos (starEach es X.env)).any (·.1) = false := by rfl)
    (ht : eval (.Call (.Attribute o m apos) (e :: es) [] pos) X.env = (do let ov ← eval o X.env; standAt apos.atName; let (f, first) ← holding [ov] (getMethod ov m pl); callWith pos f first (backTo pos (starEach (e :: es) X.env)) (backToKw pos (keywordEach [] X.env))) := by rfl) :
    DE X (.Call (.Attribute o m apos) (e :: es) [] pos) (dMeth C m sp ta tr) := by
  obtain ⟨f, fd, hm, Fn, hb⟩ := c.ex
  exact de_meth he cl hm Fn hA hr hb ha hst hpl ht
structure DefM (K : PySem.W.Frag) (C : Addr) (m qual : Str) (st : Stmt) : Prop where
  ex : ∃ f fd, Fun K m qual st f fd ∧ Meth K C m f
theorem calM_mk {P : Program} {w : World} {K : PySem.W.Frag} {mg : Str → Option Value} {base : Heap} {m qual : Str} {C : Addr} {st : Stmt} {N ps : List Str} {k : Nat} {sp : SpD} (d : DefM K C m qual st) (sc : FnScope N ps (defScope st)) (len : ∀ ds G Q, sp ds G Q → ds.length = ps.length)
    (bi : ∀ (kV doc pm : Value) (an : Option Addr) (cdv ct : Value) (us : List Value), us.length = ps.length → bindArgs (PySem.W.fnOf m qual (defArgs st) (defBody st) (defScope st) .none kV doc pm an cdv ct) ⟨us, []⟩ = pure (ps.zip us))
    (hb : ∀ (f : Addr) (cdv : Value) (A : Around) (outer : List Env) (s : Shared) (H : Hp) (E : XK), A.guards = some [] → Room k (A.deeper (envOfC qual (defScope st) s.heap.objs.size f cdv)) →
      ∃ t', DPs (cxOf CX0 P w K mg base N qual (defScope st) f cdv A outer s H E).nox (defBody st) t' ∧ ∀ ds G Q, sp ds G Q → t' (fin Q) (dstart N ds) G) : CalM P w K mg base C m (k + 1) ps sp := by
  obtain ⟨f, fd, Fu, M⟩ := d.ex
  exact ⟨f, fd, M, fn_mk Fu sc len (hb f), Fu.binds bi⟩
end
end DL
end
section
set_option Elab.async false
set_option linter.all false
set_option maxRecDepth 100000
set_option maxHeartbeats 4000000
namespace DL
open PySem PySem.Spec PyProof.Rows L2
end DL
end
section
set_option Elab.async false
set_option linter.all false
set_option maxRecDepth 100000
set_option maxHeartbeats 4000000
namespace DL
open PySem PySem.Spec PyProof.Rows L2
structure Fine (d : D) (n w : Nat) : Prop where
  pl : d.pl = true
  sh : d.py.showable = true
  dp : d.py.depth ≤ n
  ls : d.py.leavesShort 13 = true
  bk : d.py.bulk ≤ w
theorem Fine.mono {d : D} {n w n' w' : Nat} (h : Fine d n w) (h1 : n ≤ n') (h2 : w ≤ w') : Fine d n' w' := ⟨h.pl, h.sh, Nat.le_trans h.dp h1, h.ls, Nat.le_trans h.bk h2⟩
theorem Fine.len {d : D} {n w : Nat} (h : Fine d n w) (hw : w ≤ 1000000) : (D.shown d).length ≤ sizeLine := PyData.shown_fits_bulk (B := 13) (by decide) (by decide) h.ls (Nat.le_trans h.bk (Nat.le_trans hw (by decide)))
end DL
end
section
set_option Elab.async false
set_option linter.all false
set_option maxRecDepth 100000
set_option maxHeartbeats 4000000
namespace DL
open PySem PySem.Spec PyProof.Rows L2
abbrev AlE : Type := He.AlD × Bool
def obsE (fa : List He.Fa) (fn : List He.DefD) (ex : PySem.W.Frag → Bool) (K : PySem.W.Frag) : AlE := (He.obsD fa fn K, ex K)
def insB (K : PySem.W.Frag) (C : Addr) : Bool := He.eqO (PySem.W.findIn K (.ref C) "__class__") (some (some (.builtin "object.__class__"))) && (He.eqO (PySem.W.specialIn K (.builtin "object.__class__") "__get__") (some (some (.builtin "getset_descriptor.__get__"))) &&
  (decide (PySem.W.takesIn K (.builtin "object.__class__") = some true) && (decide (PySem.W.mroIn K C (.type "object") = some true) && decide (PySem.W.kitOne K (.ref C) (.ref C) = some true))))
theorem insB_ok {K : PySem.W.Frag} {C : Addr} (c : Cls K C) (h : insB K C = true) : C8.InsC K C := by
  unfold insB at h
  simp only [Bool.and_eq_true, decide_eq_true_eq] at h
  exact ⟨c, He.eqO_ok h.1, He.eqO_ok h.2.1, h.2.2.1, h.2.2.2.1, h.2.2.2.2⟩
end DL
end
section
set_option Elab.async false
set_option linter.all false
set_option maxRecDepth 100000
set_option maxHeartbeats 4000000
namespace DL
open PySem PySem.Spec PyProof.Rows L2
section
variable {X : Cx} {pos : Pos}
structure NeO (K : PySem.W.Frag) (C : Addr) : Prop where
  ne : PySem.W.findIn K (.ref C) "__ne__" = some (some (.builtin "object.__ne__"))
  hm : PySem.W.mroIn K C (.type "object") = some true
  sf : PySem.W.selfFirst K C = true
def neB (K : PySem.W.Frag) (C : Addr) : Bool := He.eqO (PySem.W.findIn K (.ref C) "__ne__") (some (some (.builtin "object.__ne__"))) && (decide (PySem.W.mroIn K C (.type "object") = some true) && PySem.W.selfFirst K C)
theorem neB_ok {K : PySem.W.Frag} {C : Addr} (h : neB K C = true) : NeO K C := by
  unfold neB at h
  simp only [Bool.and_eq_true, decide_eq_true_eq] at h
  exact ⟨He.eqO_ok h.1, h.2.1, h.2.2⟩
end
end DL
end
section
set_option Elab.async false
set_option linter.all false
set_option maxRecDepth 100000
set_option maxHeartbeats 4000000
namespace DL
open PySem PySem.Spec PyProof.Rows L2
end DL
end
section
set_option Elab.async false
set_option linter.all false
set_option maxRecDepth 100000
set_option maxHeartbeats 4000000
namespace DL
open PySem PySem.Spec PyProof.Rows L2
end DL
end
section
set_option Elab.async false
set_option linter.all false
set_option maxRecDepth 100000
set_option maxHeartbeats 4000000
namespace DL
open PySem PySem.Spec PyProof.Rows L2
mutual
/-- a value that is a key -/
inductive NkV (H : Hp) : V → NestedKey → Prop
  | non : NkV H .non .none
  | int (i : Int) : NkV H (.int i) (.num i)
  | str (x : Str) : NkV H (.str x) (.text x)
  | tup {a : Addr} {vs : List V} {ks : List NestedKey} : H a = some (.tup vs) → NksV H vs ks → NkV H (.ref a) (.tup ks)
inductive NksV (H : Hp) : List V → List NestedKey → Prop
  | nil : NksV H [] []
  | cons {v : V} {vs : List V} {k : NestedKey} {ks : List NestedKey} : NkV H v k → NksV H vs ks → NksV H (v :: vs) (k :: ks)
end
mutual
theorem Rep.nk {K : PySem.W.Frag} {F H : Hp} (e : Ex F H) : ∀ {v : V} {d : D} {k : NestedKey}, Rep K F v d → d.nkey = some k → NkV H v k
  | _, _, _, .non, h => by cases h; exact .non
  | _, _, _, .bl b, h => by cases h
  | _, _, _, .int i, h => by cases h; exact .int i
  | _, _, _, .str x, h => by cases h; exact .str x
  | _, _, _, .ty n, h => by cases h
  | _, _, _, .tup (ds := ds) q r, h => by
    simp only [D.nkey] at h
    obtain ⟨ks, hk, rfl⟩ := Option.map_eq_some_iff.mp h
    exact .tup (e _ _ q) (Reps.nk e r hk)
  | _, _, _, .lst q r, h => by cases h
  | _, _, _, .dK q l r, h => by cases h
  | _, _, _, .dT q l r, h => by cases h
  | _, _, _, .obj q l r, h => by cases h
  | _, _, _, .rf a, h => by cases h
  | _, _, _, .scr q, h => by cases h
  | _, _, _, .kup q r, h => by cases h
theorem Reps.nk {K : PySem.W.Frag} {F H : Hp} (e : Ex F H) : ∀ {vs : List V} {ds : List D} {ks : List NestedKey}, Reps K F vs ds → D.nkeys ds = some ks → NksV H vs ks
  | _, _, _, .nil, h => by cases h; exact .nil
  | _, _, _, .cons (d := d) (ds := ds) r t, h => by
    simp only [D.nkeys] at h
    split at h
    · rename_i k ks h1 h2
      cases h
      exact .cons (Rep.nk e r h1) (Reps.nk e t h2)
    · cases h
end
mutual
theorem NkV.is {P : Program} {w : World} {H : Hp} {h : Heap} (ok : HOk P w H h) : ∀ {v : V} {k : NestedKey} {u : Value}, NkV H v k → RelV v u → NestedIs h k u
  | _, _, _, .non, r => by cases r; exact .none
  | _, _, _, .int i, r => by obtain ⟨t, rfl⟩ := r; exact .int i t
  | _, _, _, .str x, r => by obtain ⟨t, rfl⟩ := r; exact .text x t
  | _, _, _, .tup q t, r => by
    cases r
    obtain ⟨_, its, rs, o, h1, h2, n, h3⟩ := (show ObjOk P w H h _ (.tup _) from ok _ _ q)
    exact .tup h1 h2 h3 (by simpa using NksV.is ok t rs)
theorem NksV.is {P : Program} {w : World} {H : Hp} {h : Heap} (ok : HOk P w H h) : ∀ {vs : List V} {ks : List NestedKey} {us : List Value}, NksV H vs ks → Vals vs us → NestedAll h ks us
  | _, _, _, .nil, r => by cases r; exact .nil
  | _, _, _, .cons a t, r => by
    cases r with
    | cons r1 r2 => exact .cons (NkV.is ok a r1) (NksV.is ok t r2)
end
/-- the dict stands there -/
def NAt (w : World) (H : Hp) (a : Addr) (xs : List (NestedKey × Addr × Value)) : Prop :=
  H a = some (.ext (RawN w a xs)) ∧ xs.length ≤ sizeLine ∧ ∀ x ∈ xs, NkV H (.ref x.2.1) x.1 ∧ x.1.depth ≤ 8
theorem NAt.dict {P : Program} {w : World} {H : Hp} {h : Heap} {a : Addr} {xs : List (NestedKey × Addr × Value)} (n : NAt w H a xs) (ok : HOk P w H h) : (a == sysModules) = false ∧ h.DictOfH (nestedKind P w) a xs := by
  obtain ⟨e, _, hk⟩ := n
  obtain ⟨⟨hs, o, es, ep, h1, h2, h3, h4, h5⟩, _⟩ := (show ObjOk P w H h a (.ext (RawN w a xs)) from ok _ _ e)
  exact ⟨hs, o, es, ep, h1, h2, h3, h4, fun x hx => ⟨NkV.is ok (hk x hx).1 rfl, (hk x hx).2⟩, h5⟩
theorem KN.keys {K : PySem.W.Frag} {F H : Hp} (e : Ex F H) : ∀ {kds : List (NestedKey × D)} {xs : List (NestedKey × Addr × Value)}, KN K F kds xs → ∀ x ∈ xs, NkV H (.ref x.2.1) x.1 ∧ x.1.depth ≤ 8
  | _, _, .nil, x, hx => by cases hx
  | _, _, .cons (a := p) (b := q) h t, x, hx => by
    rcases List.mem_cons.mp hx with rfl | hx
    · obtain ⟨z1, ⟨d, z2, zd, z3⟩, _⟩ := h
      rw [← z1]
      exact ⟨Rep.nk e z3 z2, zd⟩
    · exact KN.keys e t x hx
theorem KN.val {K : PySem.W.Frag} {F : Hp} (k : NestedKey) : ∀ {kds : List (NestedKey × D)} {xs : List (NestedKey × Addr × Value)}, KN K F kds xs → (valD kds k = none ∧ atKey xs k = none) ∨ ∃ d p v, valD kds k = some d ∧ atKey xs k = some p ∧ RelV v p.2 ∧ Rep K F v d
  | _, _, .nil => .inl ⟨rfl, rfl⟩
  | _, _, .cons (a := p) (b := q) h t => by
    obtain ⟨z1, _, v, z4, z5⟩ := h
    by_cases e : p.1 = k
    · refine .inr ⟨p.2, q.2, v, ?_, ?_, z4, z5⟩
      · simp [valD, List.find?_cons, e]
      · simp [atKey, List.find?_cons, ← z1, e]
    · have e2 : ¬ q.1 = k := fun z => e (z1.trans z)
      rcases KN.val k t with ⟨h1, h2⟩ | ⟨d, p', v', h1, h2, h3, h4⟩
      · refine .inl ⟨?_, ?_⟩
        · simpa [valD, List.find?_cons, e] using h1
        · simpa [atKey, List.find?_cons, e2] using h2
      · refine .inr ⟨d, p', v', ?_, ?_, h3, h4⟩
        · simpa [valD, List.find?_cons, e] using h1
        · simpa [atKey, List.find?_cons, e2] using h2
theorem KN.len {K : PySem.W.Frag} {F : Hp} {kds : List (NestedKey × D)} {xs : List (NestedKey × Addr × Value)} (h : KN K F kds xs) : kds.length = xs.length := Paired.length h
theorem any_val {kds : List (NestedKey × D)} {k : NestedKey} : (kds.any fun kv => decide (kv.1 = k)) = (valD kds k).isSome := by
  unfold valD
  induction kds with
  | nil => rfl
  | cons a l ih =>
    by_cases e : a.1 = k
    · simp [List.find?_cons, e]
    · simp only [List.any_cons, e, decide_false, Bool.false_or, List.find?_cons]
      exact ih
theorem KN.put {K : PySem.W.Frag} {F : Hp} {kds : List (NestedKey × D)} {xs : List (NestedKey × Addr × Value)} (h : KN K F kds xs) {k : NestedKey} {b : Addr} {r : Value} {dk d : D} {v : V} (hk : dk.nkey = some k) (hd : k.depth ≤ 8) (rk : Rep K F (.ref b) dk) (rv : RelV v r) (rd : Rep K F v d) :
    KN K F (putD kds k d) (storedH xs k b r) := by
  have ev := KN.val k h
  unfold putD storedH
  rw [any_val]
  rcases ev with ⟨h1, h2⟩ | ⟨d', p', v', h1, h2, _⟩
  · rw [h1, h2]
    rw [if_neg (by simp), if_neg (by simp)]
    exact Paired.snoc h ⟨rfl, ⟨dk, hk, hd, rk⟩, v, rv, rd⟩
  · rw [h1, h2, if_pos (show (some d').isSome = true from rfl), if_pos (show (some p').isSome = true from rfl)]
    clear h1 h2
    induction h with
    | nil => exact .nil
    | @cons p q ps qs hq t ih =>
      refine .cons ?_ ih
      obtain ⟨z1, z2, v2, z4, z5⟩ := hq
      unfold putAt
      dsimp only
      by_cases e : p.1 = k
      · rw [if_pos e, if_pos (by rw [← z1]; exact e)]
        exact ⟨z1, z2, v, rv, rd⟩
      · rw [if_neg e, if_neg (by rw [← z1]; exact e)]
        exact ⟨z1, z2, v2, z4, z5⟩
theorem put_len {kds : List (NestedKey × D)} {k : NestedKey} {d : D} : (putD kds k d).length ≤ kds.length + 1 := by
  unfold putD
  split <;> simp
section
variable {X : Cx} {pos : Pos}
def dNewN (w : World) : DTE := fun S G Q => ∀ p, G p = none → Q (.rf p) (gput G p (.dN w []))
theorem pe_newN : PE X (.Dict [] [] pos) (fun _ H Q => ∀ p, H p = none → Q (.ref p) (upd H p (.ext (RawN X.w p [])))) := ⟨fun pins s σ H Q I h =>
  wpAny_Dict_empty ⟨.ref s.heap.objs.size, _, I.laid (a := s.heap.objs.size) (o := .ext (RawN X.w s.heap.objs.size [])) (t' := s.toks) (fun _ _ q => Heap.get?_push_of_some _ q) (Nat.le_refl _)
    ⟨⟨beq_eq_false_iff_ne.mpr (Ne.symm (Nat.ne_of_lt I.big)), _, #[], 0, Heap.get?_push_size _ rfl, ⟨rfl, rfl, rfl⟩, rfl, rfl, List.nodup_nil⟩, ⟨_, Heap.get?_push_size _ rfl⟩,
      fun h1 h2 ⟨a, o, es, ep, b, c⟩ k => ⟨a, o, es, ep, k o b, c⟩⟩, rfl, h _ (I.hok.fresh (Nat.le_refl _))⟩⟩
theorem de_newN : DE X (.Dict [] [] pos) (dNewN X.w) := by
  refine ⟨_, pe_newN, fun F H σ S G o Q' h Q k => ?_⟩
  intro p hp
  exact k _ _ _ _ _ (Go.alloc hp) (o.g.alloc (o := .dN X.w []) hp rfl ⟨[], upd_same, Nat.zero_le _, .nil⟩) (.rf p) (h p (o.g.free hp))
def rInNV (w : World) (neg : Bool) : R2 := fun x y H Q => ∃ a b xs k, y = .ref a ∧ x = .ref b ∧ NAt w H a xs ∧ NkV H (.ref b) k ∧ k.depth ≤ 8 ∧ Q (.bl (if neg then !(atKey xs k).isSome else (atKey xs k).isSome)) H
theorem op_inN (hu : X.A.units + 100 < cLine) : OpR X (compareOp .In) (rInNV X.w false) := by
  intro pins s σ H x y v u Q I rx ry h
  obtain ⟨a, b, xs, k, rfl, rfl, n, nk, hd, q⟩ := h
  obtain rfl : u = Value.ref a := ry
  obtain rfl : v = Value.ref b := rx
  obtain ⟨hs, dd⟩ := n.dict I.hok
  exact wpAny_in_heap (knd := nestedKind X.prog X.w) (show _ + 8 < cLine by simp [Around.in1] ; omega) ⟨NkV.is I.hok nk rfl, hd⟩ hs dd ⟨.bl _, H, I.tok _, rfl, q⟩
theorem op_notInN (hu : X.A.units + 100 < cLine) : OpR X (compareOp .NotIn) (rInNV X.w true) := by
  intro pins s σ H x y v u Q I rx ry h
  obtain ⟨a, b, xs, k, rfl, rfl, n, nk, hd, q⟩ := h
  obtain rfl : u = Value.ref a := ry
  obtain rfl : v = Value.ref b := rx
  obtain ⟨hs, dd⟩ := n.dict I.hok
  exact wpAny_notIn_heap (knd := nestedKind X.prog X.w) (show _ + 8 < cLine by simp [Around.in1] ; omega) ⟨NkV.is I.hok nk rfl, hd⟩ hs dd ⟨.bl _, H, I.tok _, rfl, q⟩
def rInN (w : World) (neg : Bool) : DR2 := fun x y G Q => match y with
  | .rf a => (match G a with
    | some (.dN w' kds) => (match x with
      | .tup ds => (match D.nkeys ds with
        | some ks => w' = w ∧ (NestedKey.tup ks).depth ≤ 8 ∧ Q (.bl (if neg then !(valD kds (.tup ks)).isSome else (valD kds (.tup ks)).isSome)) G
        | none => False)
      | _ => False)
    | _ => False)
  | _ => False
theorem inN_core {neg : Bool} {F H : Hp} {G : GH} {x y : V} {dx dy : D} (g : Gok X.K F H G) (rx : Rep X.K F x dx) (ry : Rep X.K F y dy) {Q' : DQ} (h : rInN X.w neg dx dy G Q') {Q : VK} (k : KpE X.K F H G Q' Q) : rInNV X.w neg x y H Q := by
  unfold rInN at h
  split at h
  · rename_i a
    cases ry
    split at h
    · rename_i w' kds eg
      split at h
      · rename_i ds
        split at h
        · rename_i ks ek
          obtain ⟨rfl, hd, h⟩ := h
          obtain ⟨fa, xs, e, hz, kn⟩ := g.at_ a _ eg
          have nk := Rep.nk g.ex rx (k := .tup ks) (by simp [D.nkey, ek])
          cases rx with
          | tup q r =>
            refine ⟨a, _, xs, .tup ks, rfl, rfl, ⟨e, by rw [← kn.len]; exact hz, kn.keys g.ex⟩, nk, hd, ?_⟩
            have ev : (atKey xs (.tup ks)).isSome = (valD kds (.tup ks)).isSome := by
              rcases kn.val (.tup ks) with ⟨h1, h2⟩ | ⟨d, p, v, h1, h2, _⟩
              · rw [h1, h2]; rfl
              · rw [h1, h2]; rfl
            rw [ev]
            exact k F H _ _ G Go.refl g (.bl _) h
        · exact h.elim
      · exact h.elim
    · exact h.elim
  · exact h.elim
theorem od_inN (hu : X.A.units + 100 < cLine) : OpD X (compareOp .In) (rInN X.w false) := ⟨_, op_inN hu, fun F H G x y dx dy g rx ry Q' h Q k => inN_core g rx ry h k⟩
theorem od_notInN (hu : X.A.units + 100 < cLine) : OpD X (compareOp .NotIn) (rInN X.w true) := ⟨_, op_notInN hu, fun F H G x y dx dy g rx ry Q' h Q k => inN_core g rx ry h k⟩
def rItemNV (w : World) : R2 := fun x y H Q => ∃ a b xs k p, x = .ref a ∧ y = .ref b ∧ NAt w H a xs ∧ NkV H (.ref b) k ∧ k.depth ≤ 8 ∧ atKey xs k = some p ∧ ∃ v, RelV v p.2 ∧ Q v H
theorem ix_N (hu : X.A.units + 100 < cLine) : IxR X (rItemNV X.w) := by
  intro value slice pins s σ H x y v u Q I rx ry h hs
  obtain ⟨a, b, xs, k, p, rfl, rfl, n, nk, hd, hp, z, rz, q⟩ := h
  obtain rfl : v = Value.ref a := rx
  obtain rfl : u = Value.ref b := ry
  obtain ⟨hs', dd⟩ := n.dict I.hok
  exact tail_any dd.typeIs PySem.F.slot_dict_getitem.lookup (wpAny_getItem_heap (knd := nestedKind X.prog X.w) (show _ + 8 < cLine by simp [Around.in1] ; omega) ⟨NkV.is I.hok nk rfl, hd⟩ dd hp ⟨z, H, I.tok _, rz, q⟩) hs
def rItemN (w : World) : DR2 := fun x y G Q => match x with
  | .rf a => (match G a with
    | some (.dN w' kds) => (match y with
      | .tup ds => (match D.nkeys ds with
        | some ks => w' = w ∧ (NestedKey.tup ks).depth ≤ 8 ∧ (match valD kds (.tup ks) with
          | some d => Q d G
          | none => False)
        | none => False)
      | _ => False)
    | _ => False)
  | _ => False
theorem de_ixN {a b : Expr} {ta tb : DTE} (hu : X.A.units + 100 < cLine) (ha : DE X a ta) (hb : DE X b tb) (hs : PlainIx b := by intro _ _; rfl) : DE X (.Subscript a b pos) (dOp (rItemN X.w) ta tb) := by
  obtain ⟨t1, p1, r1⟩ := ha.ex
  obtain ⟨t2, p2, r2⟩ := hb.ex
  refine ⟨_, pe_ix (ix_N hu) p1 p2 hs, dop_of (a := a) (b := b) ?_ r1 r2⟩
  intro F H G x y dx dy g rx ry Q' h Q k
  unfold rItemN at h
  split at h
  · rename_i a'
    cases rx
    split at h
    · rename_i w' kds eg
      split at h
      · rename_i ds
        split at h
        · rename_i ks ek
          obtain ⟨rfl, hd, h⟩ := h
          split at h
          · rename_i d ed
            obtain ⟨fa, xs, e, hz, kn⟩ := g.at_ a' _ eg
            have nk := Rep.nk g.ex ry (k := .tup ks) (by simp [D.nkey, ek])
            cases ry with
            | tup q r =>
              rcases kn.val (.tup ks) with ⟨h1, h2⟩ | ⟨d', p, v, h1, h2, h3, h4⟩
              · rw [ed] at h1; cases h1
              · rw [ed] at h1
                cases h1
                exact ⟨a', _, xs, .tup ks, p, rfl, rfl, ⟨e, by rw [← kn.len]; exact hz, kn.keys g.ex⟩, nk, hd, h2, v, h3, k F H _ _ G Go.refl g h4 h⟩
          · exact h.elim
        · exact h.elim
      · exact h.elim
    · exact h.elim
  · exact h.elim
def rSetNV (w : World) : TSet := fun o i v H Q => ∃ a b xs k, o = .ref a ∧ i = .ref b ∧ NAt w H a xs ∧ NkV H (.ref b) k ∧ k.depth ≤ 8 ∧ ∀ r, RelV v r → Q (upd H a (.ext (RawN w a (storedH xs k b r))))
theorem set_N (hu : X.A.units + 100 < cLine) : PSet X (rSetNV X.w) := by
  intro pins s σ H o i v ov iv u Q I ro ri rv h
  obtain ⟨a, b, xs, k, rfl, rfl, n, nk, hd, q⟩ := h
  obtain rfl : ov = Value.ref a := ro
  obtain rfl : iv = Value.ref b := ri
  obtain ⟨hs, dd⟩ := n.dict I.hok
  refine wpAny_setItem_heap (knd := nestedKind X.prog X.w) (hsz := n.2.1) (show _ + 8 < cLine by simp [Around.in1] ; omega) ⟨NkV.is I.hok nk rfl, hd⟩ dd fun h' dd' sb => ⟨_, ?_, q u rv⟩
  obtain ⟨o', es, ep, h1, h2, h3, h4, _, h5⟩ := dd'
  refine d_write I (by rw [n.1]; exact True.intro) sb ⟨o', h1⟩ ⟨⟨hs, o', es, ep, h1, h2, h3, h4, h5⟩, ⟨o', h1⟩, fun g1 g2 ⟨a1, o1, es1, ep1, b1, c1⟩ kk => ⟨a1, o1, es1, ep1, kk o1 b1, c1⟩⟩
def dSetSubN (w : World) (to ti : DTE) : DTG := fun v S G Q => to S G fun x G1 => ti S G1 fun i G2 => match x with
  | .rf a => (match G2 a with
    | some (.dN w' kds) => (match i with
      | .tup ds => (match D.nkeys ds with
        | some ks => w' = w ∧ (NestedKey.tup ks).depth ≤ 8 ∧ kds.length < sizeLine ∧ Q S (gput G2 a (.dN w (putD kds (.tup ks) v)))
        | none => False)
      | _ => False)
    | _ => False)
  | _ => False
theorem dg_subN {o i : Expr} {to ti : DTE} (hu : X.A.units + 100 < cLine) (ho : DE X o to) (hi : DE X i ti)
    (ha : ∀ v, assign (.Subscript o i pos) X.env v = (do let ov ← holding [v] (eval o X.env); let iv ← holding [v, ov] (eval i X.env); standAt pos; holding [v, ov, iv] (setItem ov iv v); release [v, ov, iv] []) := by intro _; rfl) : DG X (.Subscript o i pos) (dSetSubN X.w to ti) := by
  obtain ⟨t1, p1, r1⟩ := ho.ex
  obtain ⟨t2, p2, r2⟩ := hi.ex
  refine ⟨_, pg_sub p1 p2 (set_N hu) ha, fun F H σ S G v d o' r Q' h Q k => ?_⟩
  refine r1 F H σ S G o' _ h _ fun F1 H1 x dx G1 e1 g1 q1 h1 => ?_
  refine r2 F1 H1 σ S G1 (o'.go e1 g1) _ h1 _ fun F2 H2 y dy G2 e2 g2 q2 h2 => ?_
  have rv := (r.mono e1.ex).mono e2.ex
  dsimp only at h2
  split at h2
  · rename_i a
    cases q1
    split at h2
    · rename_i w' kds eg
      split at h2
      · rename_i ds
        split at h2
        · rename_i ks ek
          obtain ⟨rfl, hd, hl, h2⟩ := h2
          obtain ⟨fa, xs, e, hz, kn⟩ := g2.at_ a _ eg
          have hk : (D.tup ds).nkey = some (.tup ks) := by simp [D.nkey, ek]
          have nk := Rep.nk g2.ex q2 hk
          cases q2 with
          | tup q rr =>
            refine ⟨a, _, xs, .tup ks, rfl, rfl, ⟨e, by rw [← kn.len]; exact hz, kn.keys g2.ex⟩, nk, hd, fun r' hr' => ?_⟩
            have kn2 := kn.put hk hd (.tup q rr) hr' rv
            have g3 := g2.put (u := .ext (RawN X.w a (storedH xs (.tup ks) _ r'))) (o := .dN X.w (putD kds (.tup ks) d)) eg rfl rfl ⟨_, upd_same, Nat.le_trans put_len hl, kn2⟩
            exact k F2 _ σ S _ ((e1.trans e2).trans (Go.put eg)) ⟨g3, (o'.s.mono e1.ex).mono e2.ex⟩ h2
        · exact h2.elim
      · exact h2.elim
    · exact h2.elim
  · exact h2.elim
end
end DL
end
section
set_option Elab.async false
set_option linter.all false
set_option maxRecDepth 100000
set_option maxHeartbeats 4000000
namespace DL
open PySem PySem.Spec PyProof.Rows L2
section
variable {X : Cx} {pos : Pos}
open PySem.Builtin in
theorem len_fn {prog : Program} {w : World} {A : Around} {E : Value → Shared → Prop} {s : Shared} {K : PySem.W.Frag} {x C f : Addr} {ox : Obj} {od : Option Obj} {Q : Value → Shared → Prop} (kin : K.In s.heap) (I : PySem.W.InstAt s.heap x ox C od)
    (hs : PySem.W.findIn K (.ref C) "__len__" = some (some (.ref f))) (hf : PySem.W.isFn K (.ref f) = true)
    (h : wpAny (model prog w) A.in1 (call (.ref f) [.ref x]) (fun r s' => ∃ n u, r = .int n u ∧ 0 ≤ n ∧ n < 2 ^ 63 ∧ Q (.int n s'.toks) { s' with toks := s'.toks + 1 }) E s) : wpAny (model prog w) A (call (.builtin "len") [.ref x]) Q E s := by
  refine Calls.call_function_entry kind_len plain_len entry_len (args_len1 _) ?_
  unfold Builtin.«len»
  refine wpAny_bind (m := oneArg "len" _) (wpAny_pure ?_)
  refine wpAny_bind (m := callSpecial? (.ref x) (Str.ofString "__len__")) (PySem.W.special_fn kin I hs (beq_iff_eq.mp hf) (wpAny_mono h (fun r s' hr => ?_) fun _ _ y => y))
  obtain ⟨n, u, rfl, h0, h1, hq⟩ := hr
  refine wpAny_bind (wpAny_holding (wpAny_pure ?_))
  refine wpAny_bind (wpAny_letGo ?_)
  show wpAny _ _ (if n < 0 then _ else _) _ _ _
  rw [if_neg (by omega)]
  show wpAny _ _ (if n ≥ 2 ^ 63 then _ else _) _ _ _
  rw [if_neg (by omega)]
  exact wpAny_bind (wpAny_mkInt (wpAny_pure ⟨_, rfl, hq⟩))
theorem goes_i1 {CX : CXT} {k : Nat} {f : Addr} {fd : FuncData} {ps : List Str} {sp : Sp} {E : XK} {pins : List (Addr × Obj)} {σ : L2.St} {H : Hp} {s : Shared} {Q : VK} {us ws : List Value} {zs : List V} (F : FnG X.prog X.w X.K X.mg X.base CX k f fd ps sp) (hA : X.A.guards = some []) (hr : Room (k + 1) X.A)
    (bd : ∀ s : Shared, X.K.In s.heap → ws.length = ps.length → BindsTo s fd ⟨us, []⟩ (ps.zip ws)) (hx : Passes CX X E)
    (I : Inv X pins σ H s) (r : Vals zs ws) (h : sp zs H Q E) : wpAny (model X.prog X.w) X.A.in1 (call (.ref f) us) (EP X pins σ Q) X.xe s := by
  have many : ws.length = ps.length := r.length ▸ F.many zs H Q E h
  refine wpAny_call (codeAny_mono (F.goes X.A.in1 X.stack s H ⟨us, []⟩ ws zs Q E (by first | exact hA | simpa [Around.in1] using hA) hr.in1 I.env0.in1 (bd s I.kIn many) r h) ?_)
  intro res s' z
  match res, z with
  | .error er, z => exact hx pins σ H s er s' I z
  | .ok (.ret u), z => exact I.after z
  | .ok .next, z => exact z.elim
  | .ok .brk, z => exact z.elim
  | .ok .cont, z => exact z.elim
def rLenO (C : Addr) (sp : SpD) (ds : List D) (G : GH) (Q : DQ) : Prop := match ds with
  | [x] => (match x.cur G with
    | .obj C1 _ => C1 = C ∧ sp [x] G fun d G' => match d with
      | .int n => 0 ≤ n ∧ n < 2 ^ 63 ∧ Q (.int n) G'
      | _ => False
    | _ => False)
  | _ => False
def vLenO (X : Cx) (C : Addr) (sp : SpD) : List V → Hp → VK → Prop := fun xs H Q => ∃ a dx fs, xs = [.ref a] ∧ H a = some (.ins C dx fs) ∧ SpOf X.K sp [.ref a] H (fun v H' => ∃ n, v = .int n ∧ 0 ≤ n ∧ n < 2 ^ 63 ∧ Q v H') (fun _ _ _ => False)
theorem cr_lenO {C : Addr} {k : Nat} {ps : List Str} {sp : SpD} (c : CalM X.prog X.w X.K X.mg X.base C "__len__" k ps sp) (hA : X.A.guards = some []) (hr : Room (k + 1) X.A) : CallR X (.builtin "len") (vLenO X C sp) := by
  obtain ⟨f, fd, M, Fn, hb⟩ := c.ex
  intro pins s σ H xs us Q I r hq
  obtain ⟨a, dx, fs, rfl, ha, q⟩ := hq
  rw [Vals.ref1 r]
  obtain ⟨mA, J, _⟩ := ins_get I.hok ha
  obtain ⟨od, J, _⟩ := J.look
  refine len_fn I.kIn J M.at_ M.fn ?_
  have r2 : Vals [V.ref a] [Value.ref a] := .cons rfl .nil
  refine wpAny_mono (goes_i1 (us := [.ref a]) Fn hA hr (fun s2 i l => by simpa using hb s2 [.ref a] i (by simpa using l)) pass0 I r2 q) (fun w s' z => ?_) fun _ _ z => z
  obtain ⟨v', H', I', rv, n, rfl, h0, h1, q'⟩ := z
  obtain ⟨t, rfl⟩ := rv
  exact ⟨n, t, rfl, h0, h1, .int n, H', I'.tok _, ⟨_, rfl⟩, q'⟩
theorem cd_lenO {C : Addr} {k : Nat} {ps : List Str} {sp : SpD} (c : CalM X.prog X.w X.K X.mg X.base C "__len__" k ps sp) (hA : X.A.guards = some []) (hr : Room (k + 1) X.A) : CallD X (.builtin "len") (rLenO C sp) := by
  refine ⟨_, cr_lenO c hA hr, fun F H G vs ds g rs Q' h Q k => ?_⟩
  unfold rLenO at h
  split at h
  · rename_i x
    split at h
    · rename_i C1 fs e1
      obtain ⟨rfl, h⟩ := h
      cases rs with
      | cons r1 rt =>
        cases rt
        obtain ⟨a, d1, k1, rfl, ha, _⟩ := cur_obj g r1 e1
        refine ⟨a, d1, k1, rfl, ha, F, G, [x], _, g, .cons r1 .nil, h, ?_⟩
        intro F' H' v d G' e1 g1 r1 h1
        split at h1
        · cases r1
          exact ⟨_, rfl, h1.1, h1.2.1, k F' H' _ _ G' e1 g1 (.int _) h1.2.2⟩
        · exact h1.elim
    · exact h.elim
  · exact h.elim
end
end DL
end
section
set_option Elab.async false
set_option linter.all false
set_option maxRecDepth 100000
set_option maxHeartbeats 4000000
namespace DL
open PySem PySem.Spec PyProof.Rows L2
set_option maxRecDepth 8000 in
theorem ext_tup (l : Addr) (items : Array Value) (n : Nat) (b : Addr) (items2 : Array Value) (n2 : Nat) (dd : Option Addr) (sl : Array (Option Value)) (hs0 : ¬(!items.isEmpty && Builtin.List.listTooLong (items.size + items2.size)) = true) (hs1 : items.size ≤ sizeLine) (hs2 : items.size + items2.size ≤ sizeLine + 1 := by seq_fits) :
    Meets (Builtin.«list.extend» ⟨[.ref l, .ref b], []⟩) (fun _ R s => s.heap.get? l = some { cls := .type "list", dict := none, data := .seq items n, slots := #[] } ∧ s.heap.get? b = some { cls := .type "tuple", dict := dd, data := .seq items2 n2, slots := sl } ∧ R (.ok (.ret Value.none)) { s with heap := s.heap.update l (Obj.mapSeq fun x => x ++ items2), toks := s.toks }) :=
  .of_wp fun prog w A R s h => by
    obtain ⟨hp, g, d, tk, os⟩ := s; obtain ⟨hl, hb, h⟩ := h; have f1 := AutoSeq1.idx_int; have f2 := AutoSeq1.sub_tuple_tuple; have f3 := AutoSeq1.sub_list_list; have f4 := AutoSeq1.sub_tuple_list; have f5 := AutoSeq1.sub_list_tuple;
    have hz' : (items ++ items2).size ≤ sizeLine + 1 := by rw [Array.size_append]; exact hs2
    wp_walk using (wpAny_updateSeq hl rfl (hz := hs1) (_hz' := hz')), AutoSeq1.wpAny_loadPart' hl, AutoSeq1.wpAny_loadPart' hb; exact ⟨_, rfl, h⟩
section
variable {X : Cx}
def vExtT : V → List V → Hp → VK → Prop := fun x vs H Q => ∃ l b xs zs, x = .ref l ∧ vs = [.ref b] ∧ H l = some (.lst xs) ∧ H b = some (.tup zs) ∧ xs.length + zs.length ≤ sizeLine ∧ Q .non (upd H l (.lst (xs ++ zs)))
theorem mt_extT : MtM X "list.extend" vExtT := by
  intro pins s σ H x vs v us Q I rx rv h
  obtain ⟨l, b, xs, zs, rfl, rfl, hH, hB, hz, q⟩ := h
  cases rx
  obtain ⟨u, rfl, ru⟩ := rv.one
  cases ru
  obtain ⟨z, its, n, r, hl, e⟩ := I.lstM hH
  obtain ⟨z2, its2, r2, o2, e2, hc, n2, hd⟩ := (show ObjOk X.prog X.w H s.heap b (.tup zs) from I.hok _ _ hB)
  have hl2 := r2.length
  obtain ⟨cls, dd, dt, sl⟩ := o2
  simp only at hc hd
  subst hc hd
  have hsz : its.toArray.size + its2.toArray.size ≤ sizeLine := by rw [List.size_toArray, List.size_toArray]; omega
  have hlong : ¬ (!its.toArray.isEmpty && Builtin.List.listTooLong (its.toArray.size + its2.toArray.size)) = true := by
    rw [notLongL hsz, Bool.and_false]
    exact Bool.false_ne_true
  refine call_meets F.slot_list_extend ⟨_, e, rfl⟩ F.entry_list_extend (F.args_list_extend_2 _ _)
    (ext_tup l its.toArray n b its2.toArray n2 dd sl hlong (by rw [List.size_toArray]; omega) (by omega)) ⟨e, e2, ?_⟩
  refine ⟨.non, _, I.lset (its' := its ++ its2) hH e (by simp) (r.append r2) ?_, rfl, q⟩
  rw [List.length_append]
  omega
/-- l.extend(t), t a tuple -/
def rExtT (x : D) (ds : List D) (G : GH) (Q : DQ) : Prop := match x, ds with
  | .rf a, [.tup ys] => (match G a with
    | some (.lst xs) => xs.length + ys.length ≤ sizeLine ∧ Q .non (gput G a (.lst (xs ++ ys)))
    | _ => False)
  | _, _ => False
theorem md_extT : MtD X "list.extend" rExtT := by
  refine ⟨_, mt_extT, fun F H G x dx vs ds g rx rs Q' h Q k => ?_⟩
  unfold rExtT at h
  split at h
  · rename_i a ys
    split at h
    · rename_i xs eg
      cases rx
      cases rs with
      | cons r b =>
        cases b
        cases r with
        | tup hb rz =>
          obtain ⟨fa, ws, ha, rw'⟩ := g.at_ a _ eg
          refine ⟨a, _, ws, _, rfl, rfl, ha, g.ex _ _ hb, by rw [rw'.length, rz.length]; exact h.1, ?_⟩
          exact k F _ _ _ _ (Go.put eg) (g.put (o := .lst (xs ++ ys)) eg rfl rfl ⟨_, upd_same, rw'.append rz⟩) .non h.2
    · exact h.elim
  · exact h.elim
end
end DL
end
section
set_option Elab.async false
set_option linter.all false
set_option maxRecDepth 100000
set_option maxHeartbeats 4000000
namespace DL
open PySem PySem.Spec PyProof.Rows L2
section
variable {X : Cx}
def vNil (neg : Bool) : R2 := fun x y H Q => ∃ a b xs, x = .ref a ∧ y = .ref b ∧ H a = some (.lst xs) ∧ H b = some (.lst []) ∧ Q (.bl (if neg then !xs.isEmpty else xs.isEmpty)) H
theorem nil_at {pins : List (Addr × Obj)} {σ : L2.St} {H : Hp} {s : Shared} {a : Addr} {xs : List V} (I : Inv X pins σ H s) (h : H a = some (.lst xs)) : ∃ its : List Value, its.length = xs.length ∧ s.heap.IsList a its.toArray := by
  obtain ⟨_, its, n, r, hl, e⟩ := I.lstM h
  exact ⟨its, hl.symm, _, e, rfl, n, rfl⟩
theorem op_neNil (hu : X.A.units + 100 < cLine) : OpR X (compareOp .NotEq) (vNil true) := by
  intro pins s σ H x y v u Q I rx ry h
  obtain ⟨a, b, xs, rfl, rfl, ha, hb, q⟩ := h
  cases rx
  cases ry
  obtain ⟨its, hl, la⟩ := nil_at I ha
  obtain ⟨jts, hj, lb⟩ := nil_at I hb
  show wpAny (model X.prog X.w) X.A (richCompare .NotEq (.ref a) (.ref b)) (EP X pins σ Q) X.xe s
  have hj0 : jts = [] := List.length_eq_zero_iff.mp hj
  subst hj0
  cases xs with
  | nil =>
    have hi0 : its = [] := List.length_eq_zero_iff.mp hl
    subst hi0
    exact PySem.SeqAt.RcNeAt.lists (e := fun _ => true) la lb rfl (by omega) (fun j h1 _ => absurd h1 (by simp)) X.prog X.w _ _ ⟨.bl false, H, I, rfl, q⟩
  | cons z zs =>
    exact PySem.SeqAt.RcNeAt.lists_lengths la lb (by simp only [List.length_cons] at hl; simp [hl]) (by omega) X.prog X.w _ _ ⟨.bl true, H, I, rfl, q⟩
def rNil (neg : Bool) : DR2 := fun x y G Q => match x.cur G, y.cur G with
  | .lst xs, .lst [] => Q (.bl (if neg then !xs.isEmpty else xs.isEmpty)) G
  | _, _ => False
theorem nil_core {neg : Bool} {F H : Hp} {G : GH} {x y : V} {dx dy : D} (g : Gok X.K F H G) (rx : Rep X.K F x dx) (ry : Rep X.K F y dy) {Q' : DQ} (h : rNil neg dx dy G Q') {Q : VK} (k : KpE X.K F H G Q' Q) : vNil neg x y H Q := by
  unfold rNil at h
  split at h
  · rename_i xs e1 e2
    obtain ⟨a, vs, rfl, ha, rs⟩ := cur_list g rx e1
    obtain ⟨b, ws, rfl, hb, rt⟩ := cur_list g ry e2
    cases rt
    refine ⟨a, b, vs, rfl, rfl, ha, hb, ?_⟩
    have e : vs.isEmpty = xs.isEmpty := by
      have := rs.length
      cases vs <;> cases xs <;> simp_all
    rw [e]
    exact k F H _ _ G Go.refl g (.bl _) h
  · exact h.elim
theorem od_neNil (hu : X.A.units + 100 < cLine) : OpD X (compareOp .NotEq) (rNil true) := ⟨_, op_neNil hu, fun F H G x y dx dy g rx ry Q' h Q k => nil_core g rx ry h k⟩
end
end DL
end
section
set_option Elab.async false
set_option linter.all false
set_option maxRecDepth 100000
set_option maxHeartbeats 4000000
namespace DL
open PySem PySem.Spec PyProof.Rows L2
end DL
end
section
set_option Elab.async false
set_option linter.all false
set_option maxRecDepth 100000
set_option maxHeartbeats 4000000
namespace DL
open PySem PySem.Spec PyProof.Rows L2 HT
end DL
end
section
set_option Elab.async false
set_option linter.all false
set_option maxRecDepth 100000
set_option maxHeartbeats 4000000
namespace DL
open PySem PySem.Spec PyProof.Rows L2
mutual
def D.pyR : D → PyData
  | .non => .none
  | .bl b => .bool b
  | .int i => .int i
  | .str x => .str x
  | .tup xs | .kup xs => .tuple (D.pysR xs)
  | .lst xs => .list (D.pysR xs)
  | .dK _ => .dict []
  | _ => .none
def D.pysR : List D → List PyData
  | [] => []
  | x :: xs => D.pyR x :: D.pysR xs
end
mutual
def D.plR : D → Bool
  | .non | .bl _ | .int _ | .str _ => true
  | .tup xs | .lst xs | .kup xs => D.plsR xs
  | .dK kds => kds.isEmpty
  | _ => false
def D.plsR : List D → Bool
  | [] => true
  | x :: xs => D.plR x && D.plsR xs
end
/-- the place of the modules is in the written part -/
def SysM (K : PySem.W.Frag) : Prop := ∃ o, K.lookup sysModules = some o
section
variable {X : Cx} {pins : List (Addr × Obj)} {σ : L2.St} {F H : Hp} {s : Shared}
theorem sysM_free (I : Inv X pins σ H s) (h : SysM X.K) : H sysModules = none := by
  obtain ⟨o, e⟩ := h
  exact (I.bs _ o (I.ok.mod.kin _ _ e)).2
mutual
theorem Rep.readsR (I : Inv X pins σ H s) (e : Ex F H) (hs : H sysModules = none) : ∀ (d : D) (v : V) (u : Value), Rep X.K F v d → d.plR = true → RelV v u → ∃ as, Reads s.heap u d.pyR as ∧ sysModules ∉ as
  | .non, _, _, h, _, r => by cases h; cases r; exact ⟨_, Reads.none, by simp⟩
  | .bl b, _, _, h, _, r => by cases h; cases r; exact ⟨_, Reads.bool b, by simp⟩
  | .int i, _, _, h, _, r => by cases h; obtain ⟨t, rfl⟩ := r; exact ⟨_, Reads.int i t, by simp⟩
  | .str x, _, _, h, _, r => by cases h; obtain ⟨t, rfl⟩ := r; exact ⟨_, Reads.str x t, by simp⟩
  | .tup xs, _, _, h, p, r => by
    cases h with
    | tup ha rs =>
      cases r
      obtain ⟨its, rv, ⟨o, ho, hc, n, hd⟩, _⟩ := I.tuple (.inl (.inl (e _ _ ha)))
      obtain ⟨as, hr, hn⟩ := Reps.readsR I e hs xs _ its rs p rv
      exact ⟨_, Reads.tuple ho hc hd hr, hn⟩
  | .kup xs, _, _, h, p, r => by
    cases h with
    | kup ha rs =>
      cases r
      obtain ⟨its, rv, ⟨o, ho, hc, n, hd⟩, _⟩ := I.tuple (e.sqt ha)
      obtain ⟨as, hr, hn⟩ := Reps.readsR I e hs xs _ its rs p rv
      exact ⟨_, Reads.tuple ho hc hd hr, hn⟩
  | .lst xs, _, _, h, p, r => by
    cases h with
    | lst ha rs =>
      cases r
      obtain ⟨its, rv, ⟨o, n, ho, hc, _, hd⟩, _⟩ := I.list (.inl (.inl (e _ _ ha)))
      obtain ⟨as, hr, hn⟩ := Reps.readsR I e hs xs _ its rs p rv
      refine ⟨_, Reads.list ho hc hd hr, ?_⟩
      rw [List.mem_cons, not_or]
      exact ⟨fun z => (by rw [← z] at ha; rw [e _ _ ha] at hs; cases hs), hn⟩
  | .dK kds, _, _, h, p, r => by
    cases h with
    | dK ha hk rs =>
      cases r
      have : kds = [] := List.isEmpty_iff.mp p
      subst this
      rename_i a kvs
      have : kvs = [] := by simpa using hk
      subst this
      obtain ⟨hz, hs0, vs, kv, hdo⟩ := I.hok a _ (e _ _ ha)
      cases kv
      have rd : Reads s.heap (.ref a) (.dict []) [a] := PyProof.V.reads_dictOf (enc := fun k : Key => match k with | .inl i => PyData.int i | .inr x => PyData.str x) (bs := []) (D := []) (fun k key h => by
        have r := relV_key (show keyIs k key = true from h)
        cases k with
        | inl i => obtain ⟨t, rfl⟩ := r; exact .int i t
        | inr x => obtain ⟨t, rfl⟩ := r; exact .str x t) hdo .nil
      refine ⟨_, rd, ?_⟩
      rw [List.mem_singleton]
      exact fun z => by rw [← z] at ha; rw [e _ _ ha] at hs; cases hs
  | .ty _, _, _, _, p, _ => by cases p
  | .dT _, _, _, _, p, _ => by cases p
  | .obj _ _, _, _, _, p, _ => by cases p
  | .rf _, _, _, _, p, _ => by cases p
  | .scr _, _, _, _, p, _ => by cases p
theorem Reps.readsR (I : Inv X pins σ H s) (e : Ex F H) (hs : H sysModules = none) : ∀ (ds : List D) (vs : List V) (us : List Value), Reps X.K F vs ds → D.plsR ds = true → Vals vs us → ∃ as, ReadsAll s.heap us (D.pysR ds) as ∧ sysModules ∉ as
  | [], _, _, h, _, r => by
    cases h
    cases r
    exact ⟨_, ReadsAll.nil, by simp⟩
  | d :: ds, _, _, h, p, r => by
    have p' : d.plR = true ∧ D.plsR ds = true := by simpa [D.plsR] using p
    cases h with
    | cons h1 h2 =>
      cases r with
      | cons r1 r2 =>
        obtain ⟨as, q1, n1⟩ := Rep.readsR I e hs d _ _ h1 p'.1 r1
        obtain ⟨bs, q2, n2⟩ := Reps.readsR I e hs ds _ _ h2 p'.2 r2
        refine ⟨_, ReadsAll.cons q1 q2, ?_⟩
        rw [List.mem_append, not_or]
        exact ⟨n1, n2⟩
end
end
section
variable {X : Cx} {pos : Pos}
def rReprG (ds : List D) (G : GH) (Q : DQ) : Prop := match ds with
  | [d] => d.plR = true ∧ d.pyR.showable = true ∧ d.pyR.depth ≤ 60 ∧ d.pyR.shown.length ≤ sizeLine ∧ Q (.str d.pyR.shown) G
  | _ => False
theorem cr_reprG (hu : X.A.units + 100 < cLine) (hA : X.A.guards = some []) (hm : SysM X.K) : CallR X (.builtin "repr") (fun vs H Q => ∃ F v d, vs = [v] ∧ Ex F H ∧ Rep X.K F v d ∧ d.plR = true ∧ d.pyR.showable = true ∧ d.pyR.depth ≤ 60 ∧ d.pyR.shown.length ≤ sizeLine ∧ Q (.str d.pyR.shown) H) := by
  intro pins s σ H vs us Q I r h
  obtain ⟨F, v, d, rfl, ex, hd, hp, hs, hde, hz, q⟩ := h
  cases r with
  | cons r rr =>
    cases rr
    obtain ⟨as, rd, hn⟩ := Rep.readsR I ex (sysM_free I hm) d _ _ hd hp r
    revert rd hs hde hz q
    generalize d.pyR = py
    intro hs hde hz q rd
    have gen : ∀ {a : Addr}, Reads s.heap (.ref a) py as → wpAny (model X.prog X.w) X.A (call (.builtin "repr") [.ref a]) (EP X pins σ Q) X.xe s := fun rd => by
      refine repr_of_reads' (h₀ := s.heap) rd hs (fun _ => hn) hA (by omega) (fun _ _ z => z) (fun h' u tk hk => ?_) hz
      exact ⟨.str _, H, I.kept (t' := tk) hk, ⟨_, rfl⟩, q⟩
    cases rd with
    | none => exact P.repr_of_none ⟨.str _, H, I.tok _, ⟨_, rfl⟩, q⟩
    | bool b => exact P.repr_of_bool ⟨.str _, H, I.tok _, ⟨_, rfl⟩, by cases b <;> exact q⟩
    | int i t => exact P.repr_of_int (of_decide_eq_true hs) ⟨.str _, H, I.tok _, ⟨_, rfl⟩, q⟩
    | str x t => exact P.repr_of_str ⟨.str _, H, I.tok _, ⟨_, rfl⟩, q⟩ hz
    | list h1 h2 h3 h4 => exact gen (.list h1 h2 h3 h4)
    | tuple h1 h2 h3 h4 => exact gen (.tuple h1 h2 h3 h4)
    | dict h1 h2 h3 h4 h5 => exact gen (.dict h1 h2 h3 h4 h5)
theorem cd_reprG (hu : X.A.units + 100 < cLine) (hA : X.A.guards = some []) (hm : SysM X.K) : CallD X (.builtin "repr") rReprG := by
  refine ⟨_, cr_reprG hu hA hm, fun F H G vs ds g rs Q' h Q k => ?_⟩
  unfold rReprG at h
  split at h
  · rename_i d
    cases rs with
    | cons r b =>
      cases b
      obtain ⟨h1, h2, h3, h4, h5⟩ := h
      exact ⟨F, _, d, rfl, g.ex, r, h1, h2, h3, h4, k F H _ _ G Go.refl g (.str _) h5⟩
  · exact h.elim
end
def sysB (K : PySem.W.Frag) : Bool := (K.lookup sysModules).isSome
theorem sysB_ok {K : PySem.W.Frag} (h : sysB K = true) : SysM K := Option.isSome_iff_exists.mp h
end DL
end
section
set_option Elab.async false
set_option linter.all false
set_option maxRecDepth 100000
set_option maxHeartbeats 4000000
namespace DL
open PySem PySem.Spec PyProof.Rows L2
end DL
end
section
set_option Elab.async false
set_option linter.all false
set_option maxRecDepth 100000
set_option maxHeartbeats 4000000
namespace DL
open PySem PySem.Spec PyProof.Rows L2
section
variable {X : Cx} {pos : Pos}
theorem Reps.repN {K : PySem.W.Frag} {F : Hp} {vs : List V} {ds : List D} (r : Reps K F vs ds) : ∀ n : Nat, Reps K F (List.replicate n vs).flatten (List.replicate n ds).flatten
  | 0 => .nil
  | n + 1 => by
    rw [List.replicate_succ, List.replicate_succ, List.flatten_cons, List.flatten_cons]
    exact r.append (Reps.repN r n)
end
end DL
end
section
set_option Elab.async false
set_option linter.all false
set_option maxRecDepth 100000
set_option maxHeartbeats 4000000
namespace DL
open PySem PySem.Spec PyProof.Rows L2 ClX
end DL
end
section
set_option Elab.async false
set_option linter.all false
set_option maxRecDepth 100000
set_option maxHeartbeats 4000000
namespace DL
open PySem PySem.Spec PyProof.Rows L2 ClX
end DL
end
section
set_option Elab.async false
set_option linter.all false
set_option maxRecDepth 100000
set_option maxHeartbeats 4000000
namespace DL
open PySem PySem.Spec PyProof.Rows L2
end DL
end
section
set_option Elab.async false
set_option linter.all false
set_option maxRecDepth 100000
set_option maxHeartbeats 4000000
namespace DL
open PySem PySem.Spec PyProof.Rows L2
end DL
end
section
set_option Elab.async false
set_option linter.all false
set_option maxRecDepth 100000
set_option maxHeartbeats 4000000
namespace DL
open PySem PySem.Spec PyProof.Rows L2
section
variable {X : Cx} {pos : Pos}
def rLenN (w : World) (ds : List D) (G : GH) (Q : DQ) : Prop := match ds with
  | [.rf a] => (match G a with
    | some (.dN w' kds) => w' = w ∧ Q (.int (kds.length : Nat)) G
    | _ => False)
  | _ => False
theorem cr_lenN : CallR X (.builtin "len") (fun vs H Q => ∃ a xs, vs = [.ref a] ∧ NAt X.w H a xs ∧ Q (.int (xs.length : Nat)) H) := by
  intro pins s σ H vs us Q I r h
  obtain ⟨a, xs, rfl, n, q⟩ := h
  rw [Vals.ref1 r]
  have hl := n.2.1
  obtain ⟨hs, dd⟩ := n.dict I.hok
  exact call_len_dictH (knd := nestedKind X.prog X.w) hs dd (by rw [sizeLine_eq] at hl; omega) ⟨.int _, H, I.tok _, ⟨_, rfl⟩, q⟩
theorem cd_lenN : CallD X (.builtin "len") (rLenN X.w) := by
  refine ⟨_, cr_lenN, fun F H G vs ds g rs Q' h Q k => ?_⟩
  unfold rLenN at h
  split at h
  · rename_i a
    split at h
    · rename_i w' kds eg
      obtain ⟨rfl, h⟩ := h
      cases rs with
      | cons r b =>
        cases b
        cases r
        obtain ⟨fa, xs, e, hz, kn⟩ := g.at_ a _ eg
        refine ⟨a, xs, rfl, ⟨e, by rw [← kn.len]; exact hz, kn.keys g.ex⟩, ?_⟩
        rw [← kn.len]
        exact k F H _ _ G Go.refl g (.int _) h
    · exact h.elim
  · exact h.elim
def rMulL : DR2 := fun x y G Q => match x, y with
  | .lst xs, .int n => 0 ≤ n ∧ n < 1000 ∧ xs.length ≤ 1000 ∧ Q (.lst (List.replicate n.toNat xs).flatten) G
  | _, _ => False
theorem od_mulL : OpD X (binaryOp .Mult) rMulL := by
  refine ⟨_, op_rep, fun F H G x y dx dy g rx ry Q' h Q k => ?_⟩
  unfold rMulL at h
  split at h
  · rename_i xs n
    cases rx with
    | lst ha rs =>
      rename_i a vs
      cases ry
      obtain ⟨h1, h2, h3, h5⟩ := h
      have hl := rs.length
      have hm : vs.length * n.toNat ≤ 1000 * 1000 := Nat.mul_le_mul (by omega) (by omega)
      refine ⟨_, _, vs, rfl, rfl, g.ex _ _ ha, by omega, by omega, by rw [sizeLine_eq]; omega, fun p hp => ?_⟩
      have gr := Gr.new (u := .lst (List.replicate n.toNat vs).flatten) g.ex hp
      exact k _ _ _ _ G gr.go (g.grow gr) (.lst upd_same ((rs.mono gr.ff).repN _)) h5
  · exact h.elim
end
end DL
end
section
set_option Elab.async false
set_option linter.all false
set_option maxRecDepth 100000
set_option maxHeartbeats 4000000
namespace DL
open PySem PySem.Spec PyProof.Rows L2
end DL
end
section
set_option Elab.async false
set_option linter.all false
set_option maxRecDepth 100000
set_option maxHeartbeats 4000000
namespace DL
open PySem PySem.Spec PyProof.Rows L2
abbrev KB := Addr × List Key
end DL
end
section
set_option Elab.async false
set_option linter.all false
set_option maxRecDepth 100000
set_option maxHeartbeats 4000000
namespace DL
open PySem PySem.Spec PyProof.Rows L2
abbrev KTup (P : Program) (w : World) (h : Heap) (k : List Key) (b : Addr) : Prop := IsTupleKey (mixKind P w) h k b
abbrev kh (P : Program) (w : World) (k : List Key) : Int := tupleKeyHash (mixKind P w) k
section
variable {P : Program} {w : World} {A : Around} {E : Value → Shared → Prop} {s : Shared}
def krows (P : Program) (w : World) (L : List KB) : List (Int × Value) := L.map fun p => (kh P w p.2, Value.ref p.1)
theorem krows_len (L : List KB) : (krows P w L).length = L.length := by simp [krows]
/-- all but the keys themselves -/
structure KSet0 (P : Program) (w : World) (h : Heap) (a : Addr) (L : List KB) (es : Array (Int × Value)) (ep : Nat) (t : SetTable) : Prop where
  ob : ∃ o, h.get? a = some o ∧ o.ExactSet ∧ o.data = .set es ep t
  rows : es.toList = krows P w L
  tab : TabOk t (L.map fun p => kh P w p.2)
  nd : (L.map (·.2)).Nodup
  led : w.params.followText "set-order" = true ∨ t.led = true
  room : L.length * 5 < t.mask * 3
  few : L.length < 64
structure KSet (P : Program) (w : World) (h : Heap) (a : Addr) (L : List KB) (es : Array (Int × Value)) (ep : Nat) (t : SetTable) : Prop extends KSet0 P w h a L es ep t where
  tup : ∀ p ∈ L, KTup P w h p.2 p.1
variable {a : Addr} {L : List KB} {es : Array (Int × Value)} {ep : Nat} {t : SetTable}
theorem rows_size (h : es.toList = krows P w L) : es.size = L.length := by
  rw [← Array.length_toList, h, krows_len]
theorem fits_of (sz : t.place.size = es.size) (dm : t.dummies = #[]) (hl : es.size ≤ t.mask) : t.fits es.size = true := by
  unfold SetTable.fits SetTable.fill
  rw [dm, Bool.and_eq_true, beq_iff_eq, decide_eq_true_eq]
  show t.place.size = es.size ∧ t.place.size + 0 ≤ t.mask
  omega
theorem KSet0.psize (R : KSet0 P w s.heap a L es ep t) : t.place.size = L.length := by
  have := R.tab.sz
  rwa [List.length_map] at this
theorem KSet0.fits (R : KSet0 P w s.heap a L es ep t) : t.fits es.size = true := by
  have h1 := R.psize
  have h2 := rows_size R.rows
  have h3 := R.room
  exact fits_of (by omega) R.tab.dm (by omega)
/-- the places that a hash looks at, one behind the other -/
abbrev pr0 (t : SetTable) (hv : Int) : SetTable.Probe := runAt t.mask (SetTable.bits hv % (t.mask + 1)) (SetTable.bits hv)
theorem KSet.keep {h h' : Heap} (R : KSet P w h a L es ep t) (ha : ∀ o, h.get? a = some o → h'.get? a = some o) (ht : ∀ p ∈ L, KTup P w h' p.2 p.1) : KSet P w h' a L es ep t := by
  obtain ⟨⟨⟨o, ho, r⟩, r1, r2, r3, r4, r5, r6⟩, _⟩ := R
  exact ⟨⟨⟨o, ha o ho, r⟩, r1, r2, r3, r4, r5, r6⟩, ht⟩
end
end DL
end
section
set_option Elab.async false
set_option linter.all false
set_option maxRecDepth 100000
set_option maxHeartbeats 4000000
namespace DL
open PySem PySem.Spec PyProof.Rows L2
end DL
end
section
set_option Elab.async false
set_option linter.all false
set_option maxRecDepth 100000
set_option maxHeartbeats 4000000
namespace DL
open PySem PySem.Spec PyProof.Rows L2
end DL
end
section
set_option Elab.async false
set_option linter.all false
set_option maxRecDepth 100000
set_option maxHeartbeats 4000000
namespace DL
open PySem PySem.Spec PyProof.Rows L2
section
variable {X : Cx} {o e f : Expr} {td ty tx : TE} {apos cpos : Pos}
theorem isN_at {pins : List (Addr × Obj)} {σ : L2.St} {H : Hp} {s : Shared} {a : Addr} {xs : List (NestedKey × Addr × Value)} (I : Inv X pins σ H s) (e : H a = some (.ext (RawN X.w a xs))) :
    s.TypeIs (.ref a) "dict" ∧ (∀ b, Value.ref a = .ref b → ∃ ob, s.heap.get? b = some ob ∧ ob.dict = none) := by
  obtain ⟨⟨hs, o, es, ep, h1, h2, h3, _⟩, _⟩ := (show ObjOk X.prog X.w H s.heap a (.ext (RawN X.w a xs)) from I.hok _ _ e)
  have raw : s.heap.DictRaw a es ep := ⟨o, h1, h2, h3⟩
  exact ⟨raw.typeIs, fun b q => by cases q; exact ⟨o, h1, h2.2.1⟩⟩
end
end DL
end
section
set_option Elab.async false
set_option linter.all false
set_option maxRecDepth 100000
set_option maxHeartbeats 4000000
namespace DL
open PySem PySem.Spec PyProof.Rows L2
theorem putD_len {κ : Type} [DecidableEq κ] (kds : List (κ × D)) (k : κ) (d : D) : (putD kds k d).length ≤ kds.length + 1 := by
  unfold putD
  split <;> simp
end DL
end
section
set_option Elab.async false
set_option linter.all false
set_option maxRecDepth 100000
set_option maxHeartbeats 4000000
namespace DL
open PySem PySem.Spec PyProof.Rows L2
end DL
end
section
set_option Elab.async false
set_option linter.all false
set_option maxRecDepth 100000
set_option maxHeartbeats 4000000
namespace DL
open PySem PySem.Spec PyProof.Rows L2
theorem Vals.at {vs : List V} {us : List Value} (r : Vals vs us) : ∀ {i : Nat} {u : Value}, us[i]? = some u → ∃ v, vs[i]? = some v ∧ RelV v u := by
  induction r with
  | nil => intro i u h; simp at h
  | cons a _ ih =>
    intro i u h
    cases i with
    | zero => simp at h; subst h; exact ⟨_, rfl, a⟩
    | succ i => simpa using ih (by simpa using h)
end DL
end
section
set_option Elab.async false
set_option linter.all false
set_option maxRecDepth 100000
set_option maxHeartbeats 4000000
namespace DL
open PySem PySem.Spec PyProof.Rows L2
def tDispN (w : World) (tk tv : TE) : TE := fun σ H Q => ∀ p, H p = none → tPairs [(tk, tv)] σ (upd H p (.ext (RawN w p []))) fun ps H2 => H2 p = some (.ext (RawN w p [])) ∧ ∃ b k v, ps = [(.ref b, v)] ∧ NkV H2 (.ref b) k ∧ k.depth ≤ 8 ∧ ∀ r, RelV v r → Q (.ref p) (upd H2 p (.ext (RawN w p [(k, b, r)])))
section
variable {X : Cx} {pos : Pos}
theorem pe_dispN {ke ve : Expr} {tk tv : TE} (hu : X.A.units + 100 < cLine) (hk : PE X ke tk) (hv : PE X ve tv) : PE X (.Dict [some ke] [ve] pos) (tDispN X.w tk tv) := by
  refine ⟨fun pins s σ H Q I q => ?_⟩
  have hn := I.hok.fresh (Nat.le_refl s.heap.objs.size)
  have I1 := I.laid (a := s.heap.objs.size) (o := .ext (RawN X.w s.heap.objs.size [])) (h' := s.heap.push { cls := .type "dict", data := .dict #[] }) (t' := s.toks) (fun _ _ q => Heap.get?_push_of_some _ q) (Nat.le_refl _)
    ⟨⟨beq_eq_false_iff_ne.mpr (Ne.symm (Nat.ne_of_lt I.big)), _, #[], 0, Heap.get?_push_size _ rfl, ⟨rfl, rfl, rfl⟩, rfl, rfl, List.nodup_nil⟩, ⟨_, Heap.get?_push_size _ rfl⟩,
      fun h1 h2 ⟨a, o, es, ep, b, c⟩ k => ⟨a, o, es, ep, k o b, c⟩⟩
  have hp := pps_cons (pos := pos) hk hv (pps_nil (X := X))
  have hzip := zip_pairTrees [some ke] [ve] X.env pos rfl rfl
  have hlen := pairTrees_length [some ke] [ve] X.env pos rfl rfl
  rw [arm_eval_Dict, hzip, dictDisplay_pairs _ (by intro z; rw [z] at hlen; cases hlen) (by rw [hlen]; exact (by decide : 1 < 17))]
  refine wpAny_bind (wpAny_standAt (wpAny_bind (wpAny_subDictH (knd := nestedKind X.prog X.w) (Q := fun d s' => wpAny (model X.prog X.w) X.A (pure (Value.ref d)) _ X.xe s') (show X.A.units + 8 < cLine by omega) (by rw [hlen]; exact (by decide : 1 ≤ 15)) ?_)))
  refine thn (hp.run pins _ σ _ _ I1 (q _ hn)) fun ws s2 ⟨ps, H2, I2, rel, e, b, k, v, ep, nk, hd8, q2⟩ => ?_
  subst ep
  have nat : NAt X.w H2 s.heap.objs.size [] := ⟨e, Nat.zero_le _, fun x hx => by cases hx⟩
  obtain ⟨hs0, dd⟩ := nat.dict I2.hok
  cases rel with
  | cons r1 r2 =>
    cases r2
    rename_i w0 _
    obtain ⟨u1, u2⟩ := w0
    obtain ⟨ra, rv⟩ := r1
    cases (show u1 = Value.ref b from ra)
    refine ⟨[(k, b, u2)], ⟨rfl, rfl, ⟨NkV.is I2.hok nk rfl, hd8⟩, trivial⟩, dd, fun h' tk' dd' hs => wpAny_pure ⟨.ref s.heap.objs.size, _, ?_, rfl, q2 u2 rv⟩⟩
    obtain ⟨q', es, ep, hq, h2, h3, h4, _, h5⟩ := dd'
    exact d_write I2 (by rw [e]; exact True.intro) hs ⟨q', hq⟩ ⟨⟨hs0, q', es, ep, hq, h2, h3, h4, h5⟩, ⟨q', hq⟩, fun g1 g2 ⟨a1, o1, es1, ep1, b1, c1⟩ kk => ⟨a1, o1, es1, ep1, kk o1 b1, c1⟩⟩
def dDispN (w : World) (tk tv : DTE) : DTE := fun S G Q => tk S G fun k G1 => tv S G1 fun v G2 => match k with
  | .tup ds => (match D.nkeys ds with
    | some ks => (NestedKey.tup ks).depth ≤ 8 ∧ ∀ p, G2 p = none → Q (.rf p) (gput G2 p (.dN w [(.tup ks, v)]))
    | none => False)
  | _ => False
theorem de_dispN {ke ve : Expr} {tk tv : DTE} (hu : X.A.units + 100 < cLine) (hk : DE X ke tk) (hv : DE X ve tv) : DE X (.Dict [some ke] [ve] pos) (dDispN X.w tk tv) := by
  obtain ⟨t1, p1, r1⟩ := hk.ex
  obtain ⟨t2, p2, r2⟩ := hv.ex
  refine ⟨_, pe_dispN hu p1 p2, fun F H σ S G o Q' h Q kk => ?_⟩
  intro p hp
  have gp : G p = none := o.g.free hp
  have fp : F p = none := o.g.ex.nope hp
  have gr : Gr F H F (upd H p (.ext (RawN X.w p []))) := Gr.only o.g.ex hp
  refine r1 F _ σ S G ⟨o.g.grow gr, o.s⟩ _ h _ fun F1 H1 v1 d1 G1 e1 g1 q1 h1 => ?_
  refine r2 F1 H1 σ S G1 (Ok.go ⟨o.g.grow gr, o.s⟩ e1 g1) _ h1 _ fun F2 H2 v2 d2 G2 e2 g2 q2 h2 => ?_
  have e12 := e1.trans e2
  have fr := e12.fr p _ upd_same gp
  refine ⟨fr.1, ?_⟩
  dsimp only at h2
  split at h2
  · rename_i ds
    split at h2
    · rename_i ks ek
      obtain ⟨hd, h2⟩ := h2
      have hk : (D.tup ds).nkey = some (.tup ks) := by simp [D.nkey, ek]
      have q1' := q1.mono e2.ex
      have nk := Rep.nk g2.ex q1' hk
      cases q1' with
      | tup hb rs =>
        refine ⟨_, .tup ks, v2, rfl, nk, hd, fun r hr => ?_⟩
        have kn : KN X.K F2 [(NestedKey.tup ks, d2)] [(NestedKey.tup ks, _, r)] := .cons ⟨rfl, ⟨_, hk, hd, .tup hb rs⟩, v2, hr, q2⟩ .nil
        have hz := own_later (K := X.K) (u := .ext (RawN X.w p [(.tup ks, _, r)])) (o := .dN X.w [(.tup ks, d2)]) hp ((gr.go (G := G)).trans e12) g2 (e12.no p _ upd_same gp fp (fun _ z => nomatch z)) fr.2 rfl ⟨_, upd_same, by show 1 ≤ sizeLine; rw [sizeLine_eq]; decide, kn⟩
        exact kk _ _ _ _ _ hz.2 hz.1 (.rf p) (h2 p fr.2)
    · exact h2.elim
  · exact h2.elim
end
end DL
end
section
set_option Elab.async false
set_option linter.all false
set_option maxRecDepth 100000
set_option maxHeartbeats 4000000
namespace DL
open PySem PySem.Spec PyProof.Rows L2
end DL
end
section
set_option Elab.async false
set_option linter.all false
set_option maxRecDepth 100000
set_option maxHeartbeats 4000000
namespace DL
open PySem PySem.Spec PyProof.Rows L2
/-- what is merged -/
def mergedH {K : Type} [DecidableEq K] (xs more : List (K × Addr × Value)) : List (K × Addr × Value) := more.foldl (fun acc x => storedH acc x.1 x.2.1 x.2.2) xs
def mergeN {κ : Type} [DecidableEq κ] (kds more : List (κ × D)) : List (κ × D) := more.foldl (fun acc x => putD acc x.1 x.2) kds
section
variable {K : Type} [DecidableEq K]
theorem storedH_len (xs : List (K × Addr × Value)) (k : K) (a : Addr) (v : Value) : (storedH xs k a v).length ≤ xs.length + 1 ∧ xs.length ≤ (storedH xs k a v).length := by
  unfold storedH
  split <;> simp
theorem mergedH_len (more : List (K × Addr × Value)) : ∀ xs : List (K × Addr × Value), (mergedH xs more).length ≤ xs.length + more.length := by
  induction more with
  | nil => intro xs; exact Nat.le_refl _
  | cons x more ih =>
    intro xs
    have h1 := ih (storedH xs x.1 x.2.1 x.2.2)
    have h2 := (storedH_len xs x.1 x.2.1 x.2.2).1
    simp only [mergedH, List.foldl_cons, List.length_cons] at h1 ⊢
    omega
theorem mergedH_snoc (xs more : List (K × Addr × Value)) (i : Nat) (x : K × Addr × Value) (h : more[i]? = some x) : mergedH xs (more.take (i + 1)) = storedH (mergedH xs (more.take i)) x.1 x.2.1 x.2.2 := by
  simp [mergedH, List.take_add_one, h, List.foldl_append]
variable {prog : Program} {w : World} {knd : HeapKind prog w K} {A : Around} {E : Value → Shared → Prop} {s : Shared}
theorem setHashed_heap {d a : Addr} {xs : List (K × Addr × Value)} {k : K} {v : Value} {Q : Unit → Shared → Prop} (hu : knd.room A) (hk : knd.is s.heap k a) (hm : s.heap.DictOfH knd d xs) (few : xs.length ≤ sizeLine)
    (fin : ∀ h', h'.DictOfH knd d (storedH xs k a v) → Heap.SameBut d s.heap h' → Q () { s with heap := h' }) : wpAny (model prog w) A (dictSetHashed d (.ref a) (knd.hash k) v) Q E s := by
  obtain ⟨o, es, ep, ho, hc, hd, he, his, hn⟩ := hm
  have esz : es.size ≤ sizeLine := by have := size_of_entries he; omega
  unfold dictSetHashed
  try with_reducible refine wpAny_holding ?_
  refine wpAny_bind (wpAny_dictFind_heap hu hk ho hd he his hn (fun none1 => ?_) fun j p at1 => ?_)
  · have notin : k ∉ xs.map (·.1) := not_mem_keys_of_get none1
    have new1 := storedH_new (atKey_none_of_get none1) a v
    refine wpAny_bind (wpAny_rule (wpAny_updateDictKeys (hz := esz) ho hd (fin _ ⟨_, _, ep + 1, Heap.get?_update_self _ ho (Obj.isFreed_of_dict (Obj.data_mapDictKeys hd _)), hc.mapDictKeys _, Obj.data_mapDictKeys hd _, ?_, fun x hx => ?_, ?_⟩ (Heap.SameBut.update ..))))
    · rw [new1]
      simp [he, entryOfKey]
    · rw [new1] at hx
      rcases List.mem_append.mp hx with hx | hx
      · exact knd.keeps (his x hx) ho hd (Heap.SameBut.update ..)
      · rw [List.mem_singleton] at hx
        subst hx
        exact knd.keeps hk ho hd (Heap.SameBut.update ..)
    · rw [new1, List.map_append, List.nodup_append]
      exact ⟨hn, by simp, fun x hx y hy e => by simp at hy; subst hy; exact notin (e ▸ hx)⟩
  · have old1 := storedH_old (atKey_of_get hn at1) a v
    refine wpAny_bind (wpAny_rule (wpAny_bind (wpAny_updateDict ho hd (wpAny_point (fin _ ⟨_, _, ep, Heap.get?_update_self _ ho (Obj.isFreed_of_dict (Obj.data_mapDict hd _)), hc.mapDict _, Obj.data_mapDict hd _, ?_, fun x hx => ?_, ?_⟩ (Heap.SameBut.update ..))))))
    · rw [old1]
      have md := modify_map_putAt (entryOfKey knd) (fun e : DictEntry => { e with val := v }) k v (fun _ _ => rfl) hn at1
      rw [← he] at md
      obtain ⟨l⟩ := es
      simpa using md
    · rw [old1] at hx
      obtain ⟨y, hy, rfl⟩ := List.mem_map.mp hx
      unfold putAt
      split <;> exact knd.keeps (his y hy) ho hd (Heap.SameBut.update ..)
    · rw [old1, keys_map_putAt]; exact hn
/-- d.update(o), d not empty or o short -/
theorem merge_heap {nm : String} {d o : Addr} {xs more : List (K × Addr × Value)} {Q : Unit → Shared → Prop} (hu : knd.room A) (dno : d ≠ o) (oS : (o == sysModules) = false) (hd : s.heap.DictOfH knd d xs) (ho : s.heap.DictOfH knd o more)
    (quick : more.length ≤ 1 → ∀ x ∈ more, ∀ {Q' : Bool → Shared → Prop}, Q' false s → wpAny (model prog w) A (Builtin.Dict.quietEq (.ref x.2.1)) Q' E s) (c : xs ≠ [] ∨ more.length ≤ 1) (few : xs.length + more.length ≤ sizeLine)
    (fin : ∀ h', h'.DictOfH knd d (mergedH xs more) → Heap.SameBut d s.heap h' → Q () { s with heap := h' }) : wpAny (model prog w) A (Builtin.Dict.mergeDict nm d o) Q E s := by
  obtain ⟨od, esd, epd, hod, hcd, hdd, hed, hid, hnd⟩ := id hd
  obtain ⟨oo, eso, epo, hoo, hco, hdo, heo, hio, hno⟩ := id ho
  have lo : more.length = eso.size := by rw [← Array.length_toList, heo, List.length_map]
  have ld : xs.length = esd.size := by rw [← Array.length_toList, hed, List.length_map]
  unfold Builtin.Dict.mergeDict
  rw [if_neg (by simpa using dno)]
  unfold Builtin.Dict.showsAll
  rw [if_neg (by rw [oS]; exact Bool.false_ne_true)]
  refine wpAny_bind (wpAny_pure ?_)
  refine wpAny_bind (wpAny_dictEntries hoo hdo ?_)
  have turns : wpAny (model prog w) A (do
      let epoch ← dictEpoch o
      let l ← dictEntries o
      forIn [:l.size] PUnit.unit fun i (_ : PUnit) => (do
          let l' ← dictEntries o
          match l'[i]? with
            | some e => do
              holding [e.key, e.val] (dictSetHashed d e.key e.hash e.val)
              let ep' ← dictEpoch o
              if (ep' != epoch) = true then do
                  (unsupported (toString nm ++ toString ":source-changed-during-callback") : Sem PUnit)
                  pure (ForInStep.yield PUnit.unit)
                else pure (ForInStep.yield PUnit.unit)
            | _ => do
              (unsupported "internal:dict-merge" : Sem PUnit)
              pure (ForInStep.yield PUnit.unit) : Sem (ForInStep PUnit))
      pure ()) Q E s := by
    refine wpAny_bind (wpAny_dictEpoch hoo hdo ?_)
    refine wpAny_bind (wpAny_dictEntries hoo hdo ?_)
    refine wpAny_bind ?_
    rw [Std.Legacy.Range.forIn_eq_forIn_range']
    simp only [Std.Legacy.Range.size, Nat.sub_zero, Nat.add_sub_cancel, Nat.div_one]
    refine wpAny_forIn_list _ (fun rest _ t => ∃ h' i, t = { s with heap := h' } ∧ rest = List.range' i (eso.size - i) ∧ i ≤ eso.size ∧ h'.DictOfH knd d (mergedH xs (more.take i)) ∧ h'.get? o = some oo ∧ Heap.SameBut d s.heap h')
      _ ?_ ?_ _ _ ⟨s.heap, 0, rfl, by simp, Nat.zero_le _, by simpa [mergedH] using hd, hoo, Heap.SameBut.refl _ _⟩
    · rintro x rest b t ⟨h', i, rfl, hr, hi, hd', hoo', hs'⟩
      have ilt : i < eso.size := by
        rcases Nat.lt_or_ge i eso.size with z | z
        · exact z
        · rw [Nat.sub_eq_zero_of_le z] at hr; simp at hr
      obtain ⟨rfl, hrest⟩ : x = i ∧ rest = List.range' (i + 1) (eso.size - (i + 1)) := by
        have e : eso.size - i = (eso.size - (i + 1)) + 1 := by omega
        rw [e, List.range'_succ] at hr
        injection hr with z1 z2
        exact ⟨z1, z2⟩
      refine wpAny_bind (wpAny_dictEntries hoo' hdo ?_)
      have xlt : x < more.length := by omega
      obtain ⟨y, hy⟩ : ∃ y, more[x]? = some y := ⟨more[x], List.getElem?_eq_getElem xlt⟩
      have ey : eso[x]? = some (entryOfKey knd y) := by
        rw [← Array.getElem?_toList, heo, List.getElem?_map, hy]
        rfl
      rw [ey]
      show wpAny _ _ (holding [Value.ref y.2.1, y.2.2] (dictSetHashed d (.ref y.2.1) (knd.hash y.1) y.2.2) >>= _) _ _ _
      have ml := mergedH_len (more.take x) xs
      have tl : (more.take x).length ≤ more.length := by rw [List.length_take]; omega
      have isy : knd.is h' y.1 y.2.1 := knd.keeps (hio y (List.mem_of_getElem? hy)) hod hdd hs'
      refine wpAny_bind (wpAny_holding (setHashed_heap hu isy hd' (by omega) fun h2 hd2 hs2 => ?_))
      have hoo2 : h2.get? o = some oo := (hs2.2 o (Ne.symm dno)).trans hoo'
      refine wpAny_bind (wpAny_dictEpoch hoo2 hdo ?_)
      rw [if_neg (by simp)]
      exact wpAny_pure ⟨h2, x + 1, rfl, hrest, ilt, by rw [mergedH_snoc xs more x y hy]; exact hd2, hoo2, hs'.trans hs2⟩
    · rintro b t ⟨h', i, rfl, hr, hi, hd', hoo', hs'⟩
      have iin : i = eso.size := by
        rcases Nat.lt_or_ge i eso.size with z | z
        · have e : eso.size - i = (eso.size - (i + 1)) + 1 := by omega
          rw [e, List.range'_succ] at hr; exact nomatch hr
        · exact Nat.le_antisymm hi z
      rw [iin, ← lo, List.take_length] at hd'
      exact wpAny_pure (fin h' hd' hs')
  dsimp only
  split
  · refine wpAny_bind (wpAny_dictEntries hod hdd ?_)
    split
    · rename_i emp
      have x0 : xs = [] := by
        have z : esd = #[] := Array.isEmpty_iff.mp emp
        rw [z] at ld
        exact List.length_eq_zero_iff.mp ld
      have m1 : more.length ≤ 1 := c.resolve_left (fun z => z x0)
      subst x0
      have ents : ∀ {Q' : Array DictEntry → Shared → Prop}, Q' eso s → wpAny (model prog w) A (Builtin.Dict.entriesForEmpty nm o) Q' E s := fun {Q'} q' => by
        unfold Builtin.Dict.entriesForEmpty
        refine wpAny_bind (wpAny_dictEntries hoo hdo ?_)
        refine wpAny_bind ?_
        rw [← Array.forIn_toList, heo]
        match more, m1, quick with
        | [], _, _ => exact wpAny_pure (wpAny_pure q')
        | [y], _, qk =>
          simp only [List.map_cons, List.map_nil, List.forIn_cons, List.forIn_nil]
          refine wpAny_bind (wpAny_bind (qk (by simp) y (by simp) ?_))
          have sz : ¬ (Array.filter (fun z => z.hash == (entryOfKey knd y).hash) eso).size > 1 := by
            have := Array.size_filter_le (p := fun z : DictEntry => z.hash == (entryOfKey knd y).hash) (xs := eso)
            simp at lo
            omega
          simp only [Bool.not_false, if_true]
          rw [if_neg sz]
          exact wpAny_pure (wpAny_pure (wpAny_pure q'))
        | _ :: _ :: _, z, _ => simp at z
      refine wpAny_bind (ents ?_)
      have mm : mergedH [] more = more := by
        match more, m1 with
        | [], _ => rfl
        | [y], _ => simp [mergedH, storedH, atKey]
        | _ :: _ :: _, z => simp at z
      rw [mm] at fin
      split
      · have esz : eso.size ≤ sizeLine + 1 := by simp only [List.length_nil, Nat.zero_add] at few; omega
        exact wpAny_bind (wpAny_updateDictKeysTo hod hdd (wpAny_pure (fin _ ⟨_, _, epd + 1, Heap.get?_update_self _ hod (Obj.isFreed_of_dict (Obj.data_mapDictKeys hdd _)), hcd.mapDictKeys _, Obj.data_mapDictKeys hdd _, heo, fun x hx => knd.keeps (hio x hx) hod hdd (Heap.SameBut.update ..), hno⟩ (Heap.SameBut.update ..))) esz)
      · rename_i ne
        have z0 : eso = #[] := Array.isEmpty_iff.mp (by simpa using ne)
        have m0 : more = [] := List.length_eq_zero_iff.mp (by rw [lo, z0]; rfl)
        subst m0
        exact wpAny_pure (fin _ hd (Heap.SameBut.refl _ _))
    · exact turns
  · exact turns
end
end DL
end
section
set_option Elab.async false
set_option linter.all false
set_option maxRecDepth 100000
set_option maxHeartbeats 4000000
namespace DL
open PySem PySem.Spec PyProof.Rows L2
section
variable {P : Program} {w : World}
theorem tup_ref {h : Heap} {k : NestedKey} {a : Addr} (n : NestedIs h k (.ref a)) : ∃ o, h.get? a = some o ∧ o.cls = .type "tuple" := by
  cases n with
  | tup h1 h2 _ _ => exact ⟨_, h1, h2⟩
theorem upd_meets {d o : Addr} (dno : d ≠ o) (oS : (o == sysModules) = false) :
    MeetsIn P w (Builtin.«dict.update» ⟨[.ref d, .ref o], []⟩) (fun A R s => A.units + 20 < cLine ∧ ∃ xs more, s.heap.DictOfH (nestedKind P w) d xs ∧ s.heap.DictOfH (nestedKind P w) o more ∧ (xs ≠ [] ∨ more.length ≤ 1) ∧ xs.length + more.length ≤ sizeLine ∧
      ∀ h', h'.DictOfH (nestedKind P w) d (mergedH xs more) → Heap.SameBut d s.heap h' → R (.ok (.ret .none)) { s with heap := h' }) :=
  .of_wp fun A R s ⟨hu, xs, more, hd, ho, c, few, fin⟩ => by
    unfold Builtin.«dict.update»
    refine wpAny_bind ?_
    unfold Builtin.Dict.selfAndRest
    refine wpAny_bind (wpAny_notOrdered_dict hd.typeIs ?_)
    show wpAny _ _ (pure (d, [Value.ref o])) _ _ s
    refine wpAny_pure ?_
    show wpAny _ _ (Builtin.Dict.updateFrom "dict.update" d (.ref o) [] .none) _ _ s
    unfold Builtin.Dict.updateFrom
    refine wpAny_bind (wpAny_typeOf ho.typeIs ?_)
    rw [if_neg (by decide)]
    refine wpAny_bind ?_
    unfold Builtin.Dict.merge
    refine wpAny_bind ?_
    unfold Builtin.Dict.readDirectly
    refine wpAny_bind (wpAny_isInstance ho.typeIs isSubtype_dict_dict ?_)
    simp only [Bool.not_true, Bool.false_eq_true, if_false]
    refine wpAny_bind (wpAny_specialOf ho.typeIs PySem.F.slot_dict_iter.lookup (wpAny_pure ?_))
    simp only [beq_self_eq_true, if_true]
    refine wpAny_bind (wpAny_pure ?_)
    refine merge_heap (knd := nestedKind P w) (show _ + 8 < cLine by simp [Around.in1]; omega) dno oS hd ho (fun _ x hx {Q'} q' => ?_) c few fun h' hd' hs' => ?_
    · obtain ⟨o', _, _, _, _, _, _, his, _⟩ := id ho
      obtain ⟨ot, e1, e2⟩ := tup_ref (his x hx).1
      show wpAny _ _ (specialOf (.ref x.2.1) "__eq__" >>= _) _ _ _
      refine wpAny_bind (wpAny_specialOf (T := "tuple") ⟨ot, e1, e2⟩ PySem.F.slot_tuple_eq.lookup (wpAny_pure ?_))
      exact q'
    · show wpAny _ _ (Builtin.Dict.addKeywords d [] >>= _) _ _ _
      exact wpAny_bind (wpAny_pure (wpAny_pure ⟨.none, rfl, fin h' hd' hs'⟩))
end
theorem KN.merge {K : PySem.W.Frag} {F : Hp} : ∀ {ms : List (NestedKey × D)} {ys : List (NestedKey × Addr × Value)} {kds : List (NestedKey × D)} {xs : List (NestedKey × Addr × Value)}, KN K F ms ys → KN K F kds xs → KN K F (mergeN kds ms) (mergedH xs ys)
  | _, _, _, _, .nil, h => h
  | _, _, _, _, .cons (a := p) (b := q) ⟨z1, ⟨d, z2, zd, z3⟩, v, z4, z5⟩ t, h => by
    have h2 := h.put (k := p.1) (b := q.2.1) (r := q.2.2) (dk := d) (d := p.2) (v := v) z2 zd z3 z4 z5
    rw [z1] at h2
    have h3 := KN.merge t h2
    simp only [mergeN, mergedH, List.foldl_cons] at h3 ⊢
    rw [z1]
    exact h3
theorem mergeN_len {κ : Type} [DecidableEq κ] (ms : List (κ × D)) : ∀ kds : List (κ × D), (mergeN kds ms).length ≤ kds.length + ms.length := by
  induction ms with
  | nil => intro kds; exact Nat.le_refl _
  | cons x ms ih =>
    intro kds
    have h1 := ih (putD kds x.1 x.2)
    have h2 := putD_len kds x.1 x.2
    simp only [mergeN, List.foldl_cons, List.length_cons] at h1 ⊢
    omega
section
variable {X : Cx} {pos : Pos}
def rUpdN (w : World) (x : D) (ds : List D) (G : GH) (Q : DQ) : Prop := match x, ds with
  | .rf a, [.rf b] => (match G a, G b with
    | some (.dN w1 kds), some (.dN w2 ms) => w1 = w ∧ w2 = w ∧ a ≠ b ∧ (kds ≠ [] ∨ ms.length ≤ 1) ∧ kds.length + ms.length ≤ sizeLine ∧ Q .non (gput G a (.dN w (mergeN kds ms)))
    | _, _ => False)
  | _, _ => False
def rUpdNV (w : World) (x : V) (vs : List V) (H : Hp) (Q : VK) : Prop := ∃ a b xs ys, x = .ref a ∧ vs = [.ref b] ∧ a ≠ b ∧ NAt w H a xs ∧ NAt w H b ys ∧ (xs ≠ [] ∨ ys.length ≤ 1) ∧ xs.length + ys.length ≤ sizeLine ∧ Q .non (upd H a (.ext (RawN w a (mergedH xs ys))))
def tUpdN (w : World) (td ty : TE) : TE := fun σ H Q => td σ H fun x H1 => ∃ a, x = .ref a ∧ (∃ xs, H1 a = some (.ext (RawN w a xs))) ∧ ty σ H1 fun y H2 => rUpdNV w (.ref a) [y] H2 Q
theorem pe_updN {o e : Expr} {td ty : TE} {apos cpos : Pos} (hu : X.A.units + 100 < cLine) (ho : PE X o td) (he : PE X e ty) (m : M1 X o "update" apos e cpos) : PE X (.Call (.Attribute o "update" apos) [e] [] cpos) (tUpdN X.w td ty) := by
  refine ⟨fun pins s σ H Q I h => ?_⟩
  refine wpAny_Call_method m.base m.few m.line PySem.F.plainAttrs_dict PySem.F.slot_dict_update PySem.F.type_dict_update (thn (ho.run pins s σ H _ I h) fun u s1 ⟨x, H1, I1, rx, a, ex, ⟨xs0, d⟩, q1⟩ => ?_)
  subst ex
  obtain rfl : u = Value.ref a := rx
  obtain ⟨t1, t2⟩ := isN_at I1 d
  refine ⟨t1, t2, ?_⟩
  rw [m.trees]
  refine Calls.callWith_builtin rfl (Calls.evalArgs_plain (Calls.spliced_cons (thn (he.run pins s1 σ H1 _ I1 q1) fun iv s2 ⟨y, H2, I2, ry, q2⟩ => Calls.spliced_nil ?_)))
  obtain ⟨a', b, xs, ys, ea, ey, nab, na, nb, c, few, q⟩ := q2
  cases ea
  cases ey
  obtain rfl : iv = Value.ref b := ry
  obtain ⟨hsa, da⟩ := na.dict I2.hok
  obtain ⟨hsb, db⟩ := nb.dict I2.hok
  refine call_meetsIn PySem.F.slot_dict_update da.typeIs PySem.F.entry_dict_update (PySem.F.args_dict_update_2 _ _) (upd_meets nab hsb) ⟨by omega, xs, ys, da, db, c, few, fun h' dd' sb => ?_⟩
  obtain ⟨o', es, ep, h1, h2, h3, h4, _, h5⟩ := dd'
  refine ⟨.non, _, ?_, rfl, q⟩
  exact d_write (t' := s2.toks) I2 (by rw [na.1]; exact True.intro) sb ⟨o', h1⟩ ⟨⟨hsa, o', es, ep, h1, h2, h3, h4, h5⟩, ⟨o', h1⟩, fun g1 g2 ⟨a1, o1, es1, ep1, b1, c1⟩ kk => ⟨a1, o1, es1, ep1, kk o1 b1, c1⟩⟩
def dUpdN (w : World) (td ty : DTE) : DTE := fun S G Q => td S G fun x G1 => match x with
  | .rf a => (∃ kds, G1 a = some (.dN w kds)) ∧ ty S G1 fun y G2 => rUpdN w (.rf a) [y] G2 Q
  | _ => False
theorem de_updN {o e : Expr} {td ty : DTE} {apos : Pos} (hu : X.A.units + 100 < cLine) (ho : DE X o td) (he : DE X e ty) (m : M1 X o "update" apos e pos := by exact ⟨rfl, rfl, rfl, rfl⟩) : DE X (.Call (.Attribute o "update" apos) [e] [] pos) (dUpdN X.w td ty) := by
  obtain ⟨t1, p1, r1⟩ := ho.ex
  obtain ⟨t2, p2, r2⟩ := he.ex
  refine ⟨_, pe_updN hu p1 p2 m, fun F H σ S G o Q' h Q k => ?_⟩
  refine r1 F H σ S G o _ h _ fun F1 H1 v d G1 e1 g1 q1 h1 => ?_
  dsimp only at h1
  split at h1
  · rename_i a
    obtain ⟨⟨kds0, gk⟩, h1⟩ := h1
    cases q1
    obtain ⟨_, xs0, ea, _, _⟩ := g1.at_ a _ gk
    refine ⟨a, rfl, ⟨xs0, ea⟩, r2 F1 H1 σ S G1 (o.go e1 g1) _ h1 _ fun F2 H2 u d2 G2 e2 g2 q2 h2 => ?_⟩
    unfold rUpdN at h2
    dsimp only at h2
    split at h2
    · rename_i a2 b ex ey
      cases ex
      cases ey
      cases q2
      split at h2
      · rename_i w1 kds w2 ms ea eb
        obtain ⟨rfl, rfl, nab, c, few, h2⟩ := h2
        obtain ⟨_, xs, ha, hza, kna⟩ := g2.at_ a _ ea
        obtain ⟨_, ys, hb, hzb, knb⟩ := g2.at_ b _ eb
        have la := kna.len
        have lb := knb.len
        have kn2 := knb.merge kna
        refine ⟨a, b, xs, ys, rfl, rfl, nab, ⟨ha, by omega, kna.keys g2.ex⟩, ⟨hb, by omega, knb.keys g2.ex⟩, ?_, by omega, ?_⟩
        · rcases c with c | c
          · exact .inl fun e => c (by rw [e] at la; exact List.length_eq_zero_iff.mp la)
          · exact .inr (by omega)
        · have ml := mergeN_len ms kds
          have g3 := g2.put (u := .ext (RawN X.w a (mergedH xs ys))) (o := .dN X.w (mergeN kds ms)) ea rfl rfl ⟨_, upd_same, by omega, kn2⟩
          exact k F2 _ _ _ _ ((e1.trans e2).trans (Go.put ea)) g3 .non h2
      · exact h2.elim
    · exact h2.elim
  · exact h1.elim
end
mutual
def kToD : NestedKey → D
  | .none => .non
  | .num i => .int i
  | .text x => .str x
  | .tup ks => .tup (ksToD ks)
def ksToD : List NestedKey → List D
  | [] => []
  | k :: ks => kToD k :: ksToD ks
end
mutual
theorem nkey_toD : ∀ (d : D) {k : NestedKey}, d.nkey = some k → d = kToD k
  | .non, _, h => by cases h; rfl
  | .int i, _, h => by cases h; rfl
  | .str x, _, h => by cases h; rfl
  | .tup ds, _, h => by
    simp only [D.nkey] at h
    obtain ⟨ks, hk, rfl⟩ := Option.map_eq_some_iff.mp h
    show D.tup ds = .tup (ksToD ks)
    rw [nkeys_toD ds hk]
  | .bl _, _, h => by cases h
  | .ty _, _, h => by cases h
  | .lst _, _, h => by cases h
  | .dK _, _, h => by cases h
  | .dT _, _, h => by cases h
  | .obj _ _, _, h => by cases h
  | .rf _, _, h => by cases h
  | .scr _, _, h => by cases h
  | .kup _, _, h => by cases h
theorem nkeys_toD : ∀ (ds : List D) {ks : List NestedKey}, D.nkeys ds = some ks → ds = ksToD ks
  | [], _, h => by cases h; rfl
  | d :: ds, _, h => by
    simp only [D.nkeys] at h
    split at h
    · rename_i k ks h1 h2
      cases h
      show d :: ds = kToD k :: ksToD ks
      rw [← nkey_toD d h1, ← nkeys_toD ds h2]
    · cases h
end
theorem frzNv {X : Cx} {pins : List (Addr × Obj)} {σ : L2.St} {H : Hp} {s : Shared} {d : Addr} {o : Obj} {xs : List (NestedKey × Addr × Value)} (I : Inv X pins σ H s) (h : H d = some (.frz o (.ext (RawN X.w d xs)))) :
    (d == sysModules) = false ∧ s.heap.get? d = some o ∧ o.ExactDict ∧ ∃ (es : Array DictEntry) (ep : Nat), o.data = .dict es ep ∧ es.size = xs.length ∧
      ∀ (i : Nat) (x : NestedKey × Addr × Value), xs[i]? = some x → ∃ (en : DictEntry), es[i]? = some en ∧ en.key = .ref x.2.1 ∧ en.val = x.2.2 := by
  obtain ⟨hd, ⟨hs, o', es, ep, ho, hx, hdt, he, _⟩, _⟩ := I.hok d _ h
  rw [hd] at ho
  cases ho
  refine ⟨hs, hd, hx, es, ep, hdt, by rw [← Array.length_toList, he, List.length_map], fun i x e => ⟨({ hash := x.1.hash X.w, key := .ref x.2.1, val := x.2.2 } : DictEntry), ?_, rfl, rfl⟩⟩
  rw [← Array.getElem?_toList, he, List.getElem?_map, e]
  rfl
section
variable {X : Cx} {pos : Pos}
theorem KN.vals {K : PySem.W.Frag} {F : Hp} : ∀ {kds : List (NestedKey × D)} {xs : List (NestedKey × Addr × Value)}, KN K F kds xs → ∃ vs : List V, vs.length = kds.length ∧ ∀ (i : Nat) (x : NestedKey × D) y, kds[i]? = some x → xs[i]? = some y → ∃ v, vs[i]? = some v ∧ RelV v y.2.2 ∧ Rep K F v x.2 ∧ Rep K F (.ref y.2.1) (kToD x.1)
  | _, _, .nil => ⟨[], rfl, fun i x y h => by simp at h⟩
  | _, _, .cons (a := p) (b := q) ⟨z1, ⟨d, z2, zd, z3⟩, v, z4, z5⟩ t => by
    obtain ⟨vs, hl, hv⟩ := KN.vals t
    refine ⟨v :: vs, by simp [hl], fun i x y h1 h2 => ?_⟩
    cases i with
    | zero =>
      simp at h1 h2
      subst h1 h2
      exact ⟨v, rfl, z4, z5, by rw [← nkey_toD d z2]; exact z3⟩
    | succ i => simpa using hv i x y (by simpa using h1) (by simpa using h2)
/-- the dict at p is locked while the statement runs -/
def dLockN (w : World) (t : DTS) : DTS := fun D' S G => ∃ p kds, G p = some (.dN w kds) ∧ ∀ o xs, t ⟨fun S' G' => G' p = some (.lkN w o xs kds) ∧ D'.nx S' (gput G' p (.dN w kds)), fun d G' => G' p = some (.lkN w o xs kds) ∧ D'.rt d (gput G' p (.dN w kds)),
  fun S' G' => G' p = some (.lkN w o xs kds) ∧ D'.bk S' (gput G' p (.dN w kds)), fun S' G' => G' p = some (.lkN w o xs kds) ∧ D'.ct S' (gput G' p (.dN w kds))⟩ S (gput G p (.lkN w o xs kds))
theorem dp_lockN {st : Stmt} {t' : DTS} (h : DP X st t') : DP X st (dLockN X.w t') := by
  obtain ⟨t, p, r⟩ := h.ex
  refine ⟨_, ps_lock p, fun F H σ S G o D' h D0 k => ?_⟩
  obtain ⟨a, kds, ga, h⟩ := h
  obtain ⟨fa, xs, ha, hz, kn⟩ := o.g.at_ a _ ga
  refine ⟨a, .ext (RawN X.w a xs), ha, trivial, fun od => ?_⟩
  have g1 : Gok X.K F (upd H a (.frz od (.ext (RawN X.w a xs)))) (gput G a (.lkN X.w od xs kds)) := o.g.put ga rfl rfl ⟨upd_same, hz, kn⟩
  have back : ∀ F' H' G', Go F (upd H a (.frz od (.ext (RawN X.w a xs)))) (gput G a (.lkN X.w od xs kds)) F' H' G' → Gok X.K F' H' G' → G' a = some (.lkN X.w od xs kds) →
      H' a = some (.frz od (.ext (RawN X.w a xs))) ∧ Gok X.K F' (upd H' a (.ext (RawN X.w a xs))) (gput G' a (.dN X.w kds)) ∧ Go F H G F' (upd H' a (.ext (RawN X.w a xs))) (gput G' a (.dN X.w kds)) := fun F' H' G' go g2 ga2 => by
    obtain ⟨fa2, hh2, hz2, kn2⟩ := g2.at_ a _ ga2
    exact ⟨hh2, g2.put ga2 rfl rfl ⟨xs, upd_same, hz2, kn2⟩, ((Go.put (u := .frz od (.ext (RawN X.w a xs))) ga).trans go).trans (Go.put ga2)⟩
  refine r F _ σ S _ ⟨g1, o.s⟩ _ (h od xs) _ ⟨fun F' H' σ' S' G' go o2 q => ?_, fun F' H' v d G' go g2 rv q => ?_, fun F' H' σ' S' G' go o2 q => ?_, fun F' H' σ' S' G' go o2 q => ?_⟩
  · obtain ⟨b1, b2, b3⟩ := back F' H' G' go o2.g q.1
    exact ⟨b1, k.nx F' _ σ' S' _ b3 ⟨b2, o2.s⟩ q.2⟩
  · obtain ⟨b1, b2, b3⟩ := back F' H' G' go g2 q.1
    exact ⟨b1, k.rt F' _ v d _ b3 b2 rv q.2⟩
  · obtain ⟨b1, b2, b3⟩ := back F' H' G' go o2.g q.1
    exact ⟨b1, k.bk F' _ σ' S' _ b3 ⟨b2, o2.s⟩ q.2⟩
  · obtain ⟨b1, b2, b3⟩ := back F' H' G' go o2.g q.1
    exact ⟨b1, k.ct F' _ σ' S' _ b3 ⟨b2, o2.s⟩ q.2⟩
end
end DL
end
section
set_option Elab.async false
set_option linter.all false
set_option maxRecDepth 100000
set_option maxHeartbeats 4000000
namespace DL
open PySem PySem.Spec PyProof.Rows L2
section
variable {X : Cx} {pins : List (Addr × Obj)} {σ : L2.St} {H : Hp} {s : Shared}
mutual
theorem urep_is (I : Inv X pins σ H s) : ∀ (k : NestedKey) {v : V} {u : Value}, Rep X.K H v (kToU k) → RelV v u → NestedIs s.heap k u
  | .none, v, _, h, r => by
    have h : Rep X.K H v .non := h
    cases h; cases r; exact .none
  | .num i, v, _, h, r => by
    have h : Rep X.K H v (.int i) := h
    cases h; obtain ⟨t, rfl⟩ := r; exact .int i t
  | .text x, v, _, h, r => by
    have h : Rep X.K H v (.str x) := h
    cases h; obtain ⟨t, rfl⟩ := r; exact .text x t
  | .tup ks, v, _, h, r => by
    have h : Rep X.K H v (.kup (ksToU ks)) := h
    cases h with
    | kup q t =>
      cases r
      obtain ⟨its, rv, ⟨o, h1, h2, n, h3⟩, _⟩ := I.tuple q
      exact .tup h1 h2 h3 (by simpa using ureps_is I ks t rv)
theorem ureps_is (I : Inv X pins σ H s) : ∀ (ks : List NestedKey) {vs : List V} {us : List Value}, Reps X.K H vs (ksToU ks) → Vals vs us → NestedAll s.heap ks us
  | [], vs, _, h, r => by
    have h : Reps X.K H vs [] := h
    cases h; cases r; exact .nil
  | k :: ks, vs, _, h, r => by
    have h : Reps X.K H vs (kToU k :: ksToU ks) := h
    cases h with
    | cons a t =>
      cases r with
      | cons r1 r2 => exact .cons (urep_is I k a r1) (ureps_is I ks t r2)
end
end
/-- the dict stands there -/
def UAt (K : PySem.W.Frag) (w : World) (H : Hp) (a : Addr) (xs : List (NestedKey × Addr × Value)) : Prop :=
  H a = some (.ext (RawN w a xs)) ∧ xs.length ≤ sizeLine ∧ ∀ x ∈ xs, Rep K H (.ref x.2.1) (kToU x.1) ∧ x.1.depth ≤ 8
theorem UAt.dict {X : Cx} {pins : List (Addr × Obj)} {σ : L2.St} {H : Hp} {s : Shared} {a : Addr} {xs : List (NestedKey × Addr × Value)} (n : UAt X.K X.w H a xs) (I : Inv X pins σ H s) : (a == sysModules) = false ∧ s.heap.DictOfH (nestedKind X.prog X.w) a xs := by
  obtain ⟨e, _, hk⟩ := n
  obtain ⟨⟨hs, o, es, ep, h1, h2, h3, h4, h5⟩, _⟩ := (show ObjOk X.prog X.w H s.heap a (.ext (RawN X.w a xs)) from I.hok _ _ e)
  exact ⟨hs, o, es, ep, h1, h2, h3, h4, fun x hx => ⟨urep_is I x.1 (hk x hx).1 rfl, (hk x hx).2⟩, h5⟩
theorem KU.keys {K : PySem.W.Frag} {F H : Hp} (e : Ex F H) : ∀ {kds : List (NestedKey × D)} {xs : List (NestedKey × Addr × Value)}, KU K F kds xs → ∀ x ∈ xs, Rep K H (.ref x.2.1) (kToU x.1) ∧ x.1.depth ≤ 8
  | _, _, .nil, x, hx => by cases hx
  | _, _, .cons (a := p) (b := q) h t, x, hx => by
    rcases List.mem_cons.mp hx with rfl | hx
    · obtain ⟨z1, zd, z3, _⟩ := h
      rw [← z1]
      exact ⟨z3.mono e, zd⟩
    · exact KU.keys e t x hx
theorem KU.val {K : PySem.W.Frag} {F : Hp} (k : NestedKey) : ∀ {kds : List (NestedKey × D)} {xs : List (NestedKey × Addr × Value)}, KU K F kds xs → (valD kds k = none ∧ atKey xs k = none) ∨ ∃ d p v, valD kds k = some d ∧ atKey xs k = some p ∧ RelV v p.2 ∧ Rep K F v d
  | _, _, .nil => .inl ⟨rfl, rfl⟩
  | _, _, .cons (a := p) (b := q) h t => by
    obtain ⟨z1, _, _, v, z4, z5⟩ := h
    by_cases e : p.1 = k
    · refine .inr ⟨p.2, q.2, v, ?_, ?_, z4, z5⟩
      · simp [valD, List.find?_cons, e]
      · simp [atKey, List.find?_cons, ← z1, e]
    · have e2 : ¬ q.1 = k := fun z => e (z1.trans z)
      rcases KU.val k t with ⟨h1, h2⟩ | ⟨d, p', v', h1, h2, h3, h4⟩
      · refine .inl ⟨?_, ?_⟩
        · simpa [valD, List.find?_cons, e] using h1
        · simpa [atKey, List.find?_cons, e2] using h2
      · refine .inr ⟨d, p', v', ?_, ?_, h3, h4⟩
        · simpa [valD, List.find?_cons, e] using h1
        · simpa [atKey, List.find?_cons, e2] using h2
theorem KU.len {K : PySem.W.Frag} {F : Hp} {kds : List (NestedKey × D)} {xs : List (NestedKey × Addr × Value)} (h : KU K F kds xs) : kds.length = xs.length := Paired.length h
theorem KU.put {K : PySem.W.Frag} {F : Hp} {kds : List (NestedKey × D)} {xs : List (NestedKey × Addr × Value)} (h : KU K F kds xs) {k : NestedKey} {b : Addr} {r : Value} {d : D} {v : V} (hd : k.depth ≤ 8) (rk : Rep K F (.ref b) (kToU k)) (rv : RelV v r) (rd : Rep K F v d) :
    KU K F (putD kds k d) (storedH xs k b r) := by
  have ev := KU.val k h
  unfold putD storedH
  rw [any_val]
  rcases ev with ⟨h1, h2⟩ | ⟨d', p', v', h1, h2, _⟩
  · rw [h1, h2]
    rw [if_neg (by simp), if_neg (by simp)]
    exact Paired.snoc h ⟨rfl, hd, rk, v, rv, rd⟩
  · rw [h1, h2, if_pos (show (some d').isSome = true from rfl), if_pos (show (some p').isSome = true from rfl)]
    clear h1 h2
    induction h with
    | nil => exact .nil
    | @cons p q ps qs hq t ih =>
      refine .cons ?_ ih
      obtain ⟨z1, z2, z3, v2, z4, z5⟩ := hq
      unfold putAt
      dsimp only
      by_cases e : p.1 = k
      · rw [if_pos e, if_pos (by rw [← z1]; exact e)]
        exact ⟨z1, z2, z3, v, rv, rd⟩
      · rw [if_neg e, if_neg (by rw [← z1]; exact e)]
        exact ⟨z1, z2, z3, v2, z4, z5⟩
section
variable {X : Cx} {pos : Pos}
theorem KU.vals {K : PySem.W.Frag} {F : Hp} : ∀ {kds : List (NestedKey × D)} {xs : List (NestedKey × Addr × Value)}, KU K F kds xs → ∃ vs : List V, vs.length = kds.length ∧ ∀ (i : Nat) (x : NestedKey × D) y, kds[i]? = some x → xs[i]? = some y → ∃ v, vs[i]? = some v ∧ RelV v y.2.2 ∧ Rep K F v x.2 ∧ Rep K F (.ref y.2.1) (kToU x.1)
  | _, _, .nil => ⟨[], rfl, fun i x y h => by simp at h⟩
  | _, _, .cons (a := p) (b := q) ⟨z1, z2, z3, v, z4, z5⟩ t => by
    obtain ⟨vs, hl, hv⟩ := KU.vals t
    refine ⟨v :: vs, by simp [hl], fun i x y h1 h2 => ?_⟩
    cases i with
    | zero =>
      simp at h1 h2
      subst h1 h2
      exact ⟨v, rfl, z4, z5, z3⟩
    | succ i => simpa using hv i x y (by simpa using h1) (by simpa using h2)
end
end DL
end
section
set_option Elab.async false
set_option linter.all false
set_option maxRecDepth 100000
set_option maxHeartbeats 4000000
namespace Pace
open PySem PySem.Spec PyProof.Rows L2 DL
def top (i : Nat) : Stmt := PySem.Challenge.pw_pacehouse_k21_long_classes.main.body.getD i (.Pass ⟨0, 0, 0, 0⟩)
abbrev s__wall : Stmt := top 0
abbrev s_states_behind : Stmt := top 2
abbrev s_reached : Stmt := top 3
abbrev s_mute : Stmt := top 4
abbrev s_check_full : Stmt := top 12
abbrev s_text_class : Stmt := top 14
abbrev s_class_of : Stmt := top 15
abbrev s_longer_class : Stmt := top 16
abbrev s_Classes_u__init_u_ : Stmt := inClass (top 17) 0
abbrev s_Classes_letter_steps : Stmt := inClass (top 17) 1
abbrev s_Classes_way : Stmt := inClass (top 17) 2
abbrev s_Classes_pump_on : Stmt := inClass (top 17) 3
abbrev s_long_classes : Stmt := top 18
abbrev s_are_letters : Stmt := top 29
abbrev s_number_in : Stmt := top 30
abbrev s_text_of : Stmt := top 31
abbrev s_first_line : Stmt := top 32
abbrev s_move_line : Stmt := top 33
abbrev s_parts_in : Stmt := top 34
abbrev s_is_integer : Stmt := top 39
abbrev s_is_letter_of : Stmt := top 40
abbrev s_is_move : Stmt := top 41
abbrev s_is_row : Stmt := top 42
abbrev s_steps_of : Stmt := top 43
abbrev s_states_met : Stmt := top 44
abbrev s_classes_of : Stmt := top 45
abbrev s_least_rows : Stmt := top 46
abbrev s_step_at : Stmt := top 47
abbrev s_paired_steps : Stmt := top 48
abbrev s_one_keys : Stmt := top 49
abbrev s_check_letters : Stmt := top 50
abbrev s_Rules_u__init_u_ : Stmt := inClass (top 51) 0
abbrev s_Rules_u__len_u_ : Stmt := inClass (top 51) 3
abbrev s__law_deck : Stmt := top 53
abbrev s__law_draw : Stmt := top 54
abbrev s__law_pick : Stmt := top 55
abbrev s__law_moves : Stmt := top 56
abbrev s__law_on : Stmt := top 57
abbrev s__law_mute : Stmt := top 58
abbrev s__law_set : Stmt := top 59
abbrev s__law_drawn : Stmt := top 60
abbrev s__law_made : Stmt := top 61
abbrev s__law_known : Stmt := top 62
abbrev s__law_some : Stmt := top 63
abbrev s__law_class : Stmt := top 64
abbrev s__law_put : Stmt := top 65
abbrev s__law_classes : Stmt := top 66
abbrev s__law_behind : Stmt := top 67
abbrev s__law_long : Stmt := top 68
abbrev s_law : Stmt := top 69
structure Txt (K : PySem.W.Frag) (mg : Str → Option Value) (C : Addr) : Prop where
  f_Exception : mg "Exception" = none
  f_classmethod : mg "classmethod" = none
  f_tuple : mg "tuple" = none
  f_all : mg "all" = none
  f_enumerate : mg "enumerate" = none
  f_dict : mg "dict" = none
  f_range : mg "range" = none
  f_sorted : mg "sorted" = none
  f_len : mg "len" = none
  f_isinstance : mg "isinstance" = none
  f_str : mg "str" = none
  f_int : mg "int" = none
  f_list : mg "list" = none
  f_repr : mg "repr" = none
  f_bool : mg "bool" = none
  f_set : mg "set" = none
  f_super : mg "super" = none
  f_zip : mg "zip" = none
  c_RULES_WORD : ∃ t, mg "RULES_WORD" = some (.str "rules" t)
  c_MOVE_WORD : ∃ t, mg "MOVE_WORD" = some (.str "move" t)
  c_BREAK : ∃ t, mg "BREAK" = some (.str "\n" t)
  c_BLANK : ∃ t, mg "BLANK" = some (.str " " t)
  c_DIGITS : ∃ t, mg "DIGITS" = some (.str "0123456789" t)
  c_MOST_DIGITS : ∃ t, mg "MOST_DIGITS" = some (.int (3) t)
  c_FIRST_PARTS : ∃ t, mg "FIRST_PARTS" = some (.int (4) t)
  c_MOVE_PARTS_ruletexts : ∃ t, mg "MOVE_PARTS_ruletexts" = some (.int (5) t)
  c_LETTERS : ∃ t, mg "LETTERS" = some (.str "abcdefghijklmnopqrstuvwxyz" t)
  c_MOST_STATES : ∃ t, mg "MOST_STATES" = some (.int (999) t)
  c_MOVE_PARTS_rules : ∃ t, mg "MOVE_PARTS_rules" = some (.int (3) t)
  c_NOWHERE : ∃ t, mg "NOWHERE" = some (.int (-1) t)
  clR : Cls K C
  mgR : mg "Rules" = some (.ref C)
  insR : C8.InsC K C
  neR : NeO K C
  no_heard : NoAttr K C "heard"
  no_written : NoAttr K C "written"
  no_rows : NoAttr K C "rows"
  no_steps : NoAttr K C "steps"
  cl_Classes : Cls K (He.ga K "Classes")
  mg_Classes : mg "Classes" = some (.ref (He.ga K "Classes"))
  no_Classes_letter_classes : NoAttr K (He.ga K "Classes") "letter_classes"
  no_Classes_texts : NoAttr K (He.ga K "Classes") "texts"
  no_Classes_order : NoAttr K (He.ga K "Classes") "order"
  no_Classes_pumps : NoAttr K (He.ga K "Classes") "pumps"
  sysM : SysM K
end Pace
end
section
set_option Elab.async false
set_option linter.all false
set_option maxRecDepth 100000
set_option maxHeartbeats 4000000
namespace DL
open PySem PySem.Spec PyProof.Rows L2
end DL
end
section
set_option Elab.async false
set_option linter.all false
set_option maxRecDepth 100000
set_option maxHeartbeats 4000000
namespace DL
open PySem PySem.Spec PyProof.Rows L2 PySem.Calls
end DL
end
section
set_option Elab.async false
set_option linter.all false
set_option maxRecDepth 100000
set_option maxHeartbeats 4000000
namespace DL
open PySem PySem.Spec PyProof.Rows L2
abbrev XFs := List (Str × D)
abbrev DXQ := Addr → XFs → GH → Prop
/-- an error: its class, its attributes -/
def XRep (K : PySem.W.Frag) (F H : Hp) (G : GH) (cls : Value) (d : Option Addr) (C : Addr) (fs : XFs) : Prop :=
  cls = .ref C ∧ ((d = none ∧ fs = []) ∨ ∃ dx vs, d = some dx ∧ H dx = some (.xd vs) ∧ G dx = none ∧ fs ≠ [] ∧ vs.map (·.1) = fs.map (·.1) ∧ Reps K F (vs.map (·.2)) (fs.map (·.2)))
def KpX (K : PySem.W.Frag) (F H : Hp) (G : GH) (σ : L2.St) (E' : DXQ) (W : WX) : Prop := ∀ F' H' G' cls d C fs, Go F H G F' H' G' → Gok K F' H' G' → XRep K F' H' G' cls d C fs → E' C fs G' → W cls d σ H'
def KpXS (K : PySem.W.Frag) (F H : Hp) (G : GH) (E' : DS → DXQ) (W : WX) : Prop := ∀ F' H' σ S G' cls d C fs, Go F H G F' H' G' → Ok K F' H' σ S G' → XRep K F' H' G' cls d C fs → E' S C fs G' → W cls d σ H'
section
variable {K : PySem.W.Frag} {F H F1 H1 : Hp} {G G1 : GH}
theorem XRep.sub {cls : Value} {d : Option Addr} {C : Addr} {fs : XFs} {G0 : GH} (s : Sub G0 G) (h : XRep K F H G cls d C fs) : XRep K F H G0 cls d C fs := by
  refine ⟨h.1, h.2.imp id ?_⟩
  rintro ⟨dx, vs, h1, h2, h3, h4⟩
  refine ⟨dx, vs, h1, h2, ?_, h4⟩
  cases q : G0 dx with
  | none => rfl
  | some o => rw [s.le dx o q] at h3; cases h3
theorem KpX.mono {σ : L2.St} {E' : DXQ} {W : WX} (e : Go F H G F1 H1 G1) (h : KpX K F H G σ E' W) : KpX K F1 H1 G1 σ E' W := fun F' H' G' cls d C fs a b c q => h F' H' G' cls d C fs (e.trans a) b c q
theorem KpXS.mono {E' : DS → DXQ} {W : WX} (e : Go F H G F1 H1 G1) (h : KpXS K F H G E' W) : KpXS K F1 H1 G1 E' W := fun F' H' σ S G' cls d C fs a b c q => h F' H' σ S G' cls d C fs (e.trans a) b c q
theorem KpXS.at_ {σ : L2.St} {S : DS} {E' : DS → DXQ} {W : WX} (s : Slots K F σ S) (h : KpXS K F H G E' W) : KpX K F H G σ (E' S) W := fun F' H' G' cls d C fs a b c q => h F' H' σ S G' cls d C fs a ⟨b, s.mono a.ex⟩ c q
end
end DL
namespace DL
open PySem PySem.Spec PyProof.Rows L2
end DL
end
section
set_option Elab.async false
set_option linter.all false
set_option maxRecDepth 100000
set_option maxHeartbeats 4000000
namespace DL
open PySem PySem.Spec PyProof.Rows L2
end DL
end
section
set_option Elab.async false
set_option linter.all false
set_option maxRecDepth 100000
set_option maxHeartbeats 4000000
namespace DL
open PySem PySem.Spec PyProof.Rows L2
abbrev FnX : Type := Option (Str × Str × Arguments × FuncBody × Scope × Addr × List Str × Addr)
def fnXo (K : PySem.W.Frag) (a : Addr) : FnX := match K.lookup a with
  | some ⟨_, _, .func fd, _⟩ => some (fd.name, fd.qualname, fd.params, fd.body, fd.scope, fd.globals, fd.closure.map (·.1), fd.builtins)
  | _ => none
/-- the __init__ of an own error -/
structure ErrD where
  cls : Str
  qual : Str
  params : Arguments
  body : List Stmt
  scope : Scope
def ErrD.val (d : ErrD) : FnX := some ("__init__", d.qual, d.params, .stmts d.body, d.scope, mainGlobals, ["__class__"], builtinsNs)
def eI (K : PySem.W.Frag) (x : Str) : Addr := He.ma K (He.ga K x) "__init__"
abbrev AlX : Type := AlE × List FnX
abbrev YsX : Type := List ((PySem.W.Frag → Addr) × FnX)
def obsX (fa : List He.Fa) (fn : List He.DefD) (ex : PySem.W.Frag → Bool) (ys : YsX) (K : PySem.W.Frag) : AlX := (obsE fa fn ex K, ys.map fun p => fnXo K (p.1 K))
end DL
end
section
set_option Elab.async false
set_option linter.all false
set_option maxRecDepth 100000
set_option maxHeartbeats 4000000
namespace DL
open PySem PySem.Spec PyProof.Rows L2
def hyPut {α : Type} (a : Addr) (m : Nat) (acc : List Addr) (k : Nat → List Addr → α) : α := HandSHeadRun.frNat a fun a => match Nat.beq (Nat.land (Nat.shiftRight m a) 1) 0 with
  | true => HandSHeadRun.frNat (Nat.lor m (Nat.shiftLeft 1 a)) fun m => k m (a :: acc)
  | false => k m acc
def hyPuts {α : Type} : List Addr → Nat → List Addr → (Nat → List Addr → α) → α
  | [], m, acc, k => k m acc
  | a :: r, m, acc, k => hyPut a m acc fun m acc => hyPuts r m acc k
def hyRow {α : Type} (g : Addr → Option Obj) : List Addr → Nat → List Addr → (Nat → List Addr → α) → α
  | [], m, acc, k => k m acc
  | a :: r, m, acc, k => match g a with
    | some o => hyPuts (He.refsD o) m acc fun m acc => hyRow g r m acc k
    | none => hyRow g r m acc k
def hyGo (g : Addr → Option Obj) : Nat → List Addr → Nat → List Addr → List Addr
  | 0, _, _, all => all
  | n + 1, fr, m, all => hyRow g fr m [] fun m new => hyGo g n new m (all ++ new)
def asY (g : Addr → Option Obj) (n : Nat) : List Addr := hyPut mainGlobals 0 [] fun m fr => hyGo g n fr m fr
def obsYG (n : Nat) (fa : List He.Fa) (fn : List He.DefD) (ex : PySem.W.Frag → Bool) (ys : YsX) (g : Addr → Option Obj) : AlX := obsX fa fn ex ys (He.frG g (cStatics :: sysModules :: asY g n))
def hookY (n : Nat) (fa : List He.Fa) (fn : List He.DefD) (ex : PySem.W.Frag → Bool) (ys : YsX) : PySem.W.Hook where
  α := AlX
  obs := fun s => obsYG n fa fn ex ys s.heap.get?
  val := fun _ => (((He.valD fn, true), ys.map Prod.snd) : AlX)
  says := fun _ h => ∃ K : PySem.W.Frag, K.In h ∧ He.SaysD fa fn K ∧ ex K = true ∧ (ys.map fun p => fnXo K (p.1 K)) = ys.map Prod.snd
  of := fun _ _ e => ⟨_, He.frG_in, congrArg (fun z : AlX => z.1.1) e, congrArg (fun z : AlX => z.1.2) e, congrArg Prod.snd e⟩
  keeps := fun _ _ _ ⟨K, hK, c⟩ k => ⟨K, PySem.W.Frag.In.keeps hK k, c⟩
theorem obsYG_eq {n : Nat} {fa : List He.Fa} {fn : List He.DefD} {ex : PySem.W.Frag → Bool} {ys : YsX} {g : Addr → Option Obj} {s : Shared} (h : ∀ a, g a = s.heap.get? a) : obsYG n fa fn ex ys g = (hookY n fa fn ex ys).obs s := by
  have e : g = s.heap.get? := funext h
  rw [e] <;> rfl
end DL
end
section
set_option Elab.async false
set_option linter.all false
set_option maxRecDepth 100000
set_option maxHeartbeats 0
namespace Pace
open PySem PySem.Spec PyProof.Rows L2 DL
def d__wall : He.DefD := ⟨("_wall", none), "_wall", "_wall", defArgs s__wall, defBody s__wall, defScope s__wall, [], []⟩
def d_states_behind : He.DefD := ⟨("states_behind", none), "states_behind", "states_behind", defArgs s_states_behind, defBody s_states_behind, defScope s_states_behind, [], []⟩
def d_reached : He.DefD := ⟨("reached", none), "reached", "reached", defArgs s_reached, defBody s_reached, defScope s_reached, [], []⟩
def d_mute : He.DefD := ⟨("mute", none), "mute", "mute", defArgs s_mute, defBody s_mute, defScope s_mute, [], []⟩
def d_check_full : He.DefD := ⟨("check_full", none), "check_full", "check_full", defArgs s_check_full, defBody s_check_full, defScope s_check_full, [], []⟩
def d_text_class : He.DefD := ⟨("text_class", none), "text_class", "text_class", defArgs s_text_class, defBody s_text_class, defScope s_text_class, [], []⟩
def d_class_of : He.DefD := ⟨("class_of", none), "class_of", "class_of", defArgs s_class_of, defBody s_class_of, defScope s_class_of, [], []⟩
def d_longer_class : He.DefD := ⟨("longer_class", none), "longer_class", "longer_class", defArgs s_longer_class, defBody s_longer_class, defScope s_longer_class, [], []⟩
def d_long_classes : He.DefD := ⟨("long_classes", none), "long_classes", "long_classes", defArgs s_long_classes, defBody s_long_classes, defScope s_long_classes, [], []⟩
def d_are_letters : He.DefD := ⟨("are_letters", none), "are_letters", "are_letters", defArgs s_are_letters, defBody s_are_letters, defScope s_are_letters, [], []⟩
def d_number_in : He.DefD := ⟨("number_in", none), "number_in", "number_in", defArgs s_number_in, defBody s_number_in, defScope s_number_in, [], []⟩
def d_text_of : He.DefD := ⟨("text_of", none), "text_of", "text_of", defArgs s_text_of, defBody s_text_of, defScope s_text_of, [], []⟩
def d_first_line : He.DefD := ⟨("first_line", none), "first_line", "first_line", defArgs s_first_line, defBody s_first_line, defScope s_first_line, [], []⟩
def d_move_line : He.DefD := ⟨("move_line", none), "move_line", "move_line", defArgs s_move_line, defBody s_move_line, defScope s_move_line, [], []⟩
def d_parts_in : He.DefD := ⟨("parts_in", none), "parts_in", "parts_in", defArgs s_parts_in, defBody s_parts_in, defScope s_parts_in, [], []⟩
def d_is_integer : He.DefD := ⟨("is_integer", none), "is_integer", "is_integer", defArgs s_is_integer, defBody s_is_integer, defScope s_is_integer, [], []⟩
def d_is_letter_of : He.DefD := ⟨("is_letter_of", none), "is_letter_of", "is_letter_of", defArgs s_is_letter_of, defBody s_is_letter_of, defScope s_is_letter_of, [], []⟩
def d_is_move : He.DefD := ⟨("is_move", none), "is_move", "is_move", defArgs s_is_move, defBody s_is_move, defScope s_is_move, [], []⟩
def d_is_row : He.DefD := ⟨("is_row", none), "is_row", "is_row", defArgs s_is_row, defBody s_is_row, defScope s_is_row, [], []⟩
def d_steps_of : He.DefD := ⟨("steps_of", none), "steps_of", "steps_of", defArgs s_steps_of, defBody s_steps_of, defScope s_steps_of, [], []⟩
def d_states_met : He.DefD := ⟨("states_met", none), "states_met", "states_met", defArgs s_states_met, defBody s_states_met, defScope s_states_met, [], []⟩
def d_classes_of : He.DefD := ⟨("classes_of", none), "classes_of", "classes_of", defArgs s_classes_of, defBody s_classes_of, defScope s_classes_of, [], []⟩
def d_least_rows : He.DefD := ⟨("least_rows", none), "least_rows", "least_rows", defArgs s_least_rows, defBody s_least_rows, defScope s_least_rows, [], []⟩
def d_step_at : He.DefD := ⟨("step_at", none), "step_at", "step_at", defArgs s_step_at, defBody s_step_at, defScope s_step_at, [], []⟩
def d_paired_steps : He.DefD := ⟨("paired_steps", none), "paired_steps", "paired_steps", defArgs s_paired_steps, defBody s_paired_steps, defScope s_paired_steps, [], []⟩
def d_one_keys : He.DefD := ⟨("one_keys", none), "one_keys", "one_keys", defArgs s_one_keys, defBody s_one_keys, defScope s_one_keys, [], []⟩
def d_check_letters : He.DefD := ⟨("check_letters", none), "check_letters", "check_letters", defArgs s_check_letters, defBody s_check_letters, defScope s_check_letters, [], []⟩
def d__law_deck : He.DefD := ⟨("_law_deck", none), "_law_deck", "_law_deck", defArgs s__law_deck, defBody s__law_deck, defScope s__law_deck, [], []⟩
def d__law_draw : He.DefD := ⟨("_law_draw", none), "_law_draw", "_law_draw", defArgs s__law_draw, defBody s__law_draw, defScope s__law_draw, [], []⟩
def d__law_pick : He.DefD := ⟨("_law_pick", none), "_law_pick", "_law_pick", defArgs s__law_pick, defBody s__law_pick, defScope s__law_pick, [], []⟩
def d__law_moves : He.DefD := ⟨("_law_moves", none), "_law_moves", "_law_moves", defArgs s__law_moves, defBody s__law_moves, defScope s__law_moves, [], []⟩
def d__law_on : He.DefD := ⟨("_law_on", none), "_law_on", "_law_on", defArgs s__law_on, defBody s__law_on, defScope s__law_on, [], []⟩
def d__law_mute : He.DefD := ⟨("_law_mute", none), "_law_mute", "_law_mute", defArgs s__law_mute, defBody s__law_mute, defScope s__law_mute, [], []⟩
def d__law_set : He.DefD := ⟨("_law_set", none), "_law_set", "_law_set", defArgs s__law_set, defBody s__law_set, defScope s__law_set, [], []⟩
def d__law_drawn : He.DefD := ⟨("_law_drawn", none), "_law_drawn", "_law_drawn", defArgs s__law_drawn, defBody s__law_drawn, defScope s__law_drawn, [], []⟩
def d__law_made : He.DefD := ⟨("_law_made", none), "_law_made", "_law_made", defArgs s__law_made, defBody s__law_made, defScope s__law_made, [], []⟩
def d__law_known : He.DefD := ⟨("_law_known", none), "_law_known", "_law_known", defArgs s__law_known, defBody s__law_known, defScope s__law_known, [], []⟩
def d__law_some : He.DefD := ⟨("_law_some", none), "_law_some", "_law_some", defArgs s__law_some, defBody s__law_some, defScope s__law_some, [], []⟩
def d__law_class : He.DefD := ⟨("_law_class", none), "_law_class", "_law_class", defArgs s__law_class, defBody s__law_class, defScope s__law_class, [], []⟩
def d__law_put : He.DefD := ⟨("_law_put", none), "_law_put", "_law_put", defArgs s__law_put, defBody s__law_put, defScope s__law_put, [], []⟩
def d__law_classes : He.DefD := ⟨("_law_classes", none), "_law_classes", "_law_classes", defArgs s__law_classes, defBody s__law_classes, defScope s__law_classes, [], []⟩
def d__law_behind : He.DefD := ⟨("_law_behind", none), "_law_behind", "_law_behind", defArgs s__law_behind, defBody s__law_behind, defScope s__law_behind, [], []⟩
def d__law_long : He.DefD := ⟨("_law_long", none), "_law_long", "_law_long", defArgs s__law_long, defBody s__law_long, defScope s__law_long, [], []⟩
def d_law : He.DefD := ⟨("law", none), "law", "law", defArgs s_law, defBody s_law, defScope s_law, [], []⟩
def d_RI : He.DefD := ⟨("Rules", some "__init__"), "__init__", "Rules.__init__", defArgs s_Rules_u__init_u_, defBody s_Rules_u__init_u_, defScope s_Rules_u__init_u_, [], []⟩
def d_I_Classes : He.DefD := ⟨("Classes", some "__init__"), "__init__", "Classes.__init__", defArgs s_Classes_u__init_u_, defBody s_Classes_u__init_u_, defScope s_Classes_u__init_u_, [], []⟩
def d_Rules_u__len_u_ : He.DefD := ⟨("Rules", some "__len__"), "__len__", "Rules.__len__", defArgs s_Rules_u__len_u_, defBody s_Rules_u__len_u_, defScope s_Rules_u__len_u_, [], []⟩
def d_Classes_letter_steps : He.DefD := ⟨("Classes", some "letter_steps"), "letter_steps", "Classes.letter_steps", defArgs s_Classes_letter_steps, defBody s_Classes_letter_steps, defScope s_Classes_letter_steps, [], []⟩
def d_Classes_way : He.DefD := ⟨("Classes", some "way"), "way", "Classes.way", defArgs s_Classes_way, defBody s_Classes_way, defScope s_Classes_way, [], []⟩
def d_Classes_pump_on : He.DefD := ⟨("Classes", some "pump_on"), "pump_on", "Classes.pump_on", defArgs s_Classes_pump_on, defBody s_Classes_pump_on, defScope s_Classes_pump_on, [], []⟩
def hfn0 : List He.DefD := [d__wall, d_states_behind, d_reached, d_mute, d_check_full, d_text_class, d_class_of, d_longer_class, d_long_classes, d_are_letters, d_number_in, d_text_of, d_first_line, d_move_line, d_parts_in, d_is_integer, d_is_letter_of, d_is_move, d_is_row, d_steps_of]
def hfn1 : List He.DefD := [d_states_met, d_classes_of, d_least_rows, d_step_at, d_paired_steps, d_one_keys, d_check_letters, d__law_deck, d__law_draw, d__law_pick, d__law_moves, d__law_on, d__law_mute, d__law_set, d__law_drawn, d__law_made, d__law_known, d__law_some, d__law_class, d__law_put]
def hfn2 : List He.DefD := [d__law_classes, d__law_behind, d__law_long, d_law, d_RI, d_I_Classes, d_Rules_u__len_u_, d_Classes_letter_steps, d_Classes_way, d_Classes_pump_on]
def hfn : List He.DefD := hfn0 ++ hfn1 ++ hfn2
def hfa0 : List He.Fa := [.glo "_wall", .glo "states_behind", .glo "reached", .glo "mute", .glo "check_full", .glo "text_class", .glo "class_of", .glo "longer_class", .glo "long_classes", .glo "are_letters", .glo "number_in", .glo "text_of", .glo "first_line", .glo "move_line", .glo "parts_in", .glo "is_integer", .glo "is_letter_of", .glo "is_move", .glo "is_row", .glo "steps_of"]
def hfa1 : List He.Fa := [.glo "states_met", .glo "classes_of", .glo "least_rows", .glo "step_at", .glo "paired_steps", .glo "one_keys", .glo "check_letters", .glo "_law_deck", .glo "_law_draw", .glo "_law_pick", .glo "_law_moves", .glo "_law_on", .glo "_law_mute", .glo "_law_set", .glo "_law_drawn", .glo "_law_made", .glo "_law_known", .glo "_law_some", .glo "_law_class", .glo "_law_put"]
def hfa2 : List He.Fa := [.glo "_law_classes", .glo "_law_behind", .glo "_law_long", .glo "law", .free "Exception", .free "classmethod", .free "tuple", .free "all", .free "enumerate", .free "dict", .free "range", .free "sorted", .free "len", .free "isinstance", .free "str", .free "int", .free "list", .free "repr", .free "bool", .free "set"]
def hfa3 : List He.Fa := [.free "super", .free "zip", .str "RULES_WORD" "rules", .str "MOVE_WORD" "move", .str "BREAK" "\n", .str "BLANK" " ", .str "DIGITS" "0123456789", .int "MOST_DIGITS" (3), .int "FIRST_PARTS" (4), .int "MOVE_PARTS_ruletexts" (5), .str "LETTERS" "abcdefghijklmnopqrstuvwxyz", .int "MOST_STATES" (999), .int "MOVE_PARTS_rules" (3), .int "NOWHERE" (-1), .glo "Rules", .cls "Rules", .mkr "Rules", .noat "Rules" "heard", .noat "Rules" "written", .noat "Rules" "rows"]
def hfa4 : List He.Fa := [.noat "Rules" "steps", .meth "Rules" "__len__", .meth "Classes" "letter_steps", .meth "Classes" "way", .meth "Classes" "pump_on", .glo "Classes", .cls "Classes", .mkr "Classes", .noat "Classes" "letter_classes", .noat "Classes" "texts", .noat "Classes" "order", .noat "Classes" "pumps"]
def hfa : List He.Fa := hfa0 ++ hfa1 ++ hfa2 ++ hfa3 ++ hfa4
def hnm0 : List PySem.Str := ["_wall", "states_behind", "reached", "mute", "CaptionError", "BadRules", "BadText", "OtherLetters", "Mute", "check_full", "text_class", "class_of", "longer_class", "Classes", "long_classes", "RULES_WORD", "MOVE_WORD", "BREAK", "BLANK", "DIGITS"]
def hnm1 : List PySem.Str := ["MOST_DIGITS", "FIRST_PARTS", "MOVE_PARTS_ruletexts", "LETTERS", "are_letters", "number_in", "text_of", "first_line", "move_line", "parts_in", "MOST_STATES", "MOVE_PARTS_rules", "NOWHERE", "is_integer", "is_letter_of", "is_move", "is_row", "steps_of", "states_met", "classes_of"]
def hnm2 : List PySem.Str := ["least_rows", "step_at", "paired_steps", "one_keys", "check_letters", "Rules", "_law_deck", "_law_draw", "_law_pick", "_law_moves", "_law_on", "_law_mute", "_law_set", "_law_drawn", "_law_made", "_law_known", "_law_some", "_law_class", "_law_put", "_law_classes"]
def hnm3 : List PySem.Str := ["_law_behind", "_law_long"]
def hnm : List PySem.Str := hnm0 ++ hnm1 ++ hnm2 ++ hnm3
def hys : YsX := []
abbrev hR : PySem.W.OpenRow := PySem.W.OpenLaw.row PySem.Challenge.rw_pacehouse_k21_long_classes
def hkup (K : PySem.W.Frag) : Bool := true
def hex0 (K : PySem.W.Frag) : Bool := (insB K (He.ga K "Rules") && neB K (He.ga K "Rules")) && sysB K
def hex (K : PySem.W.Frag) : Bool := hex0 K && hkup K
abbrev hhk : PySem.W.Hook := hookY 7 hfa hfn hex hys
def hob (s : PySem.W.SharedT) : AlX := obsYG 7 hfa hfn hex hys (HandSHeadRun.getT s)
theorem hob_eq (s : PySem.W.SharedT) : hob s = hhk.obs s.abs := obsYG_eq (HandSHeadRun.getT_eq s)
theorem hrun (w : World) : HandSHeadRun.RunEq hR (PySem.W.view hR.prog [69]) hhk hob 20000 hnm w := by
  intro os
  kernel_rfl
end Pace
end
section
set_option Elab.async false
set_option linter.all false
set_option maxRecDepth 100000
set_option maxHeartbeats 4000000
namespace Pace
open PySem PySem.Spec PyProof.Rows L2 DL
/-- a move: heard letter, written letter (codes), state -/
structure Mv where
  h : Nat
  c : Nat
  t : Nat
  deriving DecidableEq
def Mv.d (m : Mv) : D := .tup [.str (sgn m.h), .str (sgn m.c), .int (m.t : Int)]
def rowD (r : List Mv) : D := .tup (r.map Mv.d)
def rowsD (rs : List (List Mv)) : D := .tup (rs.map rowD)
def natsD (ns : List Nat) : List D := ns.map fun (n : Nat) => D.int (n : Int)
structure Rul where
  heard : Str
  written : Str
  rows : List (List Mv)
def stepsD (rs : List (List Mv)) : D := .lst (rs.map fun r => .dT (r.map fun m => ([.inr (sgn m.h), .inr (sgn m.c)], .int (m.t : Int))))
def rulF (R : Rul) : List (Str × D) := [("heard", .str R.heard), ("written", .str R.written), ("rows", rowsD R.rows), ("steps", stepsD R.rows)]
def rulD (C : Addr) (R : Rul) : D := .obj C (rulF R)
theorem rulF_heard (R : Rul) : (rulF R).lookup ("heard" : Str) = some (.str R.heard) := rfl
theorem rulF_rows (R : Rul) : (rulF R).lookup ("rows" : Str) = some (rowsD R.rows) := rfl
/-- what Python's rules ask, as far as the walk needs it -/
structure Rul.Ok (R : Rul) : Prop where
  few : R.rows.length ≤ 1000
  at_ : ∀ r ∈ R.rows, r.length ≤ 1000 ∧ ∀ m ∈ r, m.t < R.rows.length
def hits (rs : List (List Mv)) (s c : Nat) : List Nat := ((rs.getD s []).filter fun m => m.h == c).map (·.t)
def nins (a : Nat) : List Nat → List Nat
  | [] => [a]
  | b :: l => if a ≤ b then a :: b :: l else b :: nins a l
def nsort : List Nat → List Nat
  | [] => []
  | a :: l => nins a (nsort l)
theorem nins_perm (a : Nat) : ∀ l : List Nat, (nins a l).Perm (a :: l)
  | [] => .refl _
  | b :: l => by
    unfold nins
    split
    · exact .refl _
    · exact ((nins_perm a l).cons b).trans (.swap a b l)
theorem nsort_perm : ∀ l : List Nat, (nsort l).Perm l
  | [] => .refl _
  | a :: l => (nins_perm a (nsort l)).trans ((nsort_perm l).cons a)
theorem nins_le (a : Nat) : ∀ l : List Nat, l.Pairwise (· ≤ ·) → (nins a l).Pairwise (· ≤ ·)
  | [], _ => by simp [nins]
  | b :: l, h => by
    unfold nins
    rw [List.pairwise_cons] at h
    split
    · rename_i hab
      refine List.pairwise_cons.mpr ⟨fun c hc => ?_, List.pairwise_cons.mpr h⟩
      rcases List.mem_cons.mp hc with rfl | hc
      · exact hab
      · have := h.1 c hc; omega
    · rename_i hab
      refine List.pairwise_cons.mpr ⟨fun c hc => ?_, nins_le a l h.2⟩
      rcases List.mem_cons.mp ((nins_perm a l).mem_iff.mp hc) with rfl | hc
      · omega
      · exact h.1 c hc
theorem nsort_le : ∀ l : List Nat, (nsort l).Pairwise (· ≤ ·)
  | [] => .nil
  | a :: l => nins_le a _ (nsort_le l)
/-- the states behind a letter -/
def behind (rs : List (List Mv)) (ss : List Nat) (c : Nat) : List Nat := nsort (firstsF (ss.flatMap fun s => hits rs s c))
theorem addF_lt {n : Nat} {ks : List Nat} {t : Nat} (h : ∀ k ∈ ks, k < n) (ht : t < n) : ∀ k ∈ addF ks t, k < n := by
  unfold addF
  split
  · exact h
  · intro k hk
    rcases List.mem_append.mp hk with hk | hk
    · exact h k hk
    · simp at hk; omega
/-- the pairs of the dict -/
def kds (ks : List Nat) : List (Key × D) := ks.map fun (t : Nat) => (.inl (t : Int), .bl true)
theorem kds_put (ks : List Nat) (t : Nat) : putD (kds ks) (.inl (t : Int)) (.bl true) = kds (addF ks t) := by
  have e : ((kds ks).any fun kv => decide (kv.1 = (Sum.inl (t : Int) : Key))) = decide (t ∈ ks) := by
    unfold kds
    rw [List.any_map]
    rw [Bool.eq_iff_iff]
    simp only [List.any_eq_true, Function.comp, decide_eq_true_eq]
    constructor
    · rintro ⟨x, hx, e⟩
      have e' : (x : Int) = (t : Int) := Sum.inl.inj e
      have : x = t := by omega
      exact this ▸ hx
    · intro h
      exact ⟨t, h, rfl⟩
  unfold putD addF
  rw [e]
  by_cases h : t ∈ ks
  · rw [if_pos (decide_eq_true h), if_pos h]
    unfold kds
    rw [List.map_map]
    apply List.map_congr_left
    intro x hx
    simp only [Function.comp]
    split
    · rfl
    · rfl
  · rw [if_neg (by simp [h]), if_neg h]
    simp [kds]
theorem kds_ints (ks : List Nat) : intKeys (kds ks) = some (ks.map fun (t : Nat) => (t : Int)) := by
  induction ks with
  | nil => rfl
  | cons t ks ih =>
    have : kds (t :: ks) = (.inl (t : Int), .bl true) :: kds ks := rfl
    rw [this]
    simp [intKeys, ih]
theorem isort_nat (ks : List Nat) : ((ks.map fun (t : Nat) => (t : Int)).mergeSort (· ≤ ·)).map D.int = natsD (nsort ks) := by
  have e : (nsort ks).map (fun (t : Nat) => (t : Int)) = (ks.map fun (t : Nat) => (t : Int)).mergeSort (· ≤ ·) := by
    refine isort_uniq ((nsort_perm ks).map _) ?_
    rw [List.pairwise_map]
    exact (nsort_le ks).imp fun h => by omega
  rw [← e, List.map_map]
  rfl
theorem nodup_lt_len {n : Nat} {ks : List Nat} (h : ks.Nodup) (hl : ∀ k ∈ ks, k < n) : ks.length ≤ n := by
  have := List.Nodup.length_le_of_subset h (l₂ := List.range n) (fun k hk => List.mem_range.mpr (hl k hk))
  simpa using this
theorem natsD_get {ns : List Nat} {i : Nat} {d : D} (h : (natsD ns)[i]? = some d) : ∃ n, ns[i]? = some n ∧ d = .int (n : Int) := by
  unfold natsD at h
  rw [List.getElem?_map] at h
  cases e : ns[i]? with
  | none => rw [e] at h; cases h
  | some n => rw [e] at h; cases h; exact ⟨n, rfl, rfl⟩
theorem sgn_inj {a b : Nat} (h : sgn a = sgn b) : a = b := by
  have : (sgn a).cps.toList = (sgn b).cps.toList := by rw [h]
  simpa [sgn] using this
theorem sgn_beq (a b : Nat) : (sgn a == sgn b) = (a == b) := by
  rw [Bool.eq_iff_iff]
  simp only [beq_iff_eq]
  exact ⟨sgn_inj, fun h => by rw [h]⟩
theorem hu100 {k : Nat} {A : Around} (hr : Room k A) : A.units + 100 < cLine := by have := hr.un; omega
end Pace
end
section
set_option Elab.async false
set_option linter.all false
set_option maxRecDepth 100000
set_option maxHeartbeats 4000000
namespace Pace
open PySem PySem.Spec PyProof.Rows L2 DL
theorem sz {n : Nat} (h : n ≤ 5000) : n ≤ sizeLine := by rw [sizeLine_eq]; omega
theorem szl {n : Nat} (h : n ≤ 5000) : n < sizeLine := by rw [sizeLine_eq]; omega
/-- what is reached by a speech -/
def run (rs : List (List Mv)) (ss : List Nat) (cs : List Nat) : List Nat := cs.foldl (behind rs) ss
theorem behind_mem {rs : List (List Mv)} {ss : List Nat} {c k : Nat} : k ∈ behind rs ss c ↔ ∃ s ∈ ss, ∃ m ∈ rs.getD s [], m.h = c ∧ m.t = k := by
  unfold behind
  rw [(nsort_perm _).mem_iff, firstsF_mem]
  simp [hits, and_assoc]
theorem behind_lt {rs : List (List Mv)} {n : Nat} (h : ∀ r ∈ rs, ∀ m ∈ r, m.t < n) {ss : List Nat} {c : Nat} : ∀ k ∈ behind rs ss c, k < n := by
  intro k hk
  obtain ⟨s, _, m, hm, _, rfl⟩ := behind_mem.mp hk
  cases e : rs[s]? with
  | none => simp [List.getD, e] at hm
  | some r =>
    simp [List.getD, e] at hm
    exact h r (List.mem_of_getElem? e) m hm
theorem lt_of_le_nd : ∀ {l : List Nat}, l.Pairwise (· ≤ ·) → l.Nodup → l.Pairwise (· < ·)
  | [], _, _ => .nil
  | a :: l, h, nd => by
    rw [List.pairwise_cons] at h
    rw [List.nodup_cons] at nd
    refine List.pairwise_cons.mpr ⟨fun b hb => ?_, lt_of_le_nd h.2 nd.2⟩
    have h1 := h.1 b hb
    have h2 : a ≠ b := fun e => nd.1 (e ▸ hb)
    omega
theorem behind_sorted {rs : List (List Mv)} {ss : List Nat} {c : Nat} : (behind rs ss c).Pairwise (· < ·) := by
  unfold behind
  refine lt_of_le_nd (nsort_le _) ?_
  exact (nsort_perm _).nodup_iff.mpr (firstsF_nodup _)
/-- the sets of numbers below n -/
def subs : Nat → List (List Nat)
  | 0 => [[]]
  | n + 1 => subs n ++ (subs n).map (· ++ [n])
theorem subs_len : ∀ n, (subs n).length = 2 ^ n
  | 0 => rfl
  | n + 1 => by simp [subs, subs_len n]; omega
theorem subs_mem : ∀ (n : Nat) (l : List Nat), l.Pairwise (· < ·) → (∀ k ∈ l, k < n) → l ∈ subs n
  | 0, l, _, h => by
    cases l with
    | nil => simp [subs]
    | cons a l => exact absurd (h a (by simp)) (by omega)
  | n + 1, l, hp, h => by
    rcases List.eq_nil_or_concat l with rfl | ⟨l', a, rfl⟩
    · exact List.mem_append.mpr (.inl (subs_mem n [] .nil (by simp)))
    · rw [List.concat_eq_append] at *
      rw [List.pairwise_append] at hp
      obtain ⟨h1, _, h3⟩ := hp
      have ha := h a (by simp)
      by_cases e : a = n
      · subst e
        refine List.mem_append.mpr (.inr (List.mem_map.mpr ⟨l', subs_mem a l' h1 fun k hk => h3 k hk a (by simp), rfl⟩))
      · refine List.mem_append.mpr (.inl (subs_mem n _ (List.pairwise_append.mpr ⟨h1, by simp, h3⟩) fun k hk => ?_))
        rcases List.mem_append.mp hk with hk | hk
        · have := h3 k hk a (by simp); omega
        · simp at hk; omega
theorem sets_len {ls : List (List Nat)} {n : Nat} (nd : ls.Nodup) (h : ∀ l ∈ ls, l.Pairwise (· < ·) ∧ ∀ k ∈ l, k < n) : ls.length ≤ 2 ^ n := by
  rw [← subs_len n]
  exact List.Nodup.length_le_of_subset nd fun l hl => subs_mem n l (h l hl).1 (h l hl).2
/-- sets met, each with its speech -/
abbrev Ord := List (List Nat × List Nat)
def stepL (rs : List (List Mv)) (here : List Nat × List Nat) : Ord → List Nat → List Nat ⊕ Ord
  | ord, [] => .inr ord
  | ord, c :: cs => if behind rs here.1 c = [] then .inl (here.2 ++ [c]) else if behind rs here.1 c ∈ ord.map (·.1) then stepL rs here ord cs else stepL rs here (ord ++ [(behind rs here.1 c, here.2 ++ [c])]) cs
theorem stepL_nil {rs : List (List Mv)} {here : List Nat × List Nat} {ord : Ord} : stepL rs here ord [] = .inr ord := rfl
theorem stepL_cons {rs : List (List Mv)} {here : List Nat × List Nat} {ord : Ord} {c : Nat} {cs : List Nat} : stepL rs here ord (c :: cs) = if behind rs here.1 c = [] then .inl (here.2 ++ [c]) else if behind rs here.1 c ∈ ord.map (·.1) then stepL rs here ord cs else stepL rs here (ord ++ [(behind rs here.1 c, here.2 ++ [c])]) cs := rfl
def bfs (rs : List (List Mv)) (hs : List Nat) : Nat → Nat → Ord → Option (List Nat)
  | 0, _, _ => none
  | f + 1, i, ord => match ord[i]? with
    | none => none
    | some here => match stepL rs here ord hs with
      | .inl p => some p
      | .inr ord' => bfs rs hs f (i + 1) ord'
def muteOf (rs : List (List Mv)) (hs : List Nat) : Option (List Nat) := bfs rs hs (2 ^ rs.length) 0 [([0], [])]
structure OrdOk (rs : List (List Mv)) (hs : List Nat) (ord : Ord) : Prop where
  nd : (ord.map (·.1)).Nodup
  st : ∀ x ∈ ord, x.1.Pairwise (· < ·) ∧ ∀ k ∈ x.1, k < rs.length
  ln : ∀ (i : Nat) (x : List Nat × List Nat), ord[i]? = some x → x.2.length ≤ i
  rn : ∀ x ∈ ord, run rs [0] x.2 = x.1 ∧ x.1 ≠ [] ∧ ∀ c ∈ x.2, c ∈ hs
theorem OrdOk.len {rs : List (List Mv)} {hs : List Nat} {ord : Ord} (h : OrdOk rs hs ord) : ord.length ≤ 2 ^ rs.length := by
  have := sets_len (ls := ord.map (·.1)) (n := rs.length) h.nd fun l hl => by
    obtain ⟨x, hx, rfl⟩ := List.mem_map.mp hl
    exact h.st x hx
  simpa using this
theorem OrdOk.start {rs : List (List Mv)} {hs : List Nat} (h : 0 < rs.length) : OrdOk rs hs [([0], [])] where
  nd := by simp
  st := fun x hx => by simp at hx; subst hx; exact ⟨by simp, by simpa using h⟩
  ln := fun i x hx => by
    cases i with
    | zero => simp at hx; subst hx; simp
    | succ i => simp at hx
  rn := fun x hx => by simp at hx; subst hx; exact ⟨rfl, by simp, by simp⟩
theorem run_lt {rs : List (List Mv)} {n : Nat} (h : ∀ r ∈ rs, ∀ m ∈ r, m.t < n) {ss : List Nat} (hs : ∀ k ∈ ss, k < n) : ∀ {cs : List Nat}, ∀ k ∈ run rs ss cs, k < n := by
  intro cs
  rcases List.eq_nil_or_concat cs with rfl | ⟨l, a, rfl⟩
  · exact hs
  · intro k hk
    rw [List.concat_eq_append] at hk
    have : run rs ss (l ++ [a]) = behind rs (run rs ss l) a := by simp [run]
    rw [this] at hk
    exact behind_lt h k hk
/-- a text of codes -/
def strOf (cs : List Nat) : Str := ⟨cs.toArray⟩
theorem strOf_app (a b : List Nat) : strOf a ++ strOf b = strOf (a ++ b) := by
  show (⟨a.toArray ++ b.toArray⟩ : Str) = ⟨(a ++ b).toArray⟩
  simp
theorem strOf_sgn (a : List Nat) (c : Nat) : strOf a ++ sgn c = strOf (a ++ [c]) := strOf_app a [c]
theorem strOf_len (a : List Nat) : (strOf a).length = a.length := by
  show a.toArray.size = _
  simp
theorem strOf_inj {a b : List Nat} (h : strOf a = strOf b) : a = b := by
  have : (strOf a).cps.toList = (strOf b).cps.toList := by rw [h]
  simpa [strOf] using this
theorem signs_get {cs : List Nat} {i : Nat} {d : D} (h : (DL.signs (strOf cs))[i]? = some d) : ∃ c, cs[i]? = some c ∧ d = .str (sgn c) := by
  unfold DL.signs strOf at h
  rw [List.getElem?_map] at h
  simp only at h
  cases e : cs[i]? with
  | none => rw [e] at h; cases h
  | some c => rw [e] at h; cases h; exact ⟨c, rfl, rfl⟩
theorem signs_len (cs : List Nat) : (DL.signs (strOf cs)).length = cs.length := by simp [DL.signs, strOf]
theorem run_snoc {rs : List (List Mv)} {ss cs : List Nat} {c : Nat} : run rs ss (cs ++ [c]) = behind rs (run rs ss cs) c := by simp [run]
theorem OrdOk.add {rs : List (List Mv)} {hs : List Nat} {ord : Ord} (h : OrdOk rs hs ord) (tl : ∀ r ∈ rs, ∀ m ∈ r, m.t < rs.length) {i : Nat} {here : List Nat × List Nat} (hi : ord[i]? = some here) {c : Nat} (hc : c ∈ hs) (h1 : behind rs here.1 c ≠ []) (h2 : behind rs here.1 c ∉ ord.map (·.1)) :
    OrdOk rs hs (ord ++ [(behind rs here.1 c, here.2 ++ [c])]) where
  nd := by
    rw [List.map_append, List.nodup_append]
    refine ⟨h.nd, by simp, fun a ha b hb => ?_⟩
    simp at hb
    subst hb
    exact fun e => h2 (e ▸ ha)
  st := fun x hx => by
    rcases List.mem_append.mp hx with hx | hx
    · exact h.st x hx
    · simp at hx; subst hx; exact ⟨behind_sorted, behind_lt tl⟩
  ln := fun j x hx => by
    by_cases hj : j < ord.length
    · rw [List.getElem?_append_left hj] at hx; exact h.ln j x hx
    · rw [List.getElem?_append_right (by omega)] at hx
      have hj' : j - ord.length = 0 := by
        cases e : j - ord.length with
        | zero => rfl
        | succ k => rw [e] at hx; simp at hx
      rw [hj'] at hx
      simp at hx
      subst hx
      have := h.ln i here hi
      have := (List.getElem?_eq_some_iff.mp hi).1
      simp; omega
  rn := fun x hx => by
    rcases List.mem_append.mp hx with hx | hx
    · exact h.rn x hx
    · simp at hx; subst hx
      obtain ⟨a, b, d⟩ := h.rn here (List.mem_of_getElem? hi)
      refine ⟨by rw [run_snoc, a], h1, fun e he => ?_⟩
      rcases List.mem_append.mp he with he | he
      · exact d e he
      · simp at he; subst he; exact hc
/-- a speech that ends the way -/
def MutP (rs : List (List Mv)) (hs : List Nat) (p : List Nat) : Prop := ∃ q c, p = q ++ [c] ∧ c ∈ hs ∧ (∀ x ∈ q, x ∈ hs) ∧ run rs [0] q ≠ [] ∧ run rs [0] p = [] ∧ q.length ≤ 2 ^ rs.length
theorem stepL_ok {rs : List (List Mv)} {hs : List Nat} (tl : ∀ r ∈ rs, ∀ m ∈ r, m.t < rs.length) {i : Nat} {here : List Nat × List Nat} : ∀ (cs : List Nat) (ord : Ord), (∀ c ∈ cs, c ∈ hs) → OrdOk rs hs ord → ord[i]? = some here →
    (∀ p, stepL rs here ord cs = .inl p → MutP rs hs p) ∧ ∀ ord', stepL rs here ord cs = .inr ord' → OrdOk rs hs ord'
  | [], ord, _, h, hi => ⟨fun p e => by simp [stepL] at e, fun o e => by simp [stepL] at e; exact e ▸ h⟩
  | c :: cs, ord, hc, h, hi => by
    unfold stepL
    obtain ⟨a, b, d⟩ := h.rn here (List.mem_of_getElem? hi)
    split
    · rename_i e
      refine ⟨fun p q => ?_, fun o q => by cases q⟩
      cases q
      exact ⟨here.2, c, rfl, hc c (by simp), d, by rw [a]; exact b, by rw [run_snoc, a]; exact e, by have h1 := h.ln i here hi; have h2 := h.len; have h3 := (List.getElem?_eq_some_iff.mp hi).1; omega⟩
    · rename_i e
      split
      · exact stepL_ok tl cs ord (fun x hx => hc x (by simp [hx])) h hi
      · rename_i e2
        refine stepL_ok (i := i) tl cs _ (fun x hx => hc x (by simp [hx])) (h.add tl hi (hc c (by simp)) e e2) ?_
        rw [List.getElem?_append_left (List.getElem?_eq_some_iff.mp hi).1]
        exact hi
theorem bfs_some {rs : List (List Mv)} {hs : List Nat} (tl : ∀ r ∈ rs, ∀ m ∈ r, m.t < rs.length) : ∀ (f i : Nat) (ord : Ord) (p : List Nat), OrdOk rs hs ord → bfs rs hs f i ord = some p → MutP rs hs p
  | 0, _, _, _, _, e => by simp [bfs] at e
  | f + 1, i, ord, p, h, e => by
    unfold bfs at e
    split at e
    · cases e
    · rename_i here hi
      have hs2 := stepL_ok (hs := hs) tl hs ord (fun _ z => z) h hi
      split at e
      · rename_i p' e'
        cases e
        exact hs2.1 _ e'
      · rename_i o' e'
        exact bfs_some tl f (i + 1) o' p (hs2.2 _ e') e
theorem muteOf_some {rs : List (List Mv)} {hs : List Nat} (tl : ∀ r ∈ rs, ∀ m ∈ r, m.t < rs.length) (h0 : 0 < rs.length) {p : List Nat} (h : muteOf rs hs = some p) : MutP rs hs p := bfs_some tl _ _ _ _ (.start h0) h
/-- the two things that mute keeps -/
def ordL (ord : Ord) : List D := ord.map fun x => .tup (natsD x.1)
def ordT (ord : Ord) : List (List Key × D) := ord.map fun x => (x.1.map fun (n : Nat) => (.inl (n : Int)), .str (strOf x.2))
theorem natsD_keys : ∀ ns : List Nat, D.keys (natsD ns) = some (ns.map fun (n : Nat) => (.inl (n : Int)))
  | [] => rfl
  | n :: ns => by
    show D.keys (.int (n : Int) :: natsD ns) = _
    simp [D.keys, D.key, natsD_keys ns]
theorem nkey_inj {a b : List Nat} (h : (a.map fun (n : Nat) => (Sum.inl (n : Int) : Key)) = b.map fun (n : Nat) => (.inl (n : Int))) : a = b := by
  refine List.map_inj_right (f := fun (n : Nat) => (Sum.inl (n : Int) : Key)) (fun x y e => ?_) |>.mp h
  have : (x : Int) = (y : Int) := Sum.inl.inj e
  omega
theorem natsD_inj {a b : List Nat} (h : natsD a = natsD b) : a = b := by
  refine List.map_inj_right (f := fun (n : Nat) => D.int (n : Int)) (fun x y e => ?_) |>.mp h
  have : (x : Int) = (y : Int) := D.int.inj e
  omega
theorem natsD_si (ns : List Nat) : D.sis (natsD ns) = true := by
  rw [sis_all]
  intro x hx
  obtain ⟨n, _, rfl⟩ := List.mem_map.mp hx
  rfl
theorem natsD_dps (ns : List Nat) : D.dps (natsD ns) ≤ 0 := dps_le fun x hx => by
  obtain ⟨n, _, rfl⟩ := List.mem_map.mp hx
  simp [D.dp]
theorem natsD_eqv (a b : List Nat) : D.eqv (.tup (natsD a)) (.tup (natsD b)) = decide (a = b) := by
  rw [Bool.eq_iff_iff, eqv_si (x := .tup (natsD a)) (y := .tup (natsD b)) (natsD_si a) (natsD_si b)]
  simp only [D.tup.injEq, decide_eq_true_eq]
  exact ⟨natsD_inj, fun e => by rw [e]⟩
theorem natsD_okE (a b : List Nat) : okE (.tup (natsD a)) (.tup (natsD b)) = true := okE_si (natsD_si a) (natsD_si b) (by have := natsD_dps a; simp only [D.dp]; omega)
theorem natsD_eqvL (a b : List Nat) : D.eqv (.lst (natsD a)) (.lst (natsD b)) = decide (a = b) := by
  rw [Bool.eq_iff_iff, eqv_si (x := .lst (natsD a)) (y := .lst (natsD b)) (natsD_si a) (natsD_si b)]
  simp only [D.lst.injEq, decide_eq_true_eq]
  exact ⟨natsD_inj, fun e => by rw [e]⟩
theorem natsD_okEL (a b : List Nat) : okE (.lst (natsD a)) (.lst (natsD b)) = true := okE_si (natsD_si a) (natsD_si b) (by have := natsD_dps a; simp only [D.dp]; omega)
theorem find_key {β : Type} {f : List Nat × List Nat → β} {ord : Ord} {l : List Nat} (h : l ∉ ord.map (·.1)) : (ord.map fun x => ((x.1.map fun (n : Nat) => (Sum.inl (n : Int) : Key)), f x)).find? (fun kv => decide (kv.1 = l.map fun (n : Nat) => (.inl (n : Int)))) = none := by
  rw [List.find?_eq_none]
  intro x hx
  obtain ⟨y, hy, rfl⟩ := List.mem_map.mp hx
  simp only [decide_eq_true_eq]
  intro e
  exact h (nkey_inj e ▸ List.mem_map.mpr ⟨y, hy, rfl⟩)
theorem val_no {f : List Nat × List Nat → D} {ord : Ord} {l : List Nat} (h : l ∉ ord.map (·.1)) : valD (ord.map fun x => ((x.1.map fun (n : Nat) => (Sum.inl (n : Int) : Key)), f x)) (l.map fun (n : Nat) => (.inl (n : Int))) = none := by
  unfold valD
  rw [find_key h]
  rfl
theorem val_at {f : List Nat × List Nat → D} : ∀ {ord : Ord} {i : Nat} {x : List Nat × List Nat}, (ord.map (·.1)).Nodup → ord[i]? = some x → valD (ord.map fun x => ((x.1.map fun (n : Nat) => (Sum.inl (n : Int) : Key)), f x)) (x.1.map fun (n : Nat) => (.inl (n : Int))) = some (f x)
  | [], _, _, _, h => by simp at h
  | y :: ord, i, x, nd, h => by
    rw [List.map_cons, List.nodup_cons] at nd
    cases i with
    | zero =>
      simp at h; subst h
      simp [valD]
    | succ i =>
      simp at h
      have hne : ¬ ((y.1.map fun (n : Nat) => (Sum.inl (n : Int) : Key)) = x.1.map fun (n : Nat) => (.inl (n : Int))) := fun e => nd.1 (nkey_inj e ▸ List.mem_map.mpr ⟨x, List.mem_of_getElem? h, rfl⟩)
      have ih := val_at (f := f) nd.2 h
      unfold valD at ih ⊢
      rw [List.map_cons, List.find?_cons]
      simp only [hne, decide_false]
      exact ih
theorem val_isSome {f : List Nat × List Nat → D} {ord : Ord} {l : List Nat} (nd : (ord.map (·.1)).Nodup) : (valD (ord.map fun x => ((x.1.map fun (n : Nat) => (Sum.inl (n : Int) : Key)), f x)) (l.map fun (n : Nat) => (.inl (n : Int)))).isSome = decide (l ∈ ord.map (·.1)) := by
  by_cases h : l ∈ ord.map (·.1)
  · obtain ⟨x, hx, rfl⟩ := List.mem_map.mp h
    obtain ⟨i, hi⟩ := List.mem_iff_getElem?.mp hx
    rw [val_at nd hi]
    simp [h]
  · rw [val_no h]; simp [h]
theorem put_new {κ : Type} [DecidableEq κ] {kds : List (κ × D)} {k : κ} {d : D} (h : valD kds k = none) : putD kds k d = kds ++ [(k, d)] := by
  unfold putD
  rw [if_neg]
  intro z
  unfold valD at h
  rw [Option.map_eq_none_iff, List.find?_eq_none] at h
  rw [List.any_eq_true] at z
  obtain ⟨x, hx, e⟩ := z
  exact h x hx e
theorem natsD_eqv0 (a : List Nat) : D.eqv (.tup (natsD a)) (.tup []) = decide (a = []) := natsD_eqv a []
theorem natsD_okE0 (a : List Nat) : okE (.tup (natsD a)) (.tup []) = true := natsD_okE a []
theorem ordL_at {ord : Ord} {i : Nat} {x : List Nat × List Nat} (h : ord[i]? = some x) : atI (ordL ord) (i : Int) = some (.tup (natsD x.1)) := atI_nat (by rw [ordL, List.getElem?_map, h]; rfl)
theorem ordL_len (ord : Ord) : (ordL ord).length = ord.length := by simp [ordL]
theorem ordT_len (ord : Ord) : (ordT ord).length = ord.length := by simp [ordT]
theorem ordT_at {ord : Ord} {i : Nat} {x : List Nat × List Nat} (nd : (ord.map (·.1)).Nodup) (h : ord[i]? = some x) : valD (ordT ord) (x.1.map fun (n : Nat) => (.inl (n : Int))) = some (.str (strOf x.2)) := val_at (f := fun x => .str (strOf x.2)) nd h
theorem ordT_is {ord : Ord} {l : List Nat} (nd : (ord.map (·.1)).Nodup) : (valD (ordT ord) (l.map fun (n : Nat) => (.inl (n : Int)))).isSome = decide (l ∈ ord.map (·.1)) := val_isSome (f := fun x => .str (strOf x.2)) nd
theorem ordT_put {ord : Ord} {l p : List Nat} (h : l ∉ ord.map (·.1)) : putD (ordT ord) (l.map fun (n : Nat) => (.inl (n : Int))) (.str (strOf p)) = ordT (ord ++ [(l, p)]) := by
  have h1 : valD (ordT ord) (l.map fun (n : Nat) => (.inl (n : Int))) = none := val_no (f := fun x => .str (strOf x.2)) h
  rw [put_new h1]
  simp [ordT]
theorem ordL_put {ord : Ord} {l p : List Nat} : ordL ord ++ [.tup (natsD l)] = ordL (ord ++ [(l, p)]) := by simp [ordL]
end Pace
end
section
set_option Elab.async false
set_option linter.all false
set_option maxRecDepth 100000
set_option maxHeartbeats 4000000
namespace Pace
open PySem PySem.Spec PyProof.Rows L2 DL
theorem strIn_sgn (c : Nat) (a : List Nat) : strIn (sgn c) (strOf a) = decide (c ∈ a) := by
  exact (StrLaws.found_one (strOf a) c).trans (decide_eq_decide.mpr (by simp [strOf]))
theorem cut_last {α : Type} (xs : List α) : DL.cutD xs none (some (-1)) = xs.dropLast := by
  unfold DL.cutD
  rw [HT.sIx_none, List.drop_zero, Nat.sub_zero, List.dropLast_eq_take]
  congr 1
  show (if (-1 : Int) < 0 then ((-1 : Int) + (xs.length : Int)).toNat else min (-1 : Int).toNat xs.length) = _
  rw [if_pos (by decide)]
  omega
theorem cut_tail {α : Type} (xs : List α) : DL.cutD xs (some 1) none = xs.tail := by
  unfold DL.cutD
  have e : HT.sIx xs.length 0 (some 1) = min 1 xs.length := HT.sIx_nat xs.length 0 1
  rw [HT.sIx_none, e]
  cases xs with
  | nil => rfl
  | cons x xs =>
    have : min 1 (x :: xs).length = 1 := by simp
    rw [this]
    simp
theorem cutS_strOf (cs : List Nat) (lo hi : Option Int) : cutS (strOf cs) lo hi = strOf (DL.cutD cs lo hi) := by
  unfold cutS DL.cutD
  rw [strOf_len]
  simp [strOf]
def abc : List Nat := [97, 98, 99, 100, 101, 102, 103, 104, 105, 106, 107, 108, 109, 110, 111, 112, 113, 114, 115, 116, 117, 118, 119, 120, 121, 122]
theorem abc_str : (Str.ofString "abcdefghijklmnopqrstuvwxyz") = strOf abc := by decide +kernel
/-- neighbours -/
def nbr {α : Type} (r : α → α → Bool) (l : List α) : Bool := (List.zipWith r l.dropLast l.tail).all id
def lettersB (cs : List Nat) : Bool := !cs.isEmpty && cs.all (fun c => decide (c ∈ abc)) && nbr (fun a b => decide (a < b)) cs
def mvB (hs ws : List Nat) (n : Nat) (m : Mv) : Bool := decide (m.h ∈ hs) && decide (m.c ∈ ws) && decide (m.t < n)
def mvLt (a b : Mv) : Bool := decide (a.h < b.h ∨ (a.h = b.h ∧ a.c < b.c))
def rowB (hs ws : List Nat) (n : Nat) (r : List Mv) : Bool := r.all (mvB hs ws n) && nbr mvLt r
theorem sgn_lt (a b : Nat) : D.lt (.str (sgn a)) (.str (sgn b)) = decide (a < b) := by
  rw [DL.lt_str]
  refine decide_eq_decide.mpr ?_
  simp [sgn, List.cons_lt_cons_iff]
theorem mv_lt (a b : Mv) : D.lt (.tup [.str (sgn a.h), .str (sgn a.c)]) (.tup [.str (sgn b.h), .str (sgn b.c)]) = mvLt a b := by
  have e : D.lt (.tup [.str (sgn a.h), .str (sgn a.c)]) (.tup [.str (sgn b.h), .str (sgn b.c)]) = PySem.W.dataLt (.tuple [.str (sgn a.h), .str (sgn a.c)]) (.tuple [.str (sgn b.h), .str (sgn b.c)]) := rfl
  rw [e, PySem.W.dataLt_pair rfl rfl]
  have e1 : ∀ x y : Nat, PyData.eqv (.str (sgn x)) (.str (sgn y)) = (x == y) := fun x y => by
    have := eqv_str (sgn x) (sgn y)
    rw [sgn_beq] at this
    exact this
  have e2 : ∀ x y : Nat, PySem.W.dataLt (.str (sgn x)) (.str (sgn y)) = decide (x < y) := fun x y => sgn_lt x y
  rw [e1, e1, e2, e2]
  unfold mvLt
  by_cases h : a.h = b.h
  · rw [if_pos (by simp [h])]
    by_cases h2 : a.c = b.c
    · rw [if_pos (by simp [h2])]; simp [h, h2]
    · rw [if_neg (by simp [h2])]; simp [h]
  · rw [if_neg (by simp [h])]; simp [h]
theorem mv_okL (a b : Mv) : okL (.tup [.str (sgn a.h), .str (sgn a.c)]) (.tup [.str (sgn b.h), .str (sgn b.c)]) = true := rfl
theorem str_nil : Str.ofString "" = strOf [] := by decide +kernel
theorem mv0 (m : Mv) : D.item (.tup [.str (sgn m.h), .str (sgn m.c), .int (m.t : Int)]) (.int 0) = some (.str (sgn m.h)) := rfl
theorem mv1 (m : Mv) : D.item (.tup [.str (sgn m.h), .str (sgn m.c), .int (m.t : Int)]) (.int 1) = some (.str (sgn m.c)) := rfl
theorem mv2 (m : Mv) : D.item (.tup [.str (sgn m.h), .str (sgn m.c), .int (m.t : Int)]) (.int 2) = some (.int (m.t : Int)) := rfl
theorem mv_cut (m : Mv) : DL.cutD [.str (sgn m.h), .str (sgn m.c), .int (m.t : Int)] none (some 2) = [D.str (sgn m.h), .str (sgn m.c)] := rfl
theorem nbr_cons {α : Type} (r : α → α → Bool) (a b : α) (l : List α) : nbr r (a :: b :: l) = (r a b && nbr r (b :: l)) := by
  unfold nbr
  simp [List.dropLast]
theorem nbr_pair {α : Type} {r : α → α → Bool} (tr : ∀ a b c, r a b = true → r b c = true → r a c = true) : ∀ l : List α, nbr r l = true → l.Pairwise fun a b => r a b = true
  | [], _ => .nil
  | [a], _ => by simp
  | a :: b :: l, h => by
    rw [nbr_cons, Bool.and_eq_true] at h
    have ih := nbr_pair tr (b :: l) h.2
    refine List.pairwise_cons.mpr ⟨fun c hc => ?_, ih⟩
    rcases List.mem_cons.mp hc with rfl | hc
    · exact h.1
    · exact tr a b c h.1 ((List.pairwise_cons.mp ih).1 c hc)
theorem mvLt_tr (a b c : Mv) (h1 : mvLt a b = true) (h2 : mvLt b c = true) : mvLt a c = true := by
  unfold mvLt at *
  simp only [decide_eq_true_eq] at *
  omega
/-- a row's keys -/
def mvK (m : Mv) : List Key × D := ([.inr (sgn m.h), .inr (sgn m.c)], .int (m.t : Int))
theorem mvK_ne {a b : Mv} (h : mvLt a b = true) : (mvK a).1 ≠ (mvK b).1 := by
  intro e
  simp only [mvK, List.cons.injEq, Sum.inr.injEq, and_true] at e
  have h1 := sgn_inj e.1
  have h2 := sgn_inj e.2
  unfold mvLt at h
  simp only [decide_eq_true_eq] at h
  omega
theorem merge_row : ∀ (r : List Mv) (acc : List (List Key × D)), (∀ m ∈ r, ∀ x ∈ acc, x.1 ≠ (mvK m).1) → r.Pairwise (fun a b => mvLt a b = true) → mergeDT acc (r.map mvK) = acc ++ r.map mvK
  | [], acc, _, _ => by simp [mergeDT]
  | m :: r, acc, h, hp => by
    rw [List.pairwise_cons] at hp
    have hv : valD acc (mvK m).1 = none := by
      unfold valD
      rw [Option.map_eq_none_iff, List.find?_eq_none]
      intro x hx
      simpa using h m (by simp) x hx
    show mergeDT (putD acc (mvK m).1 (mvK m).2) (r.map mvK) = _
    rw [put_new hv, merge_row r _ (fun m' hm' x hx => ?_) hp.2]
    · simp
    · rcases List.mem_append.mp hx with hx | hx
      · exact h m' (by simp [hm']) x hx
      · simp at hx; subst hx
        exact mvK_ne (hp.1 m' hm')
theorem merge_rowB {hs ws : List Nat} {n : Nat} {r : List Mv} (h : rowB hs ws n r = true) : mergeDT [] (r.map mvK) = r.map mvK := by
  unfold rowB at h
  rw [Bool.and_eq_true] at h
  have := merge_row r [] (fun _ _ x hx => by simp at hx) (nbr_pair mvLt_tr r h.2)
  simpa using this
theorem prsT_row : ∀ r : List Mv, prsT (r.map fun m => .tup [.tup [.str (sgn m.h), .str (sgn m.c)], .int (m.t : Int)]) = some (r.map mvK)
  | [] => rfl
  | m :: r => by
    simp only [List.map_cons, prsT, D.keys, D.key, prsT_row r]
    rfl
/-- rules that Rules takes -/
structure RulV (hs ws : List Nat) (rs : List (List Mv)) : Prop where
  lh : lettersB hs = true
  lw : lettersB ws = true
  sh : hs.length ≤ 1000
  sw : ws.length ≤ 1000
  n1 : 1 ≤ rs.length
  n2 : rs.length ≤ 999
  row : ∀ r ∈ rs, rowB hs ws rs.length r = true ∧ r.length ≤ 1000
def mkR (hs ws : List Nat) (rs : List (List Mv)) : Rul := ⟨strOf hs, strOf ws, rs⟩
theorem RulV.ok {hs ws : List Nat} {rs : List (List Mv)} (h : RulV hs ws rs) : (mkR hs ws rs).Ok where
  few := by have := h.n2; show rs.length ≤ 1000; omega
  at_ := fun r hr => by
    obtain ⟨a, b⟩ := h.row r hr
    refine ⟨b, fun m hm => ?_⟩
    unfold rowB at a
    rw [Bool.and_eq_true, List.all_eq_true] at a
    have := a.1 m hm
    unfold mvB at this
    simp only [Bool.and_eq_true, decide_eq_true_eq] at this
    exact this.2
theorem pf1 (a : D) : putFD "heard" a [] = [(("heard" : Str), a)] := rfl
theorem pf2 (a b : D) : putFD "written" b [(("heard" : Str), a)] = [(("heard" : Str), a), (("written" : Str), b)] := rfl
theorem pf3 (a b c : D) : putFD "rows" c [(("heard" : Str), a), (("written" : Str), b)] = [(("heard" : Str), a), (("written" : Str), b), (("rows" : Str), c)] := rfl
theorem pf4 (a b c d : D) : putFD "steps" d [(("heard" : Str), a), (("written" : Str), b), (("rows" : Str), c)] = [(("heard" : Str), a), (("written" : Str), b), (("rows" : Str), c), (("steps" : Str), d)] := rfl
end Pace
end
section
set_option Elab.async false
set_option linter.all false
set_option maxRecDepth 100000
set_option maxHeartbeats 4000000
namespace Pace
open PySem PySem.Spec PyProof.Rows L2 DL
def wD (hs ws : List Nat) (rs : List (List Mv)) : D := .dK [(.inr "heard", .str (strOf hs)), (.inr "written", .str (strOf ws)), (.inr "rows", rowsD rs)]
theorem wD_cur (G : GH) (hs ws : List Nat) (rs : List (List Mv)) : D.cur G (wD hs ws rs) = wD hs ws rs := rfl
theorem wD_heard (hs ws : List Nat) (rs : List (List Mv)) : D.item (wD hs ws rs) (.str "heard") = some (.str (strOf hs)) := rfl
theorem wD_written (hs ws : List Nat) (rs : List (List Mv)) : D.item (wD hs ws rs) (.str "written") = some (.str (strOf ws)) := rfl
theorem wD_rows (hs ws : List Nat) (rs : List (List Mv)) : D.item (wD hs ws rs) (.str "rows") = some (rowsD rs) := rfl
theorem rowsD_cur (G : GH) (rs : List (List Mv)) : D.cur G (rowsD rs) = rowsD rs := rfl
theorem rowsD_at {rs : List (List Mv)} {i : Nat} {r : List Mv} (h : rs[i]? = some r) : D.item (rowsD rs) (.int (i : Int)) = some (rowD r) := atI_nat (by rw [List.getElem?_map, h]; rfl)
/-- a move without what is heard -/
def ctD (m : Mv) : D := .tup [.str (sgn m.c), .int (m.t : Int)]
/-- few enough for the set of what is reached -/
structure Few (rs : List (List Mv)) : Prop where
  few : ∃ B, (∀ r ∈ rs, r.length ≤ B) ∧ rs.length * B < 64
theorem flat_len {α β : Type} (f : α → List β) (B : Nat) : ∀ l : List α, (∀ a ∈ l, (f a).length ≤ B) → (l.flatMap f).length ≤ l.length * B
  | [], _ => by simp
  | a :: l, h => by
    have h1 := h a (by simp)
    have h2 := flat_len f B l fun b hb => h b (by simp [hb])
    simp only [List.flatMap_cons, List.length_append, List.length_cons]
    rw [Nat.add_mul]
    omega
theorem hits_len {rs : List (List Mv)} {B : Nat} (h : ∀ r ∈ rs, r.length ≤ B) (s c : Nat) : (hits rs s c).length ≤ B := by
  unfold hits
  rw [List.length_map]
  refine Nat.le_trans (List.length_filter_le _ _) ?_
  cases e : rs[s]? with
  | none => simp [List.getD, e]
  | some r => simpa [List.getD, e] using h r (List.mem_of_getElem? e)
theorem Few.len {rs : List (List Mv)} (h : Few rs) {ss : List Nat} (nd : ss.Nodup) (hl : ∀ s ∈ ss, s < rs.length) (c : Nat) : (ss.flatMap fun s => hits rs s c).length < 64 := by
  obtain ⟨B, h1, h2⟩ := h.few
  have h3 := flat_len (fun s => hits rs s c) B ss fun s _ => hits_len h1 s c
  have h4 := nodup_lt_len nd hl
  have h5 := Nat.mul_le_mul_right B h4
  omega
theorem isort1_nat (ts : List Nat) : (isort1 (ts.map fun (t : Nat) => (t : Int))).map D.int = natsD (nsort (firstsF ts)) := by
  have e : firstsF (ts.map fun (t : Nat) => (t : Int)) = (firstsF ts).map fun (t : Nat) => (t : Int) := by
    have aux : ∀ (l acc : List Nat), (l.map fun (t : Nat) => (t : Int)).foldl addF (acc.map fun (t : Nat) => (t : Int)) = (l.foldl addF acc).map fun (t : Nat) => (t : Int) := by
      intro l
      induction l with
      | nil => intro acc; rfl
      | cons t l ih =>
        intro acc
        rw [List.map_cons, List.foldl_cons, List.foldl_cons, ← ih]
        congr 1
        unfold addF
        have : ((t : Int) ∈ acc.map fun (t : Nat) => (t : Int)) ↔ t ∈ acc := by
          rw [List.mem_map]
          constructor
          · rintro ⟨a, ha, e⟩
            have : a = t := by omega
            exact this ▸ ha
          · exact fun h => ⟨t, h, rfl⟩
        by_cases h : t ∈ acc
        · rw [if_pos (this.mpr h), if_pos h]
        · rw [if_neg (fun z => h (this.mp z)), if_neg h]; simp
    exact aux ts []
  unfold isort1
  rw [e, isort_nat]
theorem intsD_nats (ts : List Nat) : intsD (natsD ts) = some (ts.map fun (t : Nat) => (t : Int)) := by
  have := intsD_map (ts.map fun (t : Nat) => (t : Int))
  rw [List.map_map] at this
  exact this
theorem behind_nodup {rs : List (List Mv)} {ss : List Nat} {c : Nat} : (behind rs ss c).Nodup := behind_sorted.imp fun h => by omega
theorem run_nodup {rs : List (List Mv)} {ss : List Nat} (h : ss.Nodup) : ∀ {cs : List Nat}, (run rs ss cs).Nodup := by
  intro cs
  rcases List.eq_nil_or_concat cs with rfl | ⟨l, a, rfl⟩
  · exact h
  · rw [List.concat_eq_append, run_snoc]; exact behind_nodup
def ordLw (ord : Ord) : List D := ord.map fun x => .tup [.lst (natsD x.1), .str (strOf x.2)]
def ordTw (ord : Ord) : List (List Key × D) := ord.map fun x => (x.1.map fun (n : Nat) => (.inl (n : Int)), .bl true)
theorem ordLw_at {ord : Ord} {i : Nat} {x : List Nat × List Nat} (h : ord[i]? = some x) : atI (ordLw ord) (i : Int) = some (.tup [.lst (natsD x.1), .str (strOf x.2)]) := atI_nat (by rw [ordLw, List.getElem?_map, h]; rfl)
theorem ordLw_len (ord : Ord) : (ordLw ord).length = ord.length := by simp [ordLw]
theorem ordTw_len (ord : Ord) : (ordTw ord).length = ord.length := by simp [ordTw]
theorem ordTw_is {ord : Ord} {l : List Nat} (nd : (ord.map (·.1)).Nodup) : (valD (ordTw ord) (l.map fun (n : Nat) => (.inl (n : Int)))).isSome = decide (l ∈ ord.map (·.1)) := val_isSome (f := fun _ => .bl true) nd
theorem ordTw_put {ord : Ord} {l p : List Nat} (h : l ∉ ord.map (·.1)) : putD (ordTw ord) (l.map fun (n : Nat) => (.inl (n : Int))) (.bl true) = ordTw (ord ++ [(l, p)]) := by
  have h1 : valD (ordTw ord) (l.map fun (n : Nat) => (.inl (n : Int))) = none := val_no (f := fun _ => .bl true) h
  rw [put_new h1]
  simp [ordTw]
theorem ordLw_put {ord : Ord} {l p : List Nat} : ordLw ord ++ [.tup [.lst (natsD l), .str (strOf p)]] = ordLw (ord ++ [(l, p)]) := by simp [ordLw]
theorem natsD_len (a : List Nat) : (natsD a).length = a.length := by simp [natsD]
theorem natsD_app (a b : List Nat) : natsD a ++ natsD b = natsD (a ++ b) := by simp [natsD]
theorem natsD_eqvL0 (a : List Nat) : D.eqv (.lst (natsD a)) (.lst []) = decide (a = []) := natsD_eqvL a []
theorem natsD_okEL0 (a : List Nat) : okE (.lst (natsD a)) (.lst []) = true := natsD_okEL a []
theorem pr0 (a b : D) : D.item (.tup [a, b]) (.int 0) = some a := rfl
theorem pr1 (a b : D) : D.item (.tup [a, b]) (.int 1) = some b := rfl
def pageD : Option (List Nat) → D
  | none => .non
  | some p => .str (strOf p)
end Pace
end
section
set_option Elab.async false
set_option linter.all false
set_option maxRecDepth 100000
set_option maxHeartbeats 4000000
namespace Pace
open PySem PySem.Spec PyProof.Rows L2 DL
/-- a lot: states, moves -/
abbrev Lot := List (Nat × Mv)
def lotK (x : Nat × Mv) : List Key := [.inl (x.1 : Int), .inr (sgn x.2.h), .inr (sgn x.2.c)]
def lotD (lot : Lot) : List (List Key × D) := lot.map fun x => (lotK x, .int (x.2.t : Int))
def lt3 (a b : Mv) : Bool := if a.h == b.h then (if a.c == b.c then decide (a.t < b.t) else decide (a.c < b.c)) else decide (a.h < b.h)
def le3 (a b : Mv) : Bool := !lt3 b a
theorem mvD_lt (a b : Mv) : D.lt (Mv.d a) (Mv.d b) = lt3 a b := by
  have e1 : ∀ x y : Nat, PyData.eqv (.str (sgn x)) (.str (sgn y)) = (x == y) := fun x y => by
    have := eqv_str (sgn x) (sgn y)
    rw [sgn_beq] at this
    exact this
  have e2 : ∀ x y : Nat, PySem.W.dataLt (.str (sgn x)) (.str (sgn y)) = decide (x < y) := fun x y => sgn_lt x y
  have e : D.lt (Mv.d a) (Mv.d b) = PySem.W.dataLt (.tuple [.str (sgn a.h), .str (sgn a.c), .int (a.t : Int)]) (.tuple [.str (sgn b.h), .str (sgn b.c), .int (b.t : Int)]) := rfl
  rw [e, PySem.W.dataLt_tuple, PySem.W.dataLt_cons rfl, PySem.W.dataLt_cons rfl, PySem.W.dataLt_cons rfl, e1, e1, e2, e2, PySem.W.dataLt_int]
  unfold lt3
  split
  · split
    · by_cases h : a.t = b.t
      · have : PyData.eqv (.int (a.t : Int)) (.int (b.t : Int)) = true := by simp [PyData.eqv, h]
        rw [if_pos this, ← PySem.W.dataLt_tuple, PySem.W.dataLt_self]
        simp [h]
      · have : ¬ PyData.eqv (.int (a.t : Int)) (.int (b.t : Int)) = true := by
          intro z
          simp [PyData.eqv] at z
          omega
        rw [if_neg this]
        simp
    · rfl
  · rfl
theorem mvD_le (a b : Mv) : D.le (Mv.d a) (Mv.d b) = le3 a b := by
  have := mvD_lt b a
  unfold le3
  rw [← this]
  rfl
theorem lt3_iff (a b : Mv) : lt3 a b = true ↔ a.h < b.h ∨ (a.h = b.h ∧ (a.c < b.c ∨ (a.c = b.c ∧ a.t < b.t))) := by
  unfold lt3
  by_cases h : a.h = b.h
  · rw [if_pos (by simp [h])]
    by_cases h2 : a.c = b.c
    · rw [if_pos (by simp [h2])]; simp [h, h2]
    · rw [if_neg (by simp [h2])]; simp [h, h2]
  · rw [if_neg (by simp [h])]; simp [h]
theorem le3_tr (a b c : Mv) (h1 : le3 a b = true) (h2 : le3 b c = true) : le3 a c = true := by
  unfold le3 at *
  simp only [Bool.not_eq_true', Bool.eq_false_iff, ne_eq, lt3_iff] at *
  omega
theorem le3_tot (a b : Mv) : (le3 a b || le3 b a) = true := by
  unfold le3
  rw [Bool.or_eq_true, Bool.not_eq_true', Bool.not_eq_true', Bool.eq_false_iff, Bool.eq_false_iff, ne_eq, ne_eq, lt3_iff, lt3_iff]
  omega
def rowOf (lot : Lot) (s : Nat) : List Mv := ((lot.filter fun x => x.1 == s).map (·.2)).mergeSort le3
def rowsOf (lot : Lot) (n : Nat) : List (List Mv) := (List.range n).map (rowOf lot)
theorem sortD_mv (ms : List Mv) : sortD (ms.map Mv.d) = (ms.mergeSort le3).map Mv.d := by
  unfold sortD
  exact (PySem.W.sort_maps (r := le3) (s := D.le) Mv.d (l := ms) fun a _ b _ => (mvD_le a b).symm).symm
theorem okS_mv (ms : List Mv) : okS (ms.map Mv.d) = true := by
  unfold okS
  simp only [Bool.and_eq_true, Bool.or_eq_true, List.all_map, List.all_eq_true, Function.comp]
  refine ⟨⟨⟨?_, fun x _ y _ => rfl⟩, fun x _ => rfl⟩, .inl fun x _ => rfl⟩
  rw [D.pls_all]
  simp only [List.all_map, List.all_eq_true, Function.comp]
  exact fun x _ => rfl
theorem rowOf_mem {lot : Lot} {s : Nat} {m : Mv} : m ∈ rowOf lot s ↔ (s, m) ∈ lot := by
  unfold rowOf
  rw [(List.mergeSort_perm _ _).mem_iff, List.mem_map]
  constructor
  · rintro ⟨x, hx, rfl⟩
    rw [List.mem_filter] at hx
    have : x.1 = s := by simpa using hx.2
    rw [← this]
    exact hx.1
  · exact fun h => ⟨(s, m), List.mem_filter.mpr ⟨h, by simp⟩, rfl⟩
/-- keys are met once -/
def LotNd (lot : Lot) : Prop := (lot.map fun x => (x.1, x.2.h, x.2.c)).Nodup
theorem lotK_inj {x y : Nat × Mv} (h : lotK x = lotK y) : (x.1, x.2.h, x.2.c) = (y.1, y.2.h, y.2.c) := by
  unfold lotK at h
  simp only [List.cons.injEq, Sum.inl.injEq, Sum.inr.injEq, and_true] at h
  have h1 : x.1 = y.1 := by omega
  rw [h1, sgn_inj h.2.1, sgn_inj h.2.2]
theorem nbr_of_pair {α : Type} {r : α → α → Bool} : ∀ {l : List α}, l.Pairwise (fun a b => r a b = true) → nbr r l = true
  | [], _ => rfl
  | [a], _ => rfl
  | a :: b :: l, h => by
    rw [nbr_cons, Bool.and_eq_true]
    rw [List.pairwise_cons] at h
    exact ⟨h.1 b (by simp), nbr_of_pair h.2⟩
theorem rowOf_lt {lot : Lot} (nd : LotNd lot) (s : Nat) : (rowOf lot s).Pairwise fun a b => mvLt a b = true := by
  have h1 : (rowOf lot s).Pairwise fun a b => le3 a b = true := List.pairwise_mergeSort (le := le3) le3_tr le3_tot _
  have h2 : (rowOf lot s).Pairwise fun a b => (a.h, a.c) ≠ (b.h, b.c) := by
    have pm : (rowOf lot s).Perm ((lot.filter fun x => x.1 == s).map (·.2)) := List.mergeSort_perm _ _
    refine (pm.pairwise_iff fun h => fun e => h e.symm).mpr ?_
    rw [List.pairwise_map]
    have h3 : lot.Pairwise fun x y => (x.1, x.2.h, x.2.c) ≠ (y.1, y.2.h, y.2.c) := by
      unfold LotNd at nd
      rw [List.nodup_iff_pairwise_ne, List.pairwise_map] at nd
      exact nd
    have h4 := h3.sublist (List.filter_sublist (p := fun x => x.1 == s))
    refine h4.imp_of_mem fun {x y} hx hy h e => h ?_
    rw [List.mem_filter] at hx hy
    have e1 : x.1 = s := by simpa using hx.2
    have e2 : y.1 = s := by simpa using hy.2
    simp only [Prod.mk.injEq] at e
    rw [e1, e2, e.1, e.2]
  refine (h1.and h2).imp fun {a b} h => ?_
  obtain ⟨h, n⟩ := h
  unfold le3 at h
  rw [Bool.not_eq_true', Bool.eq_false_iff, ne_eq, lt3_iff] at h
  unfold mvLt
  simp only [decide_eq_true_eq]
  simp only [ne_eq, Prod.mk.injEq] at n
  omega
theorem val_lot {lot : Lot} (nd : LotNd lot) {x : Nat × Mv} (h : x ∈ lot) : valD (lotD lot) (lotK x) = some (.int (x.2.t : Int)) := by
  induction lot with
  | nil => simp at h
  | cons y lot ih =>
    unfold LotNd at nd
    rw [List.map_cons, List.nodup_cons] at nd
    rcases List.mem_cons.mp h with rfl | h
    · simp [valD, lotD]
    · have hne : ¬ lotK y = lotK x := fun e => nd.1 (by rw [lotK_inj e]; exact List.mem_map.mpr ⟨x, h, rfl⟩)
      have := ih nd.2 h
      unfold valD lotD at this ⊢
      rw [List.map_cons, List.find?_cons]
      simp only [hne, decide_false]
      exact this
theorem nat_beq (a b : Nat) : ((a : Int) == (b : Int)) = (a == b) := by
  rw [Bool.eq_iff_iff, beq_iff_eq, beq_iff_eq]
  omega
theorem rows_eq (lot : Lot) (n : Nat) : D.tup ((List.range n).map fun s => rowD (rowOf lot s)) = rowsD (rowsOf lot n) := by simp [rowsD, rowsOf]
theorem intL_si (ns : List Int) : D.sis (ns.map D.int) = true := by
  rw [sis_all]
  intro x hx
  obtain ⟨n, _, rfl⟩ := List.mem_map.mp hx
  rfl
theorem intL_ok (ns : List Int) : okE (.lst (ns.map D.int)) (.lst []) = true := by
  refine okE_si (x := .lst (ns.map D.int)) (y := .lst []) (intL_si ns) rfl ?_
  have : D.dps (ns.map D.int) ≤ 0 := dps_le fun x hx => by
    obtain ⟨n, _, rfl⟩ := List.mem_map.mp hx
    simp [D.dp]
  simp only [D.dp]
  omega
theorem intL_eqv (ns : List Int) : D.eqv (.lst (ns.map D.int)) (.lst []) = decide (ns = []) := by
  rw [Bool.eq_iff_iff, eqv_si (x := .lst (ns.map D.int)) (y := .lst []) (intL_si ns) rfl]
  simp
theorem pop_last (ns : List Int) (a : Int) : ((ns ++ [a]).map D.int)[((ns ++ [a]).map D.int).length - 1]? = some (.int a) := by simp
theorem pop_rest (ns : List Int) (a : Int) : ((ns ++ [a]).map D.int).dropLast = ns.map D.int := by simp
end Pace
end
section
set_option Elab.async false
set_option linter.all false
set_option maxRecDepth 100000
set_option maxHeartbeats 4000000
namespace Pace
open PySem PySem.Spec PyProof.Rows L2 DL
theorem s_a : Str.ofString "a" = sgn 97 := by decide +kernel
theorem s_b : Str.ofString "b" = sgn 98 := by decide +kernel
theorem s_x : Str.ofString "x" = sgn 120 := by decide +kernel
theorem s_a' : sgn 97 = strOf [97] := rfl
theorem s_ab : Str.ofString "ab" = strOf [97, 98] := by decide +kernel
theorem s_abx : Str.ofString "abx" = strOf [97, 98, 120] := by decide +kernel
theorem s_xy : Str.ofString "xy" = strOf [120, 121] := by decide +kernel
theorem s_abc : Str.ofString "abc" = strOf [97, 98, 99] := by decide +kernel
def kTop : List Mv := [⟨97, 97, 1⟩, ⟨97, 98, 2⟩, ⟨98, 97, 1⟩, ⟨98, 98, 2⟩]
def kLate : List (List Mv) := [kTop, [⟨97, 97, 1⟩, ⟨97, 98, 2⟩], [⟨98, 97, 1⟩, ⟨98, 98, 2⟩]]
def kVow : List (List Mv) := [kTop, [⟨97, 97, 1⟩], [⟨97, 97, 2⟩, ⟨98, 97, 2⟩]]
def kTurn : List (List Mv) := [kTop, [⟨97, 97, 0⟩, ⟨97, 98, 0⟩], [⟨98, 97, 0⟩, ⟨98, 98, 0⟩]]
def kFar : List (List Mv) := [kTop ++ [⟨120, 97, 1⟩, ⟨120, 98, 2⟩], [⟨97, 97, 3⟩, ⟨120, 97, 1⟩], [⟨98, 97, 3⟩, ⟨120, 97, 2⟩], [⟨97, 97, 3⟩, ⟨98, 97, 3⟩, ⟨120, 97, 3⟩]]
def knownT : List (List Nat × List (List Mv)) := [([97, 98], kLate), ([97, 98], kVow), ([97, 98], kTurn), ([97, 98, 120], kFar)]
theorem known_mute : ∀ k ∈ knownT, muteOf k.2 k.1 = none := by decide +kernel
theorem known_val : ∀ k ∈ knownT, (lettersB k.1 && lettersB [97, 98] && decide (k.1.length ≤ 1000) && decide (1 ≤ k.2.length) && decide (k.2.length ≤ 4) && k.2.all fun r => rowB k.1 [97, 98] k.2.length r && decide (r.length ≤ 6)) = true := by decide +kernel
/-- what the law's rules are like -/
structure Some_ (top : Nat) (hs ws : List Nat) (rs : List (List Mv)) : Prop where
  val : RulV hs ws rs
  mute : muteOf rs hs = none
  few : Few rs
  n : rs.length ≤ top
theorem known_some {k : List Nat × List (List Mv)} (h : k ∈ knownT) : Some_ 4 k.1 [97, 98] k.2 := by
  have := known_val k h
  simp only [Bool.and_eq_true, decide_eq_true_eq, List.all_eq_true] at this
  obtain ⟨⟨⟨⟨⟨h1, h2⟩, h3⟩, h4⟩, h5⟩, h6⟩ := this
  exact ⟨⟨h1, h2, h3, by decide, h4, by omega, fun r hr => ⟨(h6 r hr).1, by have := (h6 r hr).2; omega⟩⟩, known_mute k h, ⟨6, fun r hr => (h6 r hr).2, by omega⟩, h5⟩
theorem texts_sgn : ∀ cs : List Nat, texts (cs.map fun c => .str (sgn c)) = some (cs.map sgn)
  | [] => rfl
  | c :: cs => by simp [texts, texts_sgn cs]
theorem join_sgn : ∀ cs : List Nat, Txt.join (Str.ofString "") (cs.map sgn) = strOf cs := by
  have hn : ∀ x : Str, Str.ofString "" ++ x = x := fun x => by
    rw [str_nil]
    show (⟨#[] ++ x.cps⟩ : Str) = x
    simp
  intro cs
  rw [TL.join_eq]
  induction cs with
  | nil => rw [← str_nil]; rfl
  | cons c cs ih =>
    cases cs with
    | nil => rfl
    | cons d cs =>
      show sgn c ++ Str.ofString "" ++ Str.join (Str.ofString "") ((d :: cs).map sgn) = _
      rw [ih]
      have : sgn c ++ Str.ofString "" = sgn c := by
        rw [str_nil]
        show (⟨#[c] ++ #[]⟩ : Str) = _
        rfl
      rw [this]
      exact strOf_app [c] (d :: cs)
theorem sgn_sum (cs : List Nat) : ((cs.map sgn).map (·.length)).sum = cs.length := by
  induction cs with
  | nil => rfl
  | cons c cs ih =>
    simp only [List.map_cons, List.sum_cons, ih, List.length_cons]
    have : (sgn c).length = 1 := rfl
    omega
end Pace
end
section
set_option Elab.async false
set_option linter.all false
set_option maxRecDepth 100000
set_option maxHeartbeats 4000000
namespace Pace
open PySem PySem.Spec PyProof.Rows L2 DL
def key3 (x : Nat × Mv) : Nat × Nat × Nat := (x.1, x.2.h, x.2.c)
def lotPut (lot : Lot) (x : Nat × Mv) : Lot := if lot.any (fun y => decide (key3 y = key3 x)) then lot.map (fun y => if key3 y = key3 x then x else y) else lot ++ [x]
structure LotOk (sz : Nat) (hs ws : List Nat) (lot : Lot) : Prop where
  nd : LotNd lot
  at_ : ∀ x ∈ lot, x.1 < sz ∧ x.2.h ∈ hs ∧ x.2.c ∈ ws ∧ x.2.t < sz
theorem lotK_iff (x y : Nat × Mv) : lotK x = lotK y ↔ key3 x = key3 y := by
  constructor
  · exact lotK_inj
  · intro h
    unfold key3 at h
    simp only [Prod.mk.injEq] at h
    unfold lotK
    rw [h.1, h.2.1, h.2.2]
theorem lotD_put (lot : Lot) (x : Nat × Mv) : putD (lotD lot) (lotK x) (.int (x.2.t : Int)) = lotD (lotPut lot x) := by
  have e : ((lotD lot).any fun kv => decide (kv.1 = lotK x)) = lot.any fun y => decide (key3 y = key3 x) := by
    unfold lotD
    rw [List.any_map]
    congr 1
    funext y
    exact decide_eq_decide.mpr (lotK_iff y x)
  unfold putD lotPut
  rw [e]
  split
  · unfold lotD
    rw [List.map_map, List.map_map]
    refine List.map_congr_left fun y _ => ?_
    simp only [Function.comp]
    by_cases h : key3 y = key3 x
    · rw [if_pos ((lotK_iff y x).mpr h), if_pos h]
      rw [(lotK_iff y x).mpr h]
    · rw [if_neg (fun z => h ((lotK_iff y x).mp z)), if_neg h]
  · simp [lotD]
theorem lotPut_keys (lot : Lot) (x : Nat × Mv) : (lotPut lot x).map key3 = if lot.any (fun y => decide (key3 y = key3 x)) then lot.map key3 else lot.map key3 ++ [key3 x] := by
  unfold lotPut
  split
  · rw [List.map_map]
    refine List.map_congr_left fun y _ => ?_
    simp only [Function.comp]
    split
    · rename_i h; exact h.symm
    · rfl
  · simp
theorem lotPut_mem {lot : Lot} {x y : Nat × Mv} (h : y ∈ lotPut lot x) : y ∈ lot ∨ y = x := by
  unfold lotPut at h
  split at h
  · obtain ⟨z, hz, rfl⟩ := List.mem_map.mp h
    split
    · exact .inr rfl
    · exact .inl hz
  · rcases List.mem_append.mp h with h | h
    · exact .inl h
    · simp at h; exact .inr h
theorem LotOk.put {sz : Nat} {hs ws : List Nat} {lot : Lot} (h : LotOk sz hs ws lot) {x : Nat × Mv} (hx : x.1 < sz ∧ x.2.h ∈ hs ∧ x.2.c ∈ ws ∧ x.2.t < sz) : LotOk sz hs ws (lotPut lot x) where
  nd := by
    have e := lotPut_keys lot x
    have n0 : (lot.map key3).Nodup := h.nd
    show ((lotPut lot x).map key3).Nodup
    rw [e]
    split
    · exact n0
    · rename_i hn
      rw [List.nodup_append]
      refine ⟨n0, by simp, fun a ha b hb => ?_⟩
      simp at hb
      subst hb
      intro e
      subst e
      obtain ⟨y, hy, e2⟩ := List.mem_map.mp ha
      exact hn (List.any_eq_true.mpr ⟨y, hy, by simpa using e2⟩)
  at_ := fun y hy => by
    rcases lotPut_mem hy with hy | rfl
    · exact h.at_ y hy
    · exact hx
theorem prod_len (a b : List Nat) : (a.flatMap fun x => b.map fun y => (x, y)).length = a.length * b.length := by
  induction a with
  | nil => simp
  | cons x a ih => simp only [List.flatMap_cons, List.length_append, List.length_map, ih, List.length_cons, Nat.add_mul]; omega
theorem row_few {sz : Nat} {hs ws : List Nat} {lot : Lot} (h : LotOk sz hs ws lot) (s : Nat) : (rowOf lot s).length ≤ hs.length * ws.length := by
  have hp := rowOf_lt h.nd s
  have nd : ((rowOf lot s).map fun m => (m.h, m.c)).Nodup := by
    rw [List.nodup_iff_pairwise_ne, List.pairwise_map]
    refine hp.imp fun {a b} hab e => ?_
    unfold mvLt at hab
    simp only [decide_eq_true_eq] at hab
    simp only [Prod.mk.injEq] at e
    omega
  have := List.Nodup.length_le_of_subset nd (l₂ := hs.flatMap fun x => ws.map fun y => (x, y)) fun p hp => by
    obtain ⟨m, hm, rfl⟩ := List.mem_map.mp hp
    obtain ⟨_, h2, h3, _⟩ := h.at_ _ (rowOf_mem.mp hm)
    exact List.mem_flatMap.mpr ⟨m.h, h2, List.mem_map.mpr ⟨m.c, h3, rfl⟩⟩
  rw [List.length_map, prod_len] at this
  exact this
theorem lot_few {sz : Nat} {hs ws : List Nat} {lot : Lot} (h : LotOk sz hs ws lot) : lot.length ≤ sz * (hs.length * ws.length) := by
  have nd : (lot.map key3).Nodup := h.nd
  have := List.Nodup.length_le_of_subset nd (l₂ := (List.range sz).flatMap fun s => (hs.flatMap fun x => ws.map fun y => (x, y)).map fun p => (s, p)) fun p hp => by
    obtain ⟨x, hx, rfl⟩ := List.mem_map.mp hp
    obtain ⟨h1, h2, h3, _⟩ := h.at_ _ hx
    exact List.mem_flatMap.mpr ⟨x.1, List.mem_range.mpr h1, List.mem_map.mpr ⟨(x.2.h, x.2.c), List.mem_flatMap.mpr ⟨x.2.h, h2, List.mem_map.mpr ⟨x.2.c, h3, rfl⟩⟩, rfl⟩⟩
  have e : ((List.range sz).flatMap fun s => (hs.flatMap fun x => ws.map fun y => (x, y)).map fun p => (s, p)).length ≤ sz * (hs.length * ws.length) := by
    have := flat_len (fun s => (hs.flatMap fun x => ws.map fun y => (x, y)).map fun p => (s, p)) (hs.length * ws.length) (List.range sz) fun s _ => by rw [List.length_map, prod_len]; exact Nat.le_refl _
    simpa using this
  rw [List.length_map] at this
  omega
theorem rowsOf_len (lot : Lot) (n : Nat) : (rowsOf lot n).length = n := by simp [rowsOf]
theorem rowsOf_at {lot : Lot} {n s : Nat} (h : s < n) : (rowsOf lot n).getD s [] = rowOf lot s := by simp [rowsOf, List.getD, h]
theorem rowsOf_val {sz : Nat} {hs ws : List Nat} {lot : Lot} (h : LotOk sz hs ws lot) (lh : lettersB hs = true) (lw : lettersB ws = true) (s1 : 1 ≤ sz) (s4 : sz ≤ 4) (h2 : hs.length ≤ 2) (w3 : ws.length ≤ 3) : RulV hs ws (rowsOf lot sz) where
  lh := lh
  lw := lw
  sh := by omega
  sw := by omega
  n1 := by rw [rowsOf_len]; exact s1
  n2 := by rw [rowsOf_len]; omega
  row := fun r hr => by
    obtain ⟨s, _, rfl⟩ := List.mem_map.mp hr
    have h6 := row_few h s
    have h7 : hs.length * ws.length ≤ 2 * 3 := Nat.mul_le_mul h2 w3
    refine ⟨?_, by omega⟩
    rw [rowsOf_len]
    unfold rowB
    rw [Bool.and_eq_true, List.all_eq_true]
    refine ⟨fun m hm => ?_, nbr_of_pair (rowOf_lt h.nd s)⟩
    obtain ⟨_, a, b, c⟩ := h.at_ _ (rowOf_mem.mp hm)
    unfold mvB
    simp [a, b, c]
theorem rowsOf_few {sz : Nat} {hs ws : List Nat} {lot : Lot} (h : LotOk sz hs ws lot) (s4 : sz ≤ 4) (h2 : hs.length ≤ 2) (w3 : ws.length ≤ 3) : Few (rowsOf lot sz) := by
  have h7 : hs.length * ws.length ≤ 2 * 3 := Nat.mul_le_mul h2 w3
  refine ⟨6, fun r hr => ?_, by rw [rowsOf_len]; omega⟩
  obtain ⟨s, _, rfl⟩ := List.mem_map.mp hr
  have := row_few h s
  omega
theorem rowsOf_ok {sz : Nat} {hs ws : List Nat} {lot : Lot} (h : LotOk sz hs ws lot) (h2 : hs.length ≤ 2) (w3 : ws.length ≤ 3) : ∀ r ∈ rowsOf lot sz, r.length ≤ 1000 ∧ ∀ m ∈ r, m.t < (rowsOf lot sz).length := by
  intro r hr
  have h7 : hs.length * ws.length ≤ 2 * 3 := Nat.mul_le_mul h2 w3
  obtain ⟨s, _, rfl⟩ := List.mem_map.mp hr
  have := row_few h s
  refine ⟨by omega, fun m hm => ?_⟩
  rw [rowsOf_len]
  exact (h.at_ _ (rowOf_mem.mp hm)).2.2.2
/-- states and letters without a move -/
def missing (sz : Nat) (hs : List Nat) (lot : Lot) : Nat := (((List.range sz).flatMap fun s => hs.map fun h => (s, h)).filter fun p => !lot.any fun x => decide ((x.1, x.2.h) = p)).length
theorem missing_le (sz : Nat) (hs : List Nat) (lot : Lot) : missing sz hs lot ≤ sz * hs.length := by
  unfold missing
  refine Nat.le_trans (List.length_filter_le _ _) ?_
  rw [prod_len, List.length_range]
  exact Nat.le_refl _
theorem any_put (lot : Lot) (x : Nat × Mv) (p : Nat × Nat) : ((lotPut lot x).any fun y => decide ((y.1, y.2.h) = p)) = ((lot.any fun y => decide ((y.1, y.2.h) = p)) || decide ((x.1, x.2.h) = p)) := by
  have e : ∀ l : Lot, (l.any fun y => decide ((y.1, y.2.h) = p)) = (l.map key3).any fun k => decide ((k.1, k.2.1) = p) := fun l => by
    rw [List.any_map]; rfl
  rw [e, e, lotPut_keys]
  split
  · rename_i hx
    obtain ⟨y, hy, e2⟩ := List.any_eq_true.mp hx
    have e3 : key3 y = key3 x := of_decide_eq_true e2
    rw [Bool.eq_iff_iff, Bool.or_eq_true]
    constructor
    · exact .inl
    · rintro (h | h)
      · exact h
      · refine List.any_eq_true.mpr ⟨key3 x, e3 ▸ List.mem_map.mpr ⟨y, hy, rfl⟩, ?_⟩
        exact h
  · rw [List.any_append]
    simp [key3]
theorem missing_put {sz : Nat} {hs : List Nat} {lot : Lot} {x : Nat × Mv} (h1 : x.1 < sz) (h2 : x.2.h ∈ hs) (h3 : ∀ m, (x.1, m) ∈ lot → m.h ≠ x.2.h) : missing sz hs (lotPut lot x) < missing sz hs lot := by
  unfold missing
  have e : (((List.range sz).flatMap fun s => hs.map fun h => (s, h)).filter fun p => !(lotPut lot x).any fun y => decide ((y.1, y.2.h) = p)) =
      ((((List.range sz).flatMap fun s => hs.map fun h => (s, h)).filter fun p => !lot.any fun y => decide ((y.1, y.2.h) = p)).filter fun p => !decide ((x.1, x.2.h) = p)) := by
    rw [List.filter_filter]
    congr 1
    funext p
    rw [any_put]
    cases (lot.any fun y => decide ((y.1, y.2.h) = p)) <;> cases decide ((x.1, x.2.h) = p) <;> rfl
  rw [e]
  refine List.length_filter_lt_length_iff_exists.mpr ⟨(x.1, x.2.h), ?_, by simp⟩
  refine List.mem_filter.mpr ⟨List.mem_flatMap.mpr ⟨x.1, List.mem_range.mpr h1, List.mem_map.mpr ⟨x.2.h, h2, rfl⟩⟩, ?_⟩
  rw [Bool.not_eq_true', Bool.eq_false_iff]
  intro z
  obtain ⟨y, hy, e2⟩ := List.any_eq_true.mp z
  have e3 := of_decide_eq_true e2
  simp only [Prod.mk.injEq] at e3
  obtain ⟨a, m⟩ := y
  simp only at e3 hy
  exact h3 m (e3.1 ▸ hy) e3.2
theorem no_move {sz : Nat} {hs : List Nat} {lot : Lot} {q : List Nat} {c s : Nat} (hr : run (rowsOf lot sz) [0] (q ++ [c]) = []) (hs' : s ∈ run (rowsOf lot sz) [0] q) (h1 : s < sz) : ∀ m, (s, m) ∈ lot → m.h ≠ c := by
  intro m hm e
  rw [run_snoc] at hr
  have : m.t ∈ behind (rowsOf lot sz) (run (rowsOf lot sz) [0] q) c := behind_mem.mpr ⟨s, hs', m, by rw [rowsOf_at h1]; exact rowOf_mem.mpr hm, e, rfl⟩
  rw [hr] at this
  simp at this
theorem last_sgn {q : List Nat} {c : Nat} (h : (strOf (q ++ [c])).length ≤ sizeLine) : D.item (.str (strOf (q ++ [c]))) (.int (-1)) = some (.str (sgn c)) := by
  show (if (strOf (q ++ [c])).length ≤ sizeLine then (atI (strOf (q ++ [c])).cps.toList (-1)).map _ else _) = _
  rw [if_pos h]
  have : atI (strOf (q ++ [c])).cps.toList (-1) = some c := by
    have e : (strOf (q ++ [c])).cps.toList = q ++ [c] := by simp [strOf]
    rw [e]
    unfold atI
    have e2 : ixN (q ++ [c]).length (-1) = some q.length := by
      unfold ixN
      simp
      omega
    rw [e2]
    simp
  rw [this]
  rfl
end Pace
end
section
set_option Elab.async false
set_option linter.all false
set_option maxRecDepth 100000
set_option maxHeartbeats 4000000
namespace Pace
open PySem PySem.Spec PyProof.Rows L2 DL
theorem snoc_ind {α : Type} {P : List α → Prop} (nil : P []) (snoc : ∀ l a, P l → P (l ++ [a])) (l : List α) : P l := by
  rw [← List.reverse_reverse l]
  induction l.reverse with
  | nil => exact nil
  | cons a l ih => rw [List.reverse_cons]; exact snoc _ _ ih
theorem szB {n : Nat} (h : n ≤ 1000000) : n ≤ sizeLine := by rw [sizeLine_eq]; omega
theorem map_get {α : Type} {f : α → D} {l : List α} {i : Nat} {d : D} (h : (l.map f)[i]? = some d) : ∃ a, l[i]? = some a ∧ d = f a := by
  rw [List.getElem?_map] at h
  cases e : l[i]? with
  | none => rw [e] at h; cases h
  | some a => rw [e] at h; cases h; exact ⟨a, rfl, rfl⟩
theorem take_snoc {α : Type} {l : List α} {i : Nat} {a : α} (h : l[i]? = some a) : l.take (i + 1) = l.take i ++ [a] := by rw [List.take_add_one, h]; rfl
theorem signs_map (hs : List Nat) : DL.signs (strOf hs) = hs.map fun c => .str (sgn c) := by
  simp [DL.signs, strOf]
  intro a _
  rfl
/-- drawn rules -/
structure Wor (top : Nat) (tot : Bool) (hs ws : List Nat) (rs : List (List Mv)) : Prop where
  val : RulV hs ws rs
  n : rs.length ≤ top
  hs3 : hs.length ≤ 3
  ws3 : ws.length ≤ 3
  row : ∀ r ∈ rs, r.length ≤ 9
  full : tot = true → ∀ r ∈ rs, ∀ h ∈ hs, ∃ m ∈ r, m.h = h
/-- a row as far as its first letters -/
structure RowP (hs ws : List Nat) (n : Nat) (tot : Bool) (j : Nat) (row : List Mv) : Prop where
  mv : ∀ m ∈ row, mvB hs ws n m = true
  lt : row.Pairwise fun a b => mvLt a b = true
  le : ∀ m ∈ row, m.h ∈ hs.take j
  len : row.length ≤ 3 * j
  full : tot = true → ∀ h ∈ hs.take j, ∃ m ∈ row, m.h = h
theorem RowP.start {hs ws : List Nat} {n : Nat} {tot : Bool} : RowP hs ws n tot 0 [] := ⟨by simp, by simp, by simp, by simp, by simp⟩
theorem letters_lt {cs : List Nat} (h : lettersB cs = true) : cs.Pairwise (· < ·) := by
  unfold lettersB at h
  simp only [Bool.and_eq_true] at h
  exact (nbr_pair (r := fun a b => decide (a < b)) (fun a b c h1 h2 => by simp at h1 h2 ⊢; omega) cs h.2).imp fun h => by simpa using h
theorem RowP.row {hs ws : List Nat} {n : Nat} {tot : Bool} {row : List Mv} (rp : RowP hs ws n tot hs.length row) : rowB hs ws n row = true := by
  unfold rowB
  rw [Bool.and_eq_true, List.all_eq_true]
  exact ⟨rp.mv, nbr_of_pair rp.lt⟩
theorem Wor.few {top : Nat} {tot : Bool} {hs ws : List Nat} {rs : List (List Mv)} (w : Wor top tot hs ws rs) (h5 : top ≤ 5 := by decide) : Few rs := ⟨9, w.row, by have := w.n; omega⟩
end Pace
end
section
set_option Elab.async false
set_option linter.all false
set_option maxRecDepth 100000
set_option maxHeartbeats 4000000
namespace Pace
open PySem PySem.Spec PyProof.Rows L2 DL
def sl (p q : List Nat) : Prop := p.length < q.length ∨ (p.length = q.length ∧ p < q)
def sle (p q : List Nat) : Prop := p = q ∨ sl p q
theorem lt_app : ∀ {p q : List Nat} (x y : List Nat), p.length = q.length → p < q → p ++ x < q ++ y
  | [], [], x, y, _, h => absurd h (List.not_lt_nil _)
  | [], _ :: _, x, y, h, _ => by simp at h
  | _ :: _, [], x, y, h, _ => by simp at h
  | a :: p, b :: q, x, y, h, hl => by
    rw [List.cons_append, List.cons_append, List.cons_lt_cons_iff]
    rw [List.cons_lt_cons_iff] at hl
    rcases hl with hl | ⟨e, hl⟩
    · exact .inl hl
    · exact .inr ⟨e, lt_app x y (by simpa using h) hl⟩
theorem sl.snoc {p q : List Nat} (c d : Nat) (h : sl p q) : sl (p ++ [c]) (q ++ [d]) := by
  rcases h with h | ⟨h, hl⟩
  · left; simpa using h
  · right; exact ⟨by simpa using h, lt_app _ _ h hl⟩
theorem sl.trans {p q r : List Nat} (h1 : sl p q) (h2 : sl q r) : sl p r := by
  rcases h1 with h1 | ⟨e1, h1⟩ <;> rcases h2 with h2 | ⟨e2, h2⟩
  · left; omega
  · left; omega
  · left; omega
  · right; exact ⟨by omega, List.lt_trans h1 h2⟩
theorem sle.trans {p q r : List Nat} (h1 : sle p q) (h2 : sle q r) : sle p r := by
  rcases h1 with rfl | h1
  · exact h2
  · rcases h2 with rfl | h2
    · exact .inr h1
    · exact .inr (h1.trans h2)
theorem sle.snoc {p q : List Nat} (c : Nat) (h : sle p q) : sle (p ++ [c]) (q ++ [c]) := by
  rcases h with rfl | h
  · exact .inl rfl
  · exact .inr (h.snoc c c)
def Done (rs : List (List Mv)) (ord : Ord) (y : List Nat × List Nat) (c : Nat) : Prop := behind rs y.1 c ≠ [] ∧ ∃ z ∈ ord, z.1 = behind rs y.1 c ∧ sle z.2 (y.2 ++ [c])
theorem Done.mono {rs : List (List Mv)} {ord more : Ord} {y : List Nat × List Nat} {c : Nat} (h : Done rs ord y c) : Done rs (ord ++ more) y c := by
  obtain ⟨h1, z, hz, h2⟩ := h
  exact ⟨h1, z, List.mem_append_left _ hz, h2⟩
/-- what holds ahead of the entry at i -/
structure BI (rs : List (List Mv)) (hs : List Nat) (i : Nat) (pre : List Nat) (ord : Ord) : Prop where
  ok : OrdOk rs hs ord
  st : ([0], []) ∈ ord
  inc : (ord.map (·.2)).Pairwise sl
  frm : ∀ x ∈ ord, x.2 = [] ∨ ∃ (j : Nat) (y : List Nat × List Nat) (c : Nat), ord[j]? = some y ∧ x.2 = y.2 ++ [c] ∧ (j < i ∨ (j = i ∧ c ∈ pre))
  dn : ∀ (j : Nat) (y : List Nat × List Nat), j < i → ord[j]? = some y → ∀ c ∈ hs, Done rs ord y c
  dh : ∀ (y : List Nat × List Nat), ord[i]? = some y → ∀ c ∈ pre, Done rs ord y c
theorem BI.next {rs : List (List Mv)} {hs : List Nat} {i : Nat} {ord : Ord} (h : BI rs hs i hs ord) : BI rs hs (i + 1) [] ord where
  ok := h.ok
  st := h.st
  inc := h.inc
  frm := fun x hx => by
    rcases h.frm x hx with e | ⟨j, y, c, h1, h2, h3⟩
    · exact .inl e
    · exact .inr ⟨j, y, c, h1, h2, .inl (by omega)⟩
  dn := fun j y hj hy c hc => by
    by_cases e : j < i
    · exact h.dn j y e hy c hc
    · have : j = i := by omega
      subst this
      exact h.dh y hy c hc
  dh := fun _ _ _ hc => by cases hc
end Pace
end
section
set_option Elab.async false
set_option linter.all false
set_option maxRecDepth 100000
set_option maxHeartbeats 4000000
namespace Pace
open PySem PySem.Spec PyProof.Rows L2 DL
def step1 (rs : List (List Mv)) (s h c : Nat) : Option Nat := ((rs.getD s []).find? fun m => m.h == h && m.c == c).map (·.t)
def ledN (rs : List (List Mv)) (s : Nat) (ks : List (Nat × Nat)) : Option Nat := ks.foldl (fun o k => o.bind fun s => step1 rs s k.1 k.2) (some s)
theorem ledN_snoc {rs : List (List Mv)} {s : Nat} {ks : List (Nat × Nat)} {k : Nat × Nat} : ledN rs s (ks ++ [k]) = (ledN rs s ks).bind fun s => step1 rs s k.1 k.2 := by simp [ledN]
theorem step1_lt {rs : List (List Mv)} (tl : ∀ r ∈ rs, ∀ m ∈ r, m.t < rs.length) {s h c t : Nat} (e : step1 rs s h c = some t) : t < rs.length := by
  unfold step1 at e
  obtain ⟨m, hm, rfl⟩ := Option.map_eq_some_iff.mp e
  have h1 := List.mem_of_find?_eq_some hm
  cases er : rs[s]? with
  | none => simp [List.getD, er] at h1
  | some r =>
    simp only [List.getD, er, Option.getD_some] at h1
    exact tl r (List.mem_of_getElem? er) m h1
theorem ledN_lt {rs : List (List Mv)} (tl : ∀ r ∈ rs, ∀ m ∈ r, m.t < rs.length) {s : Nat} (hs : s < rs.length) (ks : List (Nat × Nat)) : ∀ {t : Nat}, ledN rs s ks = some t → t < rs.length := by
  induction ks using snoc_ind with
  | nil => intro t h; simp [ledN] at h; omega
  | snoc ks k ih =>
    intro t h
    rw [ledN_snoc] at h
    obtain ⟨u, hu, h⟩ := Option.bind_eq_some_iff.mp h
    exact step1_lt tl h
theorem mv_in {hs ws : List Nat} {rs : List (List Mv)} (v : RulV hs ws rs) {r : List Mv} (hr : r ∈ rs) {m : Mv} (hm : m ∈ r) : m.h ∈ hs ∧ m.c ∈ ws ∧ m.t < rs.length := by
  have h := (v.row r hr).1
  unfold rowB at h
  rw [Bool.and_eq_true, List.all_eq_true] at h
  have := h.1 m hm
  simp only [mvB, Bool.and_eq_true, decide_eq_true_eq] at this
  exact ⟨this.1.1, this.1.2, this.2⟩
theorem rows_len_ (rs : List (List Mv)) : rLenD [rowsD rs] = fun G Q => Q (.int (rs.length : Nat)) G := by
  funext G Q
  show Q (.int ((rs.map rowD).length : Nat)) G = _
  rw [List.length_map]
end Pace
end
section
set_option Elab.async false
set_option linter.all false
set_option maxRecDepth 100000
set_option maxHeartbeats 4000000
namespace DL
open PySem PySem.Spec PyProof.Rows L2
end DL
end
section
set_option Elab.async false
set_option linter.all false
set_option maxRecDepth 100000
set_option maxHeartbeats 4000000
namespace Pace
open PySem PySem.Spec PyProof.Rows L2 DL
theorem sorted_ext : ∀ {a b : List Nat}, a.Pairwise (· < ·) → b.Pairwise (· < ·) → (∀ k, k ∈ a ↔ k ∈ b) → a = b
  | [], [], _, _, _ => rfl
  | [], y :: b, _, _, h => absurd ((h y).mpr (by simp)) (by simp)
  | x :: a, [], _, _, h => absurd ((h x).mp (by simp)) (by simp)
  | x :: a, y :: b, ha, hb, h => by
    rw [List.pairwise_cons] at ha hb
    have e : x = y := by
      rcases List.mem_cons.mp ((h x).mp (by simp)) with e | e
      · exact e
      · rcases List.mem_cons.mp ((h y).mpr (by simp)) with e2 | e2
        · exact e2.symm
        · have := ha.1 y e2
          have := hb.1 x e
          omega
    subst e
    rw [sorted_ext ha.2 hb.2 fun k => ?_]
    constructor
    · intro hk
      rcases List.mem_cons.mp ((h k).mp (List.mem_cons_of_mem _ hk)) with e | e
      · have := ha.1 k hk; omega
      · exact e
    · intro hk
      rcases List.mem_cons.mp ((h k).mpr (List.mem_cons_of_mem _ hk)) with e | e
      · have := hb.1 k hk; omega
      · exact e
theorem run_sorted {rs : List (List Mv)} {s : Nat} (cs : List Nat) : (run rs [s] cs).Pairwise (· < ·) := by
  induction cs using snoc_ind with
  | nil => simp [run]
  | snoc cs c ih => rw [run_snoc]; exact behind_sorted
end Pace
end
section
set_option Elab.async false
set_option linter.all false
set_option maxRecDepth 100000
set_option maxHeartbeats 4000000
namespace Pace
open PySem PySem.Spec PyProof.Rows L2 DL
/-- the class of a text -/
def classOf (rs : List (List Mv)) (cs : List Nat) : List (List Nat) := (List.range rs.length).map fun s => run rs [s] cs
def classD (rs : List (List Mv)) (cs : List Nat) : D := .tup ((classOf rs cs).map fun ss => .tup (natsD ss))
theorem classD_si (rs : List (List Mv)) (cs : List Nat) : (classD rs cs).si = true := sis_all.mpr fun x hx => by
  obtain ⟨ss, _, rfl⟩ := List.mem_map.mp hx
  exact natsD_si ss
theorem classD_dp (rs : List (List Mv)) (cs : List Nat) : (classD rs cs).dp ≤ 60 := by
  have : D.dps ((classOf rs cs).map fun ss => D.tup (natsD ss)) ≤ 1 := dps_le fun x hx => by
    obtain ⟨ss, _, rfl⟩ := List.mem_map.mp hx
    have := natsD_dps ss
    simp only [D.dp]
    omega
  unfold classD
  simp only [D.dp]
  omega
theorem classD_inj {rs rs' : List (List Mv)} {cs cs' : List Nat} (h : classD rs cs = classD rs' cs') : classOf rs cs = classOf rs' cs' := by
  unfold classD at h
  have h2 : ((classOf rs cs).map fun ss => D.tup (natsD ss)) = (classOf rs' cs').map fun ss => D.tup (natsD ss) := by injection h
  generalize classOf rs cs = a at h2
  generalize classOf rs' cs' = b at h2
  induction a generalizing b with
  | nil => cases b with
    | nil => rfl
    | cons y b => cases h2
  | cons x a ih => cases b with
    | nil => cases h2
    | cons y b =>
      simp only [List.map_cons, List.cons.injEq, D.tup.injEq] at h2
      rw [natsD_inj h2.1, ih b h2.2]
theorem classD_eqv (rs : List (List Mv)) (a b : List Nat) : D.eqv (classD rs a) (classD rs b) = decide (classOf rs a = classOf rs b) := by
  rw [Bool.eq_iff_iff, eqv_si (classD_si rs a) (classD_si rs b), decide_eq_true_eq]
  exact ⟨classD_inj, fun h => by unfold classD; rw [h]⟩
/-- the states of a set, each by itself -/
theorem run_app {rs : List (List Mv)} {ss : List Nat} (a b : List Nat) : run rs ss (a ++ b) = run rs (run rs ss a) b := by simp [run]
theorem run_sorted_ {rs : List (List Mv)} {ss : List Nat} (h : ss.Pairwise (· < ·)) (cs : List Nat) : (run rs ss cs).Pairwise (· < ·) := by
  induction cs using snoc_ind with
  | nil => simpa [run] using h
  | snoc cs c ih => rw [run_snoc]; exact behind_sorted
theorem run_mem {rs : List (List Mv)} {ss : List Nat} (cs : List Nat) : ∀ k, k ∈ run rs ss cs ↔ ∃ s ∈ ss, k ∈ run rs [s] cs := by
  induction cs using snoc_ind with
  | nil => intro k; simp [run]
  | snoc cs c ih =>
    intro k
    rw [run_snoc, behind_mem]
    constructor
    · rintro ⟨s, hs, m, hm, h1, h2⟩
      obtain ⟨t, ht, hst⟩ := (ih s).mp hs
      refine ⟨t, ht, ?_⟩
      rw [run_snoc, behind_mem]
      exact ⟨s, hst, m, hm, h1, h2⟩
    · rintro ⟨t, ht, hk⟩
      rw [run_snoc, behind_mem] at hk
      obtain ⟨s, hs, m, hm, h1, h2⟩ := hk
      exact ⟨s, (ih s).mpr ⟨t, ht, hs⟩, m, hm, h1, h2⟩
/-- a class behind a class -/
theorem class_put (rs : List (List Mv)) (s : Nat) (a b : List Nat) : run rs [s] (a ++ b) = nsort (firstsF ((run rs [s] a).flatMap fun t => run rs [t] b)) := by
  refine sorted_ext (run_sorted_ (by simp) _) (lt_of_le_nd (nsort_le _) ((nsort_perm _).nodup_iff.mpr (firstsF_nodup _))) fun k => ?_
  rw [run_app, run_mem, (nsort_perm _).mem_iff, firstsF_mem, List.mem_flatMap]
/-- a class as a key -/
def classK (c : List (List Nat)) : List NestedKey := c.map fun ss => .tup (ss.map fun (n : Nat) => .num (n : Int))
theorem nkeys_nats : ∀ ns : List Nat, D.nkeys (natsD ns) = some (ns.map fun (n : Nat) => .num (n : Int))
  | [] => rfl
  | n :: ns => by
    have ih := nkeys_nats ns
    unfold natsD at ih ⊢
    simp only [List.map_cons, D.nkeys, D.nkey, ih]
theorem nkeys_class : ∀ c : List (List Nat), D.nkeys (c.map fun ss => .tup (natsD ss)) = some (classK c)
  | [] => rfl
  | ss :: c => by
    have ih := nkeys_class c
    unfold classK at ih ⊢
    simp only [List.map_cons, D.nkeys, D.nkey, nkeys_nats, Option.map_some, ih]
theorem depth_nums : ∀ ns : List Nat, NestedKey.depthAll (ns.map fun (n : Nat) => .num (n : Int)) ≤ 1
  | [] => by simp [NestedKey.depthAll]
  | n :: ns => by
    have ih := depth_nums ns
    simp only [List.map_cons, NestedKey.depthAll, NestedKey.depth]
    omega
theorem depth_class : ∀ c : List (List Nat), NestedKey.depthAll (classK c) ≤ 3
  | [] => by simp [classK, NestedKey.depthAll]
  | ss :: c => by
    have ih := depth_class c
    have := depth_nums ss
    unfold classK at ih ⊢
    simp only [List.map_cons, NestedKey.depthAll, NestedKey.depth]
    omega
theorem class_depth (c : List (List Nat)) : (NestedKey.tup (classK c)).depth ≤ 8 := by
  have := depth_class c
  simp only [NestedKey.depth]
  omega
end Pace
end
section
set_option Elab.async false
set_option linter.all false
set_option maxRecDepth 100000
set_option maxHeartbeats 4000000
namespace DL
open PySem PySem.Spec PyProof.Rows L2
end DL
end
section
set_option Elab.async false
set_option linter.all false
set_option maxRecDepth 100000
set_option maxHeartbeats 4000000
namespace DL
open PySem PySem.Spec PyProof.Rows L2
end DL
end
section
set_option Elab.async false
set_option linter.all false
set_option maxRecDepth 100000
set_option maxHeartbeats 4000000
namespace DL
open PySem PySem.Spec PyProof.Rows L2
def ItkN (w : World) (d : Addr) (o : Obj) (xs : List (NestedKey × Addr × Value)) : It :=
  ⟨fun i H => H d = some (.frz o (.ext (RawN w d xs))) ∧ i < xs.length, fun i H x H' => H' = H ∧ ∃ y, xs[i]? = some y ∧ x = .ref y.2.1, fun i H => H d = some (.frz o (.ext (RawN w d xs))) ∧ xs.length ≤ i⟩
theorem turn_keysN {P : Program} {w : World} {K : PySem.W.Frag} {tg : Expr} {d : Addr} {o : Obj} {es : Array DictEntry} {ep : Nat} {xs : List (NestedKey × Addr × Value)} (it : Addr) (hod : o.data = .dict es ep) :
    Turn P w K tg (ItkN w d o xs) [it] it (fun i h => h.IsKeyIter it d i xs.length ep) where
  mem := by simp
  obj := fun i h st b hb => by
    have e : b = it := by simpa using hb
    subst e
    obtain ⟨oi, e, c, dd⟩ := st
    exact ⟨oi, e, fun v z => by rw [dd] at z; cases z⟩
  keep := fun i h h' st k => st.at fun oi e => k it (by simp) oi e
  item := by
    intro X hP hw hK hc i pins s σ H E I hf st hg
    subst hP hw hK
    obtain ⟨hd, hi⟩ := hg
    obtain ⟨f0, f1, f2, f3, f4, f5⟩ := hf it (by simp)
    obtain ⟨hs, hgd, hx, es', ep', hdt, hsz, ent⟩ := frzNv I hd
    obtain ⟨rfl, rfl⟩ := dict_ep hod hdt
    obtain ⟨y, hy⟩ : ∃ y, xs[i]? = some y := ⟨xs[i], List.getElem?_eq_getElem hi⟩
    obtain ⟨en, hen, hkey, _⟩ := ent i y hy
    refine next_key_item st hgd hdt hsz hen fun h' st' sb => ?_
    have I1 : Inv X pins σ H { s with heap := h' } := I.turned (t' := s.toks) (fun b ob hb e => (sb.2 b hb).trans e) f0 f1 f3 f4 f5
    obtain ⟨oi, e, c, dd⟩ := id st'
    exact ⟨en.key, rfl, go_of (s := { s with heap := h' }) e c dd (by decide) ⟨.ref y.2.1, H, I1, hkey, ⟨rfl, y, hy, rfl⟩, st', fun b hb => (hf b hb).1⟩⟩
  done := by
    intro X hP hw hK hc i pins s σ H E I hf st hg
    subst hP hw hK
    obtain ⟨hd, hi⟩ := hg
    obtain ⟨f0, f1, f2, f3, f4, f5⟩ := hf it (by simp)
    obtain ⟨hs, hgd, hx, es', ep', hdt, hsz, ent⟩ := frzNv I hd
    obtain ⟨rfl, rfl⟩ := dict_ep hod hdt
    exact next_key_end (I.ok.hd hc) st hgd hdt hsz hi fun h' eb => ⟨rfl, I.turned (t' := s.toks) (fun b ob hb e => eb b ob hb e) f0 f1 f3 f4 f5⟩
  self := fun A i s Q E st h => by
    refine wpAny_pyIter_slot st.typeIs F.slot_dict_keyiterator_iter (wpAny_call_entry F.slot_dict_keyiterator_iter st.typeIs F.entry_dict_keyiterator_iter ?_ (F.args_dict_keyiterator_iter_1 _))
    show wpAny _ _ (ret (.ref it)) _ _ s
    exact wpAny_pure ⟨_, rfl, "dict_keyiterator", _, st.typeIs, F.slot_dict_keyiterator_next.lookup, h⟩
def iKeysN (w : World) (td : TE) : TI := fun σ H R => td σ H fun x H1 => ∃ d o, x = .ref d ∧ ((∃ xs, H1 d = some (.frz o (.ext (RawN w d xs))) ∧ R (ItkN w d o xs) H1) ∨ ∃ kvs, H1 d = some (.frz o (.dK kvs)) ∧ R (Itk d o kvs) H1)
section
variable {X : Cx} {pos : Pos} {tg : Expr}
theorem pi_keysN {e : Expr} {td : TE} (he : PE X e td) : PI X tg e (iKeysN X.w td) := by
  refine ⟨fun pins s σ H R I h => ?_⟩
  refine thn (he.run pins s σ H _ I h) fun u s1 ⟨x, H1, I1, rx, d, o, ex, q⟩ => ?_
  subst ex
  obtain rfl : u = Value.ref d := rx
  rcases q with ⟨xs, hd, q⟩ | ⟨kvs, hd, q⟩
  · obtain ⟨hs, hgd, hx, es, ep, hdt, hsz, ent⟩ := frzNv I1 hd
    refine iter_keys hs hgd hx hdt (pi_one (tk := s1.toks) I1 _ (turn_keysN _ hdt) ⟨_, Heap.get?_push_size _ rfl, rfl, ?_⟩ q)
    rw [hsz] <;> rfl
  · obtain ⟨hs, hgd, hx, es, ep, vs, hdt, hsz, kv, hm⟩ := I1.frzK hd
    refine iter_keys hs hgd hx hdt (pi_one (tk := s1.toks) I1 _ (turn_keys _ hdt) ⟨_, Heap.get?_push_size _ rfl, rfl, ?_⟩ q)
    rw [hsz] <;> rfl
def diKeysN (w : World) (te : DTE) : DTI := fun S G R => te S G fun d G1 => match d with
  | .rf p => (match G1 p with
    | some (.lkN w' o xs kds) => w' = w ∧ R (kds.map fun kv => kToD kv.1) (fun G => G p = some (.lkN w o xs kds)) G1
    | some (.lkK o [] []) => R [] (fun G => G p = some (.lkK o [] [])) G1
    | _ => False)
  | _ => False
theorem di_keysN {e : Expr} {te : DTE} (h : DE X e te) : DI X tg e (diKeysN X.w te) := by
  obtain ⟨t, p, r⟩ := h.ex
  refine ⟨_, pi_keysN p, fun F H σ S G o R' h R k => ?_⟩
  refine r F H σ S G o _ h _ fun F1 H1 v d G1 e1 g1 q1 h1 => ?_
  dsimp only at h1
  split at h1
  · rename_i a
    split at h1
    · rename_i w0 ob xs kds ea
      obtain ⟨hw, h1⟩ := h1
      subst hw
      cases q1
      obtain ⟨_, hh, hz, kn⟩ := g1.at_ a _ ea
      obtain ⟨vs, vl, hv⟩ := kn.vals
      have kl := kn.len
      refine ⟨a, ob, rfl, .inl ⟨xs, hh, k F1 H1 G1 _ _ _ e1 g1 ⟨fun F2 H2 G2 i d e2 g2 gd hd => ?_, fun F2 H2 G2 e2 g2 gd => ?_⟩ h1⟩⟩
      · obtain ⟨_, hh2, _, _⟩ := g2.at_ a _ gd
        rw [List.getElem?_map] at hd
        cases ei : kds[i]? with
        | none => rw [ei] at hd; cases hd
        | some kv =>
          rw [ei] at hd
          cases hd
          have hi := (List.getElem?_eq_some_iff.mp ei).1
          refine ⟨⟨hh2, by omega⟩, fun x H3 hy => ?_⟩
          obtain ⟨rfl, y, hy1, rfl⟩ := hy
          obtain ⟨v', h2, h3, h4, h5⟩ := hv i kv y ei hy1
          exact ⟨F2, Go.refl, g2, h5.mono e2⟩
      · obtain ⟨_, hh2, _, _⟩ := g2.at_ a _ gd
        exact ⟨hh2, by simp; omega⟩
    · rename_i ob ea
      cases q1
      obtain ⟨_, hh, hk, hr⟩ := g1.at_ a _ ea
      refine ⟨a, ob, rfl, .inr ⟨[], hh, k F1 H1 G1 _ _ _ e1 g1 ⟨fun F2 H2 G2 i d e2 g2 gd hd => ?_, fun F2 H2 G2 e2 g2 gd => ?_⟩ h1⟩⟩
      · simp at hd
      · obtain ⟨_, hh2, _, _⟩ := g2.at_ a _ gd
        exact ⟨hh2, by simp⟩
    · exact h1.elim
  · exact h1.elim
end
end DL
end
section
set_option Elab.async false
set_option linter.all false
set_option maxRecDepth 100000
set_option maxHeartbeats 4000000
namespace DL
open PySem PySem.Spec PyProof.Rows L2
end DL
end
section
set_option Elab.async false
set_option linter.all false
set_option maxRecDepth 100000
set_option maxHeartbeats 4000000
namespace DL
open PySem PySem.Spec PyProof.Rows L2
/-- one parameter, captured names, globals -/
structure Lam1 (sc scope : Scope) (N : List Str) (x : Str) : Prop where
  kind : scope.kind = .function
  co : scope.isCoroutine = false
  gen : scope.isGenerator = false
  own : ∀ y ∈ scope.names, y.2 ≠ .cell ∧ (y.2 = .local → y.1 = x)
  par : scope.names.lookup x = some .local
  new : x ∉ N
  free : ∀ y ∈ scope.names, y.2 = .free → sc.names.lookup y.1 = some .cell ∨ sc.names.lookup y.1 = some .free
theorem Lam1.has {X : Cx} {scope : Scope} {N : List Str} {x : Str} (L : Lam1 X.env.scope scope N x) (ok : X.Ok) : ∀ y ∈ scope.names, y.2 = .free → ∃ c, X.env.cells.lookup y.1 = some c := fun y hy e => by
  rcases L.free y hy e with k | k
  · exact ok.has _ (.inl k)
  · exact ok.has _ (.inr k)
end DL
end
section
set_option Elab.async false
set_option linter.all false
set_option maxRecDepth 100000
set_option maxHeartbeats 4000000
namespace DL
open PySem PySem.Spec PyProof.Rows L2
end DL
end
section
set_option Elab.async false
set_option linter.all false
set_option maxRecDepth 100000
set_option maxHeartbeats 4000000
namespace DL
open PySem PySem.Spec PyProof.Rows L2
section
variable {X : Cx} {pos : Pos}
theorem keys_rep {K : PySem.W.Frag} {F : Hp} : ∀ {kds : List (NestedKey × D)} {xs : List (NestedKey × Addr × Value)}, KN K F kds xs → Reps K F (xs.map fun x => V.ref x.2.1) (kds.map fun kv => kToD kv.1)
  | _, _, .nil => .nil
  | _, _, .cons (a := p) (b := q) ⟨z1, ⟨d, z2, zd, z3⟩, _⟩ t => .cons (by have := nkey_toD d z2; show Rep K F (V.ref q.2.1) (kToD p.1); rw [← this]; exact z3) (keys_rep t)
end
end DL
end
section
set_option Elab.async false
set_option linter.all false
set_option maxRecDepth 100000
set_option maxHeartbeats 4000000
namespace DL
open PySem PySem.Spec PyProof.Rows L2
theorem vals_refs2 : ∀ bs : List Addr, Vals (bs.map V.ref) (bs.map Value.ref)
  | [] => .nil
  | _ :: r => .cons rfl (vals_refs2 r)
end DL
end
section
set_option Elab.async false
set_option linter.all false
set_option maxRecDepth 100000
set_option maxHeartbeats 4000000
namespace DL
open PySem PySem.Spec PyProof.Rows L2
mutual
theorem reads_there {h : Heap} : ∀ {v : Value} {d : PyData} {as : List Addr}, PySem.Reads h v d as → ∀ a ∈ as, ∃ o, h.get? a = some o
  | _, _, _, .none => fun a z => by cases z
  | _, _, _, .bool _ => fun a z => by cases z
  | _, _, _, .int _ _ => fun a z => by cases z
  | _, _, _, .str _ _ => fun a z => by cases z
  | _, _, _, .list h1 _ _ r => fun a z => by
    rcases List.mem_cons.mp z with rfl | z
    · exact ⟨_, h1⟩
    · exact readsAll_there r a z
  | _, _, _, .tuple _ _ _ r => fun a z => readsAll_there r a z
  | _, _, _, .dict h1 _ _ r r2 => fun a z => by
    rcases List.mem_append.mp z with z | z
    · rcases List.mem_cons.mp z with rfl | z
      · exact ⟨_, h1⟩
      · exact readsAll_there r a z
    · exact readsAll_there r2 a z
theorem readsAll_there {h : Heap} : ∀ {vs : List Value} {ds : List PyData} {as : List Addr}, PySem.ReadsAll h vs ds as → ∀ a ∈ as, ∃ o, h.get? a = some o
  | _, _, _, .nil => fun a z => by cases z
  | _, _, _, .cons r r2 => fun a z => by
    rcases List.mem_append.mp z with z | z
    · exact reads_there r a z
    · exact readsAll_there r2 a z
end
section
variable {X : Cx}
def rSortNV (w : World) (K : PySem.W.Frag) : List V → Hp → VK → Prop := fun vs H Q => ∃ (d : Addr) (xs : List (NestedKey × Addr × Value)) (bs : List (V × D)), vs = [V.ref d] ∧ NAt w H d xs ∧ bs.map (·.1) = xs.map (fun x => V.ref x.2.1) ∧ (∀ b ∈ bs, Dp K H b.1 b.2.py) ∧ okS (bs.map (·.2)) = true ∧
  ∀ p, H p = none → Q (.ref p) (upd H p (.lst ((bs.mergeSort (PySem.W.dataLe false fun b => b.2.py)).map (·.1))))
theorem cr_sortN (hu : X.A.units + 100 < cLine) (hc : X.calm = true) : CallR X (.builtin "sorted") (rSortNV X.w X.K) := by
  intro pins s σ H vs us Q I r h
  obtain ⟨d, ks, bs, rfl, n, hbk, hd, hok, q⟩ := h
  obtain ⟨u, rfl, rx⟩ := r.one
  cases rx
  obtain ⟨hs, o, es, ep, ho, hx, hdt, he, _, hn⟩ := n.dict I.hok
  have l1 : es.size = ks.length := size_of_entries he
  have l2 := n.2.1
  obtain ⟨o1, o2, o3, o4⟩ := okS_of hok
  have hbl : bs.length = ks.length := by simpa using congrArg List.length hbk
  refine Calls.call_function_entry PyProof.Rows.kind_sorted PyProof.Rows.plain_sorted PyProof.Rows.entry_sorted (PyProof.Rows.args_sorted1 _) ?_
  unfold Builtin.«sorted»
  refine wpAny_bind (m := checkCount "sorted" 1 1 _) (wpAny_pure ?_)
  refine wpAny_bind (PySem.W.kdu_collect (A := X.A.in1) (kdl_raw hs hx hdt) (I.ok.hd hc) ho (by omega) fun h' tk acc kp it => ?_)
  have ea : acc.toList = ks.map fun x => Value.ref x.2.1 := by
    have hl : acc.toList.length = ks.length := by rw [Array.length_toList, it.1]; exact l1
    apply List.ext_getElem?
    intro j
    rw [List.getElem?_map]
    cases hj : acc.toList[j]? with
    | none =>
      have h1 := List.getElem?_eq_none_iff.mp hj
      rw [List.getElem?_eq_none (by omega)]
      all_goals rfl
    | some v =>
      obtain ⟨en, hen, hv⟩ := it.2 j v (by rw [← Array.getElem?_toList]; exact hj)
      have qe := entry_at he j
      rw [hen] at qe
      cases hb : ks[j]? with
      | none =>
        rw [hb] at qe
        exact nomatch (show some en = none from qe)
      | some b =>
        rw [hb] at qe
        have e2 : en = entryOfKey (nestedKind X.prog X.w) b := Option.some.inj qe
        rw [hv, e2]
        all_goals rfl
  have eb : acc.toList = (ks.map fun x => x.2.1).map Value.ref := by rw [ea, List.map_map]; all_goals rfl
  have rv : Vals (bs.map (·.1)) acc.toList := by
    rw [eb, hbk]
    have := vals_refs2 (ks.map fun x => x.2.1)
    rw [List.map_map] at this
    exact this
  have I1 : Inv X pins σ H { s with heap := h', toks := tk } := I.kept kp
  have al : acc.toList.length = bs.length := by rw [ea, List.length_map, hbl]
  have hzl : bs.length ≤ sizeLine := by omega
  have em : (bs.map fun b => b.2.py) = (bs.map (·.2)).map D.py := by simp
  refine wpAny_bind (wpAny_newList ?_ (by rw [al]; exact hzl))
  have atL : (h'.push (seqObj "list" acc.toList.toArray 0)).get? h'.objs.size = some (seqObj "list" acc.toList.toArray 0) := Heap.get?_push_size _ rfl
  show wpAny _ _ _ _ _ { s with heap := h'.push (seqObj "list" acc.toList.toArray 0), toks := tk }
  refine wpAny_bind (wpAny_holding (PySem.W.list_sort_data (R := fun u b => RelV b.1 u) (enc := fun b : V × D => b.2.py) (bs := bs) atL (each_of rv fun b _ u ru => ru) (each_of rv fun b hb u ru => ?_) (by rw [em]; exact o2) (by rw [em]; exact o4) hzl (fun b hb => ?_) fun out hlen' ho' => ?_))
  · obtain ⟨as, rd⟩ := Dp.reads I1 _ _ _ (hd b hb) ru
    refine ⟨as, PyProof.Rows.Reads.keeps (fun b o e => Heap.get?_push_of_some _ e) rd, fun z => ?_⟩
    obtain ⟨ob, hob⟩ := reads_there rd _ z
    exact absurd (Heap.lt_size hob) (Nat.lt_irrefl _)
  · have := o3 b.2 (List.mem_map.mpr ⟨b, hb, rfl⟩)
    show X.A.units + 1 + 1 + b.2.py.depth < cLine
    omega
  obtain ⟨e', he'⟩ := PyProof.Rows.sortedHeap_at (vs := acc.toList) (out := out.toArray) atL
  have hlo : ((bs.mergeSort (PySem.W.dataLe false fun b => b.2.py)).map (·.1)).length ≤ sizeLine := by
    rw [List.length_map, List.length_mergeSort]
    exact hzl
  refine wpAny_pure ⟨_, rfl, .ref h'.objs.size, upd H h'.objs.size (.lst ((bs.mergeSort (PySem.W.dataLe false fun b => b.2.py)).map (·.1))), I1.laid (t' := tk) (fun b u e => ?_) (Nat.le_refl _)
    (show ObjOk X.prog X.w _ _ _ (.lst _) from ⟨hlo, out, e', vals_each ho', he'⟩), rfl, q _ (I1.hok.fresh (Nat.le_refl _))⟩
  have hb : b < h'.objs.size := Heap.lt_size e
  rw [PyProof.Rows.sortedHeap_old (Nat.ne_of_lt hb) (by rw [size_push']; exact Nat.lt_succ_of_lt hb)]
  exact Heap.get?_push_of_some _ e
def rSortN (w : World) (ds : List D) (G : GH) (Q : DQ) : Prop := match ds with
  | [.rf a] => (match G a with
    | some (.dN w' kds) => w' = w ∧ okS (kds.map fun kv => kToD kv.1) = true ∧ Q (.lst (sortD (kds.map fun kv => kToD kv.1))) G
    | _ => False)
  | _ => False
theorem cd_sortN (hu : X.A.units + 100 < cLine) (hc : X.calm = true) : CallD X (.builtin "sorted") (rSortN X.w) := by
  refine ⟨_, cr_sortN hu hc, fun F H G vs ds g rs Q' h Q k => ?_⟩
  unfold rSortN at h
  split at h
  · rename_i a
    split at h
    · rename_i w' kds eg
      obtain ⟨rfl, hok, h⟩ := h
      cases rs with
      | cons r0 b =>
        cases b
        cases r0
        obtain ⟨fa, xs, e, hz, kn⟩ := g.at_ a _ eg
        have rk := keys_rep kn
        obtain ⟨z1, z2⟩ := zip_fst rk
        obtain ⟨o1, o2, o3, o4⟩ := okS_of hok
        refine ⟨a, xs, (xs.map fun x => V.ref x.2.1).zip (kds.map fun kv => kToD kv.1), rfl, ⟨e, by rw [← kn.len]; exact hz, kn.keys g.ex⟩, z1, fun b hb => ?_, by rw [z2]; exact hok, fun p hp => ?_⟩
        · have hm : b.2 ∈ kds.map fun kv => kToD kv.1 := by rw [← z2]; exact List.mem_map.mpr ⟨b, hb, rfl⟩
          have hp : b.2.pl = true := by
            rw [D.pls_all, List.all_eq_true] at o1
            exact o1 _ hm
          exact Dp.mono' g.ex _ (Rep.dp _ (zip_rep rk b hb) hp)
        · have em : ((((xs.map fun x => V.ref x.2.1).zip (kds.map fun kv => kToD kv.1))).mergeSort (PySem.W.dataLe false fun b => b.2.py)).map (·.2) = sortD (kds.map fun kv => kToD kv.1) := by
            unfold sortD
            have h3 := PySem.W.sort_maps (r := PySem.W.dataLe false fun b : V × D => b.2.py) (s := D.le) Prod.snd (l := (xs.map fun x => V.ref x.2.1).zip (kds.map fun kv => kToD kv.1)) (fun a _ b _ => rfl)
            rw [h3, z2]
          have rs2 : Reps X.K F ((((xs.map fun x => V.ref x.2.1).zip (kds.map fun kv => kToD kv.1)).mergeSort (PySem.W.dataLe false fun b => b.2.py)).map (·.1)) (sortD (kds.map fun kv => kToD kv.1)) := by
            rw [← em]
            exact Reps.of_zip _ fun b hb => zip_rep rk b ((List.mergeSort_perm _ _).mem_iff.mp hb)
          have gr := Gr.new (u := .lst ((((xs.map fun x => V.ref x.2.1).zip (kds.map fun kv => kToD kv.1)).mergeSort (PySem.W.dataLe false fun b => b.2.py)).map (·.1))) g.ex hp
          exact k _ _ _ _ G gr.go (g.grow gr) (.lst upd_same (rs2.mono gr.ff)) h
    · exact h.elim
  · exact h.elim
/-- list(x) of a list, a tuple: kept as a list that changes -/
def rListMD (ds : List D) (G : GH) (Q : DQ) : Prop := match ds with
  | [d] => (match d.cur G with
    | .tup xs => ∀ p, G p = none → Q (.rf p) (gput G p (.lst xs))
    | .lst xs => ∀ p, G p = none → Q (.rf p) (gput G p (.lst xs))
    | _ => False)
  | _ => False
theorem cd_listM : CallD X (.type "list") rListMD := by
  refine ⟨_, call_list_of, fun F H G vs ds g rs Q' h Q k => ?_⟩
  unfold rListMD at h
  split at h
  · rename_i d
    cases rs with
    | cons r b =>
      cases b
      split at h
      · rename_i xs ex
        obtain ⟨a, vs, rfl, ha, rs⟩ := cur_tup r ex
        refine ⟨a, vs, rfl, .inr (.inl (.inl (g.ex _ _ ha))), fun l hl => ?_⟩
        exact k _ _ _ _ _ (Go.alloc hl) (g.alloc (o := .lst xs) hl rfl ⟨vs, upd_same, rs⟩) (.rf l) (h l (g.free hl))
      · rename_i xs ex
        obtain ⟨a, vs, rfl, ha, rs⟩ := cur_list g r ex
        refine ⟨a, vs, rfl, .inl (.inl (.inl ha)), fun l hl => ?_⟩
        exact k _ _ _ _ _ (Go.alloc hl) (g.alloc (o := .lst xs) hl rfl ⟨vs, upd_same, rs⟩) (.rf l) (h l (g.free hl))
      · exact h.elim
  · exact h.elim
end
end DL
end
section
set_option Elab.async false
set_option linter.all false
set_option maxRecDepth 100000
set_option maxHeartbeats 4000000
namespace Pace
open PySem PySem.Spec PyProof.Rows L2 DL
theorem toks_one {x y : PyData} (al : PySem.W.alike x y = true) (h : PySem.W.keyToks x = PySem.W.keyToks y) : PyData.eqv x y = true := by
  cases e : PyData.eqv x y with
  | true => rfl
  | false =>
    have := (PySem.W.toks_eqv x y al).2 e [] [.inl 0]
    rw [h, PySem.W.lex_pre, PyProof.Rows.lex_irrefl] at this
    cases this
theorem sortD_perm {xs ys : List D} (p : xs.Perm ys) (ok : okS xs = true) (si : ∀ x ∈ xs, x.si = true) : sortD xs = sortD ys := by
  obtain ⟨_, o2, _, _⟩ := okS_of ok
  have le_ : ∀ a b : D, D.le a b = !PyProof.Rows.lexLt PyProof.Rows.itemOrd (PySem.W.keyToks b.py) (PySem.W.keyToks a.py) := fun a b => rfl
  have tr : ∀ a b c : D, D.le a b = true → D.le b c = true → D.le a c = true := fun a b c h1 h2 => by
    rw [le_, Bool.not_eq_true'] at h1 h2 ⊢
    cases e : PyProof.Rows.lexLt PyProof.Rows.itemOrd (PySem.W.keyToks c.py) (PySem.W.keyToks a.py) with
    | false => rfl
    | true =>
      rcases PyProof.Rows.lex_negTrans _ (PySem.W.keyToks b.py) _ e with z | z
      · rw [z] at h2; cases h2
      · rw [z] at h1; cases h1
  have tot : ∀ a b : D, (D.le a b || D.le b a) = true := fun a b => by
    rw [le_, le_]
    cases e : PyProof.Rows.lexLt PyProof.Rows.itemOrd (PySem.W.keyToks b.py) (PySem.W.keyToks a.py) with
    | false => rfl
    | true =>
      cases e2 : PyProof.Rows.lexLt PyProof.Rows.itemOrd (PySem.W.keyToks a.py) (PySem.W.keyToks b.py) with
      | false => rfl
      | true =>
        have := PyProof.Rows.lex_trans _ _ _ e e2
        rw [PyProof.Rows.lex_irrefl] at this
        cases this
  unfold sortD
  refine List.Perm.eq_of_pairwise (le := fun a b => D.le a b = true) (fun a b ha hb h1 h2 => ?_) (List.pairwise_mergeSort tr tot xs) (List.pairwise_mergeSort tr tot ys) ((List.mergeSort_perm xs _).trans (p.trans (List.mergeSort_perm ys _).symm))
  have ha := (List.mergeSort_perm xs _).mem_iff.mp ha
  have hb := p.mem_iff.mpr ((List.mergeSort_perm ys _).mem_iff.mp hb)
  rw [le_, Bool.not_eq_true'] at h1 h2
  have et := PyProof.Rows.lex_total _ _ h2 h1
  have al := o2 a.py (List.mem_map.mpr ⟨a, ha, rfl⟩) b.py (List.mem_map.mpr ⟨b, hb, rfl⟩)
  exact (eqv_si (si a ha) (si b hb)).mp (toks_one al et)
variable {rs : List (List Mv)} {hs : List Nat}
theorem class_len (rs : List (List Mv)) (l : List Nat) : (classOf rs l).length = rs.length := by simp [classOf]
theorem cls_app {a b : List Nat} (h : classOf rs a = classOf rs b) (u : List Nat) : classOf rs (a ++ u) = classOf rs (b ++ u) := by
  unfold classOf at *
  refine List.map_congr_left fun s hs => ?_
  rw [run_app, run_app]
  obtain ⟨i, hi⟩ := List.mem_iff_getElem?.mp hs
  have e := congrArg (fun l => l[i]?) h
  simp only [List.getElem?_map, hi, Option.map_some, Option.some.injEq] at e
  rw [e]
abbrev Ov (hs u : List Nat) : Prop := ∀ c ∈ u, c ∈ hs
theorem Ov.app {u v : List Nat} (h1 : Ov hs u) (h2 : Ov hs v) : Ov hs (u ++ v) := fun c hc => (List.mem_append.mp hc).elim (h1 c) (h2 c)
theorem Ov.one {c : Nat} (h : c ∈ hs) : Ov hs [c] := fun x hx => by rw [List.mem_singleton.mp hx]; exact h
/-- the classes of all texts are few -/
def FewC (hs : List Nat) (rs : List (List Mv)) (n : Nat) : Prop := ∃ W : List (List Nat), W.length ≤ n ∧ ∀ u, Ov hs u → ∃ w ∈ W, classOf rs u = classOf rs w
theorem FewC.le {n : Nat} (h : FewC hs rs n) {T : List (List Nat)} (nd : (T.map (classOf rs)).Nodup) (ov : ∀ t ∈ T, Ov hs t) : T.length ≤ n := by
  obtain ⟨W, hw, all⟩ := h
  have := List.Nodup.length_le_of_subset nd (l₂ := W.map (classOf rs)) fun c hc => by
    obtain ⟨t, ht, rfl⟩ := List.mem_map.mp hc
    obtain ⟨w, h1, h2⟩ := all t (ov t ht)
    exact List.mem_map.mpr ⟨w, h1, h2.symm⟩
  simp only [List.length_map] at this
  omega
/-- some text of the list has the class -/
def Has (rs : List (List Mv)) (T : List (List Nat)) (u : List Nat) : Prop := ∃ t ∈ T, classOf rs u = classOf rs t
theorem Has.grow {T : List (List Nat)} {u : List Nat} (h : Has rs T u) (E : List (List Nat)) : Has rs (T ++ E) u := by
  obtain ⟨t, ht, e⟩ := h
  exact ⟨t, List.mem_append_left _ ht, e⟩
theorem has_map {T : List (List Nat)} {u : List Nat} : Has rs T u ↔ classOf rs u ∈ T.map (classOf rs) := by
  unfold Has
  rw [List.mem_map]
  exact ⟨fun ⟨t, h1, h2⟩ => ⟨t, h1, h2.symm⟩, fun ⟨t, h1, h2⟩ => ⟨t, h1, h2.symm⟩⟩
/-- what is closed under letters has the classes of all texts that begin with its own -/
theorem has_all {T : List (List Nat)} (cl : ∀ t ∈ T, ∀ c ∈ hs, Has rs T (t ++ [c])) {a : List Nat} (ha : Has rs T a) : ∀ u, Ov hs u → Has rs T (a ++ u) := fun u => by
  induction u using snoc_ind with
  | nil => intro _; rw [List.append_nil]; exact ha
  | snoc u c ih =>
    intro ov
    obtain ⟨t, ht, e⟩ := ih fun x hx => ov x (List.mem_append_left _ hx)
    obtain ⟨t2, h2, e2⟩ := cl t ht c (ov c (by simp))
    refine ⟨t2, h2, ?_⟩
    rw [← List.append_assoc, cls_app e [c], e2]
/-- classes that texts have which go through a class twice -/
def LongC (hs : List Nat) (rs : List (List Mv)) (u : List Nat) : Prop := ∃ a v w, Ov hs a ∧ Ov hs v ∧ Ov hs w ∧ v ≠ [] ∧ classOf rs (a ++ v) = classOf rs a ∧ classOf rs u = classOf rs (a ++ w)
theorem LongC.congr {u u' : List Nat} (h : LongC hs rs u) (e : classOf rs u' = classOf rs u) : LongC hs rs u' := by
  obtain ⟨a, v, w, h1, h2, h3, h4, h5, h6⟩ := h
  exact ⟨a, v, w, h1, h2, h3, h4, h5, e.trans h6⟩
/-- a long text goes through a class twice -/
theorem long_text {n : Nat} (f : FewC hs rs n) {u : List Nat} (ov : Ov hs u) (hl : n ≤ u.length) : LongC hs rs u := by
  by_cases nd : (((List.range (u.length + 1)).map fun i => u.take i).map (classOf rs)).Nodup
  · have := f.le nd fun t ht => by
      obtain ⟨i, _, rfl⟩ := List.mem_map.mp ht
      exact fun c hc => ov c (List.take_subset _ _ hc)
    simp only [List.length_map, List.length_range] at this
    omega
  · have : ∃ i j, i < j ∧ j ≤ u.length ∧ classOf rs (u.take i) = classOf rs (u.take j) := by
      refine Classical.byContradiction fun no => nd ?_
      rw [List.map_map, List.nodup_iff_pairwise_ne, List.pairwise_map]
      refine (List.pairwise_lt_range).imp_of_mem fun {i j} hi hj hij e => no ⟨i, j, hij, ?_, e⟩
      have := List.mem_range.mp hj
      omega
    obtain ⟨i, j, hij, hj, e⟩ := this
    refine ⟨u.take i, (u.take j).drop i, u.drop i, fun c hc => ov c (List.take_subset _ _ hc), fun c hc => ov c (List.take_subset _ _ (List.drop_subset _ _ hc)), fun c hc => ov c (List.drop_subset _ _ hc), ?_, ?_, ?_⟩
    · intro z
      have := congrArg List.length z
      rw [List.length_drop, List.length_take, List.length_nil] at this
      omega
    · have : u.take i ++ (u.take j).drop i = u.take j := by
        have h := List.take_append_drop i (u.take j)
        rw [List.take_take, Nat.min_eq_left (Nat.le_of_lt hij)] at h
        exact h
      rw [this, e]
    · rw [List.take_append_drop]
def clN (rs : List (List Mv)) (l : List Nat) : NestedKey := .tup (classK (classOf rs l))
theorem nums_inj : ∀ {a b : List Nat}, (a.map fun (n : Nat) => NestedKey.num (n : Int)) = b.map (fun (n : Nat) => NestedKey.num (n : Int)) → a = b
  | [], [], _ => rfl
  | [], _ :: _, h => by simp at h
  | _ :: _, [], h => by simp at h
  | x :: a, y :: b, h => by
    simp only [List.map_cons, List.cons.injEq, NestedKey.num.injEq] at h
    rw [nums_inj h.2, show x = y by omega]
theorem clN_inj {a b : List Nat} (h : clN rs a = clN rs b) : classOf rs a = classOf rs b := by
  unfold clN classK at h
  simp only [NestedKey.tup.injEq] at h
  generalize classOf rs a = x at h
  generalize classOf rs b = y at h
  induction x generalizing y with
  | nil => cases y with
    | nil => rfl
    | cons _ _ => simp at h
  | cons p x ih => cases y with
    | nil => simp at h
    | cons q y =>
      simp only [List.map_cons, List.cons.injEq, NestedKey.tup.injEq] at h
      rw [nums_inj h.1, ih _ h.2]
theorem clN_eq {a b : List Nat} (h : classOf rs a = classOf rs b) : clN rs a = clN rs b := by unfold clN; rw [h]
/-- a dict by classes -/
def ckD (rs : List (List Mv)) (E : List (List Nat × D)) : List (NestedKey × D) := E.map fun e => (clN rs e.1, e.2)
theorem ck_some {E : List (List Nat × D)} {u : List Nat} : (valD (ckD rs E) (clN rs u)).isSome = true ↔ Has rs (E.map (·.1)) u := by
  unfold valD ckD
  rw [Option.isSome_map, List.find?_isSome]
  constructor
  · rintro ⟨x, hx, e⟩
    obtain ⟨y, hy, rfl⟩ := List.mem_map.mp hx
    rw [decide_eq_true_eq] at e
    exact ⟨y.1, List.mem_map.mpr ⟨y, hy, rfl⟩, (clN_inj e).symm⟩
  · rintro ⟨t, ht, e⟩
    obtain ⟨y, hy, rfl⟩ := List.mem_map.mp ht
    exact ⟨_, List.mem_map.mpr ⟨y, hy, rfl⟩, by rw [decide_eq_true_eq]; exact clN_eq e.symm⟩
theorem ck_no {E : List (List Nat × D)} {u : List Nat} (h : ¬ Has rs (E.map (·.1)) u) : valD (ckD rs E) (clN rs u) = none := by
  cases e : valD (ckD rs E) (clN rs u) with
  | none => rfl
  | some d => exact absurd (ck_some.mp (by rw [e]; rfl)) h
theorem ck_val {E : List (List Nat × D)} (nd : ((E.map (·.1)).map (classOf rs)).Nodup) {e : List Nat × D} (he : e ∈ E) {u : List Nat} (hu : classOf rs u = classOf rs e.1) : valD (ckD rs E) (clN rs u) = some e.2 := by
  rw [clN_eq hu]
  induction E with
  | nil => cases he
  | cons a E ih =>
    rw [List.map_cons, List.map_cons, List.nodup_cons] at nd
    unfold valD ckD
    rw [List.map_cons, List.find?_cons]
    by_cases h : classOf rs a.1 = classOf rs e.1
    · have : clN rs a.1 = clN rs e.1 := clN_eq h
      simp only [this, decide_true, Option.map_some]
      rcases List.mem_cons.mp he with z | z
      · rw [z]
      · exact absurd (List.mem_map.mpr ⟨e.1, List.mem_map.mpr ⟨e, z, rfl⟩, h.symm⟩) nd.1
    · have ne : ¬ clN rs a.1 = clN rs e.1 := fun z => h (clN_inj z)
      simp only [ne, decide_false]
      rcases List.mem_cons.mp he with z | z
      · exact absurd (by rw [z]) h
      · exact ih nd.2 z
theorem ck_put {E : List (List Nat × D)} {u : List Nat} (h : ¬ Has rs (E.map (·.1)) u) (d : D) : putD (ckD rs E) (clN rs u) d = ckD rs (E ++ [(u, d)]) := by
  rw [put_new (ck_no h)]
  simp [ckD]
theorem ck_len (E : List (List Nat × D)) : (ckD rs E).length = E.length := by simp [ckD]
theorem nd_snoc {T : List (List Nat)} {u : List Nat} (nd : (T.map (classOf rs)).Nodup) (h : ¬ Has rs T u) : ((T ++ [u]).map (classOf rs)).Nodup := by
  rw [List.map_append, List.nodup_append]
  refine ⟨nd, by simp, fun a ha b hb e => h (has_map.mpr ?_)⟩
  rw [List.map_cons, List.map_nil, List.mem_singleton] at hb
  rw [← hb, ← e]
  exact ha
theorem clN_toD (l : List Nat) : kToD (clN rs l) = classD rs l := (nkey_toD (classD rs l) (by
  unfold classD
  show (D.nkeys ((classOf rs l).map fun ss => D.tup (natsD ss))).map NestedKey.tup = _
  rw [nkeys_class]
  rfl)).symm
theorem pys_intsZ : ∀ a : List Nat, D.pys (a.map fun x : Nat => D.int (x : Int)) = a.map fun x : Nat => PyData.int (x : Int)
  | [] => rfl
  | x :: a => by rw [List.map_cons, D.pys, pys_intsZ a]; rfl
theorem pls_intsZ : ∀ a : List Nat, D.pls (a.map fun x : Nat => D.int (x : Int)) = true
  | [] => rfl
  | x :: a => by rw [List.map_cons, D.pls, pls_intsZ a]; rfl
theorem alike_intsZ : ∀ a b : List Nat, PySem.W.alikeAll (a.map fun x : Nat => PyData.int (x : Int)) (b.map fun x : Nat => PyData.int (x : Int)) = true
  | [], _ => by simp [PySem.W.alikeAll]
  | _ :: _, [] => by simp [PySem.W.alikeAll]
  | x :: a, y :: b => by
    have := alike_intsZ a b
    simp only [List.map_cons, PySem.W.alikeAll, PySem.W.alike, Bool.true_and]
    exact this
theorem depthA_intsZ : ∀ a : List Nat, PyData.depthAll (a.map fun x : Nat => PyData.int (x : Int)) = 0
  | [] => rfl
  | x :: a => by rw [List.map_cons, PyData.depthAll, depthA_intsZ a]; rfl
theorem pys_cls : ∀ c : List (List Nat), D.pys (c.map fun ss => D.tup (natsD ss)) = c.map fun ss => PyData.tuple (ss.map fun x : Nat => PyData.int (x : Int))
  | [] => rfl
  | x :: c => by
    rw [List.map_cons, D.pys, pys_cls c]
    show PyData.tuple (D.pys (x.map fun x : Nat => D.int (x : Int))) :: _ = _
    rw [pys_intsZ]
    rfl
theorem pls_cls : ∀ c : List (List Nat), D.pls (c.map fun ss => D.tup (natsD ss)) = true
  | [] => rfl
  | x :: c => by
    rw [List.map_cons, D.pls, pls_cls c]
    show (D.pls (x.map fun x : Nat => D.int (x : Int)) && true) = true
    rw [pls_intsZ]
    rfl
theorem alike_cls : ∀ c d : List (List Nat), PySem.W.alikeAll (c.map fun ss => PyData.tuple (ss.map fun x : Nat => PyData.int (x : Int))) (d.map fun ss => PyData.tuple (ss.map fun x : Nat => PyData.int (x : Int))) = true
  | [], _ => by simp [PySem.W.alikeAll]
  | _ :: _, [] => by simp [PySem.W.alikeAll]
  | x :: a, y :: b => by
    have h1 := alike_cls a b
    have h2 := alike_intsZ x y
    simp only [List.map_cons, PySem.W.alikeAll, PySem.W.alike, h2, Bool.true_and]
    exact h1
theorem depth_cls : ∀ c : List (List Nat), PyData.depthAll (c.map fun ss => PyData.tuple (ss.map fun x : Nat => PyData.int (x : Int))) ≤ 1
  | [] => by simp [PyData.depthAll]
  | x :: c => by
    have h1 := depth_cls c
    have h2 := depthA_intsZ x
    simp only [List.map_cons, PyData.depthAll, PyData.depth, h2]
    omega
theorem classD_py (rs : List (List Mv)) (l : List Nat) : (classD rs l).py = .tuple ((classOf rs l).map fun ss => PyData.tuple (ss.map fun x : Nat => PyData.int (x : Int))) := by
  show PyData.tuple (D.pys _) = _
  rw [pys_cls]
theorem okS_cls (T : List (List Nat)) (h : 0 < rs.length) : okS (T.map (classD rs)) = true := by
  unfold okS
  have si : ∀ x ∈ T.map (classD rs), x.si = true := fun x hx => by obtain ⟨l, _, rfl⟩ := List.mem_map.mp hx; exact classD_si rs l
  simp only [Bool.and_eq_true, Bool.or_eq_true, List.all_eq_true, decide_eq_true_eq]
  refine ⟨⟨⟨?_, fun x hx y hy => ?_⟩, fun x hx => ?_⟩, .inl fun x hx => ?_⟩
  · rw [D.pls_all, List.all_eq_true]
    intro x hx
    obtain ⟨l, _, rfl⟩ := List.mem_map.mp hx
    exact pls_cls (classOf rs l)
  · obtain ⟨l, _, rfl⟩ := List.mem_map.mp hx
    obtain ⟨l2, _, rfl⟩ := List.mem_map.mp hy
    rw [classD_py, classD_py]
    show PySem.W.alikeAll _ _ = true
    exact alike_cls _ _
  · obtain ⟨l, _, rfl⟩ := List.mem_map.mp hx
    rw [classD_py]
    have := depth_cls (classOf rs l)
    simp only [PyData.depth]
    omega
  · obtain ⟨l, _, rfl⟩ := List.mem_map.mp hx
    have := class_len rs l
    have e2 : classD rs l = .tup ((classOf rs l).map fun ss => .tup (natsD ss)) := rfl
    rw [e2]
    cases e : classOf rs l with
    | nil => rw [e] at this; simp at this; omega
    | cons a b => rfl
/-- two lists of texts with the same classes, each class once: sorted alike -/
theorem sort_cls {T U : List (List Nat)} (h0 : 0 < rs.length) (nT : (T.map (classOf rs)).Nodup) (nU : (U.map (classOf rs)).Nodup) (h : ∀ u, Has rs T u ↔ Has rs U u) : sortD (T.map (classD rs)) = sortD (U.map (classD rs)) := by
  have ed : ∀ X : List (List Nat), X.map (classD rs) = (X.map (classOf rs)).map fun c => D.tup (c.map fun ss => .tup (natsD ss)) := fun X => by rw [List.map_map]; rfl
  have pm : (T.map (classOf rs)).Perm (U.map (classOf rs)) := (List.perm_ext_iff_of_nodup nT nU).mpr fun c => by
    constructor
    · intro hc
      obtain ⟨t, ht, rfl⟩ := List.mem_map.mp hc
      exact has_map.mp ((h t).mp ⟨t, ht, rfl⟩)
    · intro hc
      obtain ⟨t, ht, rfl⟩ := List.mem_map.mp hc
      exact has_map.mp ((h t).mpr ⟨t, ht, rfl⟩)
  refine sortD_perm ?_ (okS_cls T h0) fun x hx => ?_
  · rw [ed, ed]
    exact pm.map _
  · obtain ⟨l, _, rfl⟩ := List.mem_map.mp hx
    exact classD_si rs l
theorem c_in {w : World} {neg : Bool} {G : GH} {d : Addr} {E : List (List Nat × D)} {u : List Nat} {Q : DQ} (h : G d = some (.dN w (ckD rs E))) (z : Q (.bl (if neg then !(valD (ckD rs E) (clN rs u)).isSome else (valD (ckD rs E) (clN rs u)).isSome)) G) : rInN w neg (classD rs u) (.rf d) G Q := by
  unfold rInN classD
  simp only [h, nkeys_class]
  exact ⟨trivial, class_depth _, z⟩
theorem c_yes {w : World} {neg : Bool} {G : GH} {d : Addr} {E : List (List Nat × D)} {u : List Nat} {Q : DQ} (h : G d = some (.dN w (ckD rs E))) (hu : Has rs (E.map (·.1)) u) (z : Q (.bl (!neg)) G) : rInN w neg (classD rs u) (.rf d) G Q := by
  refine c_in h ?_
  rw [ck_some.mpr hu]
  cases neg <;> exact z
theorem c_no {w : World} {neg : Bool} {G : GH} {d : Addr} {E : List (List Nat × D)} {u : List Nat} {Q : DQ} (h : G d = some (.dN w (ckD rs E))) (hu : ¬ Has rs (E.map (·.1)) u) (z : Q (.bl neg) G) : rInN w neg (classD rs u) (.rf d) G Q := by
  refine c_in h ?_
  rw [ck_no hu]
  cases neg <;> exact z
theorem c_item {w : World} {G : GH} {d : Addr} {E : List (List Nat × D)} {u : List Nat} {v : D} {Q : DQ} (h : G d = some (.dN w (ckD rs E))) (hv : valD (ckD rs E) (clN rs u) = some v) (z : Q v G) : rItemN w (.rf d) (classD rs u) G Q := by
  unfold rItemN classD
  simp only [h, nkeys_class]
  refine ⟨trivial, class_depth _, ?_⟩
  have : valD (ckD rs E) (.tup (classK (classOf rs u))) = some v := hv
  rw [this]
  exact z
theorem c_set {w : World} {to ti : DTE} {G : GH} {S : DS} {d : Addr} {E : List (List Nat × D)} {u : List Nat} {v : D} {Q : DS → GH → Prop} (hto : ∀ {K : DQ}, K (.rf d) G → to S G K) (hti : ∀ {K : DQ}, K (classD rs u) G → ti S G K) (h : G d = some (.dN w (ckD rs E))) (hl : E.length ≤ 1000) (hu : ¬ Has rs (E.map (·.1)) u) (z : Q S (gput G d (.dN w (ckD rs (E ++ [(u, v)]))))) : dSetSubN w to ti v S G Q := by
  unfold dSetSubN
  refine hto (hti ?_)
  unfold classD
  simp only [h, nkeys_class]
  refine ⟨trivial, class_depth _, szl (by rw [ck_len]; omega), ?_⟩
  have : putD (ckD rs E) (.tup (classK (classOf rs u))) v = ckD rs (E ++ [(u, v)]) := ck_put hu v
  rw [this]
  exact z
theorem c_disp {w : World} {tk tv : DTE} {G : GH} {S : DS} {u : List Nat} {v : D} {Q : DQ} (hk : ∀ {K : DQ}, K (classD rs u) G → tk S G K) (hv : ∀ {K : DQ}, K v G → tv S G K) (z : ∀ p, G p = none → Q (.rf p) (gput G p (.dN w (ckD rs [(u, v)])))) : dDispN w tk tv S G Q := by
  unfold dDispN
  refine hk (hv ?_)
  unfold classD
  simp only [nkeys_class]
  exact ⟨class_depth _, z⟩
theorem sub_putZ {Gb G : GH} (s : Sub Gb G) {a : Addr} (h : Gb a = none) {o : MO} (hd : o.isDeck = false) : Sub Gb (gput G a o) := by
  refine ⟨fun b w z => ?_, fun c z => ?_⟩
  · have q : b ≠ a := fun y => by rw [y, h] at z; cases z
    rw [gput_ne q]; exact s.le b w z
  · by_cases q : c = a
    · subst q; rw [gput_same] at z; cases z; cases hd
    · rw [gput_ne q] at z; exact s.dc c z
end Pace
end
section
set_option Elab.async false
set_option linter.all false
set_option maxRecDepth 100000
set_option maxHeartbeats 4000000
namespace Pace
open PySem PySem.Spec PyProof.Rows L2 DL
abbrev Rows := List (List Mv)
def rowS (A : Rows) (s : Nat) : List Mv := A.getD s []
/-- two rows with the same letters, and targets that go with each other -/
def rowsLike (P : Nat → Nat → Bool) : List Mv → List Mv → Bool
  | [], [] => true
  | m :: r, m' :: r' => (m.h == m'.h && m.c == m'.c && P m.t m'.t) && rowsLike P r r'
  | _, _ => false
/-- the same for k rounds -/
def sim : Nat → Rows → Nat → Rows → Nat → Bool
  | 0, _, _, _, _ => true
  | k + 1, A, s, B, t => rowsLike (fun x y => sim k A x B y) (rowS A s) (rowS B t)
def bis (A : Rows) (s : Nat) (B : Rows) (t : Nat) : Prop := ∀ k, sim k A s B t = true
theorem sim_refl (A : Rows) : ∀ k s, sim k A s A s = true := by
  intro k
  induction k with
  | zero => intro s; rfl
  | succ k ih =>
    intro s
    show rowsLike _ (rowS A s) (rowS A s) = true
    generalize rowS A s = r
    induction r with
    | nil => rfl
    | cons m r ihr => simp only [rowsLike, ih, ihr, beq_self_eq_true, Bool.and_self]
theorem sim_symm {A B : Rows} : ∀ {k s t}, sim k A s B t = true → sim k B t A s = true := by
  intro k
  induction k with
  | zero => intro s t _; rfl
  | succ k ih =>
    intro s t h
    show rowsLike _ (rowS B t) (rowS A s) = true
    have h : rowsLike _ (rowS A s) (rowS B t) = true := h
    generalize rowS A s = r at h
    generalize rowS B t = r' at h
    induction r generalizing r' with
    | nil => cases r' with
      | nil => rfl
      | cons _ _ => cases h
    | cons m r ihr => cases r' with
      | nil => cases h
      | cons m' r' =>
        simp only [rowsLike, Bool.and_eq_true, beq_iff_eq] at h ⊢
        exact ⟨⟨⟨h.1.1.1.symm, h.1.1.2.symm⟩, ih h.1.2⟩, ihr r' h.2⟩
theorem sim_trans {A B D : Rows} : ∀ {k s t u}, sim k A s B t = true → sim k B t D u = true → sim k A s D u = true := by
  intro k
  induction k with
  | zero => intro s t u _ _; rfl
  | succ k ih =>
    intro s t u h1 h2
    show rowsLike _ (rowS A s) (rowS D u) = true
    have h1 : rowsLike _ (rowS A s) (rowS B t) = true := h1
    have h2 : rowsLike _ (rowS B t) (rowS D u) = true := h2
    generalize rowS A s = r at h1
    generalize rowS B t = r' at h1 h2
    generalize rowS D u = r'' at h2
    induction r generalizing r' r'' with
    | nil => cases r' with
      | nil => cases r'' with
        | nil => rfl
        | cons _ _ => cases h2
      | cons _ _ => cases h1
    | cons m r ihr => cases r' with
      | nil => cases h1
      | cons m' r' => cases r'' with
        | nil => cases h2
        | cons m'' r'' =>
          simp only [rowsLike, Bool.and_eq_true, beq_iff_eq] at h1 h2 ⊢
          exact ⟨⟨⟨h1.1.1.1.trans h2.1.1.1, h1.1.1.2.trans h2.1.1.2⟩, ih h1.1.2 h2.1.2⟩, ihr r' h1.2 r'' h2.2⟩
theorem bis.refl (A : Rows) (s : Nat) : bis A s A s := fun k => sim_refl A k s
theorem bis.symm {A B : Rows} {s t : Nat} (h : bis A s B t) : bis B t A s := fun k => sim_symm (h k)
theorem bis.trans {A B D : Rows} {s t u : Nat} (h : bis A s B t) (g : bis B t D u) : bis A s D u := fun k => sim_trans (h k) (g k)
/-- what a bisimulation says of two rows -/
inductive Like (R : Nat → Nat → Prop) : List Mv → List Mv → Prop
  | nil : Like R [] []
  | cons {m m' : Mv} {r r' : List Mv} : m.h = m'.h → m.c = m'.c → R m.t m'.t → Like R r r' → Like R (m :: r) (m' :: r')
theorem bis.row {A B : Rows} {s t : Nat} (h : bis A s B t) : Like (fun x y => bis A x B y) (rowS A s) (rowS B t) := by
  have h : ∀ k, rowsLike (fun x y => sim k A x B y) (rowS A s) (rowS B t) = true := fun k => h (k + 1)
  generalize rowS A s = r at h
  generalize rowS B t = r' at h
  induction r generalizing r' with
  | nil => cases r' with
    | nil => exact .nil
    | cons _ _ => cases h 0
  | cons m r ih => cases r' with
    | nil => cases h 0
    | cons m' r' =>
      simp only [rowsLike, Bool.and_eq_true, beq_iff_eq] at h
      exact .cons (h 0).1.1.1 (h 0).1.1.2 (fun k => (h k).1.2) (ih r' fun k => (h k).2)
theorem Like.imp {R R' : Nat → Nat → Prop} (f : ∀ x y, R x y → R' x y) {r r' : List Mv} (l : Like R r r') : Like R' r r' := by
  induction l with
  | nil => exact .nil
  | cons e1 e2 e3 _ ih => exact .cons e1 e2 (f _ _ e3) ih
inductive All2 (R : Nat → Nat → Prop) : List Nat → List Nat → Prop
  | nil : All2 R [] []
  | cons {x y : Nat} {l l' : List Nat} : R x y → All2 R l l' → All2 R (x :: l) (y :: l')
theorem All2.len {R : Nat → Nat → Prop} {l l' : List Nat} (h : All2 R l l') : l.length = l'.length := by
  induction h with
  | nil => rfl
  | cons _ _ ih => rw [List.length_cons, List.length_cons, ih]
theorem All2.snoc {R : Nat → Nat → Prop} {l l' : List Nat} {x y : Nat} (h : All2 R l l') (r : R x y) : All2 R (l ++ [x]) (l' ++ [y]) := by
  induction h with
  | nil => exact .cons r .nil
  | cons r' _ ih => exact .cons r' ih
theorem All2.get {R : Nat → Nat → Prop} {l l' : List Nat} (h : All2 R l l') : ∀ {i : Nat} {x : Nat}, l[i]? = some x → ∃ y, l'[i]? = some y ∧ R x y := by
  induction h with
  | nil => intro i x e; simp at e
  | cons r _ ih =>
    intro i x e
    cases i with
    | zero => simp at e; subst e; exact ⟨_, rfl, r⟩
    | succ i => simpa using ih (by simpa using e)
end Pace
end
section
set_option Elab.async false
set_option linter.all false
set_option maxRecDepth 100000
set_option maxHeartbeats 4000000
namespace Pace
open PySem PySem.Spec PyProof.Rows L2 DL
/-- targets lie within -/
def Closed (A : Rows) : Prop := 1 ≤ A.length ∧ ∀ r ∈ A, ∀ m ∈ r, m.t < A.length
theorem rowS_mem {A : Rows} {s : Nat} {m : Mv} (h : m ∈ rowS A s) : ∃ r ∈ A, m ∈ r := by
  unfold rowS at h
  rw [List.getD_eq_getElem?_getD] at h
  cases e : A[s]? with
  | none => rw [e] at h; simp at h
  | some r => rw [e] at h; exact ⟨r, List.mem_of_getElem? e, h⟩
theorem Closed.t {A : Rows} (c : Closed A) {s : Nat} {m : Mv} (h : m ∈ rowS A s) : m.t < A.length := by
  obtain ⟨r, hr, hm⟩ := rowS_mem h
  exact c.2 r hr m hm
theorem Like.app {R : Nat → Nat → Prop} {a b a' b' : List Mv} (h : Like R a b) (g : Like R a' b') : Like R (a ++ a') (b ++ b') := by
  induction h with
  | nil => exact g
  | cons e1 e2 e3 _ ih => exact .cons e1 e2 e3 ih
theorem Like.mem {R : Nat → Nat → Prop} {r r' : List Mv} (l : Like R r r') : ∀ m ∈ r, ∃ t, R m.t t := by
  induction l with
  | nil => intro m hm; cases hm
  | cons e1 e2 e3 _ ih =>
    intro x hx
    rcases List.mem_cons.mp hx with rfl | hx
    · exact ⟨_, e3⟩
    · exact ih x hx
end Pace
end
section
set_option Elab.async false
set_option linter.all false
set_option maxRecDepth 100000
set_option maxHeartbeats 4000000
namespace DL
open PySem PySem.Spec PyProof.Rows L2
end DL
end
section
set_option Elab.async false
set_option linter.all false
set_option maxRecDepth 100000
set_option maxHeartbeats 4000000
namespace Pace
open PySem PySem.Spec PyProof.Rows L2 DL
/-- rows as the walks need them -/
structure Steps (A : Rows) : Prop where
  cl : Closed A
  n : A.length ≤ 999
  pw : ∀ r ∈ A, r.Pairwise fun a b => mvLt a b = true
  l : ∀ r ∈ A, r.length ≤ 1000
theorem RulV.steps {hs ws : List Nat} {rs : List (List Mv)} (v : RulV hs ws rs) : Steps rs where
  cl := ⟨v.n1, fun r hr m hm => (v.ok.at_ r hr).2 m hm⟩
  n := v.n2
  pw := fun r hr => by
    have := (v.row r hr).1
    unfold rowB at this
    rw [Bool.and_eq_true] at this
    exact nbr_pair (r := mvLt) mvLt_tr _ this.2
  l := fun r hr => (v.row r hr).2
theorem Steps.row {A : Rows} (h : Steps A) (s : Nat) : (rowS A s).Pairwise (fun a b => mvLt a b = true) ∧ (rowS A s).length ≤ 1000 := by
  unfold rowS
  rw [List.getD_eq_getElem?_getD]
  cases e : A[s]? with
  | none => exact ⟨.nil, Nat.zero_le _⟩
  | some r => exact ⟨h.pw r (List.mem_of_getElem? e), h.l r (List.mem_of_getElem? e)⟩
end Pace
end
section
set_option Elab.async false
set_option linter.all false
set_option maxRecDepth 100000
set_option maxHeartbeats 4000000
namespace Pace
open PySem PySem.Spec PyProof.Rows L2 DL
theorem _root_.DL.Sub.over {G G' : GH} {p : Addr} {o : MO} (s : Sub G G') (h : G p = none) (hd : o.isDeck = false) : Sub G (gput G' p o) := by
  refine ⟨fun a w z => ?_, fun c z => ?_⟩
  · have q : a ≠ p := fun y => by rw [y, h] at z; cases z
    rw [gput_ne q]; exact s.le a w z
  · by_cases q : c = p
    · subst q; rw [gput_same] at z; cases z; cases hd
    · rw [gput_ne q] at z; exact s.dc c z
theorem gput_none {G : GH} {p b : Addr} {o : MO} (h : gput G p o b = none) : b ≠ p ∧ G b = none := by
  have q : b ≠ p := fun e => by rw [e, gput_same] at h; cases h
  exact ⟨q, by rwa [gput_ne q] at h⟩
theorem _root_.DL.Sub.no {G G' : GH} (s : Sub G G') {p : Addr} (h : G' p = none) : G p = none := by
  cases q : G p with
  | none => rfl
  | some o => rw [s.le p o q] at h; cases h
end Pace
end
section
set_option Elab.async false
set_option linter.all false
set_option maxRecDepth 100000
set_option maxHeartbeats 4000000
namespace Pace
open PySem PySem.Spec PyProof.Rows L2 DL
mutual
def leafD (m : Nat) : D → Bool
  | .int i => decide (i.natAbs ≤ 10 ^ 39 + m)
  | .str x => x.cps.toList.all fun c => decide (c < 128)
  | .tup xs | .lst xs => leafsD m xs
  | .kup _ => false
  | _ => true
def leafsD (m : Nat) : List D → Bool
  | [] => true
  | x :: xs => leafD m x && leafsD m xs
end
def bkD (x : D) : Nat := x.pyR.bulk
def bksD (xs : List D) : Nat := (xs.map fun x => bkD x + 1).sum
structure One (m n : Nat) (d : D) : Prop where
  pl : d.plR = true
  lf : leafD m d = true
  dp : d.pyR.depth ≤ n
structure Odd (m n w : Nat) (d : D) : Prop where
  one : One m n d
  bk : bkD d ≤ w
theorem plsR_all : ∀ xs : List D, D.plsR xs = true ↔ ∀ x ∈ xs, x.plR = true
  | [] => by simp [D.plsR]
  | x :: xs => by simp [D.plsR, plsR_all xs]
theorem leafsD_all (m : Nat) : ∀ xs : List D, leafsD m xs = true ↔ ∀ x ∈ xs, leafD m x = true
  | [] => by simp [leafsD]
  | x :: xs => by simp [leafsD, leafsD_all m xs]
theorem depthsR (n : Nat) : ∀ xs : List D, PyData.depthAll (D.pysR xs) ≤ n ↔ ∀ x ∈ xs, x.pyR.depth ≤ n
  | [] => by simp [D.pysR, PyData.depthAll]
  | x :: xs => by
    have := depthsR n xs
    simp only [D.pysR, PyData.depthAll, List.forall_mem_cons, ← this]
    exact Nat.max_le
theorem bulksR : ∀ xs : List D, PyData.bulkAll (D.pysR xs) = bksD xs
  | [] => rfl
  | x :: xs => by
    have := bulksR xs
    simp only [D.pysR, PyData.bulkAll, this, bksD, bkD, List.map_cons, List.sum_cons]
theorem One.mono {m n m' n' : Nat} {d : D} (h : One m n d) (h1 : m ≤ m') (h2 : n ≤ n') : One m' n' d := by
  have aux : ∀ k : Nat, (∀ d : D, sizeOf d ≤ k → leafD m d = true → leafD m' d = true) ∧ (∀ ds : List D, sizeOf ds ≤ k → leafsD m ds = true → leafsD m' ds = true) := by
    intro k
    induction k with
    | zero =>
      refine ⟨fun d hd => ?_, fun ds hd => ?_⟩
      · cases d <;> simp at hd
      · cases ds <;> simp at hd
    | succ k ih =>
      refine ⟨fun d hd hl => ?_, fun ds hd hl => ?_⟩
      · cases d with
        | int i => simp only [leafD, decide_eq_true_eq] at hl ⊢; omega
        | tup xs => exact ih.2 xs (by simp at hd; omega) hl
        | lst xs => exact ih.2 xs (by simp at hd; omega) hl
        | str x => exact hl
        | kup xs => cases hl
        | _ => rfl
      · cases ds with
        | nil => rfl
        | cons x xs =>
          have l' : leafD m x = true ∧ leafsD m xs = true := by simpa [leafsD] using hl
          show (leafD m' x && leafsD m' xs) = true
          rw [ih.1 x (by simp at hd; omega) l'.1, ih.2 xs (by simp at hd; omega) l'.2]; rfl
  exact ⟨h.pl, (aux (sizeOf d)).1 d (Nat.le_refl _) h.lf, Nat.le_trans h.dp h2⟩
theorem one_tup {m n : Nat} {xs : List D} : One m (n + 1) (.tup xs) ↔ ∀ x ∈ xs, One m n x := by
  constructor
  · intro h x hx
    exact ⟨(plsR_all xs).mp h.pl x hx, (leafsD_all m xs).mp h.lf x hx, (depthsR n xs).mp (Nat.le_of_succ_le_succ h.dp) x hx⟩
  · intro h
    exact ⟨(plsR_all xs).mpr fun x hx => (h x hx).pl, (leafsD_all m xs).mpr fun x hx => (h x hx).lf, Nat.succ_le_succ ((depthsR n xs).mpr fun x hx => (h x hx).dp)⟩
theorem one_lst {m n : Nat} {xs : List D} : One m (n + 1) (.lst xs) ↔ ∀ x ∈ xs, One m n x := by
  constructor
  · intro h x hx
    exact ⟨(plsR_all xs).mp h.pl x hx, (leafsD_all m xs).mp h.lf x hx, (depthsR n xs).mp (Nat.le_of_succ_le_succ h.dp) x hx⟩
  · intro h
    exact ⟨(plsR_all xs).mpr fun x hx => (h x hx).pl, (leafsD_all m xs).mpr fun x hx => (h x hx).lf, Nat.succ_le_succ ((depthsR n xs).mpr fun x hx => (h x hx).dp)⟩
theorem bk_tup (xs : List D) : bkD (.tup xs) = bksD xs := bulksR xs
theorem bk_lst (xs : List D) : bkD (.lst xs) = bksD xs := bulksR xs
theorem Odd.mono {m n w m' n' w' : Nat} {d : D} (h : Odd m n w d) (h1 : m ≤ m') (h2 : n ≤ n') (h3 : w ≤ w') : Odd m' n' w' d := ⟨h.one.mono h1 h2, Nat.le_trans h.bk h3⟩
theorem bks_cons (x : D) (xs : List D) : bksD (x :: xs) = bkD x + 1 + bksD xs := by simp [bksD]
theorem bks_nil : bksD [] = 0 := rfl
theorem oddP_int {m n w : Nat} {i : Int} (h : i.natAbs ≤ 10 ^ 39 + m) : Odd m n w (.int i) := ⟨⟨rfl, by simp only [leafD, decide_eq_true_eq]; exact h, Nat.zero_le _⟩, Nat.zero_le _⟩
theorem oddP_tup {m n w : Nat} {xs : List D} (h : ∀ x ∈ xs, One m n x) (hb : bksD xs ≤ w) : Odd m (n + 1) w (.tup xs) := ⟨one_tup.mpr h, by rw [bk_tup]; exact hb⟩
theorem oddP_lst {m n w : Nat} {xs : List D} (h : ∀ x ∈ xs, One m n x) (hb : bksD xs ≤ w) : Odd m (n + 1) w (.lst xs) := ⟨one_lst.mpr h, by rw [bk_lst]; exact hb⟩
theorem leaf_short : ∀ (m : Nat), m ≤ 1000 → ∀ d : D, d.plR = true → leafD m d = true → d.pyR.showable = true ∧ d.pyR.leavesShort 45 = true := by
  intro m hm
  have aux : ∀ k : Nat, (∀ d : D, sizeOf d ≤ k → d.plR = true → leafD m d = true → d.pyR.showable = true ∧ d.pyR.leavesShort 45 = true) ∧ (∀ ds : List D, sizeOf ds ≤ k → D.plsR ds = true → leafsD m ds = true → PyData.showableAll (D.pysR ds) = true ∧ PyData.leavesShortAll 45 (D.pysR ds) = true) := by
    intro k
    induction k with
    | zero =>
      refine ⟨fun d hd => ?_, fun ds hd => ?_⟩
      · cases d <;> simp at hd
      · cases ds <;> simp at hd
    | succ k ih =>
      refine ⟨fun d hd hp hl => ?_, fun ds hd hp hl => ?_⟩
      · cases d with
        | non => exact ⟨rfl, rfl⟩
        | bl b => exact ⟨rfl, rfl⟩
        | int i =>
          have hi : i.natAbs ≤ 10 ^ 39 + m := by simpa [leafD] using hl
          have h40 : i.natAbs < 10 ^ 40 := by
            have : (10 : Nat) ^ 39 + m < 10 ^ 40 := by
              have e : (10 : Nat) ^ 40 = 10 * 10 ^ 39 := by decide
              have e2 : (1000 : Nat) ≤ 10 ^ 39 := by decide
              omega
            omega
          constructor
          · show decide (i.natAbs.log2 < 1920) = true
            rw [decide_eq_true_eq]
            by_cases h0 : i.natAbs = 0
            · rw [h0]; decide
            · have : i.natAbs.log2 < 140 := (Nat.log2_lt h0).mpr (Nat.lt_trans h40 (by decide))
              omega
          · show decide ((PyData.shown (.int i)).length ≤ 45) = true
            rw [decide_eq_true_eq]
            have e := int_text_length_le10 (k := 40) (by decide) h40
            show (Str.ofString (toString i)).length ≤ 45
            rw [PySem.ofString_length]; omega
        | str x =>
          refine ⟨rfl, ?_⟩
          show (x.cps.toList.all fun c => decide (c < 16 ^ 8)) = true
          rw [List.all_eq_true]
          intro c hc
          have : (x.cps.toList.all fun c => decide (c < 128)) = true := hl
          have := List.all_eq_true.mp this c hc
          simp only [decide_eq_true_eq] at this ⊢
          omega
        | tup xs => exact ih.2 xs (by simp at hd; omega) hp hl
        | lst xs => exact ih.2 xs (by simp at hd; omega) hp hl
        | dK kds => exact ⟨rfl, rfl⟩
        | ty n => cases hp
        | dT k => cases hp
        | obj C f => cases hp
        | rf a => cases hp
        | scr ns => cases hp
        | kup xs => cases hl
      · cases ds with
        | nil => exact ⟨rfl, rfl⟩
        | cons x xs =>
          have p' : x.plR = true ∧ D.plsR xs = true := by simpa [D.plsR] using hp
          have l' : leafD m x = true ∧ leafsD m xs = true := by simpa [leafsD] using hl
          have a := ih.1 x (by simp at hd; omega) p'.1 l'.1
          have b := ih.2 xs (by simp at hd; omega) p'.2 l'.2
          constructor
          · show (x.pyR.showable && PyData.showableAll (D.pysR xs)) = true
            rw [a.1, b.1]; rfl
          · show (x.pyR.leavesShort 45 && PyData.leavesShortAll 45 (D.pysR xs)) = true
            rw [a.2, b.2]; rfl
  exact fun d => (aux (sizeOf d)).1 d (Nat.le_refl _)
theorem Odd.repr {m n w : Nat} {d : D} (h : Odd m n w d) (hm : m ≤ 1000) (hn : n ≤ 60) (hw : w ≤ 100000) {G : GH} {Q : DQ} (q : Q (.str d.pyR.shown) G) : rReprG [d] G Q := by
  obtain ⟨h1, h2⟩ := leaf_short m hm d h.one.pl h.one.lf
  refine ⟨h.one.pl, h1, Nat.le_trans h.one.dp hn, ?_, q⟩
  have := PyData.shown_le_bulk 45 (by decide) d.pyR h2
  have hb : d.pyR.bulk ≤ w := h.bk
  have : (45 + 2) * d.pyR.bulk ≤ 47 * 100000 := Nat.mul_le_mul (by omega) (by omega)
  rw [sizeLine_eq]
  omega
end Pace
end
section
set_option Elab.async false
set_option linter.all false
set_option maxRecDepth 100000
set_option maxHeartbeats 4000000
namespace Pace
open PySem PySem.Spec PyProof.Rows L2 DL
/-- all moves, one behind the other -/
def flatM (rs : List (List Mv)) : List (Nat × Mv) := (List.range rs.length).flatMap fun s => (rs.getD s []).map fun m => (s, m)
/-- rules that can be written -/
structure Wri (hs ws : List Nat) (rs : List (List Mv)) : Prop where
  val : RulV hs ws rs
  few : (flatM rs).length ≤ 5000
theorem flat_mem {rs : List (List Mv)} {x : Nat × Mv} (h : x ∈ flatM rs) : x.1 < rs.length ∧ ∃ r ∈ rs, x.2 ∈ r := by
  obtain ⟨s, hs, hx⟩ := List.mem_flatMap.mp h
  obtain ⟨m, hm, rfl⟩ := List.mem_map.mp hx
  have hs := List.mem_range.mp hs
  refine ⟨hs, rs[s], List.getElem_mem hs, ?_⟩
  rwa [List.getD_eq_getElem?_getD, List.getElem?_eq_getElem hs] at hm
structure MvP (hs ws : List Nat) (n : Nat) (x : Nat × Mv) : Prop where
  s : x.1 < n
  h : x.2.h ∈ hs
  c : x.2.c ∈ ws
  t : x.2.t < n
theorem Wri.mv {hs ws : List Nat} {rs : List (List Mv)} (w : Wri hs ws rs) : ∀ x ∈ flatM rs, MvP hs ws rs.length x := fun x hx => by
  obtain ⟨h1, r, hr, hm⟩ := flat_mem hx
  have := (w.val.row r hr).1
  unfold rowB at this
  simp only [Bool.and_eq_true, List.all_eq_true] at this
  have := this.1 _ hm
  unfold mvB at this
  simp only [Bool.and_eq_true, decide_eq_true_eq] at this
  exact ⟨h1, this.1.1, this.1.2, this.2⟩
end Pace
end
section
set_option Elab.async false
set_option linter.all false
set_option maxRecDepth 100000
set_option maxHeartbeats 4000000
namespace Pace
open PySem PySem.Spec PyProof.Rows L2 DL
/-- the same rows, each in any order -/
structure RP (B A : Rows) : Prop where
  len : B.length = A.length
  pm : ∀ s, (rowS B s).Perm (rowS A s)
theorem RP.refl (A : Rows) : RP A A := ⟨rfl, fun _ => .refl _⟩
theorem RP.lt {B A : Rows} (h : RP B A) {s : Nat} (hs : s < A.length) : s < B.length := by rw [h.len]; exact hs
theorem mv_key_inj {r : List Mv} (pw : r.Pairwise fun a b => mvLt a b = true) {a b : Mv} (ha : a ∈ r) (hb : b ∈ r) (h : a.h = b.h) (c : a.c = b.c) : a = b := by
  have irr : ∀ x y : Mv, x.h = y.h → x.c = y.c → ¬ mvLt x y = true := fun x y e1 e2 z => by
    unfold mvLt at z
    rw [decide_eq_true_eq] at z
    omega
  induction r with
  | nil => cases ha
  | cons x r ih =>
    rw [List.pairwise_cons] at pw
    rcases List.mem_cons.mp ha with e1 | h1
    · rcases List.mem_cons.mp hb with e2 | h2
      · rw [e1, e2]
      · rw [e1] at h c
        exact absurd (pw.1 b h2) (irr _ _ h c)
    · rcases List.mem_cons.mp hb with e2 | h2
      · rw [e2] at h c
        exact absurd (pw.1 a h1) (irr _ _ h.symm c.symm)
      · exact ih pw.2 h1 h2
end Pace
end
section
set_option Elab.async false
set_option linter.all false
set_option maxRecDepth 100000
set_option maxHeartbeats 4000000
namespace Pace
open PySem PySem.Spec PyProof.Rows L2 DL
abbrev Ky := Nat × Nat
def kLt (a b : Ky) : Bool := decide (a.1 < b.1 ∨ (a.1 = b.1 ∧ a.2 < b.2))
theorem step1_some {A : Rows} {s : Nat} {k : Ky} : (step1 A s k.1 k.2).isSome = true ↔ k ∈ (rowS A s).map fun m => (m.h, m.c) := by
  show (((rowS A s).find? fun m => m.h == k.1 && m.c == k.2).map (·.t)).isSome = true ↔ _
  rw [Option.isSome_map, List.find?_isSome, List.mem_map]
  simp only [Bool.and_eq_true, beq_iff_eq]
  exact ⟨fun ⟨m, hm, h1, h2⟩ => ⟨m, hm, Prod.ext h1 h2⟩, fun ⟨m, hm, e⟩ => ⟨m, hm, by rw [← e], by rw [← e]⟩⟩
abbrev Trail := (Nat × Nat) × List Ky
/-- as far as the search has come -/
structure TrI (A B : Rows) (L : List Trail) (n : Nat) : Prop where
  nd : (L.map (·.1)).Nodup
  zero : L[0]? = some ((0, 0), [])
  led : ∀ x ∈ L, ledN A 0 x.2 = some x.1.1 ∧ ledN B 0 x.2 = some x.1.2
  cl : ∀ (i : Nat) x, i < n → L[i]? = some x → ∀ (k : Ky) (s t : Nat), step1 A x.1.1 k.1 k.2 = some s → step1 B x.1.2 k.1 k.2 = some t → (s, t) ∈ L.map (·.1)
  le : n ≤ L.length
  ln : ∀ (i : Nat) x, L[i]? = some x → x.2.length ≤ i
theorem TrI.lt {A B : Rows} {L : List Trail} {n : Nat} (h : TrI A B L n) (sa : Steps A) (sb : Steps B) {x : Trail} (hx : x ∈ L) : x.1.1 < A.length ∧ x.1.2 < B.length := by
  obtain ⟨h1, h2⟩ := h.led x hx
  exact ⟨ledN_lt sa.cl.2 sa.cl.1 _ h1, ledN_lt sb.cl.2 sb.cl.1 _ h2⟩
theorem TrI.few {A B : Rows} {L : List Trail} {n : Nat} (h : TrI A B L n) (sa : Steps A) (sb : Steps B) : L.length ≤ A.length * B.length := by
  have := List.Nodup.length_le_of_subset h.nd (l₂ := (List.range A.length).flatMap fun x => (List.range B.length).map fun y => (x, y)) fun p hp => by
    obtain ⟨x, hx, rfl⟩ := List.mem_map.mp hp
    obtain ⟨h1, h2⟩ := h.lt sa sb hx
    exact List.mem_flatMap.mpr ⟨x.1.1, List.mem_range.mpr h1, List.mem_map.mpr ⟨x.1.2, List.mem_range.mpr h2, rfl⟩⟩
  rw [List.length_map, prod_len, List.length_range, List.length_range] at this
  exact this
theorem TrI.add {A B : Rows} {L : List Trail} {n : Nat} (h : TrI A B L n) {i : Nat} {x : Trail} (hx : L[i]? = some x) {k : Ky} {s t : Nat} (hs : step1 A x.1.1 k.1 k.2 = some s) (ht : step1 B x.1.2 k.1 k.2 = some t) (hn : (s, t) ∉ L.map (·.1)) :
    TrI A B (L ++ [((s, t), x.2 ++ [k])]) n where
  nd := by
    rw [List.map_append, List.nodup_append]
    refine ⟨h.nd, by simp, fun a h1 b h2 e => hn ?_⟩
    rw [List.map_cons, List.map_nil, List.mem_singleton] at h2
    rw [e, h2] at h1
    exact h1
  zero := by rw [List.getElem?_append_left (List.getElem?_eq_some_iff.mp h.zero).1]; exact h.zero
  led := fun y hy => by
    rcases List.mem_append.mp hy with hy | hy
    · exact h.led y hy
    · rw [List.mem_singleton.mp hy]
      obtain ⟨h1, h2⟩ := h.led x (List.mem_of_getElem? hx)
      exact ⟨by rw [ledN_snoc, h1]; exact hs, by rw [ledN_snoc, h2]; exact ht⟩
  cl := fun j y hj hy k s t h1 h2 => by
    rw [List.getElem?_append_left (by have := h.le; omega)] at hy
    rw [List.map_append]
    exact List.mem_append_left _ (h.cl j y hj hy k s t h1 h2)
  le := by have := h.le; simp; omega
  ln := fun j y hy => by
    by_cases hj : j < L.length
    · rw [List.getElem?_append_left hj] at hy
      exact h.ln j y hy
    · have hj2 := (List.getElem?_eq_some_iff.mp hy).1
      rw [List.length_append] at hj2
      have ej : j = L.length := by simp at hj2; omega
      subst ej
      rw [List.getElem?_append_right (Nat.le_refl _), Nat.sub_self] at hy
      cases hy
      have := h.ln i x hx
      have := (List.getElem?_eq_some_iff.mp hx).1
      rw [List.length_append, List.length_singleton]
      omega
end Pace
end
section
set_option Elab.async false
set_option linter.all false
set_option maxRecDepth 100000
set_option maxHeartbeats 4000000
namespace DL
open PySem PySem.Spec PyProof.Rows L2
end DL
end
section
set_option Elab.async false
set_option linter.all false
set_option maxRecDepth 100000
set_option maxHeartbeats 4000000
namespace Pace
open PySem PySem.Spec PyProof.Rows L2 DL
/-- a move, by its letters -/
theorem step1_iff {A : Rows} (st : Steps A) {s h c t : Nat} : step1 A s h c = some t ↔ ⟨h, c, t⟩ ∈ rowS A s := by
  show ((rowS A s).find? fun m => m.h == h && m.c == c).map (·.t) = some t ↔ _
  have pw := (st.row s).1
  constructor
  · intro e
    obtain ⟨m, hm, rfl⟩ := Option.map_eq_some_iff.mp e
    have h1 := List.find?_some hm
    have h2 := List.mem_of_find?_eq_some hm
    simp only [Bool.and_eq_true, beq_iff_eq] at h1
    obtain ⟨rfl, rfl⟩ := h1
    exact h2
  · intro hm
    cases e : (rowS A s).find? fun m => m.h == h && m.c == c with
    | none =>
      have := List.find?_eq_none.mp e _ hm
      simp at this
    | some m =>
      have h1 := List.find?_some e
      have h2 := List.mem_of_find?_eq_some e
      simp only [Bool.and_eq_true, beq_iff_eq] at h1
      have := mv_key_inj pw h2 hm h1.1 h1.2
      subst this
      rfl
end Pace
end
section
set_option Elab.async false
set_option linter.all false
set_option maxRecDepth 100000
set_option maxHeartbeats 4000000
namespace Pace
open PySem PySem.Spec PyProof.Rows L2 DL
/-- letters, ascending -/
theorem nsort_nd {os : List Nat} (nd : os.Nodup) : (nsort os).Pairwise (· < ·) := by
  have h1 := nsort_le os
  have h2 := (nsort_perm os).nodup_iff.mpr nd
  exact (h1.and h2).imp fun h => by omega
end Pace
end
section
set_option Elab.async false
set_option linter.all false
set_option maxRecDepth 100000
set_option maxHeartbeats 4000000
namespace DL
open PySem PySem.Spec PyProof.Rows L2
end DL
end
section
set_option Elab.async false
set_option linter.all false
set_option maxRecDepth 100000
set_option maxHeartbeats 4000000
namespace Pace
open PySem PySem.Spec PyProof.Rows L2 DL
theorem isN_f {α : Type} {o : Option α} : o.isNone = false ↔ o.isSome = true := by cases o <;> simp
theorem isN_n {α : Type} {o : Option α} : (¬ o.isNone = true) ↔ o.isSome = true := by cases o <;> simp
def ledS (A : Rows) (ss : List Nat) (k : Ky) : List Nat := nsort (firstsF (ss.flatMap fun s => ((rowS A s).filter fun m => m.h == k.1 && m.c == k.2).map (·.t)))
theorem ledS_mem {A : Rows} (st : Steps A) {ss : List Nat} {k : Ky} {t : Nat} : t ∈ ledS A ss k ↔ ∃ s ∈ ss, step1 A s k.1 k.2 = some t := by
  unfold ledS
  rw [(nsort_perm _).mem_iff, firstsF_mem, List.mem_flatMap]
  constructor
  · rintro ⟨s, hs, h⟩
    obtain ⟨m, hm, rfl⟩ := List.mem_map.mp h
    rw [List.mem_filter] at hm
    obtain ⟨h1, h2⟩ := hm
    simp only [Bool.and_eq_true, beq_iff_eq] at h2
    refine ⟨s, hs, (step1_iff st).mpr ?_⟩
    rw [← h2.1, ← h2.2]
    exact h1
  · rintro ⟨s, hs, h⟩
    exact ⟨s, hs, List.mem_map.mpr ⟨_, List.mem_filter.mpr ⟨(step1_iff st).mp h, by simp⟩, rfl⟩⟩
def ledW (A : Rows) (ss : List Nat) (w : List Ky) : List Nat := w.foldl (ledS A) ss
theorem ledW_snoc (A : Rows) (ss : List Nat) (w : List Ky) (k : Ky) : ledW A ss (w ++ [k]) = ledS A (ledW A ss w) k := by simp [ledW]
theorem ledW_mem {A : Rows} (st : Steps A) {ss : List Nat} (w : List Ky) : ∀ {t : Nat}, t ∈ ledW A ss w ↔ ∃ s ∈ ss, ledN A s w = some t := by
  induction w using snoc_ind with
  | nil => intro t; simp [ledW, ledN]
  | snoc w k ih =>
    intro t
    rw [ledW_snoc, ledS_mem st]
    constructor
    · rintro ⟨u, hu, h⟩
      obtain ⟨s, hs, h2⟩ := ih.mp hu
      exact ⟨s, hs, by rw [ledN_snoc, h2]; exact h⟩
    · rintro ⟨s, hs, h⟩
      rw [ledN_snoc] at h
      obtain ⟨u, hu, h⟩ := Option.bind_eq_some_iff.mp h
      exact ⟨u, ih.mpr ⟨s, hs, hu⟩, h⟩
theorem ledW_nil {A : Rows} (st : Steps A) {ss : List Nat} (w : List Ky) : ledW A ss w = [] ↔ ∀ s ∈ ss, ledN A s w = none := by
  rw [List.eq_nil_iff_forall_not_mem]
  constructor
  · intro h s hs
    cases e : ledN A s w with
    | none => rfl
    | some t => exact absurd ((ledW_mem st w).mpr ⟨s, hs, e⟩) (h t)
  · intro h t ht
    obtain ⟨s, hs, e⟩ := (ledW_mem st w).mp ht
    rw [h s hs] at e
    cases e
inductive Reach (A : Rows) : Nat → Prop
  | one {m : Mv} : m ∈ rowS A 0 → Reach A m.t
  | more {s : Nat} {m : Mv} : Reach A s → m ∈ rowS A s → Reach A m.t
structure Inn (A : Rows) (l : List Nat) : Prop where
  so : l.Pairwise (· < ·)
  mem : ∀ t, t ∈ l ↔ Reach A t
theorem Reach.lt {A : Rows} (st : Steps A) {t : Nat} (h : Reach A t) : t < A.length := by
  cases h with
  | one h => exact st.cl.t h
  | more _ h => exact st.cl.t h
theorem Inn.lt {A : Rows} (st : Steps A) {l : List Nat} (h : Inn A l) : ∀ t ∈ l, t < A.length := fun t ht => ((h.mem t).mp ht).lt st
theorem Inn.nd {A : Rows} {l : List Nat} (h : Inn A l) : l.Nodup := h.so.imp fun h => by omega
/-- the window that ends at k is not led -/
def bad (A : Rows) (inn : List Nat) (n : Nat) (ps : List Ky) (k : Nat) : Bool :=
  if k ≤ n then (ledN A 0 (ps.take k)).isNone else inn.all fun s => (ledN A s ((ps.take k).drop (k - n))).isNone
theorem bad_zero {A : Rows} {inn : List Nat} {n : Nat} {ps : List Ky} : bad A inn n ps 0 = false := by simp [bad, ledN]
end Pace
end
section
set_option Elab.async false
set_option linter.all false
set_option maxRecDepth 100000
set_option maxHeartbeats 4000000
namespace DL
open PySem PySem.Spec PyProof.Rows L2
end DL
end
section
set_option Elab.async false
set_option linter.all false
set_option maxRecDepth 100000
set_option maxHeartbeats 4000000
namespace Pace
open PySem PySem.Spec PyProof.Rows L2 DL
structure GoOk (hs ws : List Nat) (n : Nat) (lot : Lot) : Prop where
  ok : LotOk n hs ws lot
  lh : lettersB hs = true
  lw : lettersB ws = true
  h3 : hs.length ≤ 3
  w3 : ws.length ≤ 3
  n1 : 1 ≤ n
  n6 : n ≤ 6
theorem GoOk.v {hs ws : List Nat} {n : Nat} {lot : Lot} (g : GoOk hs ws n lot) : RulV hs ws (rowsOf lot n) where
  lh := g.lh
  lw := g.lw
  sh := by have := g.h3; omega
  sw := by have := g.w3; omega
  n1 := by rw [rowsOf_len]; exact g.n1
  n2 := by have := g.n6; rw [rowsOf_len]; omega
  row := fun r hr => by
    obtain ⟨s, _, rfl⟩ := List.mem_map.mp hr
    have h6 := row_few g.ok s
    have h7 : hs.length * ws.length ≤ 3 * 3 := Nat.mul_le_mul g.h3 g.w3
    refine ⟨?_, by omega⟩
    rw [rowsOf_len]
    unfold rowB
    rw [Bool.and_eq_true, List.all_eq_true]
    refine ⟨fun m hm => ?_, nbr_of_pair (rowOf_lt g.ok.nd s)⟩
    obtain ⟨_, a, b, c⟩ := g.ok.at_ _ (rowOf_mem.mp hm)
    unfold mvB
    simp [a, b, c]
theorem GoOk.st {hs ws : List Nat} {n : Nat} {lot : Lot} (g : GoOk hs ws n lot) : Steps (rowsOf lot n) := g.v.steps
theorem GoOk.few {hs ws : List Nat} {n : Nat} {lot : Lot} (g : GoOk hs ws n lot) : lot.length ≤ 54 := by
  have h9 := lot_few g.ok
  have h7 : hs.length * ws.length ≤ 3 * 3 := Nat.mul_le_mul g.h3 g.w3
  have h8 : n * (hs.length * ws.length) ≤ 6 * (3 * 3) := Nat.mul_le_mul g.n6 h7
  omega
def knSets (A : Rows) (inn : List Nat) (n : Nat) (ps : List Ky) : List (List Nat) := (List.range (min ps.length (n - 1))).map fun j => ledW A inn (ps.drop (ps.length - (j + 1)))
def knLots (A : Rows) (inn : List Nat) (n : Nat) (ps : List Ky) : List (List Nat) := (List.range (min ps.length (n - 1) + 1)).map fun j => ledW A inn (ps.drop (ps.length - j))
theorem knLots_eq (A : Rows) (inn : List Nat) (n : Nat) (ps : List Ky) : inn :: knSets A inn n ps = knLots A inn n ps := by
  unfold knLots knSets
  rw [List.range_succ_eq_map, List.map_cons, List.map_map]
  congr 1
  simp [ledW]
theorem knLots_led (A : Rows) (inn : List Nat) (n : Nat) (ps : List Ky) (k : Ky) : ((knLots A inn n ps).map fun l => ledS A l k) = (List.range (min ps.length (n - 1) + 1)).map fun j => ledW A inn ((ps ++ [k]).drop (ps.length - j)) := by
  unfold knLots
  rw [List.map_map]
  refine List.map_congr_left fun j _ => ?_
  simp only [Function.comp]
  rw [← ledW_snoc, List.drop_append_of_le_length (by omega)]
theorem knLots_next {A : Rows} {inn : List Nat} {n : Nat} (ps : List Ky) (k : Ky) : ((knLots A inn n ps).map fun l => ledS A l k).take (n - 1) = knSets A inn n (ps ++ [k]) := by
  rw [knLots_led, ← List.map_take, List.take_range]
  unfold knSets
  have e : min (n - 1) (min ps.length (n - 1) + 1) = min (ps ++ [k]).length (n - 1) := by simp; omega
  rw [e]
  refine List.map_congr_left fun j _ => ?_
  have : (ps ++ [k]).length - (j + 1) = ps.length - j := by simp
  rw [this]
theorem knLots_last {A : Rows} {inn : List Nat} {n : Nat} (hn : 1 ≤ n) (ps : List Ky) (k : Ky) (h : n ≤ ps.length) : ((knLots A inn n ps).map fun l => ledS A l k)[(knLots A inn n ps).length - 1]? = some (ledW A inn ((ps ++ [k]).drop (ps.length + 1 - n))) := by
  have el : (knLots A inn n ps).length - 1 = n - 1 := by unfold knLots; simp; omega
  rw [el, knLots_led, List.getElem?_map, List.getElem?_range (by omega)]
  have : ps.length - (n - 1) = ps.length + 1 - n := by omega
  simp only [Option.map_some, this]
end Pace
end
section
set_option Elab.async false
set_option linter.all false
set_option maxRecDepth 100000
set_option maxHeartbeats 4000000
namespace Pace
open PySem PySem.Spec PyProof.Rows L2 DL
theorem bad_pre {A : Rows} {inn : List Nat} {n k : Nat} {ps : List Ky} (h : k ≤ n) : bad A inn n ps k = (ledN A 0 (ps.take k)).isNone := by
  unfold bad
  rw [if_pos h]
end Pace
end
section
set_option Elab.async false
set_option linter.all false
set_option maxRecDepth 100000
set_option maxHeartbeats 4000000
namespace Pace
open PySem PySem.Spec PyProof.Rows L2 DL
abbrev Cost := Option Nat
theorem take_step {α : Type} {l : List α} {i : Nat} {k : α} (h : l[i]? = some k) : l.take (i + 1) = l.take i ++ [k] := by rw [List.take_add_one, h]; rfl
end Pace
end
section
set_option Elab.async false
set_option linter.all false
set_option maxRecDepth 100000
set_option maxHeartbeats 4000000
namespace Pace
open PySem PySem.Spec PyProof.Rows L2 DL
def IsMin (o : Cost) (S : Nat → Prop) : Prop := match o with
  | none => ∀ n, ¬ S n
  | some m => S m ∧ ∀ n, S n → m ≤ n
theorem IsMin.congr {a : Cost} {S T : Nat → Prop} (h : IsMin a S) (e : ∀ n, S n ↔ T n) : IsMin a T := by
  have : S = T := funext fun n => propext (e n)
  rw [← this]; exact h
end Pace
end
section
set_option Elab.async false
set_option linter.all false
set_option maxRecDepth 100000
set_option maxHeartbeats 4000000
namespace Pace
open PySem PySem.Spec PyProof.Rows L2 DL
structure KS where
  many : Nat
  st : Option Nat
  sets : List (List Nat)
  deriving DecidableEq
def ksOf (A : Rows) (inn : List Nat) (n : Nat) (ps : List Ky) : KS := ⟨min ps.length n, if ps.length < n then ledN A 0 ps else none, knSets A inn n ps⟩
/-- no window has been bad -/
def okW (A : Rows) (inn : List Nat) (n : Nat) (w : List Ky) : Prop := ∀ j, j ≤ w.length → bad A inn n w j = false
theorem bad_cut {A : Rows} {inn : List Nat} {n j : Nat} {w v : List Ky} (h : j ≤ w.length) : bad A inn n (w ++ v) j = bad A inn n w j := by
  unfold bad
  rw [List.take_append_of_le_length h]
theorem okW_snoc {A : Rows} {inn : List Nat} {n : Nat} {w : List Ky} {k : Ky} : okW A inn n (w ++ [k]) ↔ okW A inn n w ∧ bad A inn n (w ++ [k]) (w.length + 1) = false := by
  constructor
  · intro h
    exact ⟨fun j hj => by rw [← bad_cut (v := [k]) hj]; exact h j (by simp; omega), h _ (by simp)⟩
  · rintro ⟨h1, h2⟩ j hj
    simp only [List.length_append, List.length_cons, List.length_nil] at hj
    by_cases e : j ≤ w.length
    · rw [bad_cut e]; exact h1 j e
    · have : j = w.length + 1 := by omega
      rw [this]; exact h2
theorem okW_nil {A : Rows} {inn : List Nat} {n : Nat} : okW A inn n [] := fun j hj => by rw [Nat.le_zero.mp hj]; exact bad_zero
def nextK (A : Rows) (inn : List Nat) (n : Nat) (x : KS) (k : Ky) : Option KS :=
  if x.many < n then (x.st.bind fun s => step1 A s k.1 k.2).map fun t => ⟨x.many + 1, if x.many + 1 < n then some t else none, ((inn :: x.sets).map fun l => ledS A l k).take (n - 1)⟩
  else if (((inn :: x.sets).map fun l => ledS A l k)[(inn :: x.sets).length - 1]?).getD [] = [] then none else some ⟨x.many, none, ((inn :: x.sets).map fun l => ledS A l k).take (n - 1)⟩
theorem next_eq {A : Rows} (st : Steps A) {inn : List Nat} {n : Nat} (hn : 1 ≤ n) {w : List Ky} (k : Ky) (hw : okW A inn n w) : nextK A inn n (ksOf A inn n w) k = if bad A inn n (w ++ [k]) (w.length + 1) = true then none else some (ksOf A inn n (w ++ [k])) := by
  have epl : (w ++ [k]).take (w.length + 1) = w ++ [k] := List.take_of_length_le (by simp)
  have es : inn :: (ksOf A inn n w).sets = knLots A inn n w := knLots_eq A inn n w
  unfold nextK
  rw [es, knLots_next]
  have el : (w ++ [k]).length = w.length + 1 := by simp
  by_cases h : w.length < n
  · have em : (ksOf A inn n w).many = w.length := by show min _ _ = _; omega
    have e2 : (ksOf A inn n w).st = ledN A 0 w := by show (if _ then _ else _) = _; rw [if_pos h]
    have eb : bad A inn n (w ++ [k]) (w.length + 1) = (ledN A 0 (w ++ [k])).isNone := by rw [bad_pre (by omega), epl]
    rw [em, if_pos h, e2, eb, ledN_snoc]
    cases e : (ledN A 0 w).bind fun s => step1 A s k.1 k.2 with
    | none => rfl
    | some t =>
      rw [if_neg (by simp)]
      simp only [Option.map_some, Option.some.injEq]
      unfold ksOf
      rw [el, ledN_snoc, e]
      have : min (w.length + 1) n = w.length + 1 := by omega
      rw [this]
  · have em : (ksOf A inn n w).many = n := by show min _ _ = _; omega
    rw [em, if_neg (by omega), knLots_last hn w k (by omega)]
    have eb : bad A inn n (w ++ [k]) (w.length + 1) = decide (ledW A inn ((w ++ [k]).drop (w.length + 1 - n)) = []) := by
      unfold bad
      rw [if_neg (by omega), epl, Bool.eq_iff_iff, List.all_eq_true, decide_eq_true_eq, ledW_nil st]
      simp only [Option.isNone_iff_eq_none]
    rw [eb]
    simp only [Option.getD_some, decide_eq_true_eq]
    split
    · rfl
    · unfold ksOf
      rw [el]
      have : min (w.length + 1) n = n := by omega
      rw [this, if_neg (by omega)]
theorem next_some {A : Rows} (st : Steps A) {inn : List Nat} {n : Nat} (hn : 1 ≤ n) {w v : List Ky} (k : Ky) (hw : okW A inn n w) (hv : okW A inn n v) (e : ksOf A inn n w = ksOf A inn n v) : (okW A inn n (w ++ [k]) ↔ okW A inn n (v ++ [k])) ∧ (okW A inn n (w ++ [k]) → ksOf A inn n (w ++ [k]) = ksOf A inn n (v ++ [k])) := by
  have h1 := next_eq st hn k hw
  have h2 := next_eq st hn k hv
  rw [e, h2] at h1
  rw [okW_snoc, okW_snoc]
  generalize bad A inn n (w ++ [k]) (w.length + 1) = bw at h1 ⊢
  generalize bad A inn n (v ++ [k]) (v.length + 1) = bv at h1 ⊢
  cases bw with
  | true =>
    cases bv with
    | true => exact ⟨⟨fun z => (nomatch z.2), fun z => (nomatch z.2)⟩, fun z => nomatch z.2⟩
    | false => simp at h1
  | false =>
    cases bv with
    | true => simp at h1
    | false =>
      simp only [Bool.false_eq_true, if_false, Option.some.injEq] at h1
      exact ⟨⟨fun z => ⟨hv, rfl⟩, fun z => ⟨hw, rfl⟩⟩, fun _ => h1.symm⟩
def wordsN (K : List Ky) : Nat → List (List Ky)
  | 0 => [[]]
  | m + 1 => (wordsN K m).flatMap fun w => K.map fun k => k :: w
theorem wordsN_mem {K : List Ky} : ∀ {m : Nat} {w : List Ky}, w.length = m → (∀ k ∈ w, k ∈ K) → w ∈ wordsN K m
  | 0, w, h, _ => by
    have : w = [] := List.length_eq_zero_iff.mp h
    subst this
    simp [wordsN]
  | m + 1, [], h, _ => by simp at h
  | m + 1, k :: w, h, hk => by
    unfold wordsN
    refine List.mem_flatMap.mpr ⟨w, wordsN_mem (by simpa using h) fun x hx => hk x (by simp [hx]), List.mem_map.mpr ⟨k, hk k (by simp), rfl⟩⟩
theorem wordsN_len (K : List Ky) : ∀ m, (wordsN K m).length = K.length ^ m
  | 0 => rfl
  | m + 1 => by
    have ih := wordsN_len K m
    unfold wordsN
    rw [List.length_flatMap]
    simp only [List.length_map]
    have : ∀ l : List (List Ky), (l.map fun _ => K.length).sum = l.length * K.length := fun l => by
      induction l with
      | nil => simp
      | cons a l ih => rw [List.map_cons, List.sum_cons, ih, List.length_cons, Nat.add_mul]; omega
    rw [this, ih, Nat.pow_succ]
/-- what a state is told by -/
def canon (n : Nat) (w : List Ky) : Bool × List Ky := if w.length < n then (false, w) else (true, w.drop (w.length - (n - 1)))
theorem canon_ks {A : Rows} {inn : List Nat} {n : Nat} (hn : 1 ≤ n) {v w : List Ky} (h : canon n v = canon n w) : ksOf A inn n v = ksOf A inn n w := by
  unfold canon at h
  by_cases h1 : v.length < n
  · rw [if_pos h1] at h
    by_cases h2 : w.length < n
    · rw [if_pos h2] at h
      have : v = w := (Prod.mk.inj h).2
      rw [this]
    · rw [if_neg h2] at h
      exact absurd (Prod.mk.inj h).1 (by simp)
  · rw [if_neg h1] at h
    by_cases h2 : w.length < n
    · rw [if_pos h2] at h
      exact absurd (Prod.mk.inj h).1 (by simp)
    · rw [if_neg h2] at h
      have e := (Prod.mk.inj h).2
      unfold ksOf
      have m1 : min v.length n = n := by omega
      have m2 : min w.length n = n := by omega
      rw [m1, m2, if_neg h1, if_neg h2]
      congr 1
      unfold knSets
      have r1 : min v.length (n - 1) = n - 1 := by omega
      have r2 : min w.length (n - 1) = n - 1 := by omega
      rw [r1, r2]
      refine List.map_congr_left fun j hj => ?_
      have hj := List.mem_range.mp hj
      have dd : ∀ u : List Ky, ¬ u.length < n → u.drop (u.length - (j + 1)) = (u.drop (u.length - (n - 1))).drop (n - 1 - (j + 1)) := fun u hu => by
        rw [List.drop_drop]
        congr 1
        omega
      rw [dd v h1, dd w h2, e]
def many (m n : Nat) : Nat := ((List.range n).map fun k => m ^ k).sum + m ^ (n - 1)
theorem few_states {A : Rows} {inn : List Nat} {n : Nat} (hn : 1 ≤ n) {K : List Ky} {ws : List (List Ky)} (hk : ∀ w ∈ ws, ∀ k ∈ w, k ∈ K) (nd : (ws.map (ksOf A inn n)).Nodup) : ws.length ≤ many K.length n := by
  have nd2 : (ws.map (canon n)).Nodup := by
    rw [List.nodup_iff_pairwise_ne, List.pairwise_map] at nd ⊢
    exact nd.imp fun h e => h (canon_ks hn e)
  have sub := List.Nodup.length_le_of_subset nd2 (l₂ := (((List.range n).flatMap (wordsN K)).map fun w => (false, w)) ++ (wordsN K (n - 1)).map fun w => (true, w)) fun p hp => by
    obtain ⟨w, hw, rfl⟩ := List.mem_map.mp hp
    unfold canon
    by_cases h : w.length < n
    · rw [if_pos h]
      exact List.mem_append_left _ (List.mem_map.mpr ⟨w, List.mem_flatMap.mpr ⟨w.length, List.mem_range.mpr h, wordsN_mem rfl (hk w hw)⟩, rfl⟩)
    · rw [if_neg h]
      refine List.mem_append_right _ (List.mem_map.mpr ⟨_, wordsN_mem (by simp; omega) fun k hk' => hk w hw k (List.mem_of_mem_drop hk'), rfl⟩)
  rw [List.length_map, List.length_append, List.length_map, List.length_map, wordsN_len, List.length_flatMap] at sub
  unfold many
  have e : ((List.range n).map fun k => (wordsN K k).length) = (List.range n).map fun k => K.length ^ k := List.map_congr_left fun k _ => wordsN_len K k
  rw [e] at sub
  exact sub
end Pace
end
section
set_option Elab.async false
set_option linter.all false
set_option maxRecDepth 100000
set_option maxHeartbeats 4000000
namespace Pace
open PySem PySem.Spec PyProof.Rows L2 DL
def keysL (hs ws : List Nat) : List Ky := hs.flatMap fun h => ws.map fun c => (h, c)
theorem keysL_mem {hs ws : List Nat} {k : Ky} : k ∈ keysL hs ws ↔ k.1 ∈ hs ∧ k.2 ∈ ws := by
  unfold keysL
  rw [List.mem_flatMap]
  constructor
  · rintro ⟨h, hh, hk⟩
    obtain ⟨c, hc, rfl⟩ := List.mem_map.mp hk
    exact ⟨hh, hc⟩
  · rintro ⟨h1, h2⟩
    exact ⟨k.1, h1, List.mem_map.mpr ⟨k.2, h2, rfl⟩⟩
theorem keysL_len (hs ws : List Nat) : (keysL hs ws).length = hs.length * ws.length := by
  unfold keysL
  induction hs with
  | nil => simp
  | cons a hs ih => rw [List.flatMap_cons, List.length_append, ih, List.length_map, List.length_cons, Nat.add_mul]; omega
def kyLt (a b : Ky) : Prop := a.1 < b.1 ∨ (a.1 = b.1 ∧ a.2 < b.2)
theorem keysL_lt {hs ws : List Nat} (lh : hs.Pairwise (· < ·)) (lw : ws.Pairwise (· < ·)) : (keysL hs ws).Pairwise kyLt := by
  unfold keysL
  induction hs with
  | nil => simp
  | cons a hs ih =>
    rw [List.pairwise_cons] at lh
    rw [List.flatMap_cons, List.pairwise_append]
    refine ⟨?_, ih lh.2, fun x hx y hy => ?_⟩
    · rw [List.pairwise_map]
      exact lw.imp fun h => .inr ⟨rfl, h⟩
    · obtain ⟨c, _, rfl⟩ := List.mem_map.mp hx
      obtain ⟨h, hh, hy⟩ := List.mem_flatMap.mp hy
      obtain ⟨d, _, rfl⟩ := List.mem_map.mp hy
      exact .inl (lh.1 h hh)
def mkey (m : Mv) : Ky := (m.h, m.c)
theorem row_sub {hs ws : List Nat} (lh : hs.Pairwise (· < ·)) (lw : ws.Pairwise (· < ·)) {r : List Mv} (h : (r.map mkey).Sublist (keysL hs ws)) : r.Pairwise fun a b => mvLt a b = true := by
  have := (keysL_lt lh lw).sublist h
  rw [List.pairwise_map] at this
  refine this.imp fun {a b} h => ?_
  unfold mvLt
  rw [decide_eq_true_eq]
  unfold kyLt mkey at h
  simp only at h
  omega
/-- a state that stands there -/
def At (A : Rows) (inn : List Nat) (n : Nat) (ws : List (List Ky)) (t : Nat) (w : List Ky) : Prop := ∃ w', ws[t]? = some w' ∧ ksOf A inn n w' = ksOf A inn n w
structure RowAt (A : Rows) (inn : List Nat) (n : Nat) (ws : List (List Ky)) (K : List Ky) (w : List Ky) (r : List Mv) : Prop where
  sub : (r.map mkey).Sublist K
  at_ : ∀ m ∈ r, okW A inn n (w ++ [mkey m]) ∧ At A inn n ws m.t (w ++ [mkey m])
  all : ∀ k ∈ K, okW A inn n (w ++ [k]) → ∃ m ∈ r, mkey m = k
structure Sts (A : Rows) (inn : List Nat) (n : Nat) (K : List Ky) (ws : List (List Ky)) : Prop where
  zero : ws[0]? = some []
  ok : ∀ w ∈ ws, okW A inn n w
  nd : (ws.map (ksOf A inn n)).Nodup
  ky : ∀ w ∈ ws, ∀ k ∈ w, k ∈ K
theorem At.grow {A : Rows} {inn : List Nat} {n : Nat} {ws : List (List Ky)} {t : Nat} {w : List Ky} (h : At A inn n ws t w) (ext : List (List Ky)) : At A inn n (ws ++ ext) t w := by
  obtain ⟨w', h1, h2⟩ := h
  exact ⟨w', by rw [List.getElem?_append_left (List.getElem?_eq_some_iff.mp h1).1]; exact h1, h2⟩
theorem At.lt {A : Rows} {inn : List Nat} {n : Nat} {ws : List (List Ky)} {t : Nat} {w : List Ky} (h : At A inn n ws t w) : t < ws.length := by
  obtain ⟨w', h1, _⟩ := h
  exact (List.getElem?_eq_some_iff.mp h1).1
theorem RowAt.grow {A : Rows} {inn : List Nat} {n : Nat} {ws : List (List Ky)} {K : List Ky} {w : List Ky} {r : List Mv} (h : RowAt A inn n ws K w r) (ext : List (List Ky)) : RowAt A inn n (ws ++ ext) K w r :=
  ⟨h.sub, fun m hm => ⟨(h.at_ m hm).1, (h.at_ m hm).2.grow ext⟩, h.all⟩
/-- the whole -/
structure Aut (A : Rows) (inn : List Nat) (n : Nat) (hs ws : List Nat) (L : List (List Ky)) (rs : Rows) : Prop where
  sts : Sts A inn n (keysL hs ws) L
  len : rs.length = L.length
  row : ∀ (j : Nat) (r : List Mv) (w : List Ky), rs[j]? = some r → L[j]? = some w → RowAt A inn n L (keysL hs ws) w r
theorem Aut.val {A : Rows} {inn : List Nat} {n : Nat} {hs ws : List Nat} {L : List (List Ky)} {rs : Rows} (a : Aut A inn n hs ws L rs) (lh : lettersB hs = true) (lw : lettersB ws = true) (h3 : hs.length ≤ 3) (w3 : ws.length ≤ 3) (l9 : L.length ≤ 999) : RulV hs ws rs where
  lh := lh
  lw := lw
  sh := by omega
  sw := by omega
  n1 := by rw [a.len]; have := (List.getElem?_eq_some_iff.mp a.sts.zero).1; omega
  n2 := by rw [a.len]; exact l9
  row := fun r hr => by
    obtain ⟨j, hj⟩ := List.mem_iff_getElem?.mp hr
    obtain ⟨w, hw⟩ : ∃ w, L[j]? = some w := ⟨_, List.getElem?_eq_getElem (by rw [← a.len]; exact (List.getElem?_eq_some_iff.mp hj).1)⟩
    have ra := a.row j r w hj hw
    have hl := ra.sub.length_le
    rw [List.length_map, keysL_len] at hl
    have h9 : hs.length * ws.length ≤ 3 * 3 := Nat.mul_le_mul h3 w3
    refine ⟨?_, by omega⟩
    unfold rowB
    rw [Bool.and_eq_true, List.all_eq_true]
    refine ⟨fun m hm => ?_, nbr_of_pair (row_sub (letters_lt lh) (letters_lt lw) ra.sub)⟩
    have mk := keysL_mem.mp (ra.sub.subset (List.mem_map.mpr ⟨m, hm, rfl⟩))
    have mt := (ra.at_ m hm).2.lt
    rw [← a.len] at mt
    unfold mvB
    have m1 : m.h ∈ hs := mk.1
    have m2 : m.c ∈ ws := mk.2
    simp [m1, m2, mt]
theorem Aut.few {A : Rows} {inn : List Nat} {n : Nat} {hs ws : List Nat} {L : List (List Ky)} {rs : Rows} (a : Aut A inn n hs ws L rs) (hn : 1 ≤ n) : L.length ≤ many (hs.length * ws.length) n := by
  have := few_states hn (K := keysL hs ws) a.sts.ky a.sts.nd
  rwa [keysL_len] at this
theorem Aut.led {A : Rows} (st : Steps A) {inn : List Nat} {n : Nat} (hn : 1 ≤ n) {hs ws : List Nat} {L : List (List Ky)} {rs : Rows} (a : Aut A inn n hs ws L rs) (sr : Steps rs) (hK : ∀ s (k : Ky) t, step1 A s k.1 k.2 = some t → k ∈ keysL hs ws) (w : List Ky) :
    (∀ j, ledN rs 0 w = some j → okW A inn n w ∧ At A inn n L j w) ∧ (okW A inn n w → (ledN rs 0 w).isSome = true) := by
  induction w using snoc_ind with
  | nil =>
    refine ⟨fun j hj => ?_, fun _ => rfl⟩
    simp [ledN] at hj
    subst hj
    exact ⟨okW_nil, [], a.sts.zero, rfl⟩
  | snoc w k ih =>
    obtain ⟨ih1, ih2⟩ := ih
    have stepJ : ∀ j, ledN rs 0 w = some j → ∃ r w', rs[j]? = some r ∧ L[j]? = some w' ∧ ksOf A inn n w' = ksOf A inn n w ∧ okW A inn n w' ∧ okW A inn n w ∧ RowAt A inn n L (keysL hs ws) w' r ∧ rowS rs j = r := fun j hj => by
      obtain ⟨o1, w', h1, h2⟩ := ih1 j hj
      obtain ⟨r, hr⟩ : ∃ r, rs[j]? = some r := ⟨_, List.getElem?_eq_getElem (by rw [a.len]; exact (List.getElem?_eq_some_iff.mp h1).1)⟩
      exact ⟨r, w', hr, h1, h2, a.sts.ok w' (List.mem_of_getElem? h1), o1, a.row j r w' hr h1, by simp [rowS, List.getD, hr]⟩
    constructor
    · intro t ht
      rw [ledN_snoc] at ht
      obtain ⟨j, hj, ht⟩ := Option.bind_eq_some_iff.mp ht
      obtain ⟨r, w', hr, h1, h2, o', o, ra, er⟩ := stepJ j hj
      have hm := (step1_iff sr).mp ht
      rw [er] at hm
      obtain ⟨q1, w2, q2, q3⟩ := ra.at_ _ hm
      have ns := next_some st hn k o' o h2
      have q1 : okW A inn n (w' ++ [k]) := q1
      have q3 : ksOf A inn n w2 = ksOf A inn n (w' ++ [k]) := q3
      exact ⟨ns.1.mp q1, w2, q2, q3.trans (ns.2 q1)⟩
    · intro ho
      have ow := (okW_snoc.mp ho).1
      obtain ⟨j, hj⟩ := Option.isSome_iff_exists.mp (ih2 ow)
      obtain ⟨r, w', hr, h1, h2, o', o, ra, er⟩ := stepJ j hj
      have ns := next_some st hn k o' o h2
      have kk : k ∈ keysL hs ws := by
        have hb := (okW_snoc.mp ho).2
        have epl : (w ++ [k]).take (w.length + 1) = w ++ [k] := List.take_of_length_le (by simp)
        unfold bad at hb
        split at hb
        · rw [epl] at hb
          obtain ⟨t, ht⟩ := Option.isSome_iff_exists.mp (isN_f.mp hb)
          rw [ledN_snoc] at ht
          obtain ⟨s, _, ht⟩ := Option.bind_eq_some_iff.mp ht
          exact hK s k t ht
        · rename_i hl
          rw [List.all_eq_false] at hb
          obtain ⟨s, _, hb⟩ := hb
          rw [epl] at hb
          have hd : (w ++ [k]).drop (w.length + 1 - n) = w.drop (w.length + 1 - n) ++ [k] := List.drop_append_of_le_length (by omega)
          rw [hd] at hb
          obtain ⟨t, ht⟩ := Option.isSome_iff_exists.mp (isN_n.mp hb)
          rw [ledN_snoc] at ht
          obtain ⟨s, _, ht⟩ := Option.bind_eq_some_iff.mp ht
          exact hK s k t ht
      obtain ⟨m, hm, rfl⟩ := ra.all k kk (ns.1.mpr ho)
      rw [ledN_snoc, hj]
      have : step1 rs j (mkey m).1 (mkey m).2 = some m.t := (step1_iff sr).mpr (by rw [er]; exact hm)
      show (step1 rs j (mkey m).1 (mkey m).2).isSome = true
      rw [this]
      rfl
end Pace
end
section
set_option Elab.async false
set_option linter.all false
set_option maxRecDepth 100000
set_option maxHeartbeats 4000000
namespace Pace
open PySem PySem.Spec PyProof.Rows L2 DL
structure UnI (A : Rows) (n : Nat) (K : List (Nat × Nat)) : Prop where
  nd : K.Nodup
  lt : ∀ x ∈ K, x.1 < n ∧ x.2 < n
  un : ∀ x ∈ K, ¬ bis A x.1 A x.2
theorem UnI.nil (A : Rows) (n : Nat) : UnI A n [] := ⟨List.nodup_nil, by simp, by simp⟩
theorem UnI.add {A : Rows} {n : Nat} {K : List (Nat × Nat)} (h : UnI A n K) {x : Nat × Nat} (h1 : x.1 < n) (h2 : x.2 < n) (h3 : ¬ bis A x.1 A x.2) : UnI A n (addF K x) := by
  unfold addF
  split
  · exact h
  · rename_i hx
    refine ⟨?_, fun y hy => ?_, fun y hy => ?_⟩
    · rw [List.nodup_append]
      exact ⟨h.nd, by simp, fun a ha b hb e => by rw [List.mem_singleton] at hb; subst hb; exact hx (e ▸ ha)⟩
    · rcases List.mem_append.mp hy with hy | hy
      · exact h.lt y hy
      · rw [List.mem_singleton] at hy; subst hy; exact ⟨h1, h2⟩
    · rcases List.mem_append.mp hy with hy | hy
      · exact h.un y hy
      · rw [List.mem_singleton] at hy; subst hy; exact h3
theorem UnI.few {A : Rows} {n : Nat} {K : List (Nat × Nat)} (h : UnI A n K) : K.length ≤ n * n := by
  have := List.Nodup.length_le_of_subset h.nd (l₂ := (List.range n).flatMap fun x => (List.range n).map fun y => (x, y)) fun p hp => by
    obtain ⟨h1, h2⟩ := h.lt p hp
    exact List.mem_flatMap.mpr ⟨p.1, List.mem_range.mpr h1, List.mem_map.mpr ⟨p.2, List.mem_range.mpr h2, rfl⟩⟩
  rwa [prod_len, List.length_range] at this
end Pace
end
section
set_option Elab.async false
set_option linter.all false
set_option maxRecDepth 100000
set_option maxHeartbeats 4000000
namespace Pace
open PySem PySem.Spec PyProof.Rows L2 DL
def lexB : List Ky → List Ky → Bool
  | [], [] => false
  | [], _ :: _ => true
  | _ :: _, [] => false
  | a :: as, b :: bs => kLt a b || (decide (a = b) && lexB as bs)
theorem kLt_irr (a : Ky) : kLt a a = false := by unfold kLt; simp
theorem kLt_tr {a b c : Ky} (h : kLt a b = true) (g : kLt b c = true) : kLt a c = true := by
  unfold kLt at *
  rw [decide_eq_true_eq] at *
  omega
theorem kLt_tot {a b : Ky} (h : a ≠ b) : kLt a b = true ∨ kLt b a = true := by
  unfold kLt
  rw [decide_eq_true_eq, decide_eq_true_eq]
  by_cases e : a.1 = b.1
  · have : a.2 ≠ b.2 := fun z => h (Prod.ext e z)
    omega
  · omega
theorem lexB_irr : ∀ a : List Ky, lexB a a = false
  | [] => rfl
  | x :: a => by simp [lexB, kLt_irr, lexB_irr a]
theorem lexB_tr : ∀ {a b c : List Ky}, lexB a b = true → lexB b c = true → lexB a c = true
  | [], [], _, h, _ => by simp [lexB] at h
  | [], _ :: _, [], _, g => by simp [lexB] at g
  | [], _ :: _, _ :: _, _, _ => rfl
  | _ :: _, [], _, h, _ => by simp [lexB] at h
  | _ :: _, _ :: _, [], _, g => by simp [lexB] at g
  | x :: a, y :: b, z :: c, h, g => by
    simp only [lexB, Bool.or_eq_true, Bool.and_eq_true, decide_eq_true_eq] at h g ⊢
    rcases h with h | ⟨rfl, h⟩
    · rcases g with g | ⟨rfl, g⟩
      · exact .inl (kLt_tr h g)
      · exact .inl h
    · rcases g with g | ⟨rfl, g⟩
      · exact .inl g
      · exact .inr ⟨rfl, lexB_tr h g⟩
theorem lexB_tot : ∀ {a b : List Ky}, a.length = b.length → a ≠ b → lexB a b = true ∨ lexB b a = true
  | [], [], _, h => absurd rfl h
  | [], _ :: _, l, _ => by simp at l
  | _ :: _, [], l, _ => by simp at l
  | x :: a, y :: b, l, h => by
    simp only [lexB, Bool.or_eq_true, Bool.and_eq_true, decide_eq_true_eq]
    by_cases e : x = y
    · subst e
      have := lexB_tot (a := a) (b := b) (by simpa using l) fun z => h (by rw [z])
      rcases this with z | z
      · exact .inl (.inr ⟨rfl, z⟩)
      · exact .inr (.inr ⟨rfl, z⟩)
    · rcases kLt_tot e with z | z
      · exact .inl (.inl z)
      · exact .inr (.inl z)
theorem lexB_app : ∀ {a b : List Ky} (x y : List Ky), a.length = b.length → lexB a b = true → lexB (a ++ x) (b ++ y) = true
  | [], [], _, _, _, h => by simp [lexB] at h
  | [], _ :: _, _, _, l, _ => by simp at l
  | _ :: _, [], _, _, l, _ => by simp at l
  | p :: a, q :: b, x, y, l, h => by
    simp only [List.cons_append, lexB, Bool.or_eq_true, Bool.and_eq_true, decide_eq_true_eq] at h ⊢
    rcases h with h | ⟨rfl, h⟩
    · exact .inl h
    · exact .inr ⟨rfl, lexB_app x y (by simpa using l) h⟩
theorem lexB_end : ∀ (a : List Ky) {x y : List Ky}, lexB x y = true → lexB (a ++ x) (a ++ y) = true
  | [], _, _, h => h
  | p :: a, x, y, h => by
    simp only [List.cons_append, lexB, Bool.or_eq_true, Bool.and_eq_true, decide_eq_true_eq]
    exact .inr ⟨trivial, lexB_end a h⟩
/-- not behind: shorter, or as long and not behind by its signs -/
def sLe (a b : List Ky) : Prop := a.length < b.length ∨ (a.length = b.length ∧ lexB b a = false)
theorem sLe_refl (a : List Ky) : sLe a a := .inr ⟨rfl, lexB_irr a⟩
theorem lex_le_tr {a b c : List Ky} (l1 : a.length = b.length) (l2 : b.length = c.length) (h : lexB b a = false) (g : lexB c b = false) : lexB c a = false := by
  rw [Bool.eq_false_iff]
  intro z
  by_cases e : a = b
  · subst e; rw [z] at g; cases g
  · rcases lexB_tot l1 e with q | q
    · rw [lexB_tr z q] at g; cases g
    · rw [q] at h; cases h
end Pace
end
section
set_option Elab.async false
set_option linter.all false
set_option maxRecDepth 100000
set_option maxHeartbeats 4000000
namespace Pace
open PySem PySem.Spec PyProof.Rows L2 DL
/-- both are led so far, to unlike states -/
def Far (A : Rows) (n p q : Nat) : Prop := ∃ v : List Ky, v.length = n ∧ ∃ p' q', ledN A p v = some p' ∧ ledN A q v = some q' ∧ ¬ bis A p' A q'
theorem Far.symm {A : Rows} {n p q : Nat} (h : Far A n p q) : Far A n q p := by
  obtain ⟨v, hv, p', q', h1, h2, h3⟩ := h
  exact ⟨v, hv, q', p', h2, h1, fun b => h3 b.symm⟩
def HasR (A : Rows) (p q r : Nat) : Prop := Far A r p q ∧ ¬ Far A (r + 1) p q
theorem HasR.symm {A : Rows} {p q r : Nat} (h : HasR A p q r) : HasR A q p r := ⟨h.1.symm, fun z => h.2 z.symm⟩
abbrev Pr := Nat × Nat
def ascP (x : Pr) : Pr := (min x.1 x.2, max x.1 x.2)
abbrev Rk := Pr × Nat
structure RkI (A : Rows) (P : List Pr) (K : List Rk) : Prop where
  nd : (K.map (·.1)).Nodup
  at_ : ∀ z ∈ K, z.1 ∈ P ∧ HasR A z.1.1 z.1.2 z.2
theorem RkI.nil (A : Rows) (P : List Pr) : RkI A P [] := ⟨by simp, by simp⟩
theorem RkI.add {A : Rows} {P : List Pr} {K : List Rk} (h : RkI A P K) {x : Pr} {r : Nat} (hx : x ∈ P) (hn : x ∉ K.map (·.1)) (hr : HasR A x.1 x.2 r) : RkI A P (K ++ [(x, r)]) where
  nd := by
    rw [List.map_append, List.nodup_append]
    exact ⟨h.nd, by simp, fun a ha b hb e => by simp at hb; subst hb; exact hn (e ▸ ha)⟩
  at_ := fun z hz => by
    rcases List.mem_append.mp hz with hz | hz
    · exact h.at_ z hz
    · rw [List.mem_singleton] at hz
      subst hz
      exact ⟨hx, hr⟩
end Pace
end
section
set_option Elab.async false
set_option linter.all false
set_option maxRecDepth 100000
set_option maxHeartbeats 4000000
namespace Pace
open PySem PySem.Spec PyProof.Rows L2 DL
abbrev Wk := Nat × KS
def wk (A : Rows) (inn : List Nat) (n : Nat) (w : List Ky) : Wk := ((ledN A 0 w).getD 0, ksOf A inn n w)
def Led (A : Rows) (w : List Ky) : Prop := (ledN A 0 w).isSome = true
def Wr (A : Rows) (inn : List Nat) (n : Nat) (w : List Ky) : Prop := okW A inn n w ∧ ledN A 0 w = none
section
variable {A : Rows} {inn : List Nat} {n : Nat}
/-- as far as the search has come -/
structure Lv (A : Rows) (inn : List Nat) (n L : Nat) (sw lv : List (List Ky)) : Prop where
  led : ∀ w ∈ lv, w.length = L ∧ Led A w
  nd : ((sw ++ lv).map (wk A inn n)).Nodup
  all : ∀ u, u.length = L → Led A u → wk A inn n u ∈ sw.map (wk A inn n) ∨ ∃ w ∈ lv, wk A inn n w = wk A inn n u ∧ lexB u w = false
  sn : ∀ w ∈ sw, w.length < L ∧ Led A w
  al : ∀ u, u.length < L → Led A u → wk A inn n u ∈ sw.map (wk A inn n)
  nw : ∀ u k, u.length < L → Led A u → ¬ Wr A inn n (u ++ [k])
theorem Lv.zero (A : Rows) (inn : List Nat) (n : Nat) : Lv A inn n 0 [] [[]] where
  led := fun w hw => by rw [List.mem_singleton] at hw; subst hw; exact ⟨rfl, rfl⟩
  nd := by simp
  all := fun u hu _ => by
    have : u = [] := List.length_eq_zero_iff.mp hu
    subst this
    exact .inr ⟨[], by simp, rfl, rfl⟩
  sn := by simp
  al := fun u hu => by omega
  nw := fun u k hu => by omega
theorem Lv.at_ {L : Nat} {sw lv : List (List Ky)} (h : Lv A inn n L sw lv) {u : List Ky} (hu : u.length = L) (hl : Led A u) (hn : wk A inn n u ∉ sw.map (wk A inn n)) : ∃ w ∈ lv, wk A inn n w = wk A inn n u ∧ lexB u w = false := (h.all u hu hl).resolve_left hn
end
/-- a word put in its key's place -/
def setW (A : Rows) (inn : List Nat) (n : Nat) (ws : List (List Ky)) (w : List Ky) : List (List Ky) := if ws.any (fun v => decide (wk A inn n v = wk A inn n w)) then ws.map (fun v => if wk A inn n v = wk A inn n w then w else v) else ws ++ [w]
theorem setW_keys {A : Rows} {inn : List Nat} {n : Nat} {ws : List (List Ky)} {w : List Ky} (nd : (ws.map (wk A inn n)).Nodup) : ((setW A inn n ws w).map (wk A inn n)).Nodup := by
  unfold setW
  split
  · have : (ws.map fun v => if wk A inn n v = wk A inn n w then w else v).map (wk A inn n) = ws.map (wk A inn n) := by
      rw [List.map_map]
      refine List.map_congr_left fun v _ => ?_
      simp only [Function.comp]
      split
      · rename_i z; exact z.symm
      · rfl
    rw [this]; exact nd
  · rename_i h
    rw [List.map_append, List.nodup_append]
    refine ⟨nd, by simp, fun a ha b hb e => ?_⟩
    simp at hb
    subst hb
    obtain ⟨v, hv, e2⟩ := List.mem_map.mp ha
    exact h (List.any_eq_true.mpr ⟨v, hv, decide_eq_true (e2.trans e)⟩)
theorem setW_mem {A : Rows} {inn : List Nat} {n : Nat} {ws : List (List Ky)} {w x : List Ky} (h : x ∈ setW A inn n ws w) : x = w ∨ (x ∈ ws ∧ wk A inn n x ≠ wk A inn n w) := by
  unfold setW at h
  split at h
  · obtain ⟨v, hv, rfl⟩ := List.mem_map.mp h
    by_cases e : wk A inn n v = wk A inn n w
    · rw [if_pos e]; exact .inl rfl
    · rw [if_neg e]; exact .inr ⟨hv, e⟩
  · rename_i hno
    rcases List.mem_append.mp h with h | h
    · exact .inr ⟨h, fun e => hno (List.any_eq_true.mpr ⟨x, h, decide_eq_true e⟩)⟩
    · rw [List.mem_singleton] at h
      exact .inl h
theorem setW_in {A : Rows} {inn : List Nat} {n : Nat} {ws : List (List Ky)} {w : List Ky} : w ∈ setW A inn n ws w ∧ ∀ v ∈ ws, wk A inn n v ≠ wk A inn n w → v ∈ setW A inn n ws w := by
  unfold setW
  split
  · rename_i h
    obtain ⟨v, hv, e⟩ := List.any_eq_true.mp h
    refine ⟨List.mem_map.mpr ⟨v, hv, by rw [if_pos (of_decide_eq_true e)]⟩, fun v hv e => List.mem_map.mpr ⟨v, hv, by rw [if_neg e]⟩⟩
  · exact ⟨by simp, fun v hv _ => List.mem_append_left _ hv⟩
end Pace
end
section
set_option Elab.async false
set_option linter.all false
set_option maxRecDepth 100000
set_option maxHeartbeats 4000000
namespace Pace
open PySem PySem.Spec PyProof.Rows L2 DL
def sLt (a b : List Ky) : Prop := sLe a b ∧ a ≠ b
theorem sLt_snoc {a b : List Ky} (x y : Ky) (h : sLt a b) : sLt (a ++ [x]) (b ++ [y]) := by
  obtain ⟨h, ne⟩ := h
  have ne2 : a ++ [x] ≠ b ++ [y] := fun e => ne (by
    have := congrArg List.dropLast e
    simpa using this)
  refine ⟨?_, ne2⟩
  rcases h with h | ⟨l, h⟩
  · exact .inl (by simp; omega)
  · refine .inr ⟨by simp; omega, ?_⟩
    rcases lexB_tot l ne with q | q
    · rw [Bool.eq_false_iff]
      intro z
      have := lexB_tr z (lexB_app [x] [y] l q)
      rw [lexB_irr] at this; cases this
    · rw [q] at h; cases h
theorem sLt_key {a : List Ky} {x y : Ky} (h : kLt x y = true) : sLt (a ++ [x]) (a ++ [y]) := by
  have h1 : lexB [x] [y] = true := by simp [lexB, h]
  have h2 := lexB_end a h1
  refine ⟨.inr ⟨by simp, ?_⟩, fun e => ?_⟩
  · rw [Bool.eq_false_iff]
    intro z
    have := lexB_tr z h2
    rw [lexB_irr] at this; cases this
  · rw [e, lexB_irr] at h2; cases h2
theorem sLt_nil {a : List Ky} {k : Ky} : sLt [] (a ++ [k]) := ⟨.inl (by simp), fun e => by simp at e⟩
/-- the order of the search -/
structure TrO (A B : Rows) (L : List Trail) (n : Nat) : Prop where
  so : L.Pairwise fun x y => sLt x.2 y.2
  par : ∀ y ∈ L, y.2 = [] ∨ ∃ (i : Nat) (x : Trail) (k : Ky), i < n ∧ L[i]? = some x ∧ y.2 = x.2 ++ [k]
  cl : ∀ (i : Nat) x, i < n → L[i]? = some x → ∀ (k : Ky) (s t : Nat), step1 A x.1.1 k.1 k.2 = some s → step1 B x.1.2 k.1 k.2 = some t → ∃ y ∈ L, y.1 = (s, t) ∧ sLe y.2 (x.2 ++ [k])
theorem TrO.zero (A B : Rows) : TrO A B [((0, 0), [])] 0 := ⟨by simp, fun y hy => by simp at hy; subst hy; exact .inl rfl, fun i x hi => by omega⟩
/-- within a turn: x is at n, its keys ls have been looked at -/
structure TrJ (A B : Rows) (L : List Trail) (n : Nat) (x : Trail) (ls : List Ky) : Prop where
  so : L.Pairwise fun x y => sLt x.2 y.2
  at_ : L[n]? = some x
  par : ∀ y ∈ L, y.2 = [] ∨ (∃ (i : Nat) (z : Trail) (k : Ky), i < n ∧ L[i]? = some z ∧ y.2 = z.2 ++ [k]) ∨ ∃ k ∈ ls, y.2 = x.2 ++ [k]
  cl : ∀ (i : Nat) z, i < n → L[i]? = some z → ∀ (k : Ky) (s t : Nat), step1 A z.1.1 k.1 k.2 = some s → step1 B z.1.2 k.1 k.2 = some t → ∃ y ∈ L, y.1 = (s, t) ∧ sLe y.2 (z.2 ++ [k])
  here : ∀ k ∈ ls, ∀ (s t : Nat), step1 A x.1.1 k.1 k.2 = some s → step1 B x.1.2 k.1 k.2 = some t → ∃ y ∈ L, y.1 = (s, t) ∧ sLe y.2 (x.2 ++ [k])
theorem TrJ.behind {A B : Rows} {L : List Trail} {n : Nat} {x : Trail} {ls : List Ky} (h : TrJ A B L n x ls) {k : Ky} (hk : ∀ l ∈ ls, kLt l k = true) : ∀ y ∈ L, sLt y.2 (x.2 ++ [k]) := by
  intro y hy
  rcases h.par y hy with e | ⟨i, z, k', h1, h2, h3⟩ | ⟨k', hk', e⟩
  · rw [e]; exact sLt_nil
  · rw [h3]
    refine sLt_snoc _ _ ?_
    have hi := (List.getElem?_eq_some_iff.mp h2)
    have hn := (List.getElem?_eq_some_iff.mp h.at_)
    obtain ⟨hi1, hi2⟩ := hi
    obtain ⟨hn1, hn2⟩ := hn
    have := List.pairwise_iff_getElem.mp h.so i n hi1 hn1 h1
    rw [hi2, hn2] at this
    exact this
  · rw [e]; exact sLt_key (hk k' hk')
theorem TrJ.add {A B : Rows} {L : List Trail} {n : Nat} {x : Trail} {ls : List Ky} (h : TrJ A B L n x ls) {k : Ky} (hk : ∀ l ∈ ls, kLt l k = true) {s t : Nat} (hs : step1 A x.1.1 k.1 k.2 = some s) (ht : step1 B x.1.2 k.1 k.2 = some t) : TrJ A B (L ++ [((s, t), x.2 ++ [k])]) n x (ls ++ [k]) := by
  have lift : ∀ {i : Nat} {z : Trail}, L[i]? = some z → (L ++ [((s, t), x.2 ++ [k])])[i]? = some z := fun {i z} e => by
    rw [List.getElem?_append_left (List.getElem?_eq_some_iff.mp e).1]; exact e
  have nl := (List.getElem?_eq_some_iff.mp h.at_).1
  refine ⟨?_, lift h.at_, fun y hy => ?_, fun i z hi hz l s' t' h1 h2 => ?_, fun l hl s' t' h1 h2 => ?_⟩
  · rw [List.pairwise_append]
    exact ⟨h.so, by simp, fun a ha b hb => by rw [List.mem_singleton] at hb; subst hb; exact h.behind hk a ha⟩
  · rcases List.mem_append.mp hy with hy | hy
    · rcases h.par y hy with e | ⟨i, z, l, h1, h2, h3⟩ | ⟨l, hl, e⟩
      · exact .inl e
      · exact .inr (.inl ⟨i, z, l, h1, lift h2, h3⟩)
      · exact .inr (.inr ⟨l, List.mem_append_left _ hl, e⟩)
    · rw [List.mem_singleton] at hy
      subst hy
      exact .inr (.inr ⟨k, by simp, rfl⟩)
  · rw [List.getElem?_append_left (by omega)] at hz
    obtain ⟨y, hy, e⟩ := h.cl i z hi hz l s' t' h1 h2
    exact ⟨y, List.mem_append_left _ hy, e⟩
  · rcases List.mem_append.mp hl with hl | hl
    · obtain ⟨y, hy, e⟩ := h.here l hl s' t' h1 h2
      exact ⟨y, List.mem_append_left _ hy, e⟩
    · rw [List.mem_singleton] at hl
      subst hl
      rw [hs] at h1
      rw [ht] at h2
      cases h1; cases h2
      exact ⟨((s, t), x.2 ++ [l]), by simp, rfl, sLe_refl _⟩
end Pace
end
section
set_option Elab.async false
set_option linter.all false
set_option maxRecDepth 100000
set_option maxHeartbeats 4000000
namespace Pace
open PySem PySem.Spec PyProof.Rows L2 DL
/-- as far as a turn has come: D tells which words and signs were looked at -/
structure FwT (A : Rows) (inn : List Nat) (n L : Nat) (sw lv wr lt : List (List Ky)) (D : List Ky → Ky → Prop) : Prop where
  w1 : ∀ x ∈ wr, ∃ w ∈ lv, ∃ k, x = w ++ [k] ∧ Wr A inn n x
  w2 : ∀ w k, D w k → Wr A inn n (w ++ [k]) → w ++ [k] ∈ wr
  l1 : ∀ x ∈ lt, ∃ w ∈ lv, ∃ k, x = w ++ [k] ∧ Led A x ∧ wk A inn n x ∉ (sw ++ lv).map (wk A inn n)
  nd : (lt.map (wk A inn n)).Nodup
  l2 : ∀ w k, D w k → Led A (w ++ [k]) → wk A inn n (w ++ [k]) ∈ (sw ++ lv).map (wk A inn n) ∨ ∃ y ∈ lt, wk A inn n y = wk A inn n (w ++ [k]) ∧ lexB (w ++ [k]) y = false
section
variable {A : Rows} {inn : List Nat} {n L : Nat} {sw lv wr lt : List (List Ky)} {D D' : List Ky → Ky → Prop}
theorem FwT.zero : FwT A inn n L sw lv [] [] fun _ _ => False := ⟨by simp, fun _ _ h => h.elim, by simp, by simp, fun _ _ h => h.elim⟩
theorem FwT.put (h : FwT A inn n L sw lv wr lt D) (hL : ∀ w ∈ lv, w.length = L) {w : List Ky} {k : Ky} (hw : w ∈ lv) (hl : Led A (w ++ [k])) (hm : wk A inn n (w ++ [k]) ∉ (sw ++ lv).map (wk A inn n)) (hD : ∀ w k, D w k → w ∈ lv) {m : List Ky}
    (h1 : m = w ++ [k] ∨ (m ∈ lt ∧ wk A inn n m = wk A inn n (w ++ [k]))) (h2 : lexB (w ++ [k]) m = false) (h3 : ∀ y ∈ lt, wk A inn n y = wk A inn n (w ++ [k]) → lexB y m = false) : FwT A inn n L sw lv wr (setW A inn n lt m) fun w' k' => D w' k' ∨ (w' = w ∧ k' = k) where
  w1 := h.w1
  w2 := fun w' k' d hx => by
    rcases d with d | ⟨rfl, rfl⟩
    · exact h.w2 w' k' d hx
    · unfold Led at hl
      rw [hx.2] at hl; cases hl
  l1 := fun x hx => by
    rcases setW_mem hx with rfl | ⟨hx, _⟩
    · rcases h1 with rfl | ⟨h1, _⟩
      · exact ⟨w, hw, k, rfl, hl, hm⟩
      · exact h.l1 _ h1
    · exact h.l1 x hx
  nd := setW_keys h.nd
  l2 := fun w' k' d hx => by
    have ek : wk A inn n m = wk A inn n (w ++ [k]) := by
      rcases h1 with rfl | ⟨_, h1⟩
      · rfl
      · exact h1
    have len : ∀ y ∈ lt, y.length = L + 1 := fun y hy => by
      obtain ⟨v, hv, l, rfl, _⟩ := h.l1 y hy
      simp [hL v hv]
    have lm : m.length = L + 1 := by
      rcases h1 with rfl | ⟨h1, _⟩
      · simp [hL w hw]
      · exact len m h1
    rcases d with d | ⟨rfl, rfl⟩
    · rcases h.l2 w' k' d hx with z | ⟨y, hy, e, le⟩
      · exact .inl z
      · by_cases e2 : wk A inn n y = wk A inn n m
        · refine .inr ⟨m, setW_in.1, e2.symm.trans e, ?_⟩
          exact lex_le_tr (by rw [lm, len y hy]) (by rw [len y hy]; simp [hL w' (hD _ _ d)]) (h3 y hy (e2.trans ek)) le
        · exact .inr ⟨y, setW_in.2 y hy e2, e, le⟩
    · exact .inr ⟨m, setW_in.1, ek, h2⟩
end
end Pace
end
section
set_option Elab.async false
set_option linter.all false
set_option maxRecDepth 100000
set_option maxHeartbeats 4000000
namespace Pace
open PySem PySem.Spec PyProof.Rows L2 DL
section
variable {A : Rows} {inn : List Nat} {n : Nat} {β : Type} {κ : List Ky → β}
/-- as far as the search has come -/
structure LvK {β : Type} (κ : List Ky → β) (A : Rows) (inn : List Nat) (n L : Nat) (sw lv : List (List Ky)) : Prop where
  led : ∀ w ∈ lv, w.length = L ∧ Led A w
  nd : ((sw ++ lv).map κ).Nodup
  all : ∀ u, u.length = L → Led A u → κ u ∈ sw.map κ ∨ ∃ w ∈ lv, κ w = κ u ∧ lexB u w = false
  sn : ∀ w ∈ sw, w.length < L ∧ Led A w
  al : ∀ u, u.length < L → Led A u → κ u ∈ sw.map κ
  nw : ∀ u k, u.length < L → Led A u → ¬ Wr A inn n (u ++ [k])
theorem LvK.zero (A : Rows) (inn : List Nat) (n : Nat) : LvK κ A inn n 0 [] [[]] where
  led := fun w hw => by rw [List.mem_singleton] at hw; subst hw; exact ⟨rfl, rfl⟩
  nd := by simp
  all := fun u hu _ => by
    have : u = [] := List.length_eq_zero_iff.mp hu
    subst this
    exact .inr ⟨[], by simp, rfl, rfl⟩
  sn := by simp
  al := fun u hu => by omega
  nw := fun u k hu => by omega
theorem LvK.at_ {L : Nat} {sw lv : List (List Ky)} (h : LvK κ A inn n L sw lv) {u : List Ky} (hu : u.length = L) (hl : Led A u) (hn : κ u ∉ sw.map κ) : ∃ w ∈ lv, κ w = κ u ∧ lexB u w = false := (h.all u hu hl).resolve_left hn
end
end Pace
end
section
set_option Elab.async false
set_option linter.all false
set_option maxRecDepth 100000
set_option maxHeartbeats 4000000
namespace Pace
open PySem PySem.Spec PyProof.Rows L2 DL
def SoL (lv : List (List Ky)) : Prop := lv.Pairwise fun a b => lexB a b = true
section
variable {A : Rows} {inn : List Nat} {n : Nat} {β : Type} {κ : List Ky → β}
/-- how far it has come within a layer: P was looked at -/
structure Srch {β : Type} (κ : List Ky → β) (A : Rows) (inn : List Nat) (n : Nat) (bs P lt : List (List Ky)) : Prop where
  on : ∀ x ∈ lt, x ∈ P ∧ Led A x ∧ κ x ∉ bs.map κ
  nd : (lt.map κ).Nodup
  so : SoL lt
  ok : ∀ x ∈ P, ¬ Wr A inn n x ∧ (Led A x → κ x ∈ bs.map κ ∨ ∃ y ∈ lt, κ y = κ x ∧ lexB x y = false)
theorem Srch.nil (κ : List Ky → β) (A : Rows) (inn : List Nat) (n : Nat) (bs : List (List Ky)) : Srch κ A inn n bs [] [] := ⟨by simp, by simp, by simp [SoL], by simp⟩
theorem Srch.keep {bs P lt : List (List Ky)} (h : Srch κ A inn n bs P lt) {x : List Ky} (hp : ∀ p ∈ P, lexB p x = true) (hw : ¬ Wr A inn n x) (hx : Led A x → κ x ∈ (bs ++ lt).map κ) : Srch κ A inn n bs (P ++ [x]) lt := by
  refine ⟨fun y hy => ⟨List.mem_append_left _ (h.on y hy).1, (h.on y hy).2⟩, h.nd, h.so, fun y hy => ?_⟩
  rcases List.mem_append.mp hy with hy | hy
  · exact h.ok y hy
  · rw [List.mem_singleton] at hy
    subst hy
    refine ⟨hw, fun l => ?_⟩
    have := hx l
    rw [List.map_append, List.mem_append] at this
    rcases this with z | z
    · exact .inl z
    · obtain ⟨v, hv, e⟩ := List.mem_map.mp z
      refine .inr ⟨v, hv, e, ?_⟩
      rw [Bool.eq_false_iff]
      intro q
      have := lexB_tr q (hp v (h.on v hv).1)
      rw [lexB_irr] at this; cases this
theorem Srch.add {bs P lt : List (List Ky)} (h : Srch κ A inn n bs P lt) {x : List Ky} (hp : ∀ p ∈ P, lexB p x = true) (hw : ¬ Wr A inn n x) (hl : Led A x) (hx : κ x ∉ (bs ++ lt).map κ) : Srch κ A inn n bs (P ++ [x]) (lt ++ [x]) := by
  rw [List.map_append, List.mem_append, not_or] at hx
  refine ⟨fun y hy => ?_, ?_, ?_, fun y hy => ?_⟩
  · rcases List.mem_append.mp hy with hy | hy
    · exact ⟨List.mem_append_left _ (h.on y hy).1, (h.on y hy).2⟩
    · rw [List.mem_singleton] at hy
      subst hy
      exact ⟨by simp, hl, hx.1⟩
  · rw [List.map_append, List.nodup_append]
    refine ⟨h.nd, by simp, fun a ha b hb e => ?_⟩
    simp at hb
    subst hb
    exact hx.2 (e ▸ ha)
  · unfold SoL
    rw [List.pairwise_append]
    refine ⟨h.so, by simp, fun a ha b hb => ?_⟩
    rw [List.mem_singleton] at hb
    subst hb
    exact hp a (h.on a ha).1
  · rcases List.mem_append.mp hy with hy | hy
    · refine ⟨(h.ok y hy).1, fun l => ((h.ok y hy).2 l).imp id ?_⟩
      rintro ⟨z, hz, e⟩
      exact ⟨z, List.mem_append_left _ hz, e⟩
    · rw [List.mem_singleton] at hy
      subst hy
      exact ⟨hw, fun _ => .inr ⟨y, by simp, rfl, lexB_irr _⟩⟩
end
end Pace
end
section
set_option Elab.async false
set_option linter.all false
set_option maxRecDepth 100000
set_option maxHeartbeats 4000000
namespace Pace
open PySem PySem.Spec PyProof.Rows L2 DL
/-- pairs that are not ranked -/
structure NoRk (A : Rows) (inn : List Nat) (f : Nat → Nat) (K : List Rk) (x : Pr) : Prop where
  a : x.1 ∈ inn
  b : x.2 ∈ inn
  ne : f x.1 ≠ f x.2
  no : ascP x ∉ K.map (·.1)
structure WR (A : Rows) (inn : List Nat) (f : Nat → Nat) (K : List Rk) (ps : List Pr) (w : List Ky) (x : Pr) : Prop where
  nd : ps.Nodup
  on : ∀ p ∈ ps, NoRk A inn f K p
  len : ps.length = w.length + 1
  last : ps[w.length]? = some x
  led : ∀ i p, ps[i]? = some p → ledN A p.1 (w.drop i) = some x.1 ∧ ledN A p.2 (w.drop i) = some x.2
theorem WR.zero {A : Rows} {inn : List Nat} {f : Nat → Nat} {K : List Rk} {x : Pr} (h : NoRk A inn f K x) : WR A inn f K [x] [] x where
  nd := by simp
  on := fun p hp => by rw [List.mem_singleton] at hp; subst hp; exact h
  len := rfl
  last := rfl
  led := fun i p hp => by
    cases i with
    | zero => cases hp; exact ⟨rfl, rfl⟩
    | succ i => simp at hp
theorem WR.few {A : Rows} {inn : List Nat} {f : Nat → Nat} {K : List Rk} {ps : List Pr} {w : List Ky} {x : Pr} (h : WR A inn f K ps w x) : ps.length ≤ inn.length * inn.length := by
  have := List.Nodup.length_le_of_subset h.nd (l₂ := inn.flatMap fun x => inn.map fun y => (x, y)) fun p hp => by
    have := h.on p hp
    exact List.mem_flatMap.mpr ⟨p.1, this.a, List.mem_map.mpr ⟨p.2, this.b, rfl⟩⟩
  rwa [prod_len] at this
structure TB (A : Rows) (x : Pr) (L : List Trail) (n : Nat) : Prop where
  nd : (L.map (·.1)).Nodup
  zero : L[0]? = some (x, [])
  led : ∀ y ∈ L, ledN A x.1 y.2 = some y.1.1 ∧ ledN A x.2 y.2 = some y.1.2
  cl : ∀ (i : Nat) y, i < n → L[i]? = some y → ∀ k : Ky, (step1 A y.1.1 k.1 k.2).isSome = (step1 A y.1.2 k.1 k.2).isSome ∧ ∀ s t, step1 A y.1.1 k.1 k.2 = some s → step1 A y.1.2 k.1 k.2 = some t → (s, t) ∈ L.map (·.1)
  le : n ≤ L.length
  ln : ∀ (i : Nat) y, L[i]? = some y → y.2.length ≤ i
theorem TB.start (A : Rows) (x : Pr) : TB A x [(x, [])] 0 where
  nd := by simp
  zero := rfl
  led := fun y hy => by rw [List.mem_singleton] at hy; subst hy; exact ⟨rfl, rfl⟩
  cl := fun i y h => by omega
  le := by simp
  ln := fun i y h => by
    cases i with
    | zero => cases h; simp
    | succ i => simp at h
theorem TB.few {A : Rows} (st : Steps A) {x : Pr} (h1 : x.1 < A.length) (h2 : x.2 < A.length) {L : List Trail} {n : Nat} (h : TB A x L n) : L.length ≤ A.length * A.length ∧ ∀ y ∈ L, y.1.1 < A.length ∧ y.1.2 < A.length := by
  have lt : ∀ y ∈ L, y.1.1 < A.length ∧ y.1.2 < A.length := fun y hy => by
    obtain ⟨e1, e2⟩ := h.led y hy
    exact ⟨ledN_lt st.cl.2 h1 _ e1, ledN_lt st.cl.2 h2 _ e2⟩
  have := List.Nodup.length_le_of_subset h.nd (l₂ := (List.range A.length).flatMap fun x => (List.range A.length).map fun y => (x, y)) fun p hp => by
    obtain ⟨y, hy, rfl⟩ := List.mem_map.mp hp
    obtain ⟨h1, h2⟩ := lt y hy
    exact List.mem_flatMap.mpr ⟨y.1.1, List.mem_range.mpr h1, List.mem_map.mpr ⟨y.1.2, List.mem_range.mpr h2, rfl⟩⟩
  rw [prod_len] at this
  exact ⟨by simpa using this, lt⟩
abbrev Way := Nat × List Ky
structure WT (A : Rows) (L : List Way) (n : Nat) : Prop where
  nd : (L.map (·.1)).Nodup
  led : ∀ y ∈ L, y.2 ≠ [] ∧ ledN A 0 y.2 = some y.1
  c0 : ∀ m ∈ rowS A 0, m.t ∈ L.map (·.1)
  cl : ∀ (i : Nat) y, i < n → L[i]? = some y → ∀ m ∈ rowS A y.1, m.t ∈ L.map (·.1)
  le : n ≤ L.length
  ln : ∀ (i : Nat) y, L[i]? = some y → y.2.length ≤ i + 1
theorem WT.few {A : Rows} (st : Steps A) {L : List Way} {n : Nat} (h : WT A L n) : L.length ≤ A.length ∧ ∀ y ∈ L, y.1 < A.length := by
  have lt : ∀ y ∈ L, y.1 < A.length := fun y hy => ledN_lt st.cl.2 st.cl.1 _ (h.led y hy).2
  have := nodup_lt_len h.nd (n := A.length) fun p hp => by
    obtain ⟨y, hy, rfl⟩ := List.mem_map.mp hp
    exact lt y hy
  exact ⟨by simpa using this, lt⟩
end Pace
end
section
set_option Elab.async false
set_option linter.all false
set_option maxRecDepth 100000
set_option maxHeartbeats 4000000
namespace Pace
open PySem PySem.Spec PyProof.Rows L2 DL
structure WB (A : Rows) (L : List Way) : Prop where
  nd : (L.map (·.1)).Nodup
  led : ∀ y ∈ L, y.2 ≠ [] ∧ ledN A 0 y.2 = some y.1
  ln : ∀ (i : Nat) y, L[i]? = some y → y.2.length ≤ i + 1
theorem WB.nil (A : Rows) : WB A [] := ⟨by simp, by simp, by simp⟩
theorem WB.add {A : Rows} {L : List Way} (h : WB A L) {t : Nat} {w : List Ky} (hn : t ∉ L.map (·.1)) (w0 : w ≠ []) (hl : ledN A 0 w = some t) (hw : w.length ≤ L.length + 1) : WB A (L ++ [(t, w)]) where
  nd := by
    rw [List.map_append, List.nodup_append]
    exact ⟨h.nd, by simp, fun a ha b hb e => by simp at hb; subst hb; exact hn (e ▸ ha)⟩
  led := fun y hy => by
    rcases List.mem_append.mp hy with hy | hy
    · exact h.led y hy
    · rw [List.mem_singleton] at hy
      subst hy
      exact ⟨w0, hl⟩
  ln := fun i y hy => by
    by_cases il : i < L.length
    · rw [List.getElem?_append_left il] at hy
      exact h.ln i y hy
    · rw [List.getElem?_append_right (by omega)] at hy
      have : i - L.length = 0 := by
        have := (List.getElem?_eq_some_iff.mp hy).1
        simp at this
        omega
      rw [this] at hy
      cases hy
      simp only
      omega
theorem WB.few {A : Rows} (st : Steps A) {L : List Way} (h : WB A L) : L.length ≤ A.length := by
  have := nodup_lt_len h.nd (n := A.length) fun p hp => by
    obtain ⟨y, hy, rfl⟩ := List.mem_map.mp hp
    exact ledN_lt st.cl.2 st.cl.1 _ (h.led y hy).2
  simpa using this
structure TBj (A : Rows) (x : Pr) (L : List Trail) (n : Nat) (y : Trail) (ks : List Ky) : Prop where
  nd : (L.map (·.1)).Nodup
  zero : L[0]? = some (x, [])
  led : ∀ y ∈ L, ledN A x.1 y.2 = some y.1.1 ∧ ledN A x.2 y.2 = some y.1.2
  cl : ∀ (i : Nat) y, i < n → L[i]? = some y → ∀ k : Ky, (step1 A y.1.1 k.1 k.2).isSome = (step1 A y.1.2 k.1 k.2).isSome ∧ ∀ s t, step1 A y.1.1 k.1 k.2 = some s → step1 A y.1.2 k.1 k.2 = some t → (s, t) ∈ L.map (·.1)
  at_ : L[n]? = some y
  ln : ∀ (i : Nat) y, L[i]? = some y → y.2.length ≤ i
  here : ∀ k ∈ ks, (step1 A y.1.1 k.1 k.2).isSome = (step1 A y.1.2 k.1 k.2).isSome ∧ ∀ s t, step1 A y.1.1 k.1 k.2 = some s → step1 A y.1.2 k.1 k.2 = some t → (s, t) ∈ L.map (·.1)
theorem TBj.add {A : Rows} {x : Pr} {L : List Trail} {n : Nat} {y : Trail} {ks : List Ky} (h : TBj A x L n y ks) {k : Ky} {s t : Nat} (e1 : step1 A y.1.1 k.1 k.2 = some s) (e2 : step1 A y.1.2 k.1 k.2 = some t) (hm : (s, t) ∉ L.map (·.1)) : TBj A x (L ++ [((s, t), y.2 ++ [k])]) n y (ks ++ [k]) := by
  have nl := (List.getElem?_eq_some_iff.mp h.at_).1
  have z0 := (List.getElem?_eq_some_iff.mp h.zero).1
  have hl := h.led y (List.mem_of_getElem? h.at_)
  have up : ∀ p, p ∈ L.map (·.1) → p ∈ (L ++ [((s, t), y.2 ++ [k])]).map (·.1) := fun p hp => by rw [List.map_append]; exact List.mem_append_left _ hp
  refine ⟨?_, by rw [List.getElem?_append_left z0]; exact h.zero, fun z hz => ?_, fun i z hi hz l => ?_, by rw [List.getElem?_append_left nl]; exact h.at_, fun i z hz => ?_, fun l hl => ?_⟩
  · rw [List.map_append, List.nodup_append]
    exact ⟨h.nd, by simp, fun a ha b hb e => by simp at hb; subst hb; exact hm (e ▸ ha)⟩
  · rcases List.mem_append.mp hz with hz | hz
    · exact h.led z hz
    · rw [List.mem_singleton] at hz
      subst hz
      exact ⟨by rw [ledN_snoc, hl.1]; exact e1, by rw [ledN_snoc, hl.2]; exact e2⟩
  · rw [List.getElem?_append_left (by omega)] at hz
    obtain ⟨c1, c2⟩ := h.cl i z hi hz l
    exact ⟨c1, fun s' t' f1 f2 => up _ (c2 s' t' f1 f2)⟩
  · by_cases il : i < L.length
    · rw [List.getElem?_append_left il] at hz
      exact h.ln i z hz
    · rw [List.getElem?_append_right (by omega)] at hz
      have e0 : i - L.length = 0 := by
        have := (List.getElem?_eq_some_iff.mp hz).1
        simp at this
        omega
      rw [e0] at hz
      cases hz
      have := h.ln n y h.at_
      simp only [List.length_append, List.length_singleton]
      omega
  · rcases List.mem_append.mp hl with hl | hl
    · obtain ⟨c1, c2⟩ := h.here l hl
      exact ⟨c1, fun s' t' f1 f2 => up _ (c2 s' t' f1 f2)⟩
    · rw [List.mem_singleton] at hl
      subst hl
      refine ⟨by rw [e1, e2]; rfl, fun s' t' f1 f2 => ?_⟩
      rw [e1] at f1
      rw [e2] at f2
      cases f1; cases f2
      simp
end Pace
end
section
set_option Elab.async false
set_option linter.all false
set_option maxRecDepth 100000
set_option maxHeartbeats 4000000
namespace Pace
open PySem PySem.Spec PyProof.Rows L2 DL
def stI : Option Nat → Int
  | none => -1
  | some n => (n : Int)
def stepZ (A : Rows) (s : Int) (k : Ky) : Int := if s = -1 then -1 else stI (step1 A s.toNat k.1 k.2)
def InZ (A : Rows) (s : Int) : Prop := s = -1 ∨ ∃ n : Nat, s = (n : Int) ∧ n < A.length
def ledZ (A : Rows) (w : List Ky) : Int := stI (ledN A 0 w)
theorem stepZ_stI (A : Rows) (o : Option Nat) (k : Ky) : stepZ A (stI o) k = stI (o.bind fun s => step1 A s k.1 k.2) := by
  cases o with
  | none => rfl
  | some s =>
    unfold stepZ
    rw [if_neg (by simp only [stI]; omega)]
    rfl
theorem ledZ_snoc (A : Rows) (w : List Ky) (k : Ky) : ledZ A (w ++ [k]) = stepZ A (ledZ A w) k := by
  unfold ledZ
  rw [stepZ_stI, ledN_snoc]
theorem stI_some (o : Option Nat) : stI o ≠ -1 ↔ o.isSome = true := by
  cases o with
  | none => simp [stI]
  | some n => simp only [stI, Option.isSome_some, iff_true]; omega
theorem stepZ_in {A : Rows} (st : Steps A) (s : Int) (k : Ky) : InZ A (stepZ A s k) := by
  unfold stepZ
  split
  · exact .inl rfl
  · cases e : step1 A s.toNat k.1 k.2 with
    | none => exact .inl rfl
    | some t => exact .inr ⟨t, rfl, step1_lt st.cl.2 e⟩
abbrev ZP := Int × Int
def Live (e : Bool) (p : ZP) : Prop := p ≠ (-1, -1) ∧ (e = true ∨ (p.1 ≠ -1 ∧ p.2 ≠ -1))
instance (e : Bool) (p : ZP) : Decidable (Live e p) := by unfold Live; infer_instance
def toZ (A B : Rows) (p : ZP) (k : Ky) : ZP := (stepZ A p.1 k, stepZ B p.2 k)
structure RowJ (A B : Rows) (e : Bool) (L : List ZP) (p : ZP) (P : Ky → Prop) (r : List Mv) : Prop where
  pw : r.Pairwise fun a b => mvLt a b = true
  to : ∀ m ∈ r, P (m.h, m.c) ∧ Live e (toZ A B p (m.h, m.c)) ∧ L[m.t]? = some (toZ A B p (m.h, m.c))
  all : ∀ k, P k → Live e (toZ A B p k) → ∃ m ∈ r, m.h = k.1 ∧ m.c = k.2
  len : r.length ≤ 62
structure JoinI (A B : Rows) (e : Bool) (L : List ZP) (F : Rows) : Prop where
  nd : L.Nodup
  zero : L[0]? = some (0, 0)
  rng : ∀ p ∈ L, InZ A p.1 ∧ InZ B p.2 ∧ Live e p
  le : F.length ≤ L.length
  row : ∀ (i : Nat) p r, L[i]? = some p → F[i]? = some r → RowJ A B e L p (fun _ => True) r
theorem RowJ.mono {A B : Rows} {e : Bool} {L : List ZP} {p : ZP} {P : Ky → Prop} {r : List Mv} (h : RowJ A B e L p P r) (q : ZP) : RowJ A B e (L ++ [q]) p P r :=
  ⟨h.pw, fun m hm => by
    obtain ⟨h1, h2, h3⟩ := h.to m hm
    exact ⟨h1, h2, by rw [List.getElem?_append_left (List.getElem?_eq_some_iff.mp h3).1]; exact h3⟩, h.all, h.len⟩
theorem JoinI.grow {A B : Rows} {e : Bool} {L : List ZP} {F : Rows} (h : JoinI A B e L F) (sa : Steps A) (sb : Steps B) {p : ZP} {k : Ky} (hl : Live e (toZ A B p k)) (hn : toZ A B p k ∉ L) : JoinI A B e (L ++ [toZ A B p k]) F where
  nd := by rw [List.nodup_append]; exact ⟨h.nd, by simp, fun a h1 b h2 e => hn (by rw [List.mem_singleton.mp h2] at e; exact e ▸ h1)⟩
  zero := by rw [List.getElem?_append_left (List.getElem?_eq_some_iff.mp h.zero).1]; exact h.zero
  rng := fun q hq => by
    rcases List.mem_append.mp hq with hq | hq
    · exact h.rng q hq
    · rw [List.mem_singleton.mp hq]
      exact ⟨stepZ_in sa _ _, stepZ_in sb _ _, hl⟩
  le := by rw [List.length_append]; exact Nat.le_trans h.le (Nat.le_add_right _ _)
  row := fun i q r hq hr => by
    have := h.le
    have hi := (List.getElem?_eq_some_iff.mp hr).1
    rw [List.getElem?_append_left (by omega)] at hq
    exact (h.row i q r hq hr).mono _
theorem JoinI.few {A B : Rows} {e : Bool} {L : List ZP} {F : Rows} (h : JoinI A B e L F) : L.length ≤ (A.length + 1) * (B.length + 1) := by
  have sub : L ⊆ (List.range (A.length + 1)).flatMap fun i : Nat => (List.range (B.length + 1)).map fun j : Nat => (((i : Int) - 1, (j : Int) - 1) : ZP) := fun p hp => by
    obtain ⟨h1, h2, _⟩ := h.rng p hp
    have one : ∀ (A : Rows) (s : Int), InZ A s → ∃ i, i ∈ List.range (A.length + 1) ∧ (i : Int) - 1 = s := fun A s hs => by
      rcases hs with rfl | ⟨n, rfl, hn⟩
      · exact ⟨0, by simp, rfl⟩
      · exact ⟨n + 1, by rw [List.mem_range]; omega, by omega⟩
    obtain ⟨i, hi, ei⟩ := one A p.1 h1
    obtain ⟨j, hj, ej⟩ := one B p.2 h2
    exact List.mem_flatMap.mpr ⟨i, hi, List.mem_map.mpr ⟨j, hj, Prod.ext ei ej⟩⟩
  have := List.Nodup.length_le_of_subset h.nd sub
  have e2 : ((List.range (A.length + 1)).flatMap fun i : Nat => (List.range (B.length + 1)).map fun j : Nat => (((i : Int) - 1, (j : Int) - 1) : ZP)).length = (A.length + 1) * (B.length + 1) := by
    have g : ∀ l : List Nat, (l.map fun _ => B.length + 1).sum = l.length * (B.length + 1) := fun l => by
      induction l with
      | nil => simp
      | cons a l ih => rw [List.map_cons, List.sum_cons, ih, List.length_cons, Nat.succ_mul, Nat.add_comm]
    rw [List.length_flatMap]
    simp only [List.length_map, List.length_range]
    rw [g, List.length_range]
  omega
theorem JoinI.push {A B : Rows} {e : Bool} {L : List ZP} {F : Rows} (h : JoinI A B e L F) {p : ZP} (hp : L[F.length]? = some p) {r : List Mv} (hr : RowJ A B e L p (fun _ => True) r) : JoinI A B e L (F ++ [r]) where
  nd := h.nd
  zero := h.zero
  rng := h.rng
  le := by rw [List.length_append]; exact (List.getElem?_eq_some_iff.mp hp).1
  row := fun i q r' hq hr' => by
    by_cases hi : i < F.length
    · rw [List.getElem?_append_left hi] at hr'
      exact h.row i q r' hq hr'
    · have hl := (List.getElem?_eq_some_iff.mp hr').1
      rw [List.length_append, List.length_singleton] at hl
      have : i = F.length := by omega
      subst this
      rw [hp] at hq
      rw [List.getElem?_append_right (Nat.le_refl _), Nat.sub_self] at hr'
      cases hq; cases hr'
      exact hr
theorem RowJ.nil {A B : Rows} {e : Bool} {L : List ZP} {p : ZP} {P : Ky → Prop} (hP : ∀ k, ¬ P k) : RowJ A B e L p P [] :=
  ⟨.nil, fun m hm => (by cases hm), fun k hk => absurd hk (hP k), Nat.zero_le _⟩
theorem RowJ.put {A B : Rows} {e : Bool} {L : List ZP} {p : ZP} {ls : List Ky} {r : List Mv} (h : RowJ A B e L p (· ∈ ls) r) {k : Ky} (hk : ∀ l ∈ ls, kLt l k = true) (hl : Live e (toZ A B p k)) {j : Nat} (hj : L[j]? = some (toZ A B p k)) (hr : r.length ≤ ls.length) (hls : ls.length < 62) :
    RowJ A B e L p (· ∈ ls ++ [k]) (r ++ [⟨k.1, k.2, j⟩]) where
  pw := by
    rw [List.pairwise_append]
    refine ⟨h.pw, List.pairwise_singleton _ _, fun a ha b hb => ?_⟩
    rw [List.mem_singleton.mp hb]
    have := hk _ (h.to a ha).1
    unfold kLt at this
    unfold mvLt
    exact this
  to := fun m hm => by
    rcases List.mem_append.mp hm with hm | hm
    · exact ⟨List.mem_append_left _ (h.to m hm).1, (h.to m hm).2⟩
    · rw [List.mem_singleton.mp hm]
      exact ⟨by simp, hl, hj⟩
  all := fun k' hk' z => by
    rcases List.mem_append.mp hk' with hk' | hk'
    · obtain ⟨m, hm, h1⟩ := h.all k' hk' z
      exact ⟨m, List.mem_append_left _ hm, h1⟩
    · rw [List.mem_singleton.mp hk']
      exact ⟨⟨k.1, k.2, j⟩, by simp, rfl, rfl⟩
  len := by rw [List.length_append, List.length_singleton]; omega
theorem row_step {A B : Rows} {e : Bool} {L : List ZP} {F : Rows} (h : JoinI A B e L F) {i : Nat} {p : ZP} (hp : L[i]? = some p) (hi : i < F.length) (k : Ky) :
    (∀ j, step1 F i k.1 k.2 = some j → Live e (toZ A B p k) ∧ L[j]? = some (toZ A B p k)) ∧ (step1 F i k.1 k.2 = none → ¬ Live e (toZ A B p k)) := by
  have rj := h.row i p _ hp (List.getElem?_eq_getElem hi)
  have er : rowS F i = F[i] := by
    unfold rowS
    rw [List.getD_eq_getElem?_getD, List.getElem?_eq_getElem hi]
    rfl
  refine ⟨fun j hj => ?_, fun hn hl => ?_⟩
  · change ((rowS F i).find? fun m => m.h == k.1 && m.c == k.2).map (·.t) = some j at hj
    rw [er, Option.map_eq_some_iff] at hj
    obtain ⟨m, hm, rfl⟩ := hj
    have h1 := List.find?_some hm
    simp only [Bool.and_eq_true, beq_iff_eq] at h1
    have h2 := rj.to m (List.mem_of_find?_eq_some hm)
    rw [show ((m.h, m.c) : Ky) = k from Prod.ext h1.1 h1.2] at h2
    exact h2.2
  · obtain ⟨m, hm, h1, h2⟩ := rj.all k trivial hl
    have : (step1 F i k.1 k.2).isSome = true := step1_some.mpr (by rw [er]; exact List.mem_map.mpr ⟨m, hm, Prod.ext h1 h2⟩)
    rw [hn] at this
    cases this
theorem JoinI.led {A B : Rows} {e : Bool} {L : List ZP} {F : Rows} (h : JoinI A B e L F) (done : F.length = L.length) (w : List Ky) :
    (∀ j, ledN F 0 w = some j → L[j]? = some (ledZ A w, ledZ B w)) ∧ (ledN F 0 w = none → ¬ Live e (ledZ A w, ledZ B w)) := by
  induction w using snoc_ind with
  | nil =>
    refine ⟨fun j hj => ?_, fun hn => by cases hn⟩
    cases hj
    exact h.zero
  | snoc w k ih =>
    have e1 : (ledZ A (w ++ [k]), ledZ B (w ++ [k])) = toZ A B (ledZ A w, ledZ B w) k := by rw [ledZ_snoc, ledZ_snoc]; rfl
    rw [e1, ledN_snoc]
    cases hw : ledN F 0 w with
    | some i =>
      have hp := ih.1 i hw
      have hi := (List.getElem?_eq_some_iff.mp hp).1
      obtain ⟨g1, g2⟩ := row_step h hp (by omega) k
      exact ⟨fun j hj => (g1 j hj).2, fun hn => g2 hn⟩
    | none =>
      refine ⟨fun j hj => (by cases hj), fun _ z => ih.2 hw ?_⟩
      have s1 : ∀ (A : Rows) (s : Int), stepZ A s k ≠ -1 → s ≠ -1 := fun A s h e => h (by unfold stepZ; rw [if_pos e])
      refine ⟨fun e2 => z.1 ?_, ?_⟩
      · have e3 : ledZ A w = -1 ∧ ledZ B w = -1 := ⟨congrArg Prod.fst e2, congrArg Prod.snd e2⟩
        unfold toZ
        rw [e3.1, e3.2]
        rfl
      · rcases z.2 with z | z
        · exact .inl z
        · exact .inr ⟨s1 _ _ z.1, s1 _ _ z.2⟩
/-- what the rules of both, or of either, are -/
structure JoinP (A B : Rows) (e : Bool) (J : Rows) : Prop where
  st : Steps J
  ks : ∀ r ∈ J, ∀ m ∈ r, (∃ s, (step1 A s m.h m.c).isSome = true) ∨ ∃ s, (step1 B s m.h m.c).isSome = true
  lang : ∀ w, (ledN J 0 w).isSome = if e then (ledN A 0 w).isSome || (ledN B 0 w).isSome else (ledN A 0 w).isSome && (ledN B 0 w).isSome
  len : J.length ≤ (A.length + 1) * (B.length + 1)
  rl : ∀ r ∈ J, r.length ≤ 62
theorem live_led {A B : Rows} {e : Bool} {w : List Ky} : Live e (ledZ A w, ledZ B w) ↔ (if e then (ledN A 0 w).isSome || (ledN B 0 w).isSome else (ledN A 0 w).isSome && (ledN B 0 w).isSome) = true := by
  have h1 := stI_some (ledN A 0 w)
  have h2 := stI_some (ledN B 0 w)
  unfold Live ledZ
  simp only [ne_eq, Prod.mk.injEq] at h1 h2 ⊢
  cases e
  · simp only [Bool.false_eq_true, if_false, Bool.and_eq_true, false_or]
    rw [← h1, ← h2]
    exact ⟨fun h => h.2, fun h => ⟨fun z => h.1 z.1, h⟩⟩
  · simp only [if_true, Bool.or_eq_true, true_or, and_true]
    rw [← h1, ← h2, Classical.not_and_iff_not_or_not]
theorem JoinI.done {A B : Rows} {e : Bool} {L : List ZP} {F : Rows} (h : JoinI A B e L F) (done : F.length = L.length) (n : (A.length + 1) * (B.length + 1) ≤ 999) : JoinP A B e F := by
  have fw := h.few
  have at_ : ∀ r ∈ F, ∃ (i : Nat) (p : ZP), L[i]? = some p ∧ RowJ A B e L p (fun _ => True) r := fun r hr => by
    obtain ⟨i, hi⟩ := List.mem_iff_getElem?.mp hr
    have hl := (List.getElem?_eq_some_iff.mp hi).1
    obtain ⟨p, hp⟩ : ∃ p, L[i]? = some p := ⟨_, List.getElem?_eq_getElem (by omega)⟩
    exact ⟨i, p, hp, h.row i p r hp hi⟩
  have l0 := (List.getElem?_eq_some_iff.mp h.zero).1
  refine ⟨⟨⟨by omega, fun r hr m hm => ?_⟩, by omega, fun r hr => ?_, fun r hr => ?_⟩, fun r hr m hm => ?_, fun w => ?_, by omega, fun r hr => ?_⟩
  · obtain ⟨i, p, hp, rj⟩ := at_ r hr
    have := (List.getElem?_eq_some_iff.mp (rj.to m hm).2.2).1
    omega
  · obtain ⟨i, p, hp, rj⟩ := at_ r hr
    exact rj.pw
  · obtain ⟨i, p, hp, rj⟩ := at_ r hr
    exact Nat.le_trans rj.len (by decide)
  · obtain ⟨i, p, hp, rj⟩ := at_ r hr
    have hl := (rj.to m hm).2.1
    have one : ∀ (A : Rows) (s : Int), stepZ A s (m.h, m.c) ≠ -1 → ∃ s, (step1 A s m.h m.c).isSome = true := fun A s z => by
      unfold stepZ at z
      split at z
      · exact absurd rfl z
      · exact ⟨_, (stI_some _).mp z⟩
    by_cases h1 : stepZ A p.1 (m.h, m.c) = -1
    · exact .inr (one B p.2 fun h2 => hl.1 (Prod.ext h1 h2))
    · exact .inl (one A p.1 h1)
  · obtain ⟨g1, g2⟩ := h.led done w
    rw [Bool.eq_iff_iff, ← live_led]
    cases hw : ledN F 0 w with
    | none => simp only [Option.isSome_none, Bool.false_eq_true, false_iff]; exact g2 hw
    | some j =>
      simp only [Option.isSome_some, true_iff]
      exact (h.rng _ (List.mem_of_getElem? (g1 j hw))).2.2
  · obtain ⟨i, p, hp, rj⟩ := at_ r hr
    exact rj.len
end Pace
namespace Pace
open PySem PySem.Spec PyProof.Rows L2 DL
theorem JoinP.val {hs ws : List Nat} {rs rs' : Rows} (v : RulV hs ws rs) (v' : RulV hs ws rs') {e : Bool} {J : Rows} (j : JoinP rs rs' e J) : RulV hs ws J := by
  have key : ∀ {A : Rows} (v : RulV hs ws A) {s h c : Nat}, (step1 A s h c).isSome = true → h ∈ hs ∧ c ∈ ws := fun {A} v {s h c} z => by
    obtain ⟨t, ht⟩ := Option.isSome_iff_exists.mp z
    have := (step1_iff v.steps).mp ht
    unfold rowS at this
    rw [List.getD_eq_getElem?_getD] at this
    cases er : A[s]? with
    | none => rw [er] at this; cases this
    | some r =>
      rw [er] at this
      have := mv_in v (List.mem_of_getElem? er) this
      exact ⟨this.1, this.2.1⟩
  refine ⟨v.lh, v.lw, v.sh, v.sw, j.st.cl.1, j.st.n, fun r hr => ⟨?_, j.st.l r hr⟩⟩
  unfold rowB
  rw [Bool.and_eq_true, List.all_eq_true]
  refine ⟨fun m hm => ?_, nbr_of_pair (j.st.pw r hr)⟩
  have hk : m.h ∈ hs ∧ m.c ∈ ws := by
    rcases j.ks r hr m hm with ⟨s, z⟩ | ⟨s, z⟩
    · exact key v z
    · exact key v' z
  unfold mvB
  rw [Bool.and_eq_true, Bool.and_eq_true, decide_eq_true_eq, decide_eq_true_eq, decide_eq_true_eq]
  exact ⟨hk, j.st.cl.2 r hr m hm⟩
end Pace
end
section
set_option Elab.async false
set_option linter.all false
set_option maxRecDepth 100000
set_option maxHeartbeats 4000000
namespace Pace
open PySem PySem.Spec PyProof.Rows L2 DL
/-- a class, longer -/
theorem class_app {rs : List (List Mv)} (tl : ∀ r ∈ rs, ∀ m ∈ r, m.t < rs.length) (a b : List Nat) : (classOf rs a).map (fun ss => run rs ss b) = classOf rs (a ++ b) := by
  unfold classOf
  rw [List.map_map]
  refine List.map_congr_left fun s _ => ?_
  exact (run_app a b).symm
end Pace
end
section
set_option Elab.async false
set_option linter.all false
set_option maxRecDepth 100000
set_option maxHeartbeats 4000000
namespace Pace
open PySem PySem.Spec PyProof.Rows L2 DL
section
variable {P : Program} {w : World} {K : PySem.W.Frag} {mg : Str → Option Value} {base : Heap} {C PT cT : Addr}
abbrev dk (n : Nat) : MO := .deck "left" "blend" "lap" n
def spDraw : SpD := fun ds G Q => ∃ (p : Addr) (n b : Nat), ds = [.rf p, .int (n : Int)] ∧ 1 ≤ n ∧ n ≤ 1000 ∧ G p = some (dk (b + 1)) ∧ ∀ r : Nat, r < n → Q (.int (r : Int)) (gput G p (dk b))
abbrev N__law_draw : List Str := ["_law_deck_here", "_law_many", "_law_cell", "_law_lap", "_law_blend"]
theorem sc__law_draw : FnScope N__law_draw ["_law_deck_here", "_law_many"] (defScope s__law_draw) := ⟨rfl, rfl, rfl, by decide +kernel, rfl, by decide +kernel, by decide +kernel⟩
theorem c__law_draw (T : Txt K mg C) (d : Def K mg "_law_draw" s__law_draw) : Cal P w K mg base "_law_draw" 1 ["_law_deck_here", "_law_many"] (spDraw) := by
  refine cal_mk (N := N__law_draw) d sc__law_draw (fun ds G Q h => ?_) (fun _ _ _ _ _ _ us hl => match us, hl with | [_, _], _ => rfl) (fun f cdv A outer s H E hg hr => ?_)
  · obtain ⟨p, n, b, rfl, _⟩ := h
    rfl
  · have hu := hu100 hr
    have nd := sc__law_draw.nd
    have hA := deeper_guards (env := envOfC "_law_draw" (defScope s__law_draw) s.heap.objs.size f cdv) hg
    refine ⟨_, (dps_out (dps_in (dps_cons (dp_if (dt_cmp (od_ne hu) (de_ix hu (de_var 0) de_str) (de_lst da_nil) (nomark _))
  (dps_cons (dp_asg (de_callTy cd_int rfl T.f_int (by decide +kernel) (da_cons (de_bm0 PySem.F.plainAttrs_list PySem.F.slot_list_pop PySem.F.type_list_pop md_pop (de_ix hu (de_var 0) de_str)) da_nil)) (dg_name 2 nd))
  (dps_cons (dp_if (dt_cmp (od_ge hu) (de_var 2) (de_var 1) (nomark _))
  (dps_one (dp_expr (de_bm PySem.F.plainAttrs_list PySem.F.slot_list_append PySem.F.type_list_append md_append (de_ix hu (de_var 0) de_str) (da_cons (de_op od_fdiv (de_var 2) (de_var 1)) da_nil))))
  dps_nil)
  (dps_one (dp_ret (de_op od_mod (de_var 2) (de_var 1))))))
  dps_nil)
  (dps_cons (dp_asg (de_op od_add (de_ix hu (de_var 0) de_str) de_int) (dg_name 3 nd))
  (dps_cons (dp_asg (de_var 3) (dg_sub hu (de_var 0) de_str))
  (dps_cons (dp_asg (de_op od_mod (de_callTy cd_int rfl T.f_int (by decide +kernel) (da_cons (de_op od_mul (de_callTy cd_int rfl T.f_int (by decide +kernel) (da_cons (de_op od_add (de_op od_add (de_ix hu (de_var 0) de_str) (de_op od_mul (de_op od_mul de_int (de_var 3)) (de_var 3))) de_int) da_nil)) de_int) da_nil)) de_int) (dg_name 4 nd))
  (dps_cons (dp_asg (de_op od_mod (de_callTy cd_int rfl T.f_int (by decide +kernel) (da_cons (de_op od_add (de_op od_mul (de_var 4) (de_var 4)) (de_op od_mul de_int (de_var 3))) da_nil)) de_int) (dg_name 4 nd))
  (dps_one (dp_ret (de_op od_mod (de_op od_fdiv (de_op od_mod (de_callTy cd_int rfl T.f_int (by decide +kernel) (da_cons (de_op od_mul (de_var 4) de_int) da_nil)) de_int) de_int) (de_var 1))))))))))), fun ds G Q h => ?_⟩
    obtain ⟨p, n, b, rfl, n1, n2, gp, q⟩ := h
    rw [show dstart N__law_draw [.rf p, .int (n : Int)] = [some (.rf p), some (.int (n : Int)), none, none, none] from rfl]
    simp only [dx2]
    refine ⟨Deck, _, _, deck_open gp, ?_⟩
    rintro x ⟨ok, gc, ne, nd0⟩
    have fin0 : ∀ (r : Int) (x' : Deck) (G' : GH), x'.c = x.c → G' = openG G p "left" "blend" "lap" x' → x'.ok b → 0 ≤ r → r < n → (outE (fin Q)).rt (.int r) G' := by
      rintro r x' G' e rfl ok' h0 h1
      refine ⟨_, deck_close gp (by rw [e]; exact gc) (by rw [e]; exact ne) nd0 ok', _, Sub.refl _, ?_⟩
      obtain ⟨k, rfl⟩ := Int.eq_ofNat_of_zero_le h0
      exact q k (by omega)
    obtain ⟨c, g, t, ns⟩ := x
    obtain ⟨o1, o2, o3, o4, o5⟩ := ok
    have hu1 : ∀ G0 o, gput G0 p o c = G0 c := fun _ _ => gput_ne ne
    unfold openG
    simp only at gc ne hu1 o1 o2 o3 o4 o5 ⊢
    have e1 : D.item (.dK [(.inr "left", .rf c), (.inr "blend", .int g), (.inr "lap", .int t)]) (.str "left") = some (.rf c) := rfl
    simp only [dxs, dl, e1, hu1]
    have e2 : D.item (.dK [(.inr "left", .rf c), (.inr "blend", .int g), (.inr "lap", .int t)]) (.str "lap") = some (.int t) := rfl
    have e3 : ∀ u : D, putD ([(.inr "left", .rf c), (.inr "blend", .int g), (.inr "lap", .int t)] : List (Key × D)) (.inr "lap") u = ([(.inr "left", .rf c), (.inr "blend", .int g), (.inr "lap", u)] : List (Key × D)) := fun u => rfl
    have e4 : ∀ u : D, D.item (.dK [(.inr "left", .rf c), (.inr "blend", .int g), (.inr "lap", u)]) (.str "blend") = some (.int g) := fun u => rfl
    have hc : G c = some .dcell := gc
    refine ⟨Nat.zero_le _, intL_ok ns, ?_⟩
    rw [intL_eqv]
    rcases List.eq_nil_or_concat ns with rfl | ⟨ns', a, rfl⟩
    · rw [if_neg (by simp)]
      simp only [e2, dx3, dxs, dl, D.key, e3, gput_gput]
      refine ⟨szl (by decide), ?_⟩
      simp only [e4, dx3, dxs, dl]
      refine ⟨.inl (by omega), .inr (by omega), .inr (by omega), by omega, .inl (by omega), .inl (by omega), by omega, .inr (by omega), by omega, ⟨by omega, by omega⟩, by omega, ?_⟩
      refine fin0 _ ⟨c, g, t + 1, []⟩ _ rfl ?_ ⟨by simp only; omega, by simp only; omega, o3, o4, by simp⟩ (Int.emod_nonneg _ (by omega)) (Int.emod_lt_of_pos _ (by omega))
      rfl
    · rw [List.concat_eq_append] at *
      rw [if_pos (by simp)]
      have o6 : ns'.length + 1 ≤ 63 := by simpa using o5
      refine ⟨rfl, ?_⟩
      simp only [rPopD, hu1, dl, pop_last, pop_rest, gput_under ne, dx3, dxs, okL_int, DL.lt_int, true_and, e1, beq_self_eq_true, rAppendD]
      by_cases han : a < (n : Int)
      · rw [if_neg (by simpa using han)]
        refine ⟨by omega, fin0 _ ⟨c, g, t, ns'⟩ _ rfl rfl ⟨o1, by simp only; omega, o3, o4, by simp only; omega⟩ (Int.emod_nonneg _ (by omega)) (Int.emod_lt_of_pos _ (by omega))⟩
      · rw [if_pos (by simpa using han)]
        refine ⟨⟨by omega, by omega⟩, szl (by simp; omega), by omega, fin0 _ ⟨c, g, t, ns' ++ [a / (n : Int)]⟩ _ rfl ?_ ⟨o1, by simp only; omega, o3, o4, by simp; omega⟩ (Int.emod_nonneg _ (by omega)) (Int.emod_lt_of_pos _ (by omega))⟩
        simp [openG]
end
end Pace
end
section
set_option Elab.async false
set_option linter.all false
set_option maxRecDepth 100000
set_option maxHeartbeats 4000000
namespace Pace
open PySem PySem.Spec PyProof.Rows L2 DL
section
variable {P : Program} {w : World} {K : PySem.W.Frag} {mg : Str → Option Value} {base : Heap} {C PT cT : Addr}
def Src (src : D) (xs : List D) : Prop := src = .lst xs ∨ ∃ cs : List Nat, src = .str (strOf cs) ∧ xs = cs.map fun c => .str (sgn c)
def spPick : SpD := fun ds G Q => ∃ (p : Addr) (b : Nat) (src : D) (xs : List D), ds = [.rf p, src] ∧ Src src xs ∧ 1 ≤ xs.length ∧ xs.length ≤ 1000 ∧ G p = some (dk (b + 1)) ∧ ∀ x ∈ xs, Q x (gput G p (dk b))
abbrev N__law_pick : List Str := ["_law_deck_here", "_law_some_here"]
theorem sc__law_pick : FnScope N__law_pick ["_law_deck_here", "_law_some_here"] (defScope s__law_pick) := ⟨rfl, rfl, rfl, by decide +kernel, rfl, by decide +kernel, by decide +kernel⟩
theorem c__law_pick (T : Txt K mg C) (d : Def K mg "_law_pick" s__law_pick) (C__law_draw : Cal P w K mg base "_law_draw" 1 ["_law_deck_here", "_law_many"] (spDraw)) : Cal P w K mg base "_law_pick" 2 ["_law_deck_here", "_law_some_here"] (spPick) := by
  refine cal_mk (N := N__law_pick) d sc__law_pick (fun ds G Q h => ?_) (fun _ _ _ _ _ _ us hl => match us, hl with | [_, _], _ => rfl) (fun f cdv A outer s H E hg hr => ?_)
  · obtain ⟨p, b, src, xs, rfl, _⟩ := h
    rfl
  · have hu := hu100 hr
    have nd := sc__law_pick.nd
    have hA := deeper_guards (env := envOfC "_law_pick" (defScope s__law_pick) s.heap.objs.size f cdv) hg
    refine ⟨_, (dps_one (dp_ret (de_ix hu (de_var 1) (de_cal C__law_draw hA (hr.mono (by decide)) (da_cons (de_var 0) (da_cons (de_callB cd_len rfl T.f_len (by decide +kernel) (da_cons (de_var 1) da_nil)) da_nil)))))), fun ds G Q h => ?_⟩
    obtain ⟨p, b, src, xs, rfl, hs, n1, n2, gp, q⟩ := h
    rcases hs with rfl | ⟨cs, rfl, rfl⟩
    · rw [show dstart N__law_pick [.rf p, .lst xs] = [some (.rf p), some (.lst xs)] from rfl]
      simp only [dxs, dl, dx3]
      refine ⟨p, xs.length, b, rfl, n1, n2, gp, fun r hr => ?_⟩
      obtain ⟨x, hx⟩ : ∃ x, xs[r]? = some x := ⟨_, List.getElem?_eq_getElem hr⟩
      simp only [dxs, dl, item_lst, atI_nat hx]
      exact ⟨_, Sub.refl _, q x (List.mem_of_getElem? hx)⟩
    · rw [show dstart N__law_pick [.rf p, .str (strOf cs)] = [some (.rf p), some (.str (strOf cs))] from rfl]
      have n1' : 1 ≤ cs.length := by simpa using n1
      have n2' : cs.length ≤ 1000 := by simpa using n2
      have hsz : (strOf cs).length ≤ sizeLine := by rw [strOf_len]; exact sz (by omega)
      simp only [dxs, dl, len_str hsz, strOf_len]
      refine ⟨p, cs.length, b, rfl, n1', n2', gp, fun r hr => ?_⟩
      obtain ⟨x, hx⟩ : ∃ x, cs[r]? = some x := ⟨_, List.getElem?_eq_getElem hr⟩
      have e : D.item (.str (strOf cs)) (.int (r : Int)) = some (.str (sgn x)) := by
        show (if (strOf cs).length ≤ sizeLine then _ else _) = _
        rw [if_pos hsz]
        have : atI (strOf cs).cps.toList (r : Int) = some x := atI_nat (by simpa [strOf] using hx)
        rw [this]
        rfl
      simp only [dxs, dl, e]
      exact ⟨_, Sub.refl _, q _ (List.mem_map.mpr ⟨x, List.mem_of_getElem? hx, rfl⟩)⟩
end
section
variable {P : Program} {w : World} {K : PySem.W.Frag} {mg : Str → Option Value} {base : Heap} {C PT cT : Addr}
def spDeck : SpD := fun ds G Q => ∃ ns : List Int, ds = [.scr ns] ∧ NoDeck G ∧ ∀ p c, G p = none → G c = none → c ≠ p → Q (.rf p) (shutG G p c "left" "blend" "lap" 1000000)
abbrev N__law_deck : List Str := ["_law_script", "_law_blend", "_law_cell"]
theorem sc__law_deck : FnScope N__law_deck ["_law_script"] (defScope s__law_deck) := ⟨rfl, rfl, rfl, by decide +kernel, rfl, by decide +kernel, by decide +kernel⟩
theorem c__law_deck (T : Txt K mg C) (d : Def K mg "_law_deck" s__law_deck) : Cal P w K mg base "_law_deck" 1 ["_law_script"] (spDeck) := by
  refine cal_mk (N := N__law_deck) d sc__law_deck (fun ds G Q h => ?_) (fun _ _ _ _ _ _ us hl => match us, hl with | [_], _ => rfl) (fun f cdv A outer s H E hg hr => ?_)
  · obtain ⟨ns, rfl, _⟩ := h
    rfl
  · have hu := hu100 hr
    have nd := sc__law_deck.nd
    have hA := deeper_guards (env := envOfC "_law_deck" (defScope s__law_deck) s.heap.objs.size f cdv) hg
    refine ⟨_, (dps_out (dps_cons (dp_asg de_int (dg_name 1 nd))
  (dps_cons (dp_for PassesOwn.never rfl (di_list (de_slice (de_var 0) do_none (do_some de_int))) (dg_name 2 nd)
  (dps_one (dp_asg (de_op od_mod (de_callTy cd_int rfl T.f_int (by decide +kernel) (da_cons (de_op od_add (de_op od_add (de_op od_mul (de_var 1) de_int) (de_op od_mod (de_callTy cd_int rfl T.f_int (by decide +kernel) (da_cons (de_var 2) da_nil)) de_int)) de_int) da_nil)) de_int) (dg_name 1 nd))))
  (dps_one (dp_ret (de_dispM (dpp_cons de_str (de_revLM (de_lc (own := [("_law_cell", 2)]) (p := (.nm 2)) rfl nd (di_list (de_slice (de_var 0) do_none (do_some de_int))) (blkOk_by (by show blkC N__law_deck (defScope s__law_deck) _ _ = true; decide +kernel)) (by decide) (fun _ _ _ _ _ => pg_name (i := 2) nd rfl (Or.inl rfl)) (fun _ _ _ _ _ => (dts_one (dt_cmp (od_ge hu) (de_var 2) (de_op od_pow de_int de_int) (nomark _)))) (fun _ _ _ _ _ => (de_var 2)))) (dpp_cons de_str (de_var 1) (dpp_cons de_str de_int dpp_nil))))))))), fun ds G Q h => ?_⟩
    obtain ⟨ns, rfl, nd0, q⟩ := h
    rw [show dstart N__law_deck [.scr ns] = [some (.scr ns), none, none] from rfl]
    have hcut : (DL.cutD ns none (some 63)).length ≤ 63 := by
      unfold DL.cutD
      rw [List.length_take]
      have : HT.sIx ns.length ns.length (some 63) = min 63 ns.length := HT.sIx_nat ns.length ns.length 63
      rw [this]
      omega
    generalize hcs : DL.cutD ns none (some 63) = cells at hcut
    simp only [dx2, dxs, dl, dx3, hcs]
    refine ⟨fun i S' G' => ∃ (b : Int) (x2 : Option D), S' = [some (.scr ns), some (.int b), x2] ∧ G' = G ∧ 0 ≤ b ∧ b < 2147483587, ⟨_, none, rfl, rfl, by omega, by omega⟩, fun _ _ _ _ => trivial, ?_, ?_⟩
    · rintro i S' G' dd ⟨b, x2, rfl, rfl, h1, h2⟩ hd
      rw [List.getElem?_map] at hd
      cases e : cells[i]? with
      | none => rw [e] at hd; cases hd
      | some v =>
        rw [e] at hd
        cases hd
        simp only [dxs, dl, dx3]
        refine ⟨.inl (by omega), by omega, by omega, _, _, rfl, trivial, Int.emod_nonneg _ (by omega), Int.emod_lt_of_pos _ (by omega)⟩
    · rintro S' G' ⟨b, x2, rfl, rfl, h1, h2⟩
      simp only [dxs, dl, dx3, hcs]
      refine lc_someA cells .int (fun v => !decide (v < 10 ^ 18)) .int rfl (sz (by omega)) trivial (fun v _ => ⟨_, rfl, fun Q z => ?_, fun _ Q z => ?_⟩) ?_
      · simp only [dxs, dl, dwipe, List.map_cons, List.map_nil, okL_int, DL.lt_int, true_and]
        exact ⟨⟨by omega, by omega, by decide⟩, z⟩
      · simp only [dxs, dl, dwipe, List.map_cons, List.map_nil]
        exact z
      · simp only [dxs, dl]
        intro c hc
        refine ⟨by show (3 : Nat) ≤ 15; decide, fun p hp => ?_⟩
        have hcp : c ≠ p := fun z => by rw [← z, gput_same] at hp; cases hp
        have hp' : G' p = none := by rw [gput_ne (fun z => hcp z.symm)] at hp; exact hp
        have hl := List.length_filter_le (fun v => !decide (v < (10 : Int) ^ 18)) cells
        generalize hv : cells.filter (fun v => !decide (v < (10 : Int) ^ 18)) = vs at hl ⊢
        have ndG : NoDeck (openG G' p "left" "blend" "lap" ⟨c, b, 0, vs.reverse⟩) := open_nodeck fun a _ => nd0 a
        refine ⟨_, deck_shut (x := ⟨c, b, 0, vs.reverse⟩) (n := 1000000) (k1 := "left") (k2 := "blend") (k3 := "lap") (p := p) ?_ ?_ ?_ ⟨by simp only; omega, by simp only; omega, h1, by simp only; omega, by simp; omega⟩, _, Sub.refl _, ?_⟩
        · have e : openG G' p "left" "blend" "lap" ⟨c, b, 0, vs.reverse⟩ = gput (gput G' c (.lst (vs.map D.int).reverse)) p (.dK [(.inr "left", .rf c), (.inr "blend", .int b), (.inr "lap", .int 0)]) := by
            unfold openG
            rw [List.map_reverse]
          rw [e] at ndG
          exact ndG
        · exact gput_same
        · rw [gput_ne hcp, gput_same, List.map_reverse]
        · have e : ∀ o1 o2, shutG (gput (gput G' c o1) p o2) p c "left" "blend" "lap" 1000000 = shutG G' p c "left" "blend" "lap" 1000000 := fun o1 o2 => by
            funext a
            unfold shutG
            by_cases z1 : a = p
            · subst z1; rw [gput_same, gput_same]
            · rw [gput_ne z1, gput_ne z1]
              by_cases z2 : a = c
              · subst z2; rw [gput_same, gput_same]
              · rw [gput_ne z2, gput_ne z2, gput_ne z1, gput_ne z2]
          show Q _ (shutG (gput (gput G' c _) p _) p c _ _ _ _)
          rw [e]
          exact q p c hp' hc hcp
end
end Pace
end
section
set_option Elab.async false
set_option linter.all false
set_option maxRecDepth 100000
set_option maxHeartbeats 4000000
namespace Pace
open PySem PySem.Spec PyProof.Rows L2 DL
section
variable {P : Program} {w : World} {K : PySem.W.Frag} {mg : Str → Option Value} {base : Heap} {C PT cT : Addr}
def spKnown : SpD := fun ds G Q => ∃ (p : Addr) (b : Nat), ds = [.rf p] ∧ G p = some (dk (b + 1)) ∧ ∀ k ∈ knownT, Q (wD k.1 [97, 98] k.2) (gput G p (dk b))
abbrev N__law_known : List Str := ["_law_deck_here", "_law_top", "_law_late", "_law_vow", "_law_turn", "_law_far", "_law_way"]
theorem sc__law_known : FnScope N__law_known ["_law_deck_here"] (defScope s__law_known) := ⟨rfl, rfl, rfl, by decide +kernel, rfl, by decide +kernel, by decide +kernel⟩
theorem c__law_known (T : Txt K mg C) (d : Def K mg "_law_known" s__law_known) (C__law_draw : Cal P w K mg base "_law_draw" 1 ["_law_deck_here", "_law_many"] (spDraw)) : Cal P w K mg base "_law_known" 2 ["_law_deck_here"] (spKnown) := by
  refine cal_mk (N := N__law_known) d sc__law_known (fun ds G Q h => ?_) (fun _ _ _ _ _ _ us hl => match us, hl with | [_], _ => rfl) (fun f cdv A outer s H E hg hr => ?_)
  · obtain ⟨p, b, rfl, _⟩ := h
    rfl
  · have hu := hu100 hr
    have nd := sc__law_known.nd
    have hA := deeper_guards (env := envOfC "_law_known" (defScope s__law_known) s.heap.objs.size f cdv) hg
    refine ⟨_, (dps_cons (dp_asg (de_tup (da_cons (de_tup (da_cons de_str (da_cons de_str (da_cons de_int da_nil)))) (da_cons (de_tup (da_cons de_str (da_cons de_str (da_cons de_int da_nil)))) (da_cons (de_tup (da_cons de_str (da_cons de_str (da_cons de_int da_nil)))) (da_cons (de_tup (da_cons de_str (da_cons de_str (da_cons de_int da_nil)))) da_nil))))) (dg_name 1 nd))
  (dps_cons (dp_asg (de_tup (da_cons (de_var 1) (da_cons (de_tup (da_cons (de_tup (da_cons de_str (da_cons de_str (da_cons de_int da_nil)))) (da_cons (de_tup (da_cons de_str (da_cons de_str (da_cons de_int da_nil)))) da_nil))) (da_cons (de_tup (da_cons (de_tup (da_cons de_str (da_cons de_str (da_cons de_int da_nil)))) (da_cons (de_tup (da_cons de_str (da_cons de_str (da_cons de_int da_nil)))) da_nil))) da_nil)))) (dg_name 2 nd))
  (dps_cons (dp_asg (de_tup (da_cons (de_var 1) (da_cons (de_tup (da_cons (de_tup (da_cons de_str (da_cons de_str (da_cons de_int da_nil)))) da_nil)) (da_cons (de_tup (da_cons (de_tup (da_cons de_str (da_cons de_str (da_cons de_int da_nil)))) (da_cons (de_tup (da_cons de_str (da_cons de_str (da_cons de_int da_nil)))) da_nil))) da_nil)))) (dg_name 3 nd))
  (dps_cons (dp_asg (de_tup (da_cons (de_var 1) (da_cons (de_tup (da_cons (de_tup (da_cons de_str (da_cons de_str (da_cons de_int da_nil)))) (da_cons (de_tup (da_cons de_str (da_cons de_str (da_cons de_int da_nil)))) da_nil))) (da_cons (de_tup (da_cons (de_tup (da_cons de_str (da_cons de_str (da_cons de_int da_nil)))) (da_cons (de_tup (da_cons de_str (da_cons de_str (da_cons de_int da_nil)))) da_nil))) da_nil)))) (dg_name 4 nd))
  (dps_cons (dp_asg (de_tup (da_cons (de_op od_add (de_var 1) (de_tup (da_cons (de_tup (da_cons de_str (da_cons de_str (da_cons de_int da_nil)))) (da_cons (de_tup (da_cons de_str (da_cons de_str (da_cons de_int da_nil)))) da_nil)))) (da_cons (de_tup (da_cons (de_tup (da_cons de_str (da_cons de_str (da_cons de_int da_nil)))) (da_cons (de_tup (da_cons de_str (da_cons de_str (da_cons de_int da_nil)))) da_nil))) (da_cons (de_tup (da_cons (de_tup (da_cons de_str (da_cons de_str (da_cons de_int da_nil)))) (da_cons (de_tup (da_cons de_str (da_cons de_str (da_cons de_int da_nil)))) da_nil))) da_nil)))) (dg_name 5 nd))
  (dps_cons (dp_asg (de_op od_add (de_var 5) (de_tup (da_cons (de_tup (da_cons (de_tup (da_cons de_str (da_cons de_str (da_cons de_int da_nil)))) (da_cons (de_tup (da_cons de_str (da_cons de_str (da_cons de_int da_nil)))) (da_cons (de_tup (da_cons de_str (da_cons de_str (da_cons de_int da_nil)))) da_nil)))) da_nil))) (dg_name 5 nd))
  (dps_cons (dp_asg (de_cal C__law_draw hA (hr.mono (by decide)) (da_cons (de_var 0) (da_cons de_int da_nil))) (dg_name 6 nd))
  (dps_one (dp_ret (de_disp (dpp_cons de_str (de_ix hu (de_lst (da_cons de_str (da_cons de_str (da_cons de_str (da_cons de_str da_nil))))) (de_var 6)) (dpp_cons de_str de_str (dpp_cons de_str (de_ix hu (de_lst (da_cons (de_var 2) (da_cons (de_var 3) (da_cons (de_var 4) (da_cons (de_var 5) da_nil))))) (de_var 6)) dpp_nil))))))))))))), fun ds G Q h => ?_⟩
    obtain ⟨p, b, rfl, gp, q⟩ := h
    rw [show dstart N__law_known [.rf p] = [some (.rf p), none, none, none, none, none, none] from rfl]
    simp only [dxs, dl, dx3, sizeLine_eq, Nat.reduceAdd, Nat.reduceLeDiff, true_and, List.cons_append, List.nil_append, s_a, s_b, s_x, s_ab, s_abx]
    refine ⟨p, 4, b, rfl, by decide, by decide, gp, fun r hr => ?_⟩
    match r, hr with
    | 0, _ => exact ⟨by decide, _, Sub.refl _, q ([97, 98], kLate) (by simp [knownT])⟩
    | 1, _ => exact ⟨by decide, _, Sub.refl _, q ([97, 98], kVow) (by simp [knownT])⟩
    | 2, _ => exact ⟨by decide, _, Sub.refl _, q ([97, 98], kTurn) (by simp [knownT])⟩
    | 3, _ => exact ⟨by decide, _, Sub.refl _, q ([97, 98, 120], kFar) (by simp [knownT])⟩
end
end Pace
end
section
set_option Elab.async false
set_option linter.all false
set_option maxRecDepth 100000
set_option maxHeartbeats 4000000
namespace Pace
open PySem PySem.Spec PyProof.Rows L2 DL
section
variable {P : Program} {w : World} {K : PySem.W.Frag} {mg : Str → Option Value} {base : Heap} {C PT cT : Addr}
def spLMoves : SpD := fun ds G Q => ∃ (hs ws : List Nat) (rs : List (List Mv)) (s c : Nat) (r : List Mv), ds = [wD hs ws rs, .int (s : Int), .str (sgn c)] ∧ rs[s]? = some r ∧ r.length ≤ 1000 ∧ Q (.lst ((r.filter fun m => m.h == c).map ctD)) G
abbrev N__law_moves : List Str := ["_law_w", "_law_state", "_law_letter", "_law_h", "_law_c", "_law_t"]
theorem sc__law_moves : FnScope N__law_moves ["_law_w", "_law_state", "_law_letter"] (defScope s__law_moves) := ⟨rfl, rfl, rfl, by decide +kernel, rfl, by decide +kernel, by decide +kernel⟩
theorem c__law_moves (T : Txt K mg C) (d : Def K mg "_law_moves" s__law_moves) : Cal P w K mg base "_law_moves" 1 ["_law_w", "_law_state", "_law_letter"] (spLMoves) := by
  refine cal_mk (N := N__law_moves) d sc__law_moves (fun ds G Q h => ?_) (fun _ _ _ _ _ _ us hl => match us, hl with | [_, _, _], _ => rfl) (fun f cdv A outer s H E hg hr => ?_)
  · obtain ⟨hs, ws, rs, s, c, r, rfl, _⟩ := h
    rfl
  · have hu := hu100 hr
    have nd := sc__law_moves.nd
    have hA := deeper_guards (env := envOfC "_law_moves" (defScope s__law_moves) s.heap.objs.size f cdv) hg
    refine ⟨_, (dps_one (dp_ret (de_lc (own := [("_law_h", 3), ("_law_c", 4), ("_law_t", 5)]) (p := (.tp [3, 4, 5])) rfl nd (di_tup (de_ix hu (de_ix hu (de_var 0) de_str) (de_var 1))) (blkOk_by (by show blkC N__law_moves (defScope s__law_moves) _ _ = true; decide +kernel)) (by decide) (fun _ _ _ _ _ => pg_tup rfl (pgs_cons (pg_name (i := 3) nd rfl (Or.inl rfl)) (pgs_cons (pg_name (i := 4) nd rfl (Or.inl rfl)) (pgs_cons (pg_name (i := 5) nd rfl (Or.inl rfl)) pgs_nil)))) (fun _ _ _ _ _ => (dts_one (dt_cmp (od_eq hu) (de_var 3) (de_var 2) (nomark _)))) (fun _ _ _ _ _ => (de_tup (da_cons (de_var 4) (da_cons (de_var 5) da_nil))))))), fun ds G Q h => ?_⟩
    obtain ⟨hs, ws, rs, s0, c, r, rfl, hr0, hl, q⟩ := h
    rw [show dstart N__law_moves [wD hs ws rs, .int (s0 : Int), .str (sgn c)] = [some (wD hs ws rs), some (.int (s0 : Int)), some (.str (sgn c)), none, none, none] from rfl]
    simp only [dxs, dl, wD_cur, wD_rows, rowsD_cur, rowsD_at hr0, rowD]
    refine lc_someA r Mv.d (fun m => m.h == c) ctD rfl (sz (by omega)) trivial (fun m _ => ⟨_, rfl, fun Q z => ?_, fun _ Q z => ?_⟩) ⟨_, Sub.refl _, q⟩
    · simp only [dxs, dl, dwipe, List.map_cons, List.map_nil, Mv.d, okE_str, eqv_str, sgn_beq, true_and]
      exact z
    · simp only [dxs, dl, dwipe, List.map_cons, List.map_nil, Mv.d]
      exact ⟨sz (by simp), z⟩
end
section
variable {P : Program} {w : World} {K : PySem.W.Frag} {mg : Str → Option Value} {base : Heap} {C PT cT : Addr}
def spOn : SpD := fun ds G Q => ∃ (hs ws : List Nat) (rs : List (List Mv)) (ss cs : List Nat), ds = [wD hs ws rs, .lst (natsD ss), .str (strOf cs)] ∧ Few rs ∧ (∀ r ∈ rs, r.length ≤ 1000 ∧ ∀ m ∈ r, m.t < rs.length) ∧ ss.Nodup ∧ (∀ s ∈ ss, s < rs.length) ∧ Q (.lst (natsD (run rs ss cs))) G
abbrev N__law_on : List Str := ["_law_w", "_law_spots", "_law_page", "_law_letter", "_law_fresh", "_law_state", "_law_c", "_law_t"]
theorem sc__law_on : FnScope N__law_on ["_law_w", "_law_spots", "_law_page"] (defScope s__law_on) := ⟨rfl, rfl, rfl, by decide +kernel, rfl, by decide +kernel, by decide +kernel⟩
theorem c__law_on (T : Txt K mg C) (d : Def K mg "_law_on" s__law_on) (C__law_moves : Cal P w K mg base "_law_moves" 1 ["_law_w", "_law_state", "_law_letter"] (spLMoves)) : Cal P w K mg base "_law_on" 2 ["_law_w", "_law_spots", "_law_page"] (spOn) := by
  refine cal_mk (N := N__law_on) d sc__law_on (fun ds G Q h => ?_) (fun _ _ _ _ _ _ us hl => match us, hl with | [_, _, _], _ => rfl) (fun f cdv A outer s H E hg hr => ?_)
  · obtain ⟨hs, ws, rs, ss, cs, rfl, _⟩ := h
    rfl
  · have hu := hu100 hr
    have nd := sc__law_on.nd
    have hA := deeper_guards (env := envOfC "_law_on" (defScope s__law_on) s.heap.objs.size f cdv) hg
    refine ⟨_, (dps_cons (dp_for PassesOwn.never rfl (di_str (de_var 2)) (dg_name 3 nd)
  (dps_cons (dp_asg (de_lstM da_nil) (dg_name 4 nd))
  (dps_cons (dp_for PassesOwn.never rfl (di_list (de_var 1)) (dg_name 5 nd)
  (dps_one (dp_expr (de_bm PySem.F.plainAttrs_list PySem.F.slot_list_extend PySem.F.type_list_extend md_extend (de_var 4) (da_cons (de_lc (own := [("_law_c", 6), ("_law_t", 7)]) (p := (.tp [6, 7])) rfl nd (di_list (de_cal C__law_moves hA (hr.mono (by decide)) (da_cons (de_var 0) (da_cons (de_var 5) (da_cons (de_var 3) da_nil))))) (blkOk_by (by show blkC N__law_on (defScope s__law_on) _ _ = true; decide +kernel)) (by decide) (fun _ _ _ _ _ => pg_tup rfl (pgs_cons (pg_name (i := 6) nd rfl (Or.inl rfl)) (pgs_cons (pg_name (i := 7) nd rfl (Or.inl rfl)) pgs_nil))) (fun _ _ _ _ _ => dts_nil) (fun _ _ _ _ _ => (de_var 7))) da_nil)))))
  (dps_one (dp_asg (de_sortSet rfl rfl T.f_sorted rfl T.f_set (de_var 4)) (dg_name 1 nd))))))
  (dps_one (dp_ret (de_var 1)))), fun ds G Q h => ?_⟩
    obtain ⟨hs, ws, rs, ss, cs, rfl, few, at_, nd0, hlt, q⟩ := h
    rw [show dstart N__law_on [wD hs ws rs, .lst (natsD ss), .str (strOf cs)] = [some (wD hs ws rs), some (.lst (natsD ss)), some (.str (strOf cs)), none, none, none, none, none] from rfl]
    simp only [dxs, dl]
    refine ⟨fun i S' G' => ∃ x3 x4 x5 x6 x7, S' = [some (wD hs ws rs), some (.lst (natsD (run rs ss (cs.take i)))), some (.str (strOf cs)), x3, x4, x5, x6, x7] ∧ Sub G G', ⟨none, none, none, none, none, rfl, Sub.refl _⟩, fun _ _ _ _ => trivial, ?_, ?_⟩
    · rintro i S' G' dd ⟨x3, x4, x5, x6, x7, rfl, sb⟩ hd
      obtain ⟨c, hc, rfl⟩ := signs_get hd
      simp only [dxs, dl]
      have hlt2 : ∀ k ∈ run rs ss (cs.take i), k < rs.length := run_lt (fun r hr => (at_ r hr).2) hlt
      have nd2 : (run rs ss (cs.take i)).Nodup := run_nodup nd0
      have e : cs.take (i + 1) = cs.take i ++ [c] := by rw [List.take_add_one, hc]; rfl
      rw [e, run_snoc]
      generalize run rs ss (cs.take i) = ts at hlt2 nd2 ⊢
      have h64 := few.len nd2 hlt2 c
      refine ⟨Nat.zero_le _, fun p hp => ?_⟩
      refine ⟨fun j S' G2 => ∃ x5 x6 x7, S' = [some (wD hs ws rs), some (.lst (natsD ts)), some (.str (strOf cs)), some (.str (sgn c)), some (.rf p), x5, x6, x7] ∧
        G2 = gput G' p (.lst (natsD ((ts.take j).flatMap fun s => hits rs s c))), ⟨_, _, _, rfl, rfl⟩, fun _ _ _ _ => trivial, ?_, ?_⟩
      · rintro j S' G2 dd ⟨x5, x6, x7, rfl, rfl⟩ hd
        obtain ⟨s1, hs1, rfl⟩ := natsD_get hd
        obtain ⟨r, hrr⟩ : ∃ r, rs[s1]? = some r := ⟨_, List.getElem?_eq_getElem (hlt2 s1 (List.mem_of_getElem? hs1))⟩
        have hl := (at_ r (List.mem_of_getElem? hrr)).1
        simp only [dxs, dl, beq_self_eq_true, true_and]
        refine ⟨hs, ws, rs, s1, c, r, rfl, hrr, hl, ?_⟩
        have hf : (r.filter fun m => m.h == c).length ≤ 1000 := Nat.le_trans (List.length_filter_le _ _) hl
        have e4 : hits rs s1 c = (r.filter fun m => m.h == c).map (·.t) := by unfold hits; simp [List.getD, hrr]
        refine lc_mapA (r.filter fun m => m.h == c) ctD (fun m => .int (m.t : Int)) rfl (sz (by omega)) trivial (fun m _ => ⟨_, rfl, fun Q z => ?_⟩) ?_
        · simp only [dxs, dl, dwipe, List.map_cons, List.map_nil, ctD]
          exact z
        · have e3 : ts.take (j + 1) = ts.take j ++ [s1] := by rw [List.take_add_one, hs1]; rfl
          have e5 : (r.filter fun m => m.h == c).map (fun m => D.int (m.t : Int)) = natsD (hits rs s1 c) := by rw [e4]; simp [natsD]
          rw [e5]
          have hb := few.len (ss := ts.take (j + 1)) (nd2.sublist (List.take_sublist _ _)) (fun s hs => hlt2 s (List.mem_of_mem_take hs)) c
          rw [e3, List.flatMap_append, List.length_append] at hb
          simp only [List.flatMap_cons, List.flatMap_nil, List.append_nil] at hb
          simp only [rExtendD, dxs, dl, gput_gput]
          refine ⟨sz (by rw [natsD_len, natsD_len]; omega), some (.int (s1 : Int)), x6, x7, rfl, ?_⟩
          rw [e3, natsD_app, List.flatMap_append]
          simp
      · rintro S' G2 ⟨x5, x6, x7, rfl, rfl⟩
        have hl : (natsD ts).length = ts.length := by simp [natsD]
        rw [hl, List.take_length]
        simp only [dxs, dl, dx2, intsD_nats, isort1_nat, List.length_map]
        refine ⟨h64, _, _, _, _, _, rfl, sb.trans (sub_new hp rfl)⟩
    · rintro S' G' ⟨x3, x4, x5, x6, x7, rfl, sb⟩
      simp only [dxs, dl]
      refine ⟨G, sb, ?_⟩
      rw [signs_len, List.take_length]
      exact q
end
end Pace
end
section
set_option Elab.async false
set_option linter.all false
set_option maxRecDepth 100000
set_option maxHeartbeats 4000000
namespace Pace
open PySem PySem.Spec PyProof.Rows L2 DL
section
variable {P : Program} {w : World} {K : PySem.W.Frag} {mg : Str → Option Value} {base : Heap} {C PT cT : Addr}
def spLMute : SpD := fun ds G Q => ∃ (hs ws : List Nat) (rs : List (List Mv)), ds = [wD hs ws rs] ∧ Few rs ∧ (∀ r ∈ rs, r.length ≤ 1000 ∧ ∀ m ∈ r, m.t < rs.length) ∧ 0 < rs.length ∧ rs.length ≤ 10 ∧ Q (pageD (muteOf rs hs)) G
abbrev N__law_mute : List Str := ["_law_w", "_law_order", "_law_seen", "_law_at", "_law_letter", "_law_spots", "_law_page"]
theorem sc__law_mute : FnScope N__law_mute ["_law_w"] (defScope s__law_mute) := ⟨rfl, rfl, rfl, by decide +kernel, rfl, by decide +kernel, by decide +kernel⟩
theorem c__law_mute (T : Txt K mg C) (d : Def K mg "_law_mute" s__law_mute) (C__law_on : Cal P w K mg base "_law_on" 2 ["_law_w", "_law_spots", "_law_page"] (spOn)) : Cal P w K mg base "_law_mute" 3 ["_law_w"] (spLMute) := by
  refine cal_mk (N := N__law_mute) d sc__law_mute (fun ds G Q h => ?_) (fun _ _ _ _ _ _ us hl => match us, hl with | [_], _ => rfl) (fun f cdv A outer s H E hg hr => ?_)
  · obtain ⟨hs, ws, rs, rfl, _⟩ := h
    rfl
  · have hu := hu100 hr
    have nd := sc__law_mute.nd
    have hA := deeper_guards (env := envOfC "_law_mute" (defScope s__law_mute) s.heap.objs.size f cdv) hg
    refine ⟨_, (dps_cons (dp_par3 (i := 1) (j := 2) (l := 3) rfl nd (ha := (da_cons (de_lstM (da_cons (de_tup (da_cons (de_lst (da_cons de_int da_nil)) (da_cons de_str da_nil))) da_nil)) (da_cons (de_dispT hu (de_tup (da_cons de_int da_nil)) de_bl) (da_cons de_int da_nil)))))
  (dps_cons (dp_while PassesOwn.never (dt_cmp (od_lt hu) (de_var 3) (de_callB cd_len rfl T.f_len (by decide +kernel) (da_cons (de_var 1) da_nil)) (nomark _))
  (dps_cons (dp_for PassesOwn.never rfl (di_str (de_ix hu (de_var 0) de_str)) (dg_name 4 nd)
  (dps_cons (dp_par (i := 5) (j := 6) rfl nd (ha := (da_cons (de_cal C__law_on hA (hr.mono (by decide)) (da_cons (de_var 0) (da_cons (de_ix hu (de_ix hu (de_var 1) (de_var 3)) de_int) (da_cons (de_var 4) da_nil)))) (da_cons (de_op od_add (de_ix hu (de_ix hu (de_var 1) (de_var 3)) de_int) (de_var 4)) da_nil))))
  (dps_cons (dp_if (dt_cmp (od_eq hu) (de_var 5) (de_lst da_nil) (nomark _))
  (dps_one (dp_ret (de_var 6)))
  dps_nil)
  (dps_one (dp_if (dt_cmp (od_notIn hu) (de_callTy cd_tuple rfl T.f_tuple (by decide +kernel) (da_cons (de_var 5) da_nil)) (de_var 2) (by rfl))
  (dps_cons (dp_asg de_bl (dg_sub hu (de_var 2) (de_callTy cd_tuple rfl T.f_tuple (by decide +kernel) (da_cons (de_var 5) da_nil))))
  (dps_one (dp_expr (de_bm PySem.F.plainAttrs_list PySem.F.slot_list_append PySem.F.type_list_append md_append (de_var 1) (da_cons (de_tup (da_cons (de_var 5) (da_cons (de_var 6) da_nil))) da_nil)))))
  dps_nil)))))
  (dps_one (dp_asg (de_op od_add (de_var 3) de_int) (dg_name 3 nd)))))
  (dps_one (dp_ret de_non)))), fun ds G Q h => ?_⟩
    obtain ⟨hs, ws, rs, rfl, few, at0, h0, h10, q⟩ := h
    have tl : ∀ r ∈ rs, ∀ m ∈ r, m.t < rs.length := fun r hr => (at0 r hr).2
    have hB : 2 ^ rs.length ≤ 1024 := Nat.pow_le_pow_right (by decide) h10
    rw [show dstart N__law_mute [wD hs ws rs] = [some (wD hs ws rs), none, none, none, none, none, none] from rfl]
    simp only [dxs, dl, dx2, D.keys, D.key]
    refine ⟨sz (by simp), sz (by simp), sz (by simp), fun p hp => ⟨sz (by simp), fun z hz => ?_⟩⟩
    have hzp : z ≠ p := fun e => by rw [e, gput_same] at hz; cases hz
    have hpz : p ≠ z := fun e => hzp e.symm
    have hz' : G z = none := by rw [gput_ne hzp] at hz; exact hz
    have np : ∀ G0 o, gput G0 z o p = G0 p := fun _ _ => gput_ne hpz
    refine ⟨fun m S' G' => ∃ (at_ : Nat) (ord : Ord) (x4 x5 x6 : Option D), m = 2 ^ rs.length - at_ ∧ S' = [some (wD hs ws rs), some (.rf p), some (.rf z), some (.int (at_ : Int)), x4, x5, x6] ∧
      G' = gput (gput G p (.lst (ordLw ord))) z (.dT (ordTw ord)) ∧ OrdOk rs hs ord ∧ bfs rs hs (2 ^ rs.length - at_) at_ ord = muteOf rs hs,
      ⟨_, 0, [([0], [])], none, none, none, rfl, rfl, rfl, .start h0, rfl⟩, ?_⟩
    rintro m S' G' ⟨at_, ord, x4, x5, x6, rfl, rfl, rfl, oo, hb⟩
    have ol := oo.len
    simp only [dxs, dl, np, rLenD, D.len, okL_int, DL.lt_int, true_and, ordLw_len]
    by_cases hat : at_ < ord.length
    · rw [if_pos (by simpa using hat)]
      obtain ⟨here, hhere⟩ : ∃ x, ord[at_]? = some x := ⟨_, List.getElem?_eq_getElem hat⟩
      obtain ⟨f, hf⟩ : ∃ f, 2 ^ rs.length - at_ = f + 1 := ⟨2 ^ rs.length - at_ - 1, by omega⟩
      rw [hf] at hb
      unfold bfs at hb
      rw [hhere] at hb
      simp only at hb
      simp only [dxs, dl, wD_cur, wD_heard]
      refine ⟨fun j S' G' => ∃ (ord' : Ord) (x4 x5 x6 : Option D), S' = [some (wD hs ws rs), some (.rf p), some (.rf z), some (.int (at_ : Int)), x4, x5, x6] ∧
        G' = gput (gput G p (.lst (ordLw ord'))) z (.dT (ordTw ord')) ∧ OrdOk rs hs ord' ∧ ord'[at_]? = some here ∧ stepL rs here ord hs = stepL rs here ord' (hs.drop j),
        ⟨ord, x4, x5, x6, rfl, rfl, oo, hhere, by simp⟩, fun _ _ _ _ => trivial, ?_, ?_⟩
      · rintro j S' G' dd ⟨ord', x4, x5, x6, rfl, rfl, oo', hh', hst⟩ hd
        obtain ⟨c, hc, rfl⟩ := signs_get hd
        have hch : c ∈ hs := List.mem_of_getElem? hc
        have hdr : hs.drop j = c :: hs.drop (j + 1) := by
          obtain ⟨h1, h2⟩ := List.getElem?_eq_some_iff.mp hc
          rw [List.drop_eq_getElem_cons h1, h2]
        rw [hdr, stepL_cons] at hst
        have ol' := oo'.len
        have hl2 := oo'.ln at_ here hh'
        have hst' := oo'.st here (List.mem_of_getElem? hh')
        simp only [dxs, dl, np, item_lst, ordLw_at hh', pr0, pr1]
        refine ⟨hs, ws, rs, here.1, [c], rfl, few, at0, hst'.1.imp (fun h => by omega), hst'.2, ?_⟩
        have e1 : run rs here.1 [c] = behind rs here.1 c := rfl
        simp only [dxs, dl, np, item_lst, ordLw_at hh', pr0, pr1, dx3, strOf_sgn, e1, natsD_okEL0, natsD_eqvL0, Nat.zero_le, true_and]
        refine ⟨by rw [strOf_len]; exact sz (by simp [sgn, Str.length]; omega), ?_⟩
        by_cases hbe : behind rs here.1 c = []
        · rw [if_pos (by simpa using hbe)]
          rw [if_pos hbe] at hst
          rw [hst] at hb
          refine ⟨G, sub_new2 hp hz' hzp rfl rfl, ?_⟩
          rw [← hb] at q
          exact q
        · rw [if_neg (by simpa using hbe)]
          rw [if_neg hbe] at hst
          simp only [dxs, dl, dx3, inn_dT, natsD_keys, Option.map_some, ordTw_is oo'.nd]
          by_cases hin : behind rs here.1 c ∈ ord'.map (·.1)
          · rw [if_pos hin] at hst
            rw [if_neg (by simp [hin])]
            exact ⟨ord', _, _, _, rfl, rfl, oo', hh', hst⟩
          · rw [if_neg hin] at hst
            rw [if_pos (by simp [hin])]
            simp only [dxs, dl, dx3, natsD_keys, ordTw_put (p := here.2 ++ [c]) hin, gput_gput, np, rAppendD, gput_under hpz, ordLw_len, ordTw_len, beq_self_eq_true, true_and]
            refine ⟨szl (by omega), sz (by simp), szl (by omega), ord' ++ [(behind rs here.1 c, here.2 ++ [c])], _, _, _, rfl, ?_, oo'.add tl hh' hch hbe hin, ?_, hst⟩
            · rw [← ordLw_put]
            · rw [List.getElem?_append_left (List.getElem?_eq_some_iff.mp hh').1]; exact hh'
      · rintro S' G' ⟨ord', x4, x5, x6, rfl, rfl, oo', hh', hst⟩
        rw [signs_len, List.drop_length, stepL_nil] at hst
        rw [hst] at hb
        simp only [dxs, dl, dx3]
        refine ⟨2 ^ rs.length - (at_ + 1), by omega, at_ + 1, ord', x4, x5, x6, rfl, ?_, rfl, oo', ?_⟩
        · simp
        · have : 2 ^ rs.length - (at_ + 1) = f := by omega
          rw [this]; exact hb
    · rw [if_neg (by simpa using hat)]
      have hn : muteOf rs hs = none := by
        rw [← hb]
        cases e : 2 ^ rs.length - at_ with
        | zero => rfl
        | succ f =>
          unfold bfs
          have : ord[at_]? = none := List.getElem?_eq_none (by omega)
          rw [this]
      refine ⟨G, sub_new2 hp hz' hzp rfl rfl, ?_⟩
      rw [hn] at q
      exact q
end
end Pace
end
section
set_option Elab.async false
set_option linter.all false
set_option maxRecDepth 100000
set_option maxHeartbeats 4000000
namespace Pace
open PySem PySem.Spec PyProof.Rows L2 DL
section
variable {P : Program} {w : World} {K : PySem.W.Frag} {mg : Str → Option Value} {base : Heap} {C PT cT : Addr}
def spLSet : SpD := fun ds G Q => ∃ (hs ws : List Nat) (n : Nat) (p : Addr) (lot : Lot), ds = [.str (strOf hs), .str (strOf ws), .int (n : Int), .rf p] ∧ G p = some (.dT (lotD lot)) ∧ LotNd lot ∧ lot.length ≤ 1000 ∧ n ≤ 1000 ∧ Q (wD hs ws (rowsOf lot n)) G
abbrev N__law_set : List Str := ["_law_heard_now", "_law_written_now", "_law_size", "_law_lot", "_law_rows_now", "_law_s", "_law_t", "_law_h", "_law_c"]
theorem sc__law_set : FnScope N__law_set ["_law_heard_now", "_law_written_now", "_law_size", "_law_lot"] (defScope s__law_set) := ⟨rfl, rfl, rfl, by decide +kernel, rfl, by decide +kernel, by decide +kernel⟩
theorem c__law_set (T : Txt K mg C) (d : Def K mg "_law_set" s__law_set) : Cal P w K mg base "_law_set" 1 ["_law_heard_now", "_law_written_now", "_law_size", "_law_lot"] (spLSet) := by
  refine cal_mk (N := N__law_set) d sc__law_set (fun ds G Q h => ?_) (fun _ _ _ _ _ _ us hl => match us, hl with | [_, _, _, _], _ => rfl) (fun f cdv A outer s H E hg hr => ?_)
  · obtain ⟨hs, ws, n, p, lot, rfl, _⟩ := h
    rfl
  · have hu := hu100 hr
    have nd := sc__law_set.nd
    have hA := deeper_guards (env := envOfC "_law_set" (defScope s__law_set) s.heap.objs.size f cdv) hg
    refine ⟨_, (dps_cons (dp_asg (de_lstM da_nil) (dg_name 4 nd))
  (dps_cons (dp_for PassesOwn.never rfl (di_range1 rfl T.f_range (da_cons (de_var 2) da_nil)) (dg_name 5 nd)
  (dps_one (dp_expr (de_bm PySem.F.plainAttrs_list PySem.F.slot_list_append PySem.F.type_list_append md_append (de_var 4) (da_cons (de_callTy cd_tuple rfl T.f_tuple (by decide +kernel) (da_cons (de_callB (cd_sorted hu rfl) rfl T.f_sorted (by decide +kernel) (da_cons (de_lock (de_lc (own := [("_law_t", 6), ("_law_h", 7), ("_law_c", 8)]) (p := (.tp [6, 7, 8])) rfl nd (di_keysT (de_var 3)) (blkOk_by (by show blkC N__law_set (defScope s__law_set) _ _ = true; decide +kernel)) (by decide) (fun _ _ _ _ _ => pg_tup rfl (pgs_cons (pg_name (i := 6) nd rfl (Or.inl rfl)) (pgs_cons (pg_name (i := 7) nd rfl (Or.inl rfl)) (pgs_cons (pg_name (i := 8) nd rfl (Or.inl rfl)) pgs_nil)))) (fun _ _ _ _ _ => (dts_one (dt_cmp (od_eq hu) (de_var 6) (de_var 5) (nomark _)))) (fun _ _ _ _ _ => (de_tup (da_cons (de_var 7) (da_cons (de_var 8) (da_cons (de_ixL hu (de_var 3) (de_tup (da_cons (de_var 6) (da_cons (de_var 7) (da_cons (de_var 8) da_nil))))) da_nil))))))) da_nil)) da_nil)) da_nil)))))
  (dps_one (dp_ret (de_disp (dpp_cons de_str (de_var 0) (dpp_cons de_str (de_var 1) (dpp_cons de_str (de_callTy cd_tuple rfl T.f_tuple (by decide +kernel) (da_cons (de_var 4) da_nil)) dpp_nil)))))))), fun ds G Q h => ?_⟩
    obtain ⟨hs, ws, n, p, lot, rfl, gp, nl, hl, hn, q⟩ := h
    rw [show dstart N__law_set [.str (strOf hs), .str (strOf ws), .int (n : Int), .rf p] = [some (.str (strOf hs)), some (.str (strOf ws)), some (.int (n : Int)), some (.rf p), none, none, none, none, none] from rfl]
    simp only [dxs, dl]
    refine ⟨Nat.zero_le _, fun z hz => ?_⟩
    have hpz : p ≠ z := fun e => by rw [e, hz] at gp; cases gp
    refine ⟨by omega, by omega, ?_⟩
    refine ⟨fun i S' G' => ∃ x5 x6 x7 x8, S' = [some (.str (strOf hs)), some (.str (strOf ws)), some (.int (n : Int)), some (.rf p), some (.rf z), x5, x6, x7, x8] ∧
      G' = gput G z (.lst (((List.range n).take i).map fun s => rowD (rowOf lot s))), ⟨none, none, none, none, rfl, by simp⟩, fun _ _ _ _ => trivial, ?_, ?_⟩
    · rintro i S' G' dd ⟨x5, x6, x7, x8, rfl, rfl⟩ hd
      have hd2 : ∃ s0, (List.range n)[i]? = some s0 ∧ dd = .int (s0 : Int) := by
        simp only [Int.toNat_natCast] at hd
        rw [List.getElem?_map] at hd
        cases e : (List.range n)[i]? with
        | none => rw [e] at hd; cases hd
        | some s0 => rw [e] at hd; cases hd; exact ⟨s0, rfl, rfl⟩
      obtain ⟨s0, hs0, rfl⟩ := hd2
      simp only [dxs, dl, beq_self_eq_true, true_and]
      have hpg : gput G z (.lst (((List.range n).take i).map fun s => rowD (rowOf lot s))) p = some (.dT (lotD lot)) := by rw [gput_ne hpz]; exact gp
      refine ⟨p, lotD lot, hpg, fun o kvs => ?_⟩
      simp only [dxs, dl, dx2]
      refine lc_someA lot (fun x => ktD (lotK x)) (fun x => x.1 == s0) (fun x => Mv.d x.2) (by simp [lotD]) (sz (by omega)) gput_same (fun x hx => ⟨_, rfl, fun Q z => ?_, fun hb Q z => ?_⟩) ?_
      · simp only [dxs, dl, dwipe, List.map_cons, List.map_nil, keyD, okE_int, eqv_int, true_and, nat_beq]
        exact z
      · have hv := val_lot nl hx
        unfold lotK at hv
        simp only [dxs, dl, dwipe, List.map_cons, List.map_nil, keyD, rItemL, D.keys, D.key, hv]
        exact ⟨sz (by simp), sz (by simp), z⟩
      · refine ⟨gput_same, ?_⟩
        rw [gput_gput, gput_self hpg]
        have e1 : ((lot.filter fun x => x.1 == s0).map fun x => Mv.d x.2) = ((lot.filter fun x => x.1 == s0).map (·.2)).map Mv.d := by rw [List.map_map]; rfl
        rw [e1]
        refine ⟨okS_mv _, ?_⟩
        rw [sortD_mv]
        simp only [dx3, rAppendD, dl, gput_gput]
        have e3 : (List.range n).take (i + 1) = (List.range n).take i ++ [s0] := by rw [List.take_add_one, hs0]; rfl
        refine ⟨szl (by simp; omega), some (.int (s0 : Int)), x6, x7, x8, rfl, ?_⟩
        rw [e3, List.map_append]
        rfl
    · rintro S' G' ⟨x5, x6, x7, x8, rfl, rfl⟩
      simp only [dxs, dl, rTupleD, Int.toNat_natCast, List.length_map, List.length_range]
      have e : (List.range n).take n = List.range n := by rw [List.take_of_length_le]; simp
      rw [e, rows_eq]
      exact ⟨by show (3 : Nat) ≤ 15; decide, G, sub_new hz rfl, q⟩
end
end Pace
end
section
set_option Elab.async false
set_option linter.all false
set_option maxRecDepth 100000
set_option maxHeartbeats 4000000
namespace Pace
open PySem PySem.Spec PyProof.Rows L2 DL
section
variable {P : Program} {w : World} {K : PySem.W.Frag} {mg : Str → Option Value} {base : Heap} {C PT cT : Addr}
def spDrawn : SpD := fun ds G Q => ∃ (p : Addr) (top : Nat) (hs ws : List Nat) (n : Nat), ds = [.rf p, .int (top : Int), .str (strOf hs), .str (strOf ws)] ∧ 1 ≤ top ∧ top ≤ 4 ∧ lettersB hs = true ∧ lettersB ws = true ∧ 1 ≤ hs.length ∧ hs.length ≤ 2 ∧ 1 ≤ ws.length ∧ ws.length ≤ 3 ∧ G p = some (dk (n + 1000)) ∧
  ∀ (rs : List (List Mv)) (m : Nat), n ≤ m → Some_ top hs ws rs → Q (wD hs ws rs) (gput G p (dk m))
abbrev N__law_drawn : List Str := ["_law_deck_here", "_law_top", "_law_heard_now", "_law_written_now", "_law_size", "_law_lot", "_law_s", "_law_h", "_law_c", "_law_w", "_law_page", "_law_spot"]
theorem sc__law_drawn : FnScope N__law_drawn ["_law_deck_here", "_law_top", "_law_heard_now", "_law_written_now"] (defScope s__law_drawn) := ⟨rfl, rfl, rfl, by decide +kernel, rfl, by decide +kernel, by decide +kernel⟩
theorem c__law_drawn (T : Txt K mg C) (d : Def K mg "_law_drawn" s__law_drawn) (C__law_draw : Cal P w K mg base "_law_draw" 1 ["_law_deck_here", "_law_many"] (spDraw)) (C__law_pick : Cal P w K mg base "_law_pick" 2 ["_law_deck_here", "_law_some_here"] (spPick)) (C__law_on : Cal P w K mg base "_law_on" 2 ["_law_w", "_law_spots", "_law_page"] (spOn)) (C__law_mute : Cal P w K mg base "_law_mute" 3 ["_law_w"] (spLMute)) (C__law_set : Cal P w K mg base "_law_set" 1 ["_law_heard_now", "_law_written_now", "_law_size", "_law_lot"] (spLSet)) : Cal P w K mg base "_law_drawn" 4 ["_law_deck_here", "_law_top", "_law_heard_now", "_law_written_now"] (spDrawn) := by
  refine cal_mk (N := N__law_drawn) d sc__law_drawn (fun ds G Q h => ?_) (fun _ _ _ _ _ _ us hl => match us, hl with | [_, _, _, _], _ => rfl) (fun f cdv A outer s H E hg hr => ?_)
  · obtain ⟨p, top, hs, ws, n, rfl, _⟩ := h
    rfl
  · have hu := hu100 hr
    have nd := sc__law_drawn.nd
    have hA := deeper_guards (env := envOfC "_law_drawn" (defScope s__law_drawn) s.heap.objs.size f cdv) hg
    refine ⟨_, (dps_cons (dp_par (i := 4) (j := 5) rfl nd (ha := (da_cons (de_op od_add de_int (de_cal C__law_draw hA (hr.mono (by decide)) (da_cons (de_var 0) (da_cons (de_var 1) da_nil)))) (da_cons de_newT da_nil))))
  (dps_cons (dp_for PassesOwn.never rfl (di_range1 rfl T.f_range (da_cons (de_var 4) da_nil)) (dg_name 6 nd)
  (dps_one (dp_for PassesOwn.never rfl (di_str (de_var 2)) (dg_name 7 nd)
  (dps_one (dp_for PassesOwn.never rfl (di_str (de_var 3)) (dg_name 8 nd)
  (dps_one (dp_if (dt_cmp (od_lt hu) (de_cal C__law_draw hA (hr.mono (by decide)) (da_cons (de_var 0) (da_cons de_int da_nil))) de_int (nomark _))
  (dps_one (dp_asg (de_cal C__law_draw hA (hr.mono (by decide)) (da_cons (de_var 0) (da_cons (de_var 4) da_nil))) (dg_sub hu (de_var 5) (de_tup (da_cons (de_var 6) (da_cons (de_var 7) (da_cons (de_var 8) da_nil)))))))
  dps_nil)))))))
  (dps_cons (dp_asg (de_cal C__law_set hA (hr.mono (by decide)) (da_cons (de_var 2) (da_cons (de_var 3) (da_cons (de_var 4) (da_cons (de_var 5) da_nil))))) (dg_name 9 nd))
  (dps_cons (dp_asg (de_cal C__law_mute hA (hr.mono (by decide)) (da_cons (de_var 9) da_nil)) (dg_name 10 nd))
  (dps_cons (dp_while PassesOwn.never (dt_cmp od_notN (de_var 10) de_non (nomark _))
  (dps_cons (dp_asg (de_cal C__law_pick hA (hr.mono (by decide)) (da_cons (de_var 0) (da_cons (de_cal C__law_on hA (hr.mono (by decide)) (da_cons (de_var 9) (da_cons (de_lst (da_cons de_int da_nil)) (da_cons (de_slice (de_var 10) do_none (do_some (de_un ud_neg de_int))) da_nil)))) da_nil))) (dg_name 11 nd))
  (dps_cons (dp_asg (de_cal C__law_draw hA (hr.mono (by decide)) (da_cons (de_var 0) (da_cons (de_var 4) da_nil))) (dg_sub hu (de_var 5) (de_tup (da_cons (de_var 11) (da_cons (de_ix hu (de_var 10) (de_un ud_neg de_int)) (da_cons (de_cal C__law_pick hA (hr.mono (by decide)) (da_cons (de_var 0) (da_cons (de_var 3) da_nil))) da_nil))))))
  (dps_cons (dp_asg (de_cal C__law_set hA (hr.mono (by decide)) (da_cons (de_var 2) (da_cons (de_var 3) (da_cons (de_var 4) (da_cons (de_var 5) da_nil))))) (dg_name 9 nd))
  (dps_one (dp_asg (de_cal C__law_mute hA (hr.mono (by decide)) (da_cons (de_var 9) da_nil)) (dg_name 10 nd)))))))
  (dps_one (dp_ret (de_var 9)))))))), fun ds G Q h => ?_⟩
    obtain ⟨p, top, hs, ws, n, rfl, t1, t4, lh, lw, h1, h2, w1, w3, gp, q⟩ := h
    rw [show dstart N__law_drawn [.rf p, .int (top : Int), .str (strOf hs), .str (strOf ws)] = [some (.rf p), some (.int (top : Int)), some (.str (strOf hs)), some (.str (strOf ws)), none, none, none, none, none, none, none, none] from rfl]
    simp only [dxs, dl, dx3]
    refine ⟨p, top, n + 999, rfl, t1, by omega, gp, fun r0 hr0 => ?_⟩
    simp only [dx3]
    intro z hz
    have hzp : z ≠ p := fun e => by rw [e, gput_same] at hz; cases hz
    have hpz : p ≠ z := fun e => hzp e.symm
    have hz' : G z = none := by rw [gput_ne hzp] at hz; exact hz
    have np : ∀ G0 o, gput G0 z o p = G0 p := fun _ _ => gput_ne hpz
    have ez : (1 : Int) + (r0 : Int) = ((1 + r0 : Nat) : Int) := by omega
    rw [ez]
    have hsz1 : 1 ≤ 1 + r0 := by omega
    have hsz4 : 1 + r0 ≤ top := by omega
    generalize 1 + r0 = sz at hsz1 hsz4 ⊢
    clear ez hr0
    have hg : ∀ (m : Nat) (kds : List (List Key × D)) (b : Nat), gput (gput (gput G p (dk m)) z (.dT kds)) p (dk b) = gput (gput G p (dk b)) z (.dT kds) := fun m kds b => gput_under hpz
    -- the loops
    have hf : ∀ (x : D) (b m : Nat) (Q0 : DQ) (G' : GH), True := fun _ _ _ _ _ => trivial
    refine ⟨by omega, by omega, ?_⟩
    refine ⟨fun i S' G' => ∃ (lot : Lot) (m : Nat) (x6 x7 x8 : Option D), S' = [some (.rf p), some (.int (top : Int)), some (.str (strOf hs)), some (.str (strOf ws)), some (.int (sz : Int)), some (.rf z), x6, x7, x8, none, none, none] ∧
      G' = gput (gput G p (dk m)) z (.dT (lotD lot)) ∧ LotOk sz hs ws lot ∧ n + 999 ≤ m + 12 * i, ⟨[], n + 999, none, none, none, rfl, rfl, ⟨by simp [LotNd], by simp⟩, by omega⟩, fun _ _ _ _ => trivial, ?_, ?_⟩
    · rintro i S' G' dd ⟨lot, m, x6, x7, x8, rfl, rfl, ok, hm⟩ hd
      have hd2 : ∃ s0, s0 < sz ∧ i < 4 ∧ dd = .int (s0 : Int) := by
        simp only [Int.toNat_natCast] at hd
        rw [List.getElem?_map] at hd
        cases e : (List.range sz)[i]? with
        | none => rw [e] at hd; cases hd
        | some s0 =>
          rw [e] at hd; cases hd
          have h3 := (List.getElem?_eq_some_iff.mp e).1
          rw [List.length_range] at h3
          exact ⟨s0, List.mem_range.mp (List.mem_of_getElem? e), by omega, rfl⟩
      obtain ⟨s0, hs0, hi4, rfl⟩ := hd2
      simp only [dxs, dl]
      refine ⟨fun j S' G' => ∃ (lot : Lot) (m : Nat) (x7 x8 : Option D), S' = [some (.rf p), some (.int (top : Int)), some (.str (strOf hs)), some (.str (strOf ws)), some (.int (sz : Int)), some (.rf z), some (.int (s0 : Int)), x7, x8, none, none, none] ∧
        G' = gput (gput G p (dk m)) z (.dT (lotD lot)) ∧ LotOk sz hs ws lot ∧ n + 999 ≤ m + 12 * i + 6 * j, ⟨lot, m, _, _, rfl, rfl, ok, by omega⟩, fun _ _ _ _ => trivial, ?_, ?_⟩
      · clear hm ok
        rintro j S' G' dd ⟨lot, m, x7, x8, rfl, rfl, ok, hm⟩ hd
        obtain ⟨h0, hh0, rfl⟩ := signs_get hd
        have hj : j < 2 := by have := (List.getElem?_eq_some_iff.mp hh0).1; omega
        simp only [dxs, dl]
        refine ⟨fun k S' G' => ∃ (lot : Lot) (m : Nat) (x8 : Option D), S' = [some (.rf p), some (.int (top : Int)), some (.str (strOf hs)), some (.str (strOf ws)), some (.int (sz : Int)), some (.rf z), some (.int (s0 : Int)), some (.str (sgn h0)), x8, none, none, none] ∧
          G' = gput (gput G p (dk m)) z (.dT (lotD lot)) ∧ LotOk sz hs ws lot ∧ n + 999 ≤ m + 12 * i + 6 * j + 2 * k, ⟨lot, m, _, rfl, rfl, ok, by omega⟩, fun _ _ _ _ => trivial, ?_, ?_⟩
        · clear hm ok
          rintro k S' G' dd ⟨lot, m, x8, rfl, rfl, ok, hm⟩ hd
          obtain ⟨c0, hc0, rfl⟩ := signs_get hd
          have hk : k < 3 := by have := (List.getElem?_eq_some_iff.mp hc0).1; omega
          simp only [dxs, dl]
          obtain ⟨m', rfl⟩ : ∃ m', m = m' + 2 := ⟨m - 2, by omega⟩
          refine ⟨p, 5, m' + 1, rfl, by decide, by decide, by rw [np, gput_same], fun r1 hr1 => ?_⟩
          rw [hg]
          simp only [dxs, dl, okL_int, DL.lt_int, true_and]
          split
          · refine ⟨p, sz, m', rfl, hsz1, by omega, by rw [np, gput_same], fun r2 hr2 => ?_⟩
            rw [hg]
            simp only [dxs, dl, D.keys, D.key]
            refine ⟨Pace.sz (by simp), ?_, lotPut lot (s0, ⟨h0, c0, r2⟩), m', _, rfl, ?_, ok.put ⟨hs0, List.mem_of_getElem? hh0, List.mem_of_getElem? hc0, hr2⟩, by omega⟩
            · have h9 := lot_few ok
              have h7 : hs.length * ws.length ≤ 2 * 3 := Nat.mul_le_mul h2 w3
              have h8 : sz * (hs.length * ws.length) ≤ 4 * (2 * 3) := Nat.mul_le_mul (by omega) h7
              exact szl (by simp [lotD]; omega)
            · rw [gput_gput]
              have := lotD_put lot (s0, ⟨h0, c0, r2⟩)
              unfold lotK at this
              simp only at this
              rw [this]
          · exact ⟨lot, m' + 1, _, rfl, rfl, ok, by omega⟩
        · clear hm ok
          rintro S' G' ⟨lot, m, x8, rfl, rfl, ok, hm⟩
          rw [signs_len] at hm
          exact ⟨lot, m, _, _, rfl, rfl, ok, by omega⟩
      · clear hm ok
        rintro S' G' ⟨lot, m, x7, x8, rfl, rfl, ok, hm⟩
        rw [signs_len] at hm
        exact ⟨lot, m, _, _, _, rfl, rfl, ok, by omega⟩
    · rintro S' G' ⟨lot, m, x6, x7, x8, rfl, rfl, ok, hm⟩
      simp only [dxs, dl]
      have hm2 : n + 900 ≤ m := by simp at hm; omega
      clear hm
      have fewL : ∀ lot, LotOk sz hs ws lot → lot.length ≤ 1000 := fun lot ok => by
        have h9 := lot_few ok
        have h7 : hs.length * ws.length ≤ 2 * 3 := Nat.mul_le_mul h2 w3
        have h8 : sz * (hs.length * ws.length) ≤ 4 * (2 * 3) := Nat.mul_le_mul (by omega) h7
        omega
      refine ⟨hs, ws, sz, z, lot, rfl, gput_same, ok.nd, fewL lot ok, by omega, ?_⟩
      simp only [dxs, dl]
      refine ⟨hs, ws, rowsOf lot sz, rfl, rowsOf_few ok (by omega) h2 w3, rowsOf_ok ok h2 w3, by rw [rowsOf_len]; omega, by rw [rowsOf_len]; omega, ?_⟩
      refine ⟨fun mu S' G' => ∃ (lot : Lot) (m : Nat) (x11 : Option D), S' = [some (.rf p), some (.int (top : Int)), some (.str (strOf hs)), some (.str (strOf ws)), some (.int (sz : Int)), some (.rf z), x6, x7, x8, some (wD hs ws (rowsOf lot sz)), some (pageD (muteOf (rowsOf lot sz) hs)), x11] ∧
        G' = gput (gput G p (dk m)) z (.dT (lotD lot)) ∧ LotOk sz hs ws lot ∧ mu = missing sz hs lot ∧ n + 3 * mu ≤ m, ⟨_, lot, m, none, rfl, rfl, ok, rfl, ?_⟩, ?_⟩
      · have := missing_le sz hs lot
        have h8 : sz * hs.length ≤ 4 * 2 := Nat.mul_le_mul (by omega) h2
        omega
      · clear hm2 ok
        rintro mu S' G' ⟨lot, m, x11, rfl, rfl, ok, rfl, hm⟩
        simp only [dxs, dl]
        have hf1 := rowsOf_few ok (by omega) h2 w3
        have hf2 := rowsOf_ok ok h2 w3
        cases hmu : muteOf (rowsOf lot sz) hs with
        | none =>
          rw [if_neg (by simp [pageD, D.isNon])]
          refine ⟨gput G p (dk m), sub_new (by rw [gput_ne hzp]; exact hz') rfl, q _ m (by omega) ⟨rowsOf_val ok lh lw hsz1 (by omega) h2 w3, hmu, hf1, by rw [rowsOf_len]; omega⟩⟩
        | some pg =>
          rw [if_pos (by simp [pageD, D.isNon])]
          obtain ⟨qq, c0, rfl, hc0, hq0, hq1, hq2, hq3⟩ := muteOf_some (fun r hr => (hf2 r hr).2) (by rw [rowsOf_len]; omega) hmu
          simp only [pageD, dxs, dl, dx3]
          have hB : 2 ^ (rowsOf lot sz).length ≤ 2 ^ 4 := Nat.pow_le_pow_right (by decide) (by rw [rowsOf_len]; omega)
          have hln : (strOf (qq ++ [c0])).length ≤ sizeLine := by rw [strOf_len]; exact Pace.sz (by simp; omega)
          refine ⟨Pace.sz (by simp), hln, ?_⟩
          rw [cutS_strOf, cut_last, List.dropLast_concat]
          have hrl : ∀ k ∈ run (rowsOf lot sz) [0] qq, k < sz := fun k hk => by
            have := run_lt (rs := rowsOf lot sz) (n := (rowsOf lot sz).length) (fun r hr => (hf2 r hr).2) (ss := [0]) (by simp [rowsOf_len]; omega) k hk
            rw [rowsOf_len] at this
            exact this
          have hnd : (run (rowsOf lot sz) [0] qq).Nodup := run_nodup (by simp)
          have hl5 := nodup_lt_len hnd hrl
          refine ⟨hs, ws, rowsOf lot sz, [0], qq, rfl, hf1, hf2, by simp, by simp [rowsOf_len]; omega, ?_⟩
          have hl6 : 1 ≤ (run (rowsOf lot sz) [0] qq).length := by
            cases e : run (rowsOf lot sz) [0] qq with
            | nil => exact absurd e hq1
            | cons a l => simp
          have hmis : 1 ≤ missing sz hs lot := by
            cases e : run (rowsOf lot sz) [0] qq with
            | nil => exact absurd e hq1
            | cons a l =>
              have ha : a ∈ run (rowsOf lot sz) [0] qq := by rw [e]; simp
              have := missing_put (sz := sz) (hs := hs) (lot := lot) (x := (a, ⟨c0, 0, 0⟩)) (hrl a ha) hc0 (no_move (hs := hs) hq2 ha (hrl a ha))
              omega
          obtain ⟨m', rfl⟩ : ∃ m', m = m' + 3 := ⟨m - 3, by omega⟩
          refine ⟨p, m' + 2, _, natsD (run (rowsOf lot sz) [0] qq), rfl, .inl rfl, by rw [natsD_len]; exact hl6, by rw [natsD_len]; omega, by rw [np, gput_same], fun x hx => ?_⟩
          obtain ⟨spot, hspot, rfl⟩ := List.mem_map.mp hx
          rw [hg]
          refine ⟨p, sz, m' + 1, rfl, hsz1, by omega, by rw [np, gput_same], fun r2 hr2 => ?_⟩
          rw [hg]
          simp only [last_sgn hln]
          refine ⟨p, m', _, ws.map (fun c => .str (sgn c)), rfl, .inr ⟨ws, rfl, rfl⟩, by simpa using w1, by simp; omega, by rw [np, gput_same], fun x hx => ?_⟩
          obtain ⟨c1, hc1, rfl⟩ := List.mem_map.mp hx
          rw [hg]
          simp only [dl, D.keys, D.key]
          refine ⟨Pace.sz (by simp), ?_, ?_⟩
          · have := fewL lot ok
            exact szl (by simp [lotD]; omega)
          · rw [gput_gput]
            have hput := lotD_put lot (spot, ⟨c0, c1, r2⟩)
            unfold lotK at hput
            simp only at hput
            rw [hput]
            have ok2 := ok.put (x := (spot, ⟨c0, c1, r2⟩)) ⟨hrl spot hspot, hc0, hc1, hr2⟩
            have hmp := missing_put (sz := sz) (hs := hs) (lot := lot) (x := (spot, ⟨c0, c1, r2⟩)) (hrl spot hspot) hc0 (no_move (hs := hs) hq2 hspot (hrl spot hspot))
            refine ⟨hs, ws, sz, z, lotPut lot (spot, ⟨c0, c1, r2⟩), rfl, gput_same, ok2.nd, fewL _ ok2, by omega, ?_⟩
            refine ⟨hs, ws, rowsOf (lotPut lot (spot, ⟨c0, c1, r2⟩)) sz, rfl, rowsOf_few ok2 (by omega) h2 w3, rowsOf_ok ok2 h2 w3, by rw [rowsOf_len]; omega, by rw [rowsOf_len]; omega, ?_⟩
            exact ⟨_, hmp, lotPut lot (spot, ⟨c0, c1, r2⟩), m', some (.int (spot : Int)), rfl, rfl, ok2, rfl, by omega⟩
end
end Pace
end
section
set_option Elab.async false
set_option linter.all false
set_option maxRecDepth 100000
set_option maxHeartbeats 4000000
namespace Pace
open PySem PySem.Spec PyProof.Rows L2 DL
section
variable {P : Program} {w : World} {K : PySem.W.Frag} {mg : Str → Option Value} {base : Heap} {C PT cT : Addr}
def spSome21 : SpD := fun ds G Q => ∃ (p : Addr) (n : Nat), ds = [.rf p, .int 3] ∧ G p = some (dk (n + 1010)) ∧ ∀ (hs ws : List Nat) (rs : List (List Mv)) (m : Nat), n ≤ m → Some_ 4 hs ws rs → Q (wD hs ws rs) (gput G p (dk m))
abbrev N__law_some : List Str := ["_law_deck_here", "_law_top", "_law_heard_now"]
theorem sc__law_some : FnScope N__law_some ["_law_deck_here", "_law_top"] (defScope s__law_some) := ⟨rfl, rfl, rfl, by decide +kernel, rfl, by decide +kernel, by decide +kernel⟩
theorem c__law_some (T : Txt K mg C) (d : Def K mg "_law_some" s__law_some) (C__law_draw : Cal P w K mg base "_law_draw" 1 ["_law_deck_here", "_law_many"] (spDraw)) (C__law_known : Cal P w K mg base "_law_known" 2 ["_law_deck_here"] (spKnown)) (C__law_pick : Cal P w K mg base "_law_pick" 2 ["_law_deck_here", "_law_some_here"] (spPick)) (C__law_drawn : Cal P w K mg base "_law_drawn" 4 ["_law_deck_here", "_law_top", "_law_heard_now", "_law_written_now"] (spDrawn)) : Cal P w K mg base "_law_some" 5 ["_law_deck_here", "_law_top"] (spSome21) := by
  refine cal_mk (N := N__law_some) d sc__law_some (fun ds G Q h => ?_) (fun _ _ _ _ _ _ us hl => match us, hl with | [_, _], _ => rfl) (fun f cdv A outer s H E hg hr => ?_)
  · obtain ⟨p, n, rfl, _⟩ := h
    rfl
  · have hu := hu100 hr
    have nd := sc__law_some.nd
    have hA := deeper_guards (env := envOfC "_law_some" (defScope s__law_some) s.heap.objs.size f cdv) hg
    refine ⟨_, (dps_cons (dp_if (dt_cmp (od_eq hu) (de_cal C__law_draw hA (hr.mono (by decide)) (da_cons (de_var 0) (da_cons de_int da_nil))) de_int (nomark _))
  (dps_one (dp_ret (de_cal C__law_known hA (hr.mono (by decide)) (da_cons (de_var 0) da_nil))))
  dps_nil)
  (dps_cons (dp_asg (de_cal C__law_pick hA (hr.mono (by decide)) (da_cons (de_var 0) (da_cons (de_lst (da_cons de_str (da_cons de_str (da_cons de_str (da_cons de_str da_nil))))) da_nil))) (dg_name 2 nd))
  (dps_one (dp_ret (de_cal C__law_drawn hA (hr.mono (by decide)) (da_cons (de_var 0) (da_cons (de_var 1) (da_cons (de_var 2) (da_cons (de_cal C__law_pick hA (hr.mono (by decide)) (da_cons (de_var 0) (da_cons (de_lst (da_cons de_str (da_cons de_str (da_cons de_str (da_cons de_str da_nil))))) da_nil))) da_nil))))))))), fun ds G Q h => ?_⟩
    obtain ⟨p, n, rfl, gp, q⟩ := h
    rw [show dstart N__law_some [.rf p, .int 3] = [some (.rf p), some (.int 3), none] from rfl]
    simp only [dxs, dl, dx3]
    refine ⟨p, 4, n + 1009, rfl, by decide, by decide, gp, fun r hr => ?_⟩
    simp only [dxs, dl, okE_int, eqv_int, true_and]
    split
    · refine ⟨p, n + 1008, rfl, gput_same, fun k hk => ?_⟩
      rw [gput_gput]
      exact ⟨_, Sub.refl _, q _ _ _ _ (by omega) (known_some hk)⟩
    · refine ⟨Pace.sz (by simp), p, n + 1008, _, _, rfl, .inl rfl, by simp, by simp, gput_same, fun x hx => ?_⟩
      rw [gput_gput]
      have hx2 : ∃ hs, x = .str (strOf hs) ∧ lettersB hs = true ∧ 1 ≤ hs.length ∧ hs.length ≤ 2 := by
        simp only [s_ab, s_a, s_a', List.mem_cons, List.not_mem_nil, or_false] at hx
        rcases hx with rfl | rfl | rfl | rfl
        · exact ⟨_, rfl, by decide +kernel, by decide, by decide⟩
        · exact ⟨_, rfl, by decide +kernel, by decide, by decide⟩
        · exact ⟨_, rfl, by decide +kernel, by decide, by decide⟩
        · exact ⟨_, rfl, by decide +kernel, by decide, by decide⟩
      obtain ⟨hs, rfl, lh, h1, h2⟩ := hx2
      refine ⟨Pace.sz (by simp), p, n + 1007, _, _, rfl, .inl rfl, by simp, by simp, gput_same, fun x hx => ?_⟩
      rw [gput_gput]
      have hx2 : ∃ ws, x = .str (strOf ws) ∧ lettersB ws = true ∧ 1 ≤ ws.length ∧ ws.length ≤ 3 := by
        simp only [s_ab, s_xy, s_abc, List.mem_cons, List.not_mem_nil, or_false] at hx
        rcases hx with rfl | rfl | rfl | rfl
        · exact ⟨_, rfl, by decide +kernel, by decide, by decide⟩
        · exact ⟨_, rfl, by decide +kernel, by decide, by decide⟩
        · exact ⟨_, rfl, by decide +kernel, by decide, by decide⟩
        · exact ⟨_, rfl, by decide +kernel, by decide, by decide⟩
      obtain ⟨ws, rfl, lw, w1, w2⟩ := hx2
      refine ⟨p, 3, hs, ws, n + 7, rfl, by decide, by decide, lh, lw, h1, h2, w1, w2, gput_same, fun rs m hm so => ?_⟩
      rw [gput_gput]
      exact ⟨_, Sub.refl _, q _ _ _ _ (by omega) ⟨so.val, so.mute, so.few, Nat.le_trans so.n (by decide)⟩⟩
end
end Pace
end
section
set_option Elab.async false
set_option linter.all false
set_option maxRecDepth 100000
set_option maxHeartbeats 4000000
namespace Pace
open PySem PySem.Spec PyProof.Rows L2 DL
section
variable {P : Program} {w : World} {K : PySem.W.Frag} {mg : Str → Option Value} {base : Heap} {C PT cT : Addr}
def spInteger : SpD := fun ds G Q => ∃ n : Int, ds = [.int n] ∧ Q (.bl true) G
abbrev N_is_integer : List Str := ["thing"]
theorem sc_is_integer : FnScope N_is_integer ["thing"] (defScope s_is_integer) := ⟨rfl, rfl, rfl, by decide +kernel, rfl, by decide +kernel, by decide +kernel⟩
theorem c_is_integer (T : Txt K mg C) (d : Def K mg "is_integer" s_is_integer) : Cal P w K mg base "is_integer" 1 ["thing"] (spInteger) := by
  refine cal_mk (N := N_is_integer) d sc_is_integer (fun ds G Q h => ?_) (fun _ _ _ _ _ _ us hl => match us, hl with | [_], _ => rfl) (fun f cdv A outer s H E hg hr => ?_)
  · obtain ⟨n, rfl, _⟩ := h
    rfl
  · have hu := hu100 hr
    have nd := sc_is_integer.nd
    have hA := deeper_guards (env := envOfC "is_integer" (defScope s_is_integer) s.heap.objs.size f cdv) hg
    refine ⟨_, (dps_one (dp_ret (de_and (de_callB cd_isi rfl T.f_isinstance (by decide +kernel) (da_cons (de_var 0) (da_cons (de_ty (T := "int") rfl T.f_int (by decide +kernel)) da_nil))) (de_one (de_not (de_callB cd_isi rfl T.f_isinstance (by decide +kernel) (da_cons (de_var 0) (da_cons (de_ty (T := "bool") rfl T.f_bool (by decide +kernel)) da_nil)))))))), fun ds G Q h => ?_⟩
    obtain ⟨n, rfl, q⟩ := h
    exact ⟨_, Sub.refl _, q⟩
end
section
variable {P : Program} {w : World} {K : PySem.W.Frag} {mg : Str → Option Value} {base : Heap} {C PT cT : Addr}
def spLetterOf : SpD := fun ds G Q => ∃ (ls : List Nat) (c : Nat), ds = [.str (strOf ls), .str (sgn c)] ∧ Q (.bl (decide (c ∈ ls))) G
abbrev N_is_letter_of : List Str := ["letters", "thing"]
theorem sc_is_letter_of : FnScope N_is_letter_of ["letters", "thing"] (defScope s_is_letter_of) := ⟨rfl, rfl, rfl, by decide +kernel, rfl, by decide +kernel, by decide +kernel⟩
theorem c_is_letter_of (T : Txt K mg C) (d : Def K mg "is_letter_of" s_is_letter_of) : Cal P w K mg base "is_letter_of" 1 ["letters", "thing"] (spLetterOf) := by
  refine cal_mk (N := N_is_letter_of) d sc_is_letter_of (fun ds G Q h => ?_) (fun _ _ _ _ _ _ us hl => match us, hl with | [_, _], _ => rfl) (fun f cdv A outer s H E hg hr => ?_)
  · obtain ⟨ls, c, rfl, _⟩ := h
    rfl
  · have hu := hu100 hr
    have nd := sc_is_letter_of.nd
    have hA := deeper_guards (env := envOfC "is_letter_of" (defScope s_is_letter_of) s.heap.objs.size f cdv) hg
    refine ⟨_, (dps_one (dp_ret (de_and (de_callB cd_isi rfl T.f_isinstance (by decide +kernel) (da_cons (de_var 1) (da_cons (de_ty (T := "str") rfl T.f_str (by decide +kernel)) da_nil))) (de_and (de_cmp (od_eq hu) (de_callB cd_len rfl T.f_len (by decide +kernel) (da_cons (de_var 1) da_nil)) de_int (nomark _)) (de_one (de_cmp (od_in hu) (de_var 1) (de_var 0) (by rfl))))))), fun ds G Q h => ?_⟩
    obtain ⟨ls, c, rfl, q⟩ := h
    rw [show dstart N_is_letter_of [.str (strOf ls), .str (sgn c)] = [some (.str (strOf ls)), some (.str (sgn c))] from rfl]
    have e1 : rLenD [.str (sgn c)] = fun G Q => Q (.int (1 : Nat)) G := by
      funext G Q
      exact len_str (x := sgn c) (sz (by show (1 : Nat) ≤ 5000; decide)) G Q
    simp only [dxs, dl, dx3, e1, inn_str, strIn_sgn, okE_int, eqv_int, true_and, if_true, beq_self_eq_true, Int.ofNat_one]
    exact ⟨_, Sub.refl _, q⟩
end
section
variable {P : Program} {w : World} {K : PySem.W.Frag} {mg : Str → Option Value} {base : Heap} {C PT cT : Addr}
def spLetters : SpD := fun ds G Q => ∃ cs : List Nat, ds = [.str (strOf cs)] ∧ cs.length ≤ 1000 ∧ Q (.bl (lettersB cs)) G
abbrev N_are_letters : List Str := ["thing", "sign", "one", "other"]
theorem sc_are_letters : FnScope N_are_letters ["thing"] (defScope s_are_letters) := ⟨rfl, rfl, rfl, by decide +kernel, rfl, by decide +kernel, by decide +kernel⟩
theorem c_are_letters (T : Txt K mg C) (d : Def K mg "are_letters" s_are_letters) : Cal P w K mg base "are_letters" 1 ["thing"] (spLetters) := by
  refine cal_mk (N := N_are_letters) d sc_are_letters (fun ds G Q h => ?_) (fun _ _ _ _ _ _ us hl => match us, hl with | [_], _ => rfl) (fun f cdv A outer s H E hg hr => ?_)
  · obtain ⟨cs, rfl, _⟩ := h
    rfl
  · have hu := hu100 hr
    have nd := sc_are_letters.nd
    have hA := deeper_guards (env := envOfC "are_letters" (defScope s_are_letters) s.heap.objs.size f cdv) hg
    refine ⟨_, (dps_cons (dp_if (DW.dt (dw_or (dt_not (dt_val (de_callB cd_isi rfl T.f_isinstance (by decide +kernel) (da_cons (de_var 0) (da_cons (de_ty (T := "str") rfl T.f_str (by decide +kernel)) da_nil))))) (dw_or (dt_cmp (od_eq hu) (de_var 0) de_str (nomark _)) (dw_or1 (dt_not (dt_val (de_callB (cd_all rfl) rfl T.f_all (by decide +kernel) (da_cons (de_lc (own := [("sign", 1)]) (p := (.nm 1)) rfl nd (di_str (de_var 0)) (blkOk_by (by show blkC N_are_letters (defScope s_are_letters) _ _ = true; decide +kernel)) (by decide) (fun _ _ _ _ _ => pg_name (i := 1) nd rfl (Or.inl rfl)) (fun _ _ _ _ _ => dts_nil) (fun _ _ _ _ _ => (de_cmp (od_in hu) (de_var 1) (de_gstr rfl T.c_LETTERS) (by rfl)))) da_nil))))))))
  (dps_one (dp_ret de_bl))
  dps_nil)
  (dps_one (dp_ret (de_callB (cd_all rfl) rfl T.f_all (by decide +kernel) (da_cons (de_lc (own := [("one", 2), ("other", 3)]) (p := (.tp [2, 3])) rfl nd (di_zipS rfl T.f_zip (da_cons (de_slice (de_var 0) do_none (do_some (de_un ud_neg de_int))) (da_cons (de_slice (de_var 0) (do_some de_int) do_none) da_nil))) (blkOk_by (by show blkC N_are_letters (defScope s_are_letters) _ _ = true; decide +kernel)) (by decide) (fun _ _ _ _ _ => pg_tup rfl (pgs_cons (pg_name (i := 2) nd rfl (Or.inl rfl)) (pgs_cons (pg_name (i := 3) nd rfl (Or.inl rfl)) pgs_nil))) (fun _ _ _ _ _ => dts_nil) (fun _ _ _ _ _ => (de_cmp (od_lt hu) (de_var 2) (de_var 3) (nomark _)))) da_nil))))), fun ds G Q h => ?_⟩
    obtain ⟨cs, rfl, hl, q⟩ := h
    rw [show dstart N_are_letters [.str (strOf cs)] = [some (.str (strOf cs)), none, none, none] from rfl]
    simp only [dxs, dl, dx3, Bool.not_true, Bool.false_eq_true, if_false, okE_str, eqv_str, true_and]
    by_cases h0 : cs = []
    · subst h0
      rw [if_pos (by decide +kernel), if_pos trivial]
      exact ⟨_, Sub.refl _, q⟩
    · rw [if_neg (by
        intro z
        have z2 : strOf cs = strOf [] := by rw [← str_nil]; simpa using z
        exact h0 (strOf_inj z2))]
      have hsz : (strOf cs).length ≤ sizeLine := by rw [strOf_len]; exact sz (by omega)
      refine lc_mapA cs (fun c => .str (sgn c)) (fun c => .bl (decide (c ∈ abc))) (by simp [DL.signs, strOf, sgn]) (sz (by omega)) trivial (fun c _ => ⟨_, rfl, fun Q z => ?_⟩) ?_
      · simp only [dxs, dl, dwipe, List.map_cons, List.map_nil, inn_str, abc_str, strIn_sgn]
        exact z
      · rw [all_map]
        simp only
        by_cases ha : cs.all (fun c => decide (c ∈ abc)) = true
        · rw [if_neg (by simp [ha])]
          refine ⟨hsz, hsz, ?_⟩
          rw [cutS_strOf, cutS_strOf, cut_last, cut_tail]
          refine lc_mapA (cs.dropLast.zip cs.tail) (fun p => .tup [.str (sgn p.1), .str (sgn p.2)]) (fun p => .bl (decide (p.1 < p.2))) (by rw [zip_map]; simp [strOf]) (sz (by simp; omega)) trivial (fun p _ => ⟨_, rfl, fun Q z => ?_⟩) ?_
          · simp only [dxs, dl, dwipe, List.map_cons, List.map_nil, okL_str, sgn_lt, true_and]
            exact z
          · rw [all_map]
            refine ⟨_, Sub.refl _, ?_⟩
            have e : lettersB cs = (cs.dropLast.zip cs.tail).all fun p => decide (p.1 < p.2) := by
              unfold lettersB nbr
              rw [ha, zip_map]
              have : cs.isEmpty = false := by simpa using h0
              simp [this, List.all_map]
            rw [← e]
            exact q
        · rw [if_pos (by simpa using ha)]
          have e : lettersB cs = false := by
            unfold lettersB
            simp only [Bool.not_eq_true] at ha
            simp [ha]
          rw [e] at q
          exact ⟨_, Sub.refl _, q⟩
end
end Pace
end
section
set_option Elab.async false
set_option linter.all false
set_option maxRecDepth 100000
set_option maxHeartbeats 4000000
namespace Pace
open PySem PySem.Spec PyProof.Rows L2 DL
section
variable {P : Program} {w : World} {K : PySem.W.Frag} {mg : Str → Option Value} {base : Heap} {C PT cT : Addr}
def spMove : SpD := fun ds G Q => ∃ (hs ws : List Nat) (n : Nat) (m : Mv), ds = [.str (strOf hs), .str (strOf ws), .int (n : Int), Mv.d m] ∧ Q (.bl (mvB hs ws n m)) G
abbrev N_is_move : List Str := ["heard", "written", "many", "thing"]
theorem sc_is_move : FnScope N_is_move ["heard", "written", "many", "thing"] (defScope s_is_move) := ⟨rfl, rfl, rfl, by decide +kernel, rfl, by decide +kernel, by decide +kernel⟩
theorem c_is_move (T : Txt K mg C) (d : Def K mg "is_move" s_is_move) (C_is_letter_of : Cal P w K mg base "is_letter_of" 1 ["letters", "thing"] (spLetterOf)) (C_is_integer : Cal P w K mg base "is_integer" 1 ["thing"] (spInteger)) : Cal P w K mg base "is_move" 2 ["heard", "written", "many", "thing"] (spMove) := by
  refine cal_mk (N := N_is_move) d sc_is_move (fun ds G Q h => ?_) (fun _ _ _ _ _ _ us hl => match us, hl with | [_, _, _, _], _ => rfl) (fun f cdv A outer s H E hg hr => ?_)
  · obtain ⟨hs, ws, n, m, rfl, _⟩ := h
    rfl
  · have hu := hu100 hr
    have nd := sc_is_move.nd
    have hA := deeper_guards (env := envOfC "is_move" (defScope s_is_move) s.heap.objs.size f cdv) hg
    refine ⟨_, (dps_cons (dp_if (DW.dt (dw_or (dt_not (dt_val (de_callB cd_isi rfl T.f_isinstance (by decide +kernel) (da_cons (de_var 3) (da_cons (de_ty (T := "tuple") rfl T.f_tuple (by decide +kernel)) da_nil))))) (dw_or1 (dt_cmp (od_ne hu) (de_callB cd_len rfl T.f_len (by decide +kernel) (da_cons (de_var 3) da_nil)) (de_gint rfl T.c_MOVE_PARTS_rules) (nomark _)))))
  (dps_one (dp_ret de_bl))
  dps_nil)
  (dps_cons (dp_if (DW.dt (dw_or (dt_not (dt_val (de_cal C_is_letter_of hA (hr.mono (by decide)) (da_cons (de_var 0) (da_cons (de_ix hu (de_var 3) de_int) da_nil))))) (dw_or1 (dt_not (dt_val (de_cal C_is_letter_of hA (hr.mono (by decide)) (da_cons (de_var 1) (da_cons (de_ix hu (de_var 3) de_int) da_nil))))))))
  (dps_one (dp_ret de_bl))
  dps_nil)
  (dps_one (dp_ret (de_and (de_cal C_is_integer hA (hr.mono (by decide)) (da_cons (de_ix hu (de_var 3) de_int) da_nil)) (de_one (de_chain (od_le hu) (od_lt hu) de_int (de_ix hu (de_var 3) de_int) (de_var 2)))))))), fun ds G Q h => ?_⟩
    obtain ⟨hs, ws, n, m, rfl, q⟩ := h
    rw [show dstart N_is_move [.str (strOf hs), .str (strOf ws), .int (n : Int), Mv.d m] = [some (.str (strOf hs)), some (.str (strOf ws)), some (.int (n : Int)), some (Mv.d m)] from rfl]
    simp only [Mv.d, dxs, dl, dx3, Bool.not_true, Bool.false_eq_true, if_false, okE_int, eqv_int, true_and, mv0, mv1, mv2]
    rw [if_neg (by decide)]
    refine ⟨hs, m.h, rfl, ?_⟩
    by_cases h1 : m.h ∈ hs
    · simp only [h1, decide_true, Bool.not_true, Bool.false_eq_true, if_false]
      refine ⟨ws, m.c, rfl, ?_⟩
      by_cases h2 : m.c ∈ ws
      · simp only [h2, decide_true, Bool.not_true, Bool.false_eq_true, if_false]
        refine ⟨_, rfl, ?_⟩
        simp only [dxs, dl, mv2, okL_int, DL.lt_int, true_and, if_true]
        have e1 : (!decide ((m.t : Int) < 0)) = true := by simp
        rw [e1, if_pos rfl]
        refine ⟨_, Sub.refl _, ?_⟩
        have e2 : decide ((m.t : Int) < (n : Int)) = mvB hs ws n m := by
          unfold mvB
          simp [h1, h2]
        rw [e2]
        exact q
      · simp only [h2, decide_false, Bool.not_false, if_true]
        refine ⟨_, Sub.refl _, ?_⟩
        have : mvB hs ws n m = false := by unfold mvB; simp [h2]
        rw [this] at q
        exact q
    · simp only [h1, decide_false, Bool.not_false, if_true]
      refine ⟨_, Sub.refl _, ?_⟩
      have : mvB hs ws n m = false := by unfold mvB; simp [h1]
      rw [this] at q
      exact q
end
section
variable {P : Program} {w : World} {K : PySem.W.Frag} {mg : Str → Option Value} {base : Heap} {C PT cT : Addr}
def spRow : SpD := fun ds G Q => ∃ (hs ws : List Nat) (n : Nat) (r : List Mv), ds = [.str (strOf hs), .str (strOf ws), .int (n : Int), rowD r] ∧ r.length ≤ 1000 ∧ Q (.bl (rowB hs ws n r)) G
abbrev N_is_row : List Str := ["heard", "written", "many", "thing", "move", "one", "other"]
theorem sc_is_row : FnScope N_is_row ["heard", "written", "many", "thing"] (defScope s_is_row) := ⟨rfl, rfl, rfl, by decide +kernel, rfl, by decide +kernel, by decide +kernel⟩
theorem c_is_row (T : Txt K mg C) (d : Def K mg "is_row" s_is_row) (C_is_move : Cal P w K mg base "is_move" 2 ["heard", "written", "many", "thing"] (spMove)) : Cal P w K mg base "is_row" 3 ["heard", "written", "many", "thing"] (spRow) := by
  refine cal_mk (N := N_is_row) d sc_is_row (fun ds G Q h => ?_) (fun _ _ _ _ _ _ us hl => match us, hl with | [_, _, _, _], _ => rfl) (fun f cdv A outer s H E hg hr => ?_)
  · obtain ⟨hs, ws, n, r, rfl, _⟩ := h
    rfl
  · have hu := hu100 hr
    have nd := sc_is_row.nd
    have hA := deeper_guards (env := envOfC "is_row" (defScope s_is_row) s.heap.objs.size f cdv) hg
    refine ⟨_, (dps_cons (dp_if (DW.dt (dw_or (dt_not (dt_val (de_callB cd_isi rfl T.f_isinstance (by decide +kernel) (da_cons (de_var 3) (da_cons (de_ty (T := "tuple") rfl T.f_tuple (by decide +kernel)) da_nil))))) (dw_or1 (dt_not (dt_val (de_callB (cd_all rfl) rfl T.f_all (by decide +kernel) (da_cons (de_lc (own := [("move", 4)]) (p := (.nm 4)) rfl nd (di_tup (de_var 3)) (blkOk_by (by show blkC N_is_row (defScope s_is_row) _ _ = true; decide +kernel)) (by decide) (fun _ _ _ _ _ => pg_name (i := 4) nd rfl (Or.inl rfl)) (fun _ _ _ _ _ => dts_nil) (fun _ _ _ _ _ => (de_cal C_is_move hA (hr.mono (by decide)) (da_cons (de_var 0) (da_cons (de_var 1) (da_cons (de_var 2) (da_cons (de_var 4) da_nil))))))) da_nil)))))))
  (dps_one (dp_ret de_bl))
  dps_nil)
  (dps_one (dp_ret (de_callB (cd_all rfl) rfl T.f_all (by decide +kernel) (da_cons (de_lc (own := [("one", 5), ("other", 6)]) (p := (.tp [5, 6])) rfl nd (di_zipT rfl T.f_zip (da_cons (de_slice (de_var 3) do_none (do_some (de_un ud_neg de_int))) (da_cons (de_slice (de_var 3) (do_some de_int) do_none) da_nil))) (blkOk_by (by show blkC N_is_row (defScope s_is_row) _ _ = true; decide +kernel)) (by decide) (fun _ _ _ _ _ => pg_tup rfl (pgs_cons (pg_name (i := 5) nd rfl (Or.inl rfl)) (pgs_cons (pg_name (i := 6) nd rfl (Or.inl rfl)) pgs_nil))) (fun _ _ _ _ _ => dts_nil) (fun _ _ _ _ _ => (de_cmp (od_lt hu) (de_slice (de_var 5) do_none (do_some de_int)) (de_slice (de_var 6) do_none (do_some de_int)) (nomark _)))) da_nil))))), fun ds G Q h => ?_⟩
    obtain ⟨hs, ws, n, r, rfl, hl, q⟩ := h
    rw [show dstart N_is_row [.str (strOf hs), .str (strOf ws), .int (n : Int), rowD r] = [some (.str (strOf hs)), some (.str (strOf ws)), some (.int (n : Int)), some (rowD r), none, none, none] from rfl]
    simp only [rowD, dxs, dl, dx3, Bool.not_true, Bool.false_eq_true, if_false, true_and]
    refine lc_mapA r Mv.d (fun m => .bl (mvB hs ws n m)) rfl (sz (by omega)) trivial (fun m _ => ⟨_, rfl, fun Q z => ?_⟩) ?_
    · simp only [dxs, dl, dwipe, List.map_cons, List.map_nil]
      exact ⟨hs, ws, n, m, rfl, z⟩
    · rw [all_map]
      simp only
      by_cases ha : r.all (mvB hs ws n) = true
      · rw [if_neg (by simp [ha])]
        rw [cut_last, cut_tail]
        refine lc_mapA (r.dropLast.zip r.tail) (fun p => .tup [Mv.d p.1, Mv.d p.2]) (fun p => .bl (mvLt p.1 p.2)) ?_ (sz (by simp; omega)) trivial (fun p _ => ⟨_, rfl, fun Q z => ?_⟩) ?_
        · rw [← List.map_dropLast, ← List.map_tail, List.zipWith_map, zip_map]
        · simp only [dxs, dl, dx3, dwipe, List.map_cons, List.map_nil, Mv.d, mv_cut, mv_okL, mv_lt, true_and]
          exact z
        · rw [all_map]
          refine ⟨_, Sub.refl _, ?_⟩
          have e : rowB hs ws n r = (r.dropLast.zip r.tail).all fun p => mvLt p.1 p.2 := by
            unfold rowB nbr
            rw [ha, zip_map]
            simp [List.all_map]
          rw [← e]
          exact q
      · rw [if_pos (by simpa using ha)]
        have e : rowB hs ws n r = false := by
          unfold rowB
          simp only [Bool.not_eq_true] at ha
          simp [ha]
        rw [e] at q
        exact ⟨_, Sub.refl _, q⟩
end
section
variable {P : Program} {w : World} {K : PySem.W.Frag} {mg : Str → Option Value} {base : Heap} {C PT cT : Addr}
def spSteps : SpD := fun ds G Q => ∃ (r : List Mv), ds = [rowD r] ∧ r.length ≤ 1000 ∧ mergeDT [] (r.map mvK) = r.map mvK ∧ Q (.dT (r.map mvK)) G
abbrev N_steps_of : List Str := ["row", "sign", "letter", "target"]
theorem sc_steps_of : FnScope N_steps_of ["row"] (defScope s_steps_of) := ⟨rfl, rfl, rfl, by decide +kernel, rfl, by decide +kernel, by decide +kernel⟩
theorem c_steps_of (T : Txt K mg C) (d : Def K mg "steps_of" s_steps_of) : Cal P w K mg base "steps_of" 1 ["row"] (spSteps) := by
  refine cal_mk (N := N_steps_of) d sc_steps_of (fun ds G Q h => ?_) (fun _ _ _ _ _ _ us hl => match us, hl with | [_], _ => rfl) (fun f cdv A outer s H E hg hr => ?_)
  · obtain ⟨r, rfl, _⟩ := h
    rfl
  · have hu := hu100 hr
    have nd := sc_steps_of.nd
    have hA := deeper_guards (env := envOfC "steps_of" (defScope s_steps_of) s.heap.objs.size f cdv) hg
    refine ⟨_, (dps_one (dp_ret (de_callTy (cd_dictT rfl hu) rfl T.f_dict (by decide +kernel) (da_cons (de_lc (own := [("sign", 1), ("letter", 2), ("target", 3)]) (p := (.tp [1, 2, 3])) rfl nd (di_tup (de_var 0)) (blkOk_by (by show blkC N_steps_of (defScope s_steps_of) _ _ = true; decide +kernel)) (by decide) (fun _ _ _ _ _ => pg_tup rfl (pgs_cons (pg_name (i := 1) nd rfl (Or.inl rfl)) (pgs_cons (pg_name (i := 2) nd rfl (Or.inl rfl)) (pgs_cons (pg_name (i := 3) nd rfl (Or.inl rfl)) pgs_nil)))) (fun _ _ _ _ _ => dts_nil) (fun _ _ _ _ _ => (de_tup (da_cons (de_tup (da_cons (de_var 1) (da_cons (de_var 2) da_nil))) (da_cons (de_var 3) da_nil))))) da_nil)))), fun ds G Q h => ?_⟩
    obtain ⟨r, rfl, hl, hm, q⟩ := h
    rw [show dstart N_steps_of [rowD r] = [some (rowD r), none, none, none] from rfl]
    simp only [rowD, dxs, dl]
    refine lc_mapA r Mv.d (fun m => .tup [.tup [.str (sgn m.h), .str (sgn m.c)], .int (m.t : Int)]) rfl (sz (by omega)) trivial (fun m _ => ⟨_, rfl, fun Q z => ?_⟩) ?_
    · simp only [dxs, dl, dwipe, List.map_cons, List.map_nil, Mv.d]
      exact ⟨sz (by simp), sz (by simp), z⟩
    · show (match prsT _ with | some ms => _ | none => False)
      rw [prsT_row]
      refine ⟨_, Sub.refl _, ?_⟩
      rw [hm]
      exact q
end
end Pace
end
section
set_option Elab.async false
set_option linter.all false
set_option maxRecDepth 100000
set_option maxHeartbeats 4000000
namespace Pace
open PySem PySem.Spec PyProof.Rows L2 DL
section
variable {P : Program} {w : World} {K : PySem.W.Frag} {mg : Str → Option Value} {base : Heap} {C PT cT : Addr}
def spInit (C : Addr) : SpD := fun ds G Q => ∃ (y : Addr) (hs ws : List Nat) (rs : List (List Mv)), ds = [.rf y, .str (strOf hs), .str (strOf ws), rowsD rs] ∧ G y = some (.ins C []) ∧ RulV hs ws rs ∧ Q .non (gput G y (.ins C (rulF (mkR hs ws rs))))
abbrev N_Rules_u__init_u_ : List Str := ["self", "heard", "written", "rows", "state", "row"]
theorem sc_Rules_u__init_u_ : FnScope N_Rules_u__init_u_ ["self", "heard", "written", "rows"] (defScope s_Rules_u__init_u_) := ⟨rfl, rfl, rfl, by decide +kernel, rfl, by decide +kernel, by decide +kernel⟩
theorem c_Rules_u__init_u_ (T : Txt K mg C) (d : DefI K C "Rules.__init__" s_Rules_u__init_u_) (C_are_letters : Cal P w K mg base "are_letters" 1 ["thing"] (spLetters)) (C_is_row : Cal P w K mg base "is_row" 3 ["heard", "written", "many", "thing"] (spRow)) (C_steps_of : Cal P w K mg base "steps_of" 1 ["row"] (spSteps)) : Mak P w K mg base "Rules" C 4 ["self", "heard", "written", "rows"] (spInit C) := by
  refine mak_mk (N := N_Rules_u__init_u_) d T.mgR sc_Rules_u__init_u_ (fun ds G Q h => ?_) (fun _ _ _ _ _ _ us hl => match us, hl with | [_, _, _, _], _ => rfl) (fun f cdv A outer s H E hg hr => ?_)
  · obtain ⟨y, hs, ws, rs, rfl, _⟩ := h
    rfl
  · have hu := hu100 hr
    have nd := sc_Rules_u__init_u_.nd
    have hA := deeper_guards (env := envOfC "Rules.__init__" (defScope s_Rules_u__init_u_) s.heap.objs.size f cdv) hg
    refine ⟨_, (dps_cons (dp_if (dt_not (dt_val (de_cal C_are_letters hA (hr.mono (by decide)) (da_cons (de_var 1) da_nil))))
  (dps_one dp_never)
  dps_nil)
  (dps_cons (dp_if (dt_not (dt_val (de_cal C_are_letters hA (hr.mono (by decide)) (da_cons (de_var 2) da_nil))))
  (dps_one dp_never)
  dps_nil)
  (dps_cons (dp_if (DW.dt (dw_or (dt_not (dt_val (de_callB cd_isi rfl T.f_isinstance (by decide +kernel) (da_cons (de_var 3) (da_cons (de_ty (T := "tuple") rfl T.f_tuple (by decide +kernel)) da_nil))))) (dw_or1 (dt_not (dt_chain (od_le hu) (od_le hu) de_int (de_callB cd_len rfl T.f_len (by decide +kernel) (da_cons (de_var 3) da_nil)) (de_gint rfl T.c_MOST_STATES))))))
  (dps_one dp_never)
  dps_nil)
  (dps_cons (dp_for PassesOwn.never rfl (di_enumT rfl T.f_enumerate (da_cons (de_var 3) da_nil)) (dg_tup (n := 2) rfl (dgs_cons (dg_name 4 nd) (dgs_cons (dg_name 5 nd) dgs_nil)))
  (dps_one (dp_if (dt_not (dt_val (de_cal C_is_row hA (hr.mono (by decide)) (da_cons (de_var 1) (da_cons (de_var 2) (da_cons (de_callB cd_len rfl T.f_len (by decide +kernel) (da_cons (de_var 3) da_nil)) (da_cons (de_var 5) da_nil)))))))
  (dps_one dp_never)
  dps_nil)))
  (dps_cons (dp_setFld T.clR T.no_heard (de_var 0) (de_var 1))
  (dps_cons (dp_setFld T.clR T.no_written (de_var 0) (de_var 2))
  (dps_cons (dp_setFld T.clR T.no_rows (de_var 0) (de_var 3))
  (dps_one (dp_setFld T.clR T.no_steps (de_var 0) (de_lc (own := [("row", 5)]) (p := (.nm 5)) rfl nd (di_tup (de_var 3)) (blkOk_by (by show blkC N_Rules_u__init_u_ (defScope s_Rules_u__init_u_) _ _ = true; decide +kernel)) (by decide) (fun _ _ _ _ _ => pg_name (i := 5) nd rfl (Or.inl rfl)) (fun _ _ _ _ _ => dts_nil) (fun _ _ _ _ _ => (de_cal C_steps_of hA (hr.mono (by decide)) (da_cons (de_var 5) da_nil))))))))))))), fun ds G Q h => ?_⟩
    obtain ⟨y, hs, ws, rs, rfl, hy, v, q⟩ := h
    rw [show dstart N_Rules_u__init_u_ [.rf y, .str (strOf hs), .str (strOf ws), rowsD rs] = [some (.rf y), some (.str (strOf hs)), some (.str (strOf ws)), some (rowsD rs), none, none] from rfl]
    simp only [rowsD, dxs, dl, dx3]
    refine ⟨hs, rfl, v.sh, ?_⟩
    rw [v.lh]
    simp only [dxs, dl, dx3, Bool.not_true, Bool.false_eq_true, if_false]
    refine ⟨ws, rfl, v.sw, ?_⟩
    rw [v.lw]
    simp only [dxs, dl, dx3, Bool.not_true, Bool.false_eq_true, if_false, okL_int, DL.lt_int, true_and, List.length_map]
    have n1 := v.n1
    have n2 := v.n2
    rw [if_pos (by simp; omega), if_neg (by simp; omega)]
    refine ⟨fun i S' G' => ∃ x4 x5, S' = [some (.rf y), some (.str (strOf hs)), some (.str (strOf ws)), some (.tup (rs.map rowD)), x4, x5] ∧ G' = G, ⟨none, none, rfl, rfl⟩, fun _ _ _ _ => trivial, ?_, ?_⟩
    · rintro i S' G' dd ⟨x4, x5, rfl, rfl⟩ hd
      rw [List.getElem?_mapIdx, List.getElem?_map] at hd
      cases er : rs[i]? with
      | none => rw [er] at hd; cases hd
      | some r =>
        rw [er] at hd
        cases hd
        obtain ⟨hr1, hr2⟩ := v.row r (List.mem_of_getElem? er)
        simp only [dxs, dl, dx3, true_and, List.length_map]
        refine ⟨hs, ws, rs.length, r, rfl, hr2, ?_⟩
        rw [hr1]
        exact ⟨_, _, rfl, rfl⟩
    · rintro S' G' ⟨x4, x5, rfl, rfl⟩
      simp only [dxs, dl, hy, pf1, pf2, pf3]
      refine ⟨trivial, by decide, trivial, by decide, trivial, by decide, ?_⟩
      refine lc_mapA rs rowD (fun r => .dT (r.map mvK)) rfl (sz (by omega)) trivial (fun r hr => ⟨_, rfl, fun Q z => ?_⟩) ?_
      · obtain ⟨hr1, hr2⟩ := v.row r hr
        simp only [dxs, dl, dwipe, List.map_cons, List.map_nil]
        exact ⟨r, rfl, hr2, merge_rowB hr1, z⟩
      · simp only [dxs, dl, gput_gput, pf4]
        exact ⟨trivial, by decide, _, Sub.refl _, q⟩
end
end Pace
end
section
set_option Elab.async false
set_option linter.all false
set_option maxRecDepth 100000
set_option maxHeartbeats 4000000
namespace Pace
open PySem PySem.Spec PyProof.Rows L2 DL
section
variable {P : Program} {w : World} {K : PySem.W.Frag} {mg : Str → Option Value} {base : Heap} {C PT cT : Addr}
def spMade (C : Addr) : SpD := fun ds G Q => ∃ (hs ws : List Nat) (rs : List (List Mv)), ds = [wD hs ws rs] ∧ RulV hs ws rs ∧ Q (rulD C (mkR hs ws rs)) G
abbrev N__law_made : List Str := ["_law_w"]
theorem sc__law_made : FnScope N__law_made ["_law_w"] (defScope s__law_made) := ⟨rfl, rfl, rfl, by decide +kernel, rfl, by decide +kernel, by decide +kernel⟩
theorem c__law_made (T : Txt K mg C) (d : Def K mg "_law_made" s__law_made) (M_Rules : Mak P w K mg base "Rules" C 4 ["self", "heard", "written", "rows"] (spInit C)) : Cal P w K mg base "_law_made" 6 ["_law_w"] (spMade C) := by
  refine cal_mk (N := N__law_made) d sc__law_made (fun ds G Q h => ?_) (fun _ _ _ _ _ _ us hl => match us, hl with | [_], _ => rfl) (fun f cdv A outer s H E hg hr => ?_)
  · obtain ⟨hs, ws, rs, rfl, _⟩ := h
    rfl
  · have hu := hu100 hr
    have nd := sc__law_made.nd
    have hA := deeper_guards (env := envOfC "_law_made" (defScope s__law_made) s.heap.objs.size f cdv) hg
    refine ⟨_, (dps_one (dp_ret (de_mak M_Rules hA (hr.mono (by decide)) (da_cons (de_ix hu (de_var 0) de_str) (da_cons (de_ix hu (de_var 0) de_str) (da_cons (de_ix hu (de_var 0) de_str) da_nil)))))), fun ds G Q h => ?_⟩
    obtain ⟨hs, ws, rs, rfl, v, q⟩ := h
    rw [show dstart N__law_made [wD hs ws rs] = [some (wD hs ws rs)] from rfl]
    simp only [dxs, dl, wD_cur, wD_heard, wD_written, wD_rows]
    intro y hy
    refine ⟨y, hs, ws, rs, rfl, gput_same, v, ?_⟩
    simp only [dxs, dl, gput_gput, MO.cold, gdel_gput hy]
    exact ⟨_, Sub.refl _, q⟩
end
end Pace
end
section
set_option Elab.async false
set_option linter.all false
set_option maxRecDepth 100000
set_option maxHeartbeats 4000000
namespace Pace
open PySem PySem.Spec PyProof.Rows L2 DL
section
variable {P : Program} {w : World} {K : PySem.W.Frag} {mg : Str → Option Value} {base : Heap} {C PT cT : Addr}
def spBehind (C : Addr) : SpD := fun ds G Q => ∃ (R : Rul) (ss : List Nat) (c : Nat), ds = [rulD C R, .tup (natsD ss), .str (sgn c)] ∧ R.Ok ∧ (∀ s ∈ ss, s < R.rows.length) ∧ R.rows.length < 64 ∧
  Q (.tup (natsD (behind R.rows ss c))) G
abbrev N_states_behind : List Str := ["rules", "states", "letter", "found", "state", "sign", "written", "target"]
theorem sc_states_behind : FnScope N_states_behind ["rules", "states", "letter"] (defScope s_states_behind) := ⟨rfl, rfl, rfl, by decide +kernel, rfl, by decide +kernel, by decide +kernel⟩
theorem c_states_behind (T : Txt K mg C) (d : Def K mg "states_behind" s_states_behind) : Cal P w K mg base "states_behind" 1 ["rules", "states", "letter"] (spBehind C) := by
  refine cal_mk (N := N_states_behind) d sc_states_behind (fun ds G Q h => ?_) (fun _ _ _ _ _ _ us hl => match us, hl with | [_, _, _], _ => rfl) (fun f cdv A outer s H E hg hr => ?_)
  · obtain ⟨R, ss, c, rfl, _⟩ := h
    rfl
  · have hu := hu100 hr
    have nd := sc_states_behind.nd
    have hA := deeper_guards (env := envOfC "states_behind" (defScope s_states_behind) s.heap.objs.size f cdv) hg
    refine ⟨_, (dps_cons (dp_asg de_newK (dg_name 3 nd))
  (dps_cons (dp_for PassesOwn.never rfl (di_tup (de_var 1)) (dg_name 4 nd)
  (dps_one (dp_for PassesOwn.never rfl (di_tup (de_ix hu (de_fld T.clR T.no_rows (de_var 0)) (de_var 4))) (dg_tup (n := 3) rfl (dgs_cons (dg_name 5 nd) (dgs_cons (dg_name 6 nd) (dgs_cons (dg_name 7 nd) dgs_nil))))
  (dps_one (dp_if (dt_cmp (od_eq hu) (de_var 5) (de_var 2) (nomark _))
  (dps_one (dp_asg de_bl (dg_sub hu (de_var 3) (de_var 7))))
  dps_nil)))))
  (dps_one (dp_ret (de_callTy cd_tuple rfl T.f_tuple (by decide +kernel) (da_cons (de_callB (cd_sorted hu rfl) rfl T.f_sorted (by decide +kernel) (da_cons (de_var 3) da_nil)) da_nil)))))), fun ds G Q h => ?_⟩
    obtain ⟨R, ss, c, rfl, ok, hs, h64, q⟩ := h
    intro p hp
    -- for state in states
    refine ⟨fun i S' G' => ∃ st sg wr tg ks, S' = [some (rulD C R), some (.tup (natsD ss)), some (.str (sgn c)), some (.rf p), st, sg, wr, tg] ∧
      G' = gput G p (.dK (kds ks)) ∧ ks = ((ss.take i).flatMap fun s => hits R.rows s c).foldl addF [] ∧ ks.Nodup ∧ ∀ k ∈ ks, k < R.rows.length,
      ⟨none, none, none, none, [], rfl, rfl, rfl, by simp, by simp⟩, fun _ _ _ _ => trivial, ?_, ?_⟩
    · rintro i S' G' dd ⟨st, sg, wr, tg, ks, rfl, rfl, hks, hnd, hlt⟩ hd
      obtain ⟨s0, hs0, rfl⟩ := natsD_get hd
      have hsl : s0 < R.rows.length := hs s0 (List.mem_of_getElem? hs0)
      obtain ⟨row, hrow⟩ : ∃ row, R.rows[s0]? = some row := ⟨_, List.getElem?_eq_getElem hsl⟩
      have hrok := ok.at_ row (List.mem_of_getElem? hrow)
      -- for sign, written, target in rules.rows[state]
      have e1 : D.item (rowsD R.rows) (.int (s0 : Int)) = some (rowD row) := by
        exact atI_nat (by rw [List.getElem?_map, hrow]; rfl)
      have e2 : ∀ G0, D.cur G0 (rowsD R.rows) = rowsD R.rows := fun _ => rfl
      simp only [dxs, dl, rulD, rulF_rows, e2, e1, true_and, rowD]
      refine ⟨fun j S' G' => ∃ sg wr tg ks, S' = [some (rulD C R), some (.tup (natsD ss)), some (.str (sgn c)), some (.rf p), some (.int (s0 : Int)), sg, wr, tg] ∧
        G' = gput G p (.dK (kds ks)) ∧ ks = (((ss.take i).flatMap fun s => hits R.rows s c) ++ ((row.take j).filter fun m => m.h == c).map (·.t)).foldl addF [] ∧ ks.Nodup ∧ ∀ k ∈ ks, k < R.rows.length,
        ⟨sg, wr, tg, ks, rfl, rfl, by rw [hks]; simp, hnd, hlt⟩, fun _ _ _ _ => trivial, ?_, ?_⟩
      · clear hks hnd hlt
        rintro j S' G' dd ⟨sg, wr, tg, ks, rfl, rfl, hks, hnd, hlt⟩ hd2
        rw [List.getElem?_map] at hd2
        cases hm : row[j]? with
        | none => rw [hm] at hd2; cases hd2
        | some m =>
          rw [hm] at hd2
          cases hd2
          have htk : row.take (j + 1) = row.take j ++ [m] := by rw [List.take_add_one, hm]; rfl
          have hmt : m.t < R.rows.length := hrok.2 m (List.mem_of_getElem? hm)
          simp only [Mv.d, dxs, dl, true_and, okE_str, eqv_str, sgn_beq]
          by_cases hc : m.h = c
          · simp only [hc, beq_self_eq_true, if_true, D.key, kds_put, gput_gput]
            refine ⟨?_, _, _, _, addF ks m.t, rfl, rfl, ?_, addF_nodup hnd, addF_lt hlt hmt⟩
            · have := nodup_lt_len hnd hlt
              simp only [kds, List.length_map]
              unfold sizeLine
              omega
            · rw [htk, hks, List.filter_append, List.map_append, ← List.append_assoc, List.foldl_append]
              simp [hc, hks]
          · have hb : (m.h == c) = false := by simp [hc]
            simp only [hb, Bool.false_eq_true, if_false]
            refine ⟨_, _, _, ks, rfl, rfl, ?_, hnd, hlt⟩
            rw [htk, hks, List.filter_append, List.map_append]
            simp [hc]
      · rintro S' G' ⟨sg, wr, tg, ks, rfl, rfl, hks, hnd, hlt⟩
        refine ⟨_, _, _, _, ks, rfl, rfl, ?_, hnd, hlt⟩
        rw [hks, List.length_map, List.take_length]
        have e3 : ss.take (i + 1) = ss.take i ++ [s0] := by rw [List.take_add_one, hs0]; rfl
        rw [e3, List.flatMap_append]
        have e4 : R.rows.getD s0 [] = row := by simp [List.getD, hrow]
        have e6 : hits R.rows s0 c = (row.filter fun m => m.h == c).map (·.t) := by unfold hits; rw [e4]
        simp [e6]
    · rintro S' G' ⟨st, sg, wr, tg, ks, rfl, rfl, hks, hnd, hlt⟩
      simp only [dxs, dl, rSortD, kds_ints]
      refine ⟨?_, ?_⟩
      · have := nodup_lt_len hnd hlt
        simp; omega
      · simp only [dxs, dl, rTupleD]
        rw [isort_nat]
        refine ⟨G, sub_new hp rfl, ?_⟩
        have e5 : nsort ks = behind R.rows ss c := by
          unfold behind firstsF
          rw [hks]
          have : (natsD ss).length = ss.length := by simp [natsD]
          rw [this, List.take_length]
        rw [e5]
        exact q
end
section
variable {P : Program} {w : World} {K : PySem.W.Frag} {mg : Str → Option Value} {base : Heap} {C PT cT : Addr}
def spReached (C : Addr) : SpD := fun ds G Q => ∃ (R : Rul) (s : Nat) (cs : List Nat), ds = [rulD C R, .int (s : Int), .str (strOf cs)] ∧ R.Ok ∧ s < R.rows.length ∧ R.rows.length < 64 ∧
  Q (.tup (natsD (run R.rows [s] cs))) G
abbrev N_reached : List Str := ["rules", "state", "speech", "found", "letter"]
theorem sc_reached : FnScope N_reached ["rules", "state", "speech"] (defScope s_reached) := ⟨rfl, rfl, rfl, by decide +kernel, rfl, by decide +kernel, by decide +kernel⟩
theorem c_reached (T : Txt K mg C) (d : Def K mg "reached" s_reached) (C_states_behind : Cal P w K mg base "states_behind" 1 ["rules", "states", "letter"] (spBehind C)) : Cal P w K mg base "reached" 2 ["rules", "state", "speech"] (spReached C) := by
  refine cal_mk (N := N_reached) d sc_reached (fun ds G Q h => ?_) (fun _ _ _ _ _ _ us hl => match us, hl with | [_, _, _], _ => rfl) (fun f cdv A outer s H E hg hr => ?_)
  · obtain ⟨R, s, cs, rfl, _⟩ := h
    rfl
  · have hu := hu100 hr
    have nd := sc_reached.nd
    have hA := deeper_guards (env := envOfC "reached" (defScope s_reached) s.heap.objs.size f cdv) hg
    refine ⟨_, (dps_cons (dp_asg (de_tup (da_cons (de_var 1) da_nil)) (dg_name 3 nd))
  (dps_cons (dp_for PassesOwn.never rfl (di_str (de_var 2)) (dg_name 4 nd)
  (dps_one (dp_asg (de_cal C_states_behind hA (hr.mono (by decide)) (da_cons (de_var 0) (da_cons (de_var 3) (da_cons (de_var 4) da_nil)))) (dg_name 3 nd))))
  (dps_one (dp_ret (de_var 3))))), fun ds G Q h => ?_⟩
    obtain ⟨R, s0, cs, rfl, ok, hs, h64, q⟩ := h
    refine ⟨sz (by simp), ?_⟩
    refine ⟨fun i S' G' => ∃ l, S' = [some (rulD C R), some (.int (s0 : Int)), some (.str (strOf cs)), some (.tup (natsD (run R.rows [s0] (cs.take i)))), l] ∧ G' = G,
      ⟨none, by simp [run]; rfl, rfl⟩, fun _ _ _ _ => trivial, ?_, ?_⟩
    · rintro i S' G' dd ⟨l, rfl, rfl⟩ hd
      obtain ⟨c, hc, rfl⟩ := signs_get hd
      simp only [dxs, dl]
      have hlt : ∀ k ∈ run R.rows [s0] (cs.take i), k < R.rows.length := run_lt (fun r hr => (ok.at_ r hr).2) (by simpa using hs)
      refine ⟨R, _, c, rfl, ok, hlt, h64, ?_⟩
      refine ⟨some (.str (sgn c)), ?_, rfl⟩
      have e : cs.take (i + 1) = cs.take i ++ [c] := by rw [List.take_add_one, hc]; rfl
      rw [e, run_snoc]
    · rintro S' G' ⟨l, rfl, rfl⟩
      simp only [dxs, dl]
      refine ⟨_, Sub.refl _, ?_⟩
      rw [signs_len, List.take_length]
      exact q
end
section
variable {P : Program} {w : World} {K : PySem.W.Frag} {mg : Str → Option Value} {base : Heap} {C PT cT : Addr}
def spMute (C : Addr) : SpD := fun ds G Q => ∃ (R : Rul) (hs : List Nat), ds = [rulD C R] ∧ R.Ok ∧ R.heard = strOf hs ∧ 0 < R.rows.length ∧ R.rows.length ≤ 10 ∧
  Q (pageD (muteOf R.rows hs)) G
abbrev N_mute : List Str := ["rules", "order", "speeches", "at", "here", "letter", "behind"]
theorem sc_mute : FnScope N_mute ["rules"] (defScope s_mute) := ⟨rfl, rfl, rfl, by decide +kernel, rfl, by decide +kernel, by decide +kernel⟩
theorem c_mute (T : Txt K mg C) (d : Def K mg "mute" s_mute) (C_states_behind : Cal P w K mg base "states_behind" 1 ["rules", "states", "letter"] (spBehind C)) : Cal P w K mg base "mute" 2 ["rules"] (spMute C) := by
  refine cal_mk (N := N_mute) d sc_mute (fun ds G Q h => ?_) (fun _ _ _ _ _ _ us hl => match us, hl with | [_], _ => rfl) (fun f cdv A outer s H E hg hr => ?_)
  · obtain ⟨R, hs, rfl, _⟩ := h
    rfl
  · have hu := hu100 hr
    have nd := sc_mute.nd
    have hA := deeper_guards (env := envOfC "mute" (defScope s_mute) s.heap.objs.size f cdv) hg
    refine ⟨_, (dps_cons (dp_asg (de_lstM (da_cons (de_tup (da_cons de_int da_nil)) da_nil)) (dg_name 1 nd))
  (dps_cons (dp_asg (de_dispT hu (de_tup (da_cons de_int da_nil)) de_str) (dg_name 2 nd))
  (dps_cons (dp_asg de_int (dg_name 3 nd))
  (dps_cons (dp_while PassesOwn.never (dt_cmp (od_lt hu) (de_var 3) (de_callB cd_len rfl T.f_len (by decide +kernel) (da_cons (de_var 1) da_nil)) (nomark _))
  (dps_cons (dp_asg (de_ix hu (de_var 1) (de_var 3)) (dg_name 4 nd))
  (dps_cons (dp_aug (i := 3) nd ip_add de_int)
  (dps_one (dp_for PassesOwn.never rfl (di_str (de_fld T.clR T.no_heard (de_var 0))) (dg_name 5 nd)
  (dps_cons (dp_asg (de_cal C_states_behind hA (hr.mono (by decide)) (da_cons (de_var 0) (da_cons (de_var 4) (da_cons (de_var 5) da_nil)))) (dg_name 6 nd))
  (dps_cons (dp_if (dt_cmp (od_eq hu) (de_var 6) (de_tup da_nil) (nomark _))
  (dps_one (dp_ret (de_op od_add (de_ix hu (de_var 2) (de_var 4)) (de_var 5))))
  dps_nil)
  (dps_one (dp_if (dt_cmp (od_notIn hu) (de_var 6) (de_var 2) (by rfl))
  (dps_cons (dp_asg (de_op od_add (de_ix hu (de_var 2) (de_var 4)) (de_var 5)) (dg_sub hu (de_var 2) (de_var 6)))
  (dps_one (dp_expr (de_bm PySem.F.plainAttrs_list PySem.F.slot_list_append PySem.F.type_list_append md_append (de_var 1) (da_cons (de_var 6) da_nil)))))
  dps_nil)))))))))
  (dps_one (dp_ret de_non)))))), fun ds G Q h => ?_⟩
    obtain ⟨R, hs, rfl, ok, hh, h0, h10, q⟩ := h
    have tl : ∀ r ∈ R.rows, ∀ m ∈ r, m.t < R.rows.length := fun r hr => (ok.at_ r hr).2
    have hB : 2 ^ R.rows.length ≤ 1024 := Nat.pow_le_pow_right (by decide) h10
    rw [show dstart N_mute [rulD C R] = [some (rulD C R), none, none, none, none, none, none] from rfl]
    simp only [dxs, dl, dx2, D.keys, D.key]
    refine ⟨sz (by simp), sz (by simp), fun p hp => ⟨sz (by simp), fun z hz => ?_⟩⟩
    have hzp : z ≠ p := fun e => by rw [e, gput_same] at hz; cases hz
    have hpz : p ≠ z := fun e => hzp e.symm
    have hz' : G z = none := by rw [gput_ne hzp] at hz; exact hz
    have np : ∀ G0 o, gput G0 z o p = G0 p := fun _ _ => gput_ne hpz
    refine ⟨fun m S' G' => ∃ (at_ : Nat) (ord : Ord) (x4 x5 x6 : Option D), m = 2 ^ R.rows.length - at_ ∧ S' = [some (rulD C R), some (.rf p), some (.rf z), some (.int (at_ : Int)), x4, x5, x6] ∧
      G' = gput (gput G p (.lst (ordL ord))) z (.dT (ordT ord)) ∧ OrdOk R.rows hs ord ∧ bfs R.rows hs (2 ^ R.rows.length - at_) at_ ord = muteOf R.rows hs,
      ⟨_, 0, [([0], [])], none, none, none, rfl, rfl, rfl, .start h0, rfl⟩, ?_⟩
    rintro m S' G' ⟨at_, ord, x4, x5, x6, rfl, rfl, rfl, oo, hb⟩
    have ol := oo.len
    simp only [dxs, dl, np, rLenD, D.len, okL_int, DL.lt_int, true_and, ordL_len]
    by_cases hat : at_ < ord.length
    · rw [if_pos (by simpa using hat)]
      obtain ⟨here, hhere⟩ : ∃ x, ord[at_]? = some x := ⟨_, List.getElem?_eq_getElem hat⟩
      obtain ⟨f, hf⟩ : ∃ f, 2 ^ R.rows.length - at_ = f + 1 := ⟨2 ^ R.rows.length - at_ - 1, by omega⟩
      rw [hf] at hb
      unfold bfs at hb
      rw [hhere] at hb
      simp only at hb
      simp only [dxs, dl, np, item_lst, ordL_at hhere, rulD, rulF_heard, true_and, hh]
      refine ⟨fun j S' G' => ∃ (ord' : Ord) (x5 x6 : Option D), S' = [some (rulD C R), some (.rf p), some (.rf z), some (.int ((at_ : Int) + 1)), some (.tup (natsD here.1)), x5, x6] ∧
        G' = gput (gput G p (.lst (ordL ord'))) z (.dT (ordT ord')) ∧ OrdOk R.rows hs ord' ∧ ord'[at_]? = some here ∧ stepL R.rows here ord hs = stepL R.rows here ord' (hs.drop j),
        ⟨ord, x5, x6, rfl, rfl, oo, hhere, by simp⟩, fun _ _ _ _ => trivial, ?_, ?_⟩
      · rintro j S' G' dd ⟨ord', x5, x6, rfl, rfl, oo', hh', hst⟩ hd
        obtain ⟨c, hc, rfl⟩ := signs_get hd
        have hch : c ∈ hs := List.mem_of_getElem? hc
        have hdr : hs.drop j = c :: hs.drop (j + 1) := by
          obtain ⟨h1, h2⟩ := List.getElem?_eq_some_iff.mp hc
          rw [List.drop_eq_getElem_cons h1, h2]
        rw [hdr, stepL_cons] at hst
        have ol' := oo'.len
        have hl2 := oo'.ln at_ here hh'
        simp only [dxs, dl]
        refine ⟨R, here.1, c, rfl, ok, (oo'.st here (List.mem_of_getElem? hh')).2, by omega, ?_⟩
        simp only [dxs, dl, natsD_okE0, natsD_eqv0, Nat.zero_le, true_and]
        by_cases hbe : behind R.rows here.1 c = []
        · rw [if_pos (by simpa using hbe)]
          rw [if_pos hbe] at hst
          rw [hst] at hb
          simp only [dxs, dl, item_dT, natsD_keys, Option.map_some, Option.join_some, ordT_at oo'.nd hh', rAddD]
          refine ⟨by rw [strOf_len]; exact sz (by simp [sgn, Str.length]; omega), G, sub_new2 hp hz' hzp rfl rfl, ?_⟩
          rw [strOf_sgn]
          rw [← hb] at q
          exact q
        · rw [if_neg (by simpa using hbe)]
          rw [if_neg hbe] at hst
          simp only [dxs, dl, inn_dT, natsD_keys, Option.map_some, ordT_is oo'.nd]
          by_cases hin : behind R.rows here.1 c ∈ ord'.map (·.1)
          · rw [if_pos hin] at hst
            rw [if_neg (by simp [hin])]
            exact ⟨ord', _, _, rfl, rfl, oo', hh', hst⟩
          · rw [if_neg hin] at hst
            rw [if_pos (by simp [hin])]
            simp only [dxs, dl, item_dT, natsD_keys, Option.map_some, Option.join_some, ordT_at oo'.nd hh', rAddD, strOf_sgn, ordT_put hin, gput_gput, np, rAppendD, gput_under hpz, ordL_len, ordT_len, beq_self_eq_true, true_and]
            refine ⟨by rw [strOf_len]; exact sz (by simp [sgn, Str.length]; omega), szl (by omega), szl (by omega), ord' ++ [(behind R.rows here.1 c, here.2 ++ [c])], _, _, rfl, ?_, oo'.add tl hh' hch hbe hin, ?_, hst⟩
            · rw [← ordL_put]
            · rw [List.getElem?_append_left (List.getElem?_eq_some_iff.mp hh').1]; exact hh'
      · rintro S' G' ⟨ord', x5, x6, rfl, rfl, oo', hh', hst⟩
        rw [signs_len, List.drop_length, stepL_nil] at hst
        rw [hst] at hb
        refine ⟨2 ^ R.rows.length - (at_ + 1), by omega, at_ + 1, ord', some (.tup (natsD here.1)), x5, x6, rfl, ?_, rfl, oo', ?_⟩
        · simp [rulD]
        · have : 2 ^ R.rows.length - (at_ + 1) = f := by omega
          rw [this]; exact hb
    · rw [if_neg (by simpa using hat)]
      have hn : muteOf R.rows hs = none := by
        rw [← hb]
        cases e : 2 ^ R.rows.length - at_ with
        | zero => rfl
        | succ f =>
          unfold bfs
          have : ord[at_]? = none := List.getElem?_eq_none (by omega)
          rw [this]
      refine ⟨G, sub_new2 hp hz' hzp rfl rfl, ?_⟩
      rw [hn] at q
      exact q
end
end Pace
end
section
set_option Elab.async false
set_option linter.all false
set_option maxRecDepth 100000
set_option maxHeartbeats 4000000
namespace Pace
open PySem PySem.Spec PyProof.Rows L2 DL
section
variable {P : Program} {w : World} {K : PySem.W.Frag} {mg : Str → Option Value} {base : Heap} {C PT cT : Addr}
def spFull (C : Addr) : SpD := fun ds G Q => ∃ (R : Rul) (hs : List Nat), ds = [rulD C R] ∧ R.Ok ∧ R.heard = strOf hs ∧ 0 < R.rows.length ∧ R.rows.length ≤ 10 ∧ muteOf R.rows hs = none ∧ Q .non G
abbrev N_check_full : List Str := ["rules", "speech"]
theorem sc_check_full : FnScope N_check_full ["rules"] (defScope s_check_full) := ⟨rfl, rfl, rfl, by decide +kernel, rfl, by decide +kernel, by decide +kernel⟩
theorem c_check_full (T : Txt K mg C) (d : Def K mg "check_full" s_check_full) (C_mute : Cal P w K mg base "mute" 2 ["rules"] (spMute C)) : Cal P w K mg base "check_full" 3 ["rules"] (spFull C) := by
  refine cal_mk (N := N_check_full) d sc_check_full (fun ds G Q h => ?_) (fun _ _ _ _ _ _ us hl => match us, hl with | [_], _ => rfl) (fun f cdv A outer s H E hg hr => ?_)
  · obtain ⟨R, hs, rfl, _⟩ := h
    rfl
  · have hu := hu100 hr
    have nd := sc_check_full.nd
    have hA := deeper_guards (env := envOfC "check_full" (defScope s_check_full) s.heap.objs.size f cdv) hg
    refine ⟨_, (dps_cons (dp_asg (de_cal C_mute hA (hr.mono (by decide)) (da_cons (de_var 0) da_nil)) (dg_name 1 nd))
  (dps_one (dp_if (dt_cmp od_notN (de_var 1) de_non (nomark _))
  (dps_one dp_never)
  dps_nil))), fun ds G Q h => ?_⟩
    obtain ⟨R, hs, rfl, ok, hh, h0, h10, hm, q⟩ := h
    rw [show dstart N_check_full [rulD C R] = [some (rulD C R), none] from rfl]
    simp only [dxs, dl]
    refine ⟨R, hs, rfl, ok, hh, h0, h10, ?_⟩
    rw [hm]
    exact ⟨G, Sub.refl _, q⟩
end
end Pace
end
section
set_option Elab.async false
set_option linter.all false
set_option maxRecDepth 100000
set_option maxHeartbeats 4000000
namespace Pace
open PySem PySem.Spec PyProof.Rows L2 DL
section
variable {P : Program} {w : World} {K : PySem.W.Frag} {mg : Str → Option Value} {base : Heap} {C PT cT : Addr}
def spRLen (C : Addr) : SpD := fun ds G Q => ∃ R : Rul, ds = [rulD C R] ∧ R.Ok ∧ Q (.int (R.rows.length : Nat)) G
abbrev N_Rules_u__len_u_ : List Str := ["self"]
theorem sc_Rules_u__len_u_ : FnScope N_Rules_u__len_u_ ["self"] (defScope s_Rules_u__len_u_) := ⟨rfl, rfl, rfl, by decide +kernel, rfl, by decide +kernel, by decide +kernel⟩
theorem c_Rules_u__len_u_ (T : Txt K mg C) (d : DefM K C "__len__" "Rules.__len__" s_Rules_u__len_u_) : CalM P w K mg base C "__len__" 1 ["self"] (spRLen C) := by
  refine calM_mk (N := N_Rules_u__len_u_) d sc_Rules_u__len_u_ (fun ds G Q h => ?_) (fun _ _ _ _ _ _ us hl => match us, hl with | [_], _ => rfl) (fun f cdv A outer s H E hg hr => ?_)
  · obtain ⟨R, rfl, _⟩ := h
    rfl
  · have hu := hu100 hr
    have nd := sc_Rules_u__len_u_.nd
    have hA := deeper_guards (env := envOfC "Rules.__len__" (defScope s_Rules_u__len_u_) s.heap.objs.size f cdv) hg
    refine ⟨_, (dps_one (dp_ret (de_callB cd_len rfl T.f_len (by decide +kernel) (da_cons (de_fld T.clR T.no_rows (de_var 0)) da_nil)))), fun ds G Q h => ?_⟩
    obtain ⟨R, rfl, ok, q⟩ := h
    rw [show dstart N_Rules_u__len_u_ [rulD C R] = [some (rulD C R)] from rfl]
    have fewR := ok.few
    have e0 : ∀ (G : GH), D.cur G (.obj C (rulF R)) = .obj C (rulF R) := fun _ => rfl
    simp only [dxs, dl, rulD, e0, rulF_rows, rows_len_]
    exact ⟨trivial, G, Sub.refl _, q⟩
end
section
variable {P : Program} {w : World} {K : PySem.W.Frag} {mg : Str → Option Value} {base : Heap} {C PT cT : Addr}
def spTClass (C : Addr) : SpD := fun ds G Q => ∃ (R : Rul) (cs : List Nat), ds = [rulD C R, .str (strOf cs)] ∧ R.Ok ∧ R.rows.length < 64 ∧ Q (classD R.rows cs) G
abbrev N_text_class : List Str := ["rules", "text", "state"]
theorem sc_text_class : FnScope N_text_class ["rules", "text"] (defScope s_text_class) := ⟨rfl, rfl, rfl, by decide +kernel, rfl, by decide +kernel, by decide +kernel⟩
theorem c_text_class (T : Txt K mg C) (d : Def K mg "text_class" s_text_class) (C_reached : Cal P w K mg base "reached" 2 ["rules", "state", "speech"] (spReached C)) (Mm__u_len_u_ : CalM P w K mg base C "__len__" 1 ["self"] (spRLen C)) : Cal P w K mg base "text_class" 3 ["rules", "text"] (spTClass C) := by
  refine cal_mk (N := N_text_class) d sc_text_class (fun ds G Q h => ?_) (fun _ _ _ _ _ _ us hl => match us, hl with | [_, _], _ => rfl) (fun f cdv A outer s H E hg hr => ?_)
  · obtain ⟨R, cs, rfl, _⟩ := h
    rfl
  · have hu := hu100 hr
    have nd := sc_text_class.nd
    have hA := deeper_guards (env := envOfC "text_class" (defScope s_text_class) s.heap.objs.size f cdv) hg
    refine ⟨_, (dps_one (dp_ret (de_callTy cd_tuple rfl T.f_tuple (by decide +kernel) (da_cons (de_lc (own := [("state", 2)]) (p := (.nm 2)) rfl nd (di_range1 rfl T.f_range (da_cons (de_callB (cd_lenO Mm__u_len_u_ hA (hr.mono (by decide))) rfl T.f_len (by decide +kernel) (da_cons (de_var 0) da_nil)) da_nil)) (blkOk_by (by show blkC N_text_class (defScope s_text_class) _ _ = true; decide +kernel)) (by decide) (fun _ _ _ _ _ => pg_name (i := 2) nd rfl (Or.inl rfl)) (fun _ _ _ _ _ => dts_nil) (fun _ _ _ _ _ => (de_cal C_reached hA (hr.mono (by decide)) (da_cons (de_var 0) (da_cons (de_var 2) (da_cons (de_var 1) da_nil)))))) da_nil)))), fun ds G Q h => ?_⟩
    obtain ⟨R, cs, rfl, ok, h64, q⟩ := h
    rw [show dstart N_text_class [rulD C R, .str (strOf cs)] = [some (rulD C R), some (.str (strOf cs)), none] from rfl]
    simp only [dxs, dl]
    have fewR := ok.few
    refine And.intro rfl ⟨R, rfl, ok, by omega, by omega, by omega, by omega, ?_⟩
    refine lc_mapA (List.range R.rows.length) (fun (i : Nat) => .int (i : Int)) (fun (i : Nat) => .tup (natsD (run R.rows [i] cs))) (by rw [Int.toNat_natCast]) (sz (by simp; omega)) trivial (fun i hi => ⟨_, rfl, fun Q z => ?_⟩) ?_
    · simp only [dxs, dl, dwipe, List.map_cons, List.map_nil]
      exact ⟨R, i, cs, rfl, ok, List.mem_range.mp hi, h64, z⟩
    · simp only [rTupleD, dxs]
      have e : D.tup ((List.range R.rows.length).map fun (i : Nat) => .tup (natsD (run R.rows [i] cs))) = classD R.rows cs := by
        unfold classD classOf
        rw [List.map_map]
        rfl
      rw [e]
      exact ⟨G, Sub.refl _, q⟩
end
end Pace
end
section
set_option Elab.async false
set_option linter.all false
set_option maxRecDepth 100000
set_option maxHeartbeats 4000000
namespace Pace
open PySem PySem.Spec PyProof.Rows L2 DL
section
variable {P : Program} {w : World} {K : PySem.W.Frag} {mg : Str → Option Value} {base : Heap} {C PT cT : Addr}
def spClass (C : Addr) : SpD := fun ds G Q => ∃ (R : Rul) (hs cs : List Nat), ds = [rulD C R, .str (strOf cs)] ∧ R.Ok ∧ R.heard = strOf hs ∧ 0 < R.rows.length ∧ R.rows.length ≤ 10 ∧ muteOf R.rows hs = none ∧ Q (classD R.rows cs) G
abbrev N_class_of : List Str := ["rules", "text"]
theorem sc_class_of : FnScope N_class_of ["rules", "text"] (defScope s_class_of) := ⟨rfl, rfl, rfl, by decide +kernel, rfl, by decide +kernel, by decide +kernel⟩
theorem c_class_of (T : Txt K mg C) (d : Def K mg "class_of" s_class_of) (C_check_full : Cal P w K mg base "check_full" 3 ["rules"] (spFull C)) (C_text_class : Cal P w K mg base "text_class" 3 ["rules", "text"] (spTClass C)) : Cal P w K mg base "class_of" 4 ["rules", "text"] (spClass C) := by
  refine cal_mk (N := N_class_of) d sc_class_of (fun ds G Q h => ?_) (fun _ _ _ _ _ _ us hl => match us, hl with | [_, _], _ => rfl) (fun f cdv A outer s H E hg hr => ?_)
  · obtain ⟨R, hs, cs, rfl, _⟩ := h
    rfl
  · have hu := hu100 hr
    have nd := sc_class_of.nd
    have hA := deeper_guards (env := envOfC "class_of" (defScope s_class_of) s.heap.objs.size f cdv) hg
    refine ⟨_, (dps_cons (dp_expr (de_cal C_check_full hA (hr.mono (by decide)) (da_cons (de_var 0) da_nil)))
  (dps_one (dp_ret (de_cal C_text_class hA (hr.mono (by decide)) (da_cons (de_var 0) (da_cons (de_var 1) da_nil)))))), fun ds G Q h => ?_⟩
    obtain ⟨R, hs, cs, rfl, ok, hh, h0, h10, hm, q⟩ := h
    rw [show dstart N_class_of [rulD C R, .str (strOf cs)] = [some (rulD C R), some (.str (strOf cs))] from rfl]
    simp only [dxs, dl]
    refine ⟨R, hs, rfl, ok, hh, h0, h10, hm, R, cs, rfl, ok, by omega, ?_⟩
    exact ⟨G, Sub.refl _, q⟩
end
end Pace
end
section
set_option Elab.async false
set_option linter.all false
set_option maxRecDepth 100000
set_option maxHeartbeats 4000000
namespace Pace
open PySem PySem.Spec PyProof.Rows L2 DL
section
variable {P : Program} {w : World} {K : PySem.W.Frag} {mg : Str → Option Value} {base : Heap} {C PT cT : Addr}
def spLonger : SpD := fun ds G Q => ∃ (rs : List (List Mv)) (a b : List Nat), ds = [classD rs a, classD rs b] ∧ (∀ r ∈ rs, ∀ m ∈ r, m.t < rs.length) ∧ rs.length ≤ 7 ∧ Q (classD rs (a ++ b)) G
abbrev N_longer_class : List Str := ["one", "letter_class", "found", "states", "onward", "state"]
theorem sc_longer_class : FnScope N_longer_class ["one", "letter_class"] (defScope s_longer_class) := ⟨rfl, rfl, rfl, by decide +kernel, rfl, by decide +kernel, by decide +kernel⟩
theorem c_longer_class (T : Txt K mg C) (d : Def K mg "longer_class" s_longer_class) : Cal P w K mg base "longer_class" 1 ["one", "letter_class"] (spLonger) := by
  refine cal_mk (N := N_longer_class) d sc_longer_class (fun ds G Q h => ?_) (fun _ _ _ _ _ _ us hl => match us, hl with | [_, _], _ => rfl) (fun f cdv A outer s H E hg hr => ?_)
  · obtain ⟨rs, a, b, rfl, _⟩ := h
    rfl
  · have hu := hu100 hr
    have nd := sc_longer_class.nd
    have hA := deeper_guards (env := envOfC "longer_class" (defScope s_longer_class) s.heap.objs.size f cdv) hg
    refine ⟨_, (dps_cons (dp_asg (de_lstM da_nil) (dg_name 2 nd))
  (dps_cons (dp_for PassesOwn.never rfl (di_tup (de_var 0)) (dg_name 3 nd)
  (dps_cons (dp_asg (de_lstM da_nil) (dg_name 4 nd))
  (dps_cons (dp_for PassesOwn.never rfl (di_tup (de_var 3)) (dg_name 5 nd)
  (dps_one (dp_expr (de_bm PySem.F.plainAttrs_list PySem.F.slot_list_extend PySem.F.type_list_extend md_extT (de_var 4) (da_cons (de_ix hu (de_var 1) (de_var 5)) da_nil)))))
  (dps_one (dp_expr (de_bm PySem.F.plainAttrs_list PySem.F.slot_list_append PySem.F.type_list_append md_append (de_var 2) (da_cons (de_callTy cd_tuple rfl T.f_tuple (by decide +kernel) (da_cons (de_sortSet rfl rfl T.f_sorted rfl T.f_set (de_var 4)) da_nil)) da_nil)))))))
  (dps_one (dp_ret (de_callTy cd_tuple rfl T.f_tuple (by decide +kernel) (da_cons (de_var 2) da_nil)))))), fun ds G Q h => ?_⟩
    obtain ⟨rs, a, b, rfl, tl, n64, z⟩ := h
    rw [show dstart N_longer_class [classD rs a, classD rs b] = [some (classD rs a), some (classD rs b), none, none, none, none] from rfl]
    have eA : classD rs a = .tup ((classOf rs a).map fun ss => .tup (natsD ss)) := rfl
    have cB : ∀ s, s < rs.length → D.item (classD rs b) (.int (s : Int)) = some (.tup (natsD (run rs [s] b))) := fun s hs => by
      refine atI_nat ?_
      unfold classOf
      rw [List.map_map, List.getElem?_map, List.getElem?_range hs]
      rfl
    have ecB : ∀ G : GH, D.cur G (classD rs b) = classD rs b := fun _ => rfl
    simp only [dxs, dl, dx3, eA]
    refine ⟨Nat.zero_le _, fun p hp => ?_⟩
    have cl : (classOf rs a).length = rs.length := by simp [classOf]
    refine ⟨fun i S' G' => ∃ (x3 x4 x5 : Option D), S' = [some (.tup ((classOf rs a).map fun ss => .tup (natsD ss))), some (classD rs b), some (.rf p), x3, x4, x5] ∧ Sub G G' ∧ G' p = some (.lst ((((classOf rs a).take i).map fun ss => run rs ss b).map fun ss => D.tup (natsD ss))),
      ⟨_, _, _, rfl, sub_new hp rfl, gput_same⟩, fun _ _ _ _ => trivial, ?_, ?_⟩
    · rintro i S' G1 d ⟨x3, x4, x5, rfl, sb, gp⟩ hd
      obtain ⟨ss, hss, rfl⟩ := map_get hd
      obtain ⟨s0, hs0, ess⟩ : ∃ s0, s0 < rs.length ∧ ss = run rs [s0] a := by
        unfold classOf at hss
        obtain ⟨s0, h0, e0⟩ := List.mem_map.mp (List.mem_of_getElem? hss)
        exact ⟨s0, List.mem_range.mp h0, e0.symm⟩
      have so : ss.Pairwise (· < ·) := by rw [ess]; exact run_sorted a
      have lt : ∀ s ∈ ss, s < rs.length := by
        rw [ess]
        exact run_lt tl (by simpa using hs0)
      have sl : ss.length ≤ rs.length := nodup_lt_len (so.imp fun h => by omega) lt
      have rb : ∀ s, s < rs.length → (run rs [s] b).length ≤ rs.length := fun s hs => nodup_lt_len ((run_sorted b).imp fun h => by omega) (run_lt tl (by simpa using hs))
      simp only [dxs, dl, dx3]
      refine ⟨Nat.zero_le _, fun r hr => ?_⟩
      have pr : p ≠ r := fun e => by rw [← e, gp] at hr; cases hr
      have hGr : G r = none := by
        cases e : G r with
        | none => rfl
        | some u => rw [sb.le _ _ e] at hr; cases hr
      have gW : ∀ Y Z : MO, gput (gput G1 r Y) r Z = gput G1 r Z := fun _ _ => gput_gput
      have gR : ∀ Y : MO, gput G1 r Y r = some Y := fun _ => gput_same
      have gP : ∀ Y : MO, gput G1 r Y p = some (.lst ((((classOf rs a).take i).map fun ss => run rs ss b).map fun ss => D.tup (natsD ss))) := fun Y => by rw [gput_ne pr]; exact gp
      refine ⟨fun j S' G' => ∃ (x5 : Option D), S' = [some (.tup ((classOf rs a).map fun ss => .tup (natsD ss))), some (classD rs b), some (.rf p), some (.tup (natsD ss)), some (.rf r), x5] ∧ G' = gput G1 r (.lst (natsD ((ss.take j).flatMap fun s => run rs [s] b))) ∧ ((ss.take j).flatMap fun s => run rs [s] b).length ≤ 7 * j,
        ⟨_, rfl, rfl, Nat.le_refl _⟩, fun _ _ _ _ => trivial, ?_, ?_⟩
      · rintro j S' G' d ⟨x5, rfl, rfl, lj⟩ hd
        obtain ⟨s, hs, rfl⟩ := natsD_get hd
        have jl := (List.getElem?_eq_some_iff.mp hs).1
        have sl' := lt s (List.mem_of_getElem? hs)
        have rbs := rb s sl'
        have ef : (ss.take (j + 1)).flatMap (fun s => run rs [s] b) = ((ss.take j).flatMap fun s => run rs [s] b) ++ run rs [s] b := by
          rw [take_step hs, List.flatMap_append]
          simp
        simp only [dxs, dl, dx3, ecB, cB s sl', rExtT, gR, gW]
        rw [ef]
        refine ⟨rfl, ?_, _, rfl, ?_, ?_⟩
        · unfold natsD
          rw [List.length_map, List.length_map]
          exact szB (by omega)
        · unfold natsD
          rw [List.map_append]
        · rw [List.length_append]
          omega
      · rintro S' G' ⟨x5, rfl, rfl, lj⟩
        have nl : (natsD ss).length = ss.length := by unfold natsD; rw [List.length_map]
        rw [nl] at lj
        rw [nl, List.take_length] at *
        have en : nsort (firstsF (ss.flatMap fun s => run rs [s] b)) = run rs ss b := by
          refine sorted_ext (nsort_nd (firstsF_nodup _)) (run_sorted_ so b) fun k => ?_
          rw [(nsort_perm _).mem_iff, firstsF_mem, run_mem, List.mem_flatMap]
        simp only [dxs, dl, dx2, dx3, gR, intsD_nats, isort1_nat, List.length_map, en, rTupleD, rAppendD, gP]
        have l49 : (ss.flatMap fun s => run rs [s] b).length < 64 := by omega
        refine ⟨rfl, l49, szl (by rw [List.length_take]; omega), _, _, _, rfl, (sb.over hGr rfl).over hp rfl, ?_⟩
        rw [take_step hss, List.map_append, List.map_append]
        rfl
    · rintro S' G1 ⟨x3, x4, x5, rfl, sb, gp⟩
      rw [List.length_map, List.take_length, class_app tl] at gp
      simp only [dxs, dl, dx3, rTupleD, gp]
      exact ⟨G, sb, z⟩
end
end Pace
end
section
set_option Elab.async false
set_option linter.all false
set_option maxRecDepth 100000
set_option maxHeartbeats 4000000
namespace Pace
open PySem PySem.Spec PyProof.Rows L2 DL
section
variable {P : Program} {w : World} {K : PySem.W.Frag} {mg : Str → Option Value} {base : Heap} {C PT cT : Addr}
theorem cx_w2 {CX : CXT} {P : Program} {w : World} {K : PySem.W.Frag} {mg : Str → Option Value} {base : Heap} {N : List Str} {q : Str} {sc : Scope} {f : Addr} {cdv : Value} {A : Around} {outer : List Env} {s : Shared} {H : Hp} {E : XK} : (cxOf CX P w K mg base N q sc f cdv A outer s H E).w = w := rfl
def wtT (rs : List (List Mv)) (a t : List Nat) : D := .tup [classD rs (a ++ t), .str (strOf t)]
def stepT (rs : List (List Mv)) (l : List Nat) (c : Nat) : D := .tup [.str (sgn c), classD rs (l ++ [c])]
def lcD (hs : List Nat) (rs : List (List Mv)) : D := .lst (hs.map fun c => .tup [.str (sgn c), classD rs [c]])
def spLSteps (W : Addr) : SpD := fun ds G Q => ∃ (y : Addr) (fs : List (Str × D)) (hs : List Nat) (rs : List (List Mv)) (l : List Nat), ds = [.rf y, classD rs l] ∧ G y = some (.ins W fs) ∧ fs.lookup (Str.ofString "letter_classes") = some (lcD hs rs) ∧ (∀ r ∈ rs, ∀ m ∈ r, m.t < rs.length) ∧ rs.length ≤ 7 ∧ hs.length ≤ 100 ∧ Q (.lst (hs.map (stepT rs l))) G
abbrev N_Classes_letter_steps : List Str := ["self", "here", "letter", "letter_class"]
theorem sc_Classes_letter_steps : FnScope N_Classes_letter_steps ["self", "here"] (defScope s_Classes_letter_steps) := ⟨rfl, rfl, rfl, by decide +kernel, rfl, by decide +kernel, by decide +kernel⟩
theorem c_Classes_letter_steps (T : Txt K mg C) (d : DefM K (He.ga K "Classes") "letter_steps" "Classes.letter_steps" s_Classes_letter_steps) (C_longer_class : Cal P w K mg base "longer_class" 1 ["one", "letter_class"] (spLonger)) : CalM P w K mg base (He.ga K "Classes") "letter_steps" 2 ["self", "here"] (spLSteps (He.ga K "Classes")) := by
  refine calM_mk (N := N_Classes_letter_steps) d sc_Classes_letter_steps (fun ds G Q h => ?_) (fun _ _ _ _ _ _ us hl => match us, hl with | [_, _], _ => rfl) (fun f cdv A outer s H E hg hr => ?_)
  · obtain ⟨y, fs, hs, rs, l, rfl, _⟩ := h
    rfl
  · have hu := hu100 hr
    have nd := sc_Classes_letter_steps.nd
    have hA := deeper_guards (env := envOfC "Classes.letter_steps" (defScope s_Classes_letter_steps) s.heap.objs.size f cdv) hg
    refine ⟨_, (dps_one (dp_ret (de_lc (own := [("letter", 2), ("letter_class", 3)]) (p := (.tp [2, 3])) rfl nd (di_list (de_fld T.cl_Classes T.no_Classes_letter_classes (de_var 0))) (blkOk_by (by show blkC N_Classes_letter_steps (defScope s_Classes_letter_steps) _ _ = true; decide +kernel)) (by decide) (fun _ _ _ _ _ => pg_tup rfl (pgs_cons (pg_name (i := 2) nd rfl (Or.inl rfl)) (pgs_cons (pg_name (i := 3) nd rfl (Or.inl rfl)) pgs_nil))) (fun _ _ _ _ _ => dts_nil) (fun _ _ _ _ _ => (de_tup (da_cons (de_var 2) (da_cons (de_cal C_longer_class hA (hr.mono (by decide)) (da_cons (de_var 1) (da_cons (de_var 3) da_nil))) da_nil))))))), fun ds G Q h => ?_⟩
    obtain ⟨y, fs, hs, rs, l, rfl, gy, fl, tl, n7, h1, q⟩ := h
    rw [show dstart N_Classes_letter_steps [.rf y, classD rs l] = [some (.rf y), some (classD rs l), none, none] from rfl]
    have ecy : D.cur G (.rf y) = .obj (He.ga K "Classes") fs := by simp only [D.cur, gy]
    simp only [dxs, dl, ecy, fl, lcD, true_and]
    refine lc_mapA hs (fun c => D.tup [.str (sgn c), classD rs [c]]) (stepT rs l) rfl (sz (by omega)) trivial (fun c _ => ⟨_, rfl, fun Q zz => ?_⟩) ?_
    · simp only [dxs, dl, dwipe, List.map_cons, List.map_nil]
      exact ⟨rs, l, [c], rfl, tl, n7, sz (by decide), zz⟩
    · exact ⟨_, Sub.refl _, q⟩
end
end Pace
end
section
set_option Elab.async false
set_option linter.all false
set_option maxRecDepth 100000
set_option maxHeartbeats 4000000
namespace Pace
open PySem PySem.Spec PyProof.Rows L2 DL
section
variable {P : Program} {w : World} {K : PySem.W.Frag} {mg : Str → Option Value} {base : Heap} {C PT cT : Addr}
def spWay (W : Addr) : SpD := fun ds G Q => ∃ (y : Addr) (fs : List (Str × D)) (hs : List Nat) (rs : List (List Mv)) (a b : List Nat), ds = [.rf y, classD rs a, classD rs b] ∧ G y = some (.ins W fs) ∧ fs.lookup (Str.ofString "letter_classes") = some (lcD hs rs) ∧ fs.lookup (Str.ofString "letter_steps") = none ∧ (∀ r ∈ rs, ∀ m ∈ r, m.t < rs.length) ∧ rs.length ≤ 7 ∧ hs.length ≤ 100 ∧ FewC hs rs 40 ∧ Ov hs a ∧
  (∀ u, u ≠ [] → Ov hs u → u.length ≤ 100 → classOf rs (a ++ u) = classOf rs b → Q (.str (strOf u)) G) ∧ ((∀ u, u ≠ [] → Ov hs u → classOf rs (a ++ u) ≠ classOf rs b) → Q .non G)
abbrev N_Classes_way : List Str := ["self", "begin", "goal", "known", "waiting", "at", "here", "text", "letter", "there"]
theorem sc_Classes_way : FnScope N_Classes_way ["self", "begin", "goal"] (defScope s_Classes_way) := ⟨rfl, rfl, rfl, by decide +kernel, rfl, by decide +kernel, by decide +kernel⟩
theorem c_Classes_way (T : Txt K mg C) (d : DefM K (He.ga K "Classes") "way" "Classes.way" s_Classes_way) (Mm_letter_steps : CalM P w K mg base (He.ga K "Classes") "letter_steps" 2 ["self", "here"] (spLSteps (He.ga K "Classes"))) : CalM P w K mg base (He.ga K "Classes") "way" 3 ["self", "begin", "goal"] (spWay (He.ga K "Classes")) := by
  refine calM_mk (N := N_Classes_way) d sc_Classes_way (fun ds G Q h => ?_) (fun _ _ _ _ _ _ us hl => match us, hl with | [_, _, _], _ => rfl) (fun f cdv A outer s H E hg hr => ?_)
  · obtain ⟨y, fs, hs, rs, a, b, rfl, _⟩ := h
    rfl
  · have hu := hu100 hr
    have nd := sc_Classes_way.nd
    have hA := deeper_guards (env := envOfC "Classes.way" (defScope s_Classes_way) s.heap.objs.size f cdv) hg
    refine ⟨_, (dps_cons (dp_asg de_newN (dg_name 3 nd))
  (dps_cons (dp_asg (de_lstM (da_cons (de_tup (da_cons (de_var 1) (da_cons de_str da_nil))) da_nil)) (dg_name 4 nd))
  (dps_cons (dp_asg de_int (dg_name 5 nd))
  (dps_cons (dp_while PassesOwn.never (dt_cmp (od_lt hu) (de_var 5) (de_callB cd_len rfl T.f_len (by decide +kernel) (da_cons (de_var 4) da_nil)) (nomark _))
  (dps_cons (dp_asg (de_ix hu (de_var 4) (de_var 5)) (dg_tup (n := 2) rfl (dgs_cons (dg_name 6 nd) (dgs_cons (dg_name 7 nd) dgs_nil))))
  (dps_cons (dp_aug (i := 5) nd ip_add de_int)
  (dps_one (dp_for PassesOwn.never rfl (di_list (de_calM T.cl_Classes Mm_letter_steps hA (hr.mono (by decide)) (de_var 0) (da_cons (de_var 6) da_nil))) (dg_tup (n := 2) rfl (dgs_cons (dg_name 8 nd) (dgs_cons (dg_name 9 nd) dgs_nil)))
  (dps_cons (dp_if (dt_cmp (od_eq hu) (de_var 9) (de_var 2) (nomark _))
  (dps_one (dp_ret (de_op od_add (de_var 7) (de_var 8))))
  dps_nil)
  (dps_one (dp_if (dt_cmp (od_notInN hu) (de_var 9) (de_var 3) (by rfl))
  (dps_cons (dp_asg de_bl (dg_subN hu (de_var 3) (de_var 9)))
  (dps_one (dp_expr (de_bm PySem.F.plainAttrs_list PySem.F.slot_list_append PySem.F.type_list_append md_append (de_var 4) (da_cons (de_tup (da_cons (de_var 9) (da_cons (de_op od_add (de_var 7) (de_var 8)) da_nil))) da_nil)))))
  dps_nil))))))))
  (dps_one (dp_ret de_non)))))), fun ds G Q h => ?_⟩
    obtain ⟨y, fs, hs, rs, a, b, rfl, gy, fl, fm, tl, n7, h1, few, ova, q1, q2⟩ := h
    rw [show dstart N_Classes_way [.rf y, classD rs a, classD rs b] = [some (.rf y), some (classD rs a), some (classD rs b), none, none, none, none, none, none, none] from rfl]
    simp only [dxs, dl, cx_w2]
    intro p hp
    refine ⟨sz (by decide), sz (by decide), fun z hz => ?_⟩
    obtain ⟨nzp, hz'⟩ := gput_none hz
    have pz : p ≠ z := fun e => nzp e.symm
    have py : y ≠ p := fun e => by rw [← e, gy] at hp; cases hp
    have zy : y ≠ z := fun e => by rw [← e, gy] at hz'; cases hz'
    have s00 : D.str (Str.ofString "") = .str (strOf []) := by rw [str_nil]
    have fewE : ∀ E : List (List Nat), (E.map fun t => classOf rs (a ++ t)).Nodup → (∀ t ∈ E, Ov hs t) → E.length ≤ 40 := fun E nd ov => by
      have := few.le (T := E.map (a ++ ·)) (by rw [List.map_map]; exact nd) fun t ht => by
        obtain ⟨v, hv, rfl⟩ := List.mem_map.mp ht
        exact ova.app (ov v hv)
      rwa [List.length_map] at this
    have e00 : gput (gput G p (.dN w [])) z (.lst [D.tup [classD rs a, D.str (Str.ofString "")]]) = gput (gput G p (.dN w (ckD rs (([] : List (List Nat)).map fun t => (a ++ t, D.bl true))))) z (.lst ((([] : List Nat) :: ([] : List (List Nat))).map (wtT rs a))) := by
      rw [s00]
      unfold wtT
      simp [ckD]
    rw [e00]
    have sub2 : ∀ kds xs, Sub G (gput (gput G p (.dN w kds)) z (.lst xs)) := fun kds xs => (sub_new hp rfl).trans (sub_new (by rw [gput_ne nzp]; exact hz') rfl)
    refine ⟨fun m S' G' => ∃ (at_ : Nat) (E : List (List Nat)) (x6 x7 x8 x9 : Option D), m = 100 - at_ ∧ S' = [some (.rf y), some (classD rs a), some (classD rs b), some (.rf p), some (.rf z), some (.int (at_ : Int)), x6, x7, x8, x9] ∧
      G' = gput (gput G p (.dN w (ckD rs (E.map fun t => (a ++ t, D.bl true))))) z (.lst (([] :: E).map (wtT rs a))) ∧ (∀ t ∈ E, Ov hs t ∧ t ≠ []) ∧ (E.map fun t => classOf rs (a ++ t)).Nodup ∧ (∀ (i : Nat) (t : List Nat), ([] :: E)[i]? = some t → t.length ≤ i) ∧ at_ ≤ E.length + 1 ∧
      ∀ (i : Nat) (t : List Nat), i < at_ → ([] :: E)[i]? = some t → ∀ c ∈ hs, classOf rs (a ++ (t ++ [c])) ≠ classOf rs b ∧ Has rs (E.map (a ++ ·)) (a ++ (t ++ [c])),
      ⟨_, 0, [], none, none, none, none, rfl, rfl, rfl, by simp, by simp, fun i t h => by
        cases i with
        | zero => cases h; simp
        | succ i => simp at h, by simp, fun i t h => by omega⟩, ?_⟩
    rintro m S' G' ⟨at_, E, x6, x7, x8, x9, rfl, rfl, rfl, ov, nd, ln, hat0, done⟩
    have e40 := fewE E nd fun t ht => (ov t ht).1
    simp only [dxs, dl, rLenD, D.len, gput_same, List.length_map, List.length_cons, okL_int, DL.lt_int, true_and]
    by_cases hat : at_ < E.length + 1
    · rw [if_pos (by simpa using (by omega : (at_ : Int) < (E.length : Int) + 1))]
      obtain ⟨t0, ht0⟩ : ∃ t0, ([] :: E)[at_]? = some t0 := ⟨_, List.getElem?_eq_getElem (by simpa using hat)⟩
      have ovt : Ov hs t0 := by
        rcases List.mem_cons.mp (List.mem_of_getElem? ht0) with rfl | h
        · intro c hc; cases hc
        · exact (ov t0 h).1
      have tl0 := ln at_ t0 ht0
      have it0 : D.item (.lst (([] :: E).map (wtT rs a))) (.int (at_ : Int)) = some (.tup [classD rs (a ++ t0), .str (strOf t0)]) := atI_nat (by rw [List.getElem?_map, ht0]; rfl)
      have gyA : ∀ o o2, gput (gput G p o) z o2 y = some (.ins (He.ga K "Classes") fs) := fun o o2 => by rw [gput_ne zy, gput_ne py]; exact gy
      have gpA : ∀ o o2, gput (gput G p o) z o2 p = some o := fun o o2 => by rw [gput_ne pz, gput_same]
      simp only [dxs, dl, gput_same, it0, gyA, fm]
      refine ⟨trivial, trivial, trivial, y, fs, hs, rs, a ++ t0, rfl, gyA _ _, fl, tl, n7, h1, ?_⟩
      refine ⟨fun i S' G' => ∃ (E : List (List Nat)) (x8 x9 : Option D), S' = [some (.rf y), some (classD rs a), some (classD rs b), some (.rf p), some (.rf z), some (.int ((at_ : Int) + 1)), some (classD rs (a ++ t0)), some (.str (strOf t0)), x8, x9] ∧
        G' = gput (gput G p (.dN w (ckD rs (E.map fun t => (a ++ t, D.bl true))))) z (.lst (([] :: E).map (wtT rs a))) ∧ (∀ t ∈ E, Ov hs t ∧ t ≠ []) ∧ (E.map fun t => classOf rs (a ++ t)).Nodup ∧ (∀ (i : Nat) (t : List Nat), ([] :: E)[i]? = some t → t.length ≤ i) ∧ ([] :: E)[at_]? = some t0 ∧
        (∀ (i : Nat) (t : List Nat), i < at_ → ([] :: E)[i]? = some t → ∀ c ∈ hs, classOf rs (a ++ (t ++ [c])) ≠ classOf rs b ∧ Has rs (E.map (a ++ ·)) (a ++ (t ++ [c]))) ∧
        ∀ c ∈ hs.take i, classOf rs (a ++ (t0 ++ [c])) ≠ classOf rs b ∧ Has rs (E.map (a ++ ·)) (a ++ (t0 ++ [c])),
        ⟨E, _, _, rfl, rfl, ov, nd, ln, ht0, done, by simp⟩, fun _ _ _ _ => trivial, ?_, ?_⟩
      · clear ov nd ln ht0 done e40 hat0 it0 hat
        rintro i S' G' dd ⟨E, x8, x9, rfl, rfl, ov, nd, ln, ht0, done, dt⟩ hd
        obtain ⟨c, hc, rfl⟩ := map_get hd
        have hch := List.mem_of_getElem? hc
        have e40 := fewE E nd fun t ht => (ov t ht).1
        have hatE := (List.getElem?_eq_some_iff.mp ht0).1
        rw [List.length_cons] at hatE
        have ovc : Ov hs (t0 ++ [c]) := ovt.app (Ov.one hch)
        have ecl : ∀ (G : GH) (l : List Nat), D.cur G (classD rs l) = classD rs l := fun _ _ => rfl
        have eas : a ++ t0 ++ [c] = a ++ (t0 ++ [c]) := List.append_assoc _ _ _
        have esg : strOf t0 ++ sgn c = strOf (t0 ++ [c]) := strOf_app t0 [c]
        have eSt : ∀ (G : GH) (x : Str), D.cur G (.str x) = .str x := fun _ _ => rfl
        have s1 : (sgn c).length = 1 := rfl
        simp only [dxs, dl, stepT, ecl, eas, rAddD, eSt, esg, strOf_len, s1]
        refine ⟨trivial, okE_si (classD_si _ _) (classD_si _ _) (classD_dp _ _), ?_⟩
        rw [classD_eqv]
        by_cases hb : classOf rs (a ++ (t0 ++ [c])) = classOf rs b
        · rw [if_pos (by simpa using hb)]
          refine ⟨sz (by omega), _, sub2 _ _, q1 _ (by simp) ovc (by simp; omega) hb⟩
        · rw [if_neg (by simpa using hb)]
          have em : (E.map fun t => (a ++ t, D.bl true)).map (·.1) = E.map (a ++ ·) := by rw [List.map_map]; rfl
          have ndm : (E.map fun t => classOf rs (a ++ t)) = (E.map (a ++ ·)).map (classOf rs) := by rw [List.map_map]; rfl
          by_cases hin : Has rs (E.map (a ++ ·)) (a ++ (t0 ++ [c]))
          · refine c_yes (gpA _ _) (by rw [em]; exact hin) ?_
            simp only [Bool.not_true, Bool.false_eq_true, if_false]
            refine ⟨E, _, _, rfl, rfl, ov, nd, ln, ht0, done, fun c' hc' => ?_⟩
            rw [take_snoc hc] at hc'
            rcases List.mem_append.mp hc' with z | z
            · exact dt c' z
            · rw [List.mem_singleton.mp z]; exact ⟨hb, hin⟩
          · refine c_no (gpA _ _) (by rw [em]; exact hin) ?_
            simp only [if_true]
            refine c_set (fun h => h) (fun h => h) (gpA _ _) (by rw [List.length_map]; omega) (by rw [em]; exact hin) ?_
            have eE : (E.map fun t => (a ++ t, D.bl true)) ++ [(a ++ (t0 ++ [c]), D.bl true)] = (E ++ [t0 ++ [c]]).map fun t => (a ++ t, D.bl true) := by rw [List.map_append]; rfl
            have eT : (([] :: E).map (wtT rs a)) ++ [D.tup [classD rs (a ++ (t0 ++ [c])), .str (strOf (t0 ++ [c]))]] = ([] :: (E ++ [t0 ++ [c]])).map (wtT rs a) := by
              rw [← List.cons_append, List.map_append]
              rfl
            rw [eE]
            have eG : ∀ o o2 o3, gput (gput (gput G p o) z o2) p o3 = gput (gput G p o3) z o2 := fun o o2 o3 => gput_under pz
            rw [eG]
            simp only [dxs, dl, gput_same, rAppendD, gput_gput, eSt, esg, strOf_len, s1, eT, rAddD]
            have hasN : Has rs ((E ++ [t0 ++ [c]]).map (a ++ ·)) (a ++ (t0 ++ [c])) := ⟨a ++ (t0 ++ [c]), List.mem_map.mpr ⟨_, by simp, rfl⟩, rfl⟩
            have growH : ∀ u, Has rs (E.map (a ++ ·)) u → Has rs ((E ++ [t0 ++ [c]]).map (a ++ ·)) u := fun u h => by rw [List.map_append]; exact h.grow _
            refine ⟨rfl, sz (by omega), sz (by decide), szl (by simp; omega), E ++ [t0 ++ [c]], _, _, rfl, rfl, fun t ht => ?_, ?_, fun i t hi => ?_, ?_, fun i t hi ht c' hc' => ?_, fun c' hc' => ?_⟩
            · rcases List.mem_append.mp ht with h | h
              · exact ov t h
              · rw [List.mem_singleton.mp h]; exact ⟨ovc, by simp⟩
            · have := nd_snoc (T := E.map (a ++ ·)) (by rw [← ndm]; exact nd) hin
              have e2 : (E ++ [t0 ++ [c]]).map (fun t => classOf rs (a ++ t)) = (E.map (a ++ ·) ++ [a ++ (t0 ++ [c])]).map (classOf rs) := by simp [Function.comp_def]
              rw [e2]
              exact this
            · rw [← List.cons_append] at hi
              by_cases h : i < E.length + 1
              · rw [List.getElem?_append_left (by simpa using h)] at hi
                exact ln i t hi
              · have h2 := (List.getElem?_eq_some_iff.mp hi).1
                simp only [List.length_append, List.length_cons, List.length_nil] at h2
                have h3 : i = ([] :: E).length := by rw [List.length_cons]; omega
                rw [h3, List.getElem?_append_right (Nat.le_refl _)] at hi
                simp at hi
                rw [← hi, List.length_append, List.length_singleton]
                have := ln at_ t0 ht0
                simp at h3
                omega
            · rw [← List.cons_append, List.getElem?_append_left (List.getElem?_eq_some_iff.mp ht0).1]; exact ht0
            · rw [← List.cons_append, List.getElem?_append_left (by rw [List.length_cons]; omega)] at ht
              have := done i t hi ht c' hc'
              exact ⟨this.1, growH _ this.2⟩
            · rw [take_snoc hc] at hc'
              rcases List.mem_append.mp hc' with z | z
              · have := dt c' z
                exact ⟨this.1, growH _ this.2⟩
              · rw [List.mem_singleton.mp z]; exact ⟨hb, hasN⟩
      · clear ov nd ln ht0 done e40 hat0 it0
        rintro S' G' ⟨E, x8, x9, rfl, rfl, ov, nd, ln, ht0, done, dt⟩
        rw [List.length_map, List.take_length] at dt
        have e40 := fewE E nd fun t ht => (ov t ht).1
        have hatE := (List.getElem?_eq_some_iff.mp ht0).1
        rw [List.length_cons] at hatE
        refine ⟨100 - (at_ + 1), by omega, at_ + 1, E, _, _, _, _, rfl, rfl, rfl, ov, nd, ln, by omega, fun i t hi ht c hc => ?_⟩
        by_cases h : i < at_
        · exact done i t h ht c hc
        · have : i = at_ := by omega
          subst this
          rw [ht0] at ht
          cases ht
          exact dt c hc
    · rw [if_neg (by simpa using (by omega : ¬ (at_ : Int) < (E.length : Int) + 1))]
      refine ⟨_, sub2 _ _, q2 fun u => ?_⟩
      have key : ∀ u, u ≠ [] → Ov hs u → classOf rs (a ++ u) ≠ classOf rs b ∧ Has rs (E.map (a ++ ·)) (a ++ u) := fun u => by
        induction u using snoc_ind with
        | nil => intro h; exact absurd rfl h
        | snoc u c ih =>
          intro _ hov
          have ovu : Ov hs u := fun x hx => hov x (List.mem_append_left _ hx)
          have hc : c ∈ hs := hov c (by simp)
          by_cases hu : u = []
          · subst hu
            exact done 0 [] (by omega) rfl c hc
          · obtain ⟨h1, t, ht, e⟩ := ih hu ovu
            obtain ⟨v, hv, rfl⟩ := List.mem_map.mp ht
            obtain ⟨i, hi⟩ := List.mem_iff_getElem?.mp hv
            have hi' := (List.getElem?_eq_some_iff.mp hi).1
            have := done (i + 1) v (by omega) (by simpa using hi) c hc
            have e2 : classOf rs (a ++ (u ++ [c])) = classOf rs (a ++ (v ++ [c])) := by
              rw [← List.append_assoc, ← List.append_assoc]
              exact cls_app e [c]
            refine ⟨by rw [e2]; exact this.1, ?_⟩
            obtain ⟨t2, h2, e3⟩ := this.2
            exact ⟨t2, h2, e2.trans e3⟩
      exact fun h1 h2 => (key u h1 h2).1
end
end Pace
end
section
set_option Elab.async false
set_option linter.all false
set_option maxRecDepth 100000
set_option maxHeartbeats 4000000
namespace Pace
open PySem PySem.Spec PyProof.Rows L2 DL
section
variable {P : Program} {w : World} {K : PySem.W.Frag} {mg : Str → Option Value} {base : Heap} {C PT cT : Addr}
def spPumpOn (W : Addr) (w : World) : SpD := fun ds G Q => ∃ (y : Addr) (fs : List (Str × D)) (hs : List Nat) (rs : List (List Mv)) (a u : List Nat) (t p : Addr) (Tx Pm : List (List Nat × D)) (vx : D), ds = [.rf y, classD rs a, .str (strOf u)] ∧ G y = some (.ins W fs) ∧ fs.lookup (Str.ofString "letter_classes") = some (lcD hs rs) ∧ fs.lookup (Str.ofString "letter_steps") = none ∧ fs.lookup (Str.ofString "texts") = some (.rf t) ∧ fs.lookup (Str.ofString "pumps") = some (.rf p) ∧ t ≠ p ∧
  G t = some (.dN w (ckD rs Tx)) ∧ valD (ckD rs Tx) (clN rs a) = some vx ∧ G p = some (.dN w (ckD rs Pm)) ∧ ((Pm.map (·.1)).map (classOf rs)).Nodup ∧ (∀ e ∈ Pm, Ov hs e.1) ∧ (∀ r ∈ rs, ∀ m ∈ r, m.t < rs.length) ∧ rs.length ≤ 7 ∧ hs.length ≤ 100 ∧ FewC hs rs 40 ∧ Ov hs a ∧
  ∀ ext : List (List Nat × D), (((Pm ++ ext).map (·.1)).map (classOf rs)).Nodup → (∀ e ∈ ext, ∃ v, Ov hs v ∧ e.1 = a ++ v) → (∀ v, Ov hs v → Has rs ((Pm ++ ext).map (·.1)) (a ++ v)) → Q .non (gput G p (.dN w (ckD rs (Pm ++ ext))))
abbrev N_Classes_pump_on : List Str := ["self", "begin", "loop", "waiting", "known", "at", "here", "behind", "letter", "there"]
theorem sc_Classes_pump_on : FnScope N_Classes_pump_on ["self", "begin", "loop"] (defScope s_Classes_pump_on) := ⟨rfl, rfl, rfl, by decide +kernel, rfl, by decide +kernel, by decide +kernel⟩
theorem c_Classes_pump_on (T : Txt K mg C) (d : DefM K (He.ga K "Classes") "pump_on" "Classes.pump_on" s_Classes_pump_on) (Mm_letter_steps : CalM P w K mg base (He.ga K "Classes") "letter_steps" 2 ["self", "here"] (spLSteps (He.ga K "Classes"))) : CalM P w K mg base (He.ga K "Classes") "pump_on" 3 ["self", "begin", "loop"] (spPumpOn (He.ga K "Classes") w) := by
  refine calM_mk (N := N_Classes_pump_on) d sc_Classes_pump_on (fun ds G Q h => ?_) (fun _ _ _ _ _ _ us hl => match us, hl with | [_, _, _], _ => rfl) (fun f cdv A outer s H E hg hr => ?_)
  · obtain ⟨y, fs, hs, rs, a, u, t, p, Tx, Pm, vx, rfl, _⟩ := h
    rfl
  · have hu := hu100 hr
    have nd := sc_Classes_pump_on.nd
    have hA := deeper_guards (env := envOfC "Classes.pump_on" (defScope s_Classes_pump_on) s.heap.objs.size f cdv) hg
    refine ⟨_, (dps_cons (dp_asg (de_lstM (da_cons (de_tup (da_cons (de_var 1) (da_cons de_str da_nil))) da_nil)) (dg_name 3 nd))
  (dps_cons (dp_asg (de_dispN hu (de_var 1) de_bl) (dg_name 4 nd))
  (dps_cons (dp_asg de_int (dg_name 5 nd))
  (dps_one (dp_while PassesOwn.never (dt_cmp (od_lt hu) (de_var 5) (de_callB cd_len rfl T.f_len (by decide +kernel) (da_cons (de_var 3) da_nil)) (nomark _))
  (dps_cons (dp_asg (de_ix hu (de_var 3) (de_var 5)) (dg_tup (n := 2) rfl (dgs_cons (dg_name 6 nd) (dgs_cons (dg_name 7 nd) dgs_nil))))
  (dps_cons (dp_aug (i := 5) nd ip_add de_int)
  (dps_cons (dp_if (dt_cmp (od_notInN hu) (de_var 6) (de_fld T.cl_Classes T.no_Classes_pumps (de_var 0)) (by rfl))
  (dps_one (dp_asg (de_tup (da_cons (de_ixN hu (de_fld T.cl_Classes T.no_Classes_texts (de_var 0)) (de_var 1)) (da_cons (de_var 2) (da_cons (de_var 7) da_nil)))) (dg_subN hu (de_fld T.cl_Classes T.no_Classes_pumps (de_var 0)) (de_var 6))))
  dps_nil)
  (dps_one (dp_for PassesOwn.never rfl (di_list (de_calM T.cl_Classes Mm_letter_steps hA (hr.mono (by decide)) (de_var 0) (da_cons (de_var 6) da_nil))) (dg_tup (n := 2) rfl (dgs_cons (dg_name 8 nd) (dgs_cons (dg_name 9 nd) dgs_nil)))
  (dps_one (dp_if (dt_cmp (od_notInN hu) (de_var 9) (de_var 4) (by rfl))
  (dps_cons (dp_asg de_bl (dg_subN hu (de_var 4) (de_var 9)))
  (dps_one (dp_expr (de_bm PySem.F.plainAttrs_list PySem.F.slot_list_append PySem.F.type_list_append md_append (de_var 3) (da_cons (de_tup (da_cons (de_var 9) (da_cons (de_op od_add (de_var 7) (de_var 8)) da_nil))) da_nil)))))
  dps_nil)))))))))))), fun ds G Q h => ?_⟩
    obtain ⟨y, fs, hs, rs, a, u, t, p, Tx, Pm, vx, rfl, gy, fl, fm, ft, fp, tp, gt, hvx, gp, ndP, ovP, tl, n7, h1, few, ova, q⟩ := h
    rw [show dstart N_Classes_pump_on [.rf y, classD rs a, .str (strOf u)] = [some (.rf y), some (classD rs a), some (.str (strOf u)), none, none, none, none, none, none, none] from rfl]
    have yp : y ≠ p := fun e => by rw [e, gp] at gy; cases gy
    have s00 : D.str (Str.ofString "") = .str (strOf []) := by rw [str_nil]
    have fewT : ∀ T : List (List Nat), (T.map fun t => classOf rs (a ++ t)).Nodup → (∀ t ∈ T, Ov hs t) → T.length ≤ 40 := fun E nd ov => by
      have := few.le (T := E.map (a ++ ·)) (by rw [List.map_map]; exact nd) fun t ht => by
        obtain ⟨v, hv, rfl⟩ := List.mem_map.mp ht
        exact ova.app (ov v hv)
      rwa [List.length_map] at this
    have fewP : ∀ X : List (List Nat × D), ((X.map (·.1)).map (classOf rs)).Nodup → (∀ e ∈ X, Ov hs e.1) → X.length ≤ 40 := fun X nd ov => by
      have := few.le nd fun t ht => by
        obtain ⟨v, hv, rfl⟩ := List.mem_map.mp ht
        exact ov v hv
      rwa [List.length_map] at this
    simp only [dxs, dl, cx_w2]
    refine ⟨sz (by decide), sz (by decide), fun wa hwa => ?_⟩
    refine c_disp (u := a) (v := .bl true) (fun h => h) (fun h => h) fun kn hkn => ?_
    obtain ⟨nkw, hkn'⟩ := gput_none hkn
    have wk : wa ≠ kn := fun e => nkw e.symm
    have pw : p ≠ wa := fun e => by rw [← e, gp] at hwa; cases hwa
    have pk : p ≠ kn := fun e => by rw [← e, gp] at hkn'; cases hkn'
    have gbw : ∀ o, gput G p o wa = none := fun o => by rw [gput_ne (Ne.symm pw)]; exact hwa
    have gbk : ∀ o, gput G p o kn = none := fun o => by rw [gput_ne (Ne.symm pk)]; exact hkn'
    have sb00 : Sub (gput G p (.dN w (ckD rs (Pm ++ [])))) (gput (gput G wa (.lst [D.tup [classD rs a, D.str (Str.ofString "")]])) kn (.dN w (ckD rs [(a, .bl true)]))) := by
      rw [List.append_nil, gput_self gp]
      exact (sub_new hwa rfl).trans (sub_new hkn rfl)
    refine ⟨fun m S' G' => ∃ (at_ : Nat) (T : List (List Nat)) (ext : List (List Nat × D)) (x6 x7 x8 x9 : Option D), m = 100 - at_ ∧ S' = [some (.rf y), some (classD rs a), some (.str (strOf u)), some (.rf wa), some (.rf kn), some (.int (at_ : Int)), x6, x7, x8, x9] ∧
      Sub (gput G p (.dN w (ckD rs (Pm ++ ext)))) G' ∧ G' wa = some (.lst (T.map (wtT rs a))) ∧ G' kn = some (.dN w (ckD rs (T.map fun t => (a ++ t, D.bl true)))) ∧ T[0]? = some [] ∧ (∀ t ∈ T, Ov hs t) ∧ (T.map fun t => classOf rs (a ++ t)).Nodup ∧ (∀ (i : Nat) (t : List Nat), T[i]? = some t → t.length ≤ i) ∧ at_ ≤ T.length ∧
      (((Pm ++ ext).map (·.1)).map (classOf rs)).Nodup ∧ (∀ e ∈ ext, ∃ v, Ov hs v ∧ e.1 = a ++ v) ∧ (∀ (i : Nat) (t : List Nat), i < at_ → T[i]? = some t → Has rs ((Pm ++ ext).map (·.1)) (a ++ t)) ∧
      ∀ (i : Nat) (t : List Nat), i < at_ → T[i]? = some t → ∀ c ∈ hs, Has rs (T.map (a ++ ·)) (a ++ (t ++ [c])),
      ⟨_, 0, [[]], [], none, none, none, none, rfl, rfl, sb00, by rw [gput_ne wk, gput_same, s00]; simp [wtT], by rw [gput_same]; simp, rfl, fun t ht => (by rw [List.mem_singleton.mp ht]; intro c hc; cases hc), by simp, fun i t h => by
        cases i with
        | zero => cases h; simp
        | succ i => simp at h, by simp, by simpa using ndP, by simp, fun i t h => by omega, fun i t h => by omega⟩, ?_⟩
    rintro m S' G' ⟨at_, T, ext, x6, x7, x8, x9, rfl, rfl, sb, gw, gk, t0z, ov, nd, ln, hat0, ndx, ovx, inP, done⟩
    have t40 := fewT T nd ov
    have ovPx : ∀ e ∈ Pm ++ ext, Ov hs e.1 := fun e he => by
      rcases List.mem_append.mp he with h | h
      · exact ovP e h
      · obtain ⟨v, hv, e2⟩ := ovx e h
        rw [e2]; exact ova.app hv
    simp only [dxs, dl, rLenD, D.len, gw, List.length_map, okL_int, DL.lt_int, true_and]
    by_cases hat : at_ < T.length
    · rw [if_pos (by simpa using hat)]
      obtain ⟨t0, ht0⟩ : ∃ t0, T[at_]? = some t0 := ⟨_, List.getElem?_eq_getElem hat⟩
      have ovt := ov t0 (List.mem_of_getElem? ht0)
      have tl0 := ln at_ t0 ht0
      have it0 : D.item (.lst (T.map (wtT rs a))) (.int (at_ : Int)) = some (.tup [classD rs (a ++ t0), .str (strOf t0)]) := atI_nat (by rw [List.getElem?_map, ht0]; rfl)
      have gy' : G' y = some (.ins (He.ga K "Classes") fs) := sb.le y _ (by rw [gput_ne yp]; exact gy)
      have gt' : G' t = some (.dN w (ckD rs Tx)) := sb.le t _ (by rw [gput_ne tp]; exact gt)
      have gp' : G' p = some (.dN w (ckD rs (Pm ++ ext))) := sb.le p _ gput_same
      simp only [dxs, dl, gw, it0, gy', fm, fp, ft]
      refine ⟨trivial, trivial, ?_⟩
      have p40 := fewP (Pm ++ ext) ndx ovPx
      by_cases hin : Has rs ((Pm ++ ext).map (·.1)) (a ++ t0)
      case' pos =>
        refine c_yes gp' hin ?_
        simp only [Bool.not_true, Bool.false_eq_true, if_false]
        have blk : ∃ ext2 : List (List Nat × D), Sub (gput G p (.dN w (ckD rs (Pm ++ ext2)))) G' ∧ G' wa = some (.lst (T.map (wtT rs a))) ∧ G' kn = some (.dN w (ckD rs (T.map fun t => (a ++ t, D.bl true)))) ∧ (((Pm ++ ext2).map (·.1)).map (classOf rs)).Nodup ∧ (∀ e ∈ ext2, ∃ v, Ov hs v ∧ e.1 = a ++ v) ∧ (∀ (i : Nat) (t : List Nat), i < at_ + 1 → T[i]? = some t → Has rs ((Pm ++ ext2).map (·.1)) (a ++ t)) :=
          ⟨ext, sb, gw, gk, ndx, ovx, fun i t hi ht => by
            by_cases h : i < at_
            · exact inP i t h ht
            · have : i = at_ := by omega
              subst this
              rw [ht0] at ht
              cases ht
              exact hin⟩
      case' neg =>
        refine c_no gp' hin ?_
        simp only [if_true, gy', ft]
        refine ⟨trivial, c_item gt' hvx ?_⟩
        refine ⟨sz (by decide), ?_⟩
        refine c_set (fun {K} h => by simp only [dxs, dl, gy', fp]; exact ⟨trivial, h⟩) (fun h => h) gp' (by omega) hin ?_
        have blk : ∃ ext2 : List (List Nat × D), Sub (gput G p (.dN w (ckD rs (Pm ++ ext2)))) (gput G' p (.dN w (ckD rs (Pm ++ ext ++ [(a ++ t0, D.tup [vx, .str (strOf u), .str (strOf t0)])])))) ∧ (gput G' p (.dN w (ckD rs (Pm ++ ext ++ [(a ++ t0, D.tup [vx, .str (strOf u), .str (strOf t0)])])))) wa = some (.lst (T.map (wtT rs a))) ∧ (gput G' p (.dN w (ckD rs (Pm ++ ext ++ [(a ++ t0, D.tup [vx, .str (strOf u), .str (strOf t0)])])))) kn = some (.dN w (ckD rs (T.map fun t => (a ++ t, D.bl true)))) ∧ (((Pm ++ ext2).map (·.1)).map (classOf rs)).Nodup ∧ (∀ e ∈ ext2, ∃ v, Ov hs v ∧ e.1 = a ++ v) ∧ (∀ (i : Nat) (t : List Nat), i < at_ + 1 → T[i]? = some t → Has rs ((Pm ++ ext2).map (·.1)) (a ++ t)) := by
          refine ⟨ext ++ [(a ++ t0, D.tup [vx, .str (strOf u), .str (strOf t0)])], ?_, by rw [gput_ne (Ne.symm pw)]; exact gw, by rw [gput_ne (Ne.symm pk)]; exact gk, ?_, fun e he => ?_, fun i t hi ht => ?_⟩
          · have := sb.put p (.dN w (ckD rs (Pm ++ ext ++ [(a ++ t0, D.tup [vx, .str (strOf u), .str (strOf t0)])])))
            rw [gput_gput] at this
            rw [← List.append_assoc]
            exact this
          · have := nd_snoc ndx hin
            rw [← List.append_assoc, List.map_append]
            exact this
          · rcases List.mem_append.mp he with h | h
            · exact ovx e h
            · rw [List.mem_singleton.mp h]; exact ⟨t0, ovt, rfl⟩
          · rw [← List.append_assoc, List.map_append]
            by_cases h : i < at_
            · exact (inP i t h ht).grow _
            · have : i = at_ := by omega
              subst this
              rw [ht0] at ht
              cases ht
              exact ⟨a ++ t0, List.mem_append_right _ (by simp), rfl⟩
        generalize gput G' p (.dN w (ckD rs (Pm ++ ext ++ [(a ++ t0, D.tup [vx, .str (strOf u), .str (strOf t0)])]))) = G2 at blk ⊢
      all_goals
        clear sb gw gk ndx ovx inP gy' gt' gp' p40 hin ovPx
        obtain ⟨ext2, sb, gw, gk, ndx, ovx, inP⟩ := blk
        have gyS : ∀ {X : GH}, Sub (gput G p (.dN w (ckD rs (Pm ++ ext2)))) X → X y = some (.ins (He.ga K "Classes") fs) := fun {X} s => s.le y _ (by rw [gput_ne yp]; exact gy)
        have gy2 := gyS sb
        simp only [dxs, dl, gy2, fm]
        refine ⟨trivial, trivial, y, fs, hs, rs, a ++ t0, rfl, gy2, fl, tl, n7, h1, ?_⟩
        refine ⟨fun i S' G3 => ∃ (T : List (List Nat)) (x8 x9 : Option D), S' = [some (.rf y), some (classD rs a), some (.str (strOf u)), some (.rf wa), some (.rf kn), some (.int ((at_ : Int) + 1)), some (classD rs (a ++ t0)), some (.str (strOf t0)), x8, x9] ∧
          Sub (gput G p (.dN w (ckD rs (Pm ++ ext2)))) G3 ∧ G3 wa = some (.lst (T.map (wtT rs a))) ∧ G3 kn = some (.dN w (ckD rs (T.map fun t => (a ++ t, D.bl true)))) ∧ T[0]? = some [] ∧ (∀ t ∈ T, Ov hs t) ∧ (T.map fun t => classOf rs (a ++ t)).Nodup ∧ (∀ (i : Nat) (t : List Nat), T[i]? = some t → t.length ≤ i) ∧ T[at_]? = some t0 ∧
          (∀ (i : Nat) (t : List Nat), i < at_ + 1 → T[i]? = some t → Has rs ((Pm ++ ext2).map (·.1)) (a ++ t)) ∧ (∀ (i : Nat) (t : List Nat), i < at_ → T[i]? = some t → ∀ c ∈ hs, Has rs (T.map (a ++ ·)) (a ++ (t ++ [c]))) ∧
          ∀ c ∈ hs.take i, Has rs (T.map (a ++ ·)) (a ++ (t0 ++ [c])),
          ⟨T, _, _, rfl, sb, gw, gk, t0z, ov, nd, ln, ht0, inP, done, by simp⟩, fun _ _ _ _ => trivial, ?_, ?_⟩
        · clear sb gw gk t0z ov nd ln ht0 inP done it0 hat0 t40 hat gy2
          rintro i S' G3 dd ⟨T, x8, x9, rfl, sb, gw, gk, t0z, ov, nd, ln, ht0, inP, done, dt⟩ hd
          obtain ⟨c, hc, rfl⟩ := map_get hd
          have hch := List.mem_of_getElem? hc
          have t40 := fewT T nd ov
          have hatT := (List.getElem?_eq_some_iff.mp ht0).1
          have ovc : Ov hs (t0 ++ [c]) := ovt.app (Ov.one hch)
          have eas : a ++ t0 ++ [c] = a ++ (t0 ++ [c]) := List.append_assoc _ _ _
          have esg : strOf t0 ++ sgn c = strOf (t0 ++ [c]) := strOf_app t0 [c]
          have eSt : ∀ (G : GH) (x : Str), D.cur G (.str x) = .str x := fun _ _ => rfl
          have s1 : (sgn c).length = 1 := rfl
          have em : (T.map fun t => (a ++ t, D.bl true)).map (·.1) = T.map (a ++ ·) := by rw [List.map_map]; rfl
          have ndm : (T.map fun t => classOf rs (a ++ t)) = (T.map (a ++ ·)).map (classOf rs) := by rw [List.map_map]; rfl
          simp only [dxs, dl, stepT, eas]
          refine ⟨trivial, ?_⟩
          by_cases hin : Has rs (T.map (a ++ ·)) (a ++ (t0 ++ [c]))
          · refine c_yes gk (by rw [em]; exact hin) ?_
            simp only [Bool.not_true, Bool.false_eq_true, if_false]
            refine ⟨T, _, _, rfl, sb, gw, gk, t0z, ov, nd, ln, ht0, inP, done, fun c' hc' => ?_⟩
            rw [take_snoc hc] at hc'
            rcases List.mem_append.mp hc' with z | z
            · exact dt c' z
            · rw [List.mem_singleton.mp z]; exact hin
          · refine c_no gk (by rw [em]; exact hin) ?_
            simp only [if_true]
            refine c_set (fun h => h) (fun h => h) gk (by rw [List.length_map]; omega) (by rw [em]; exact hin) ?_
            have eE : (T.map fun t => (a ++ t, D.bl true)) ++ [(a ++ (t0 ++ [c]), D.bl true)] = (T ++ [t0 ++ [c]]).map fun t => (a ++ t, D.bl true) := by rw [List.map_append]; rfl
            have eT : (T.map (wtT rs a)) ++ [D.tup [classD rs (a ++ (t0 ++ [c])), .str (strOf (t0 ++ [c]))]] = (T ++ [t0 ++ [c]]).map (wtT rs a) := by
              rw [List.map_append]
              rfl
            rw [eE]
            have gw2 : ∀ o, gput G3 kn o wa = some (.lst (T.map (wtT rs a))) := fun o => by rw [gput_ne wk]; exact gw
            simp only [dxs, dl, gw2, rAppendD, eSt, esg, strOf_len, s1, eT, rAddD]
            have hasN : Has rs ((T ++ [t0 ++ [c]]).map (a ++ ·)) (a ++ (t0 ++ [c])) := ⟨a ++ (t0 ++ [c]), List.mem_map.mpr ⟨_, by simp, rfl⟩, rfl⟩
            have growH : ∀ u, Has rs (T.map (a ++ ·)) u → Has rs ((T ++ [t0 ++ [c]]).map (a ++ ·)) u := fun u h => by rw [List.map_append]; exact h.grow _
            have tl1 := ln at_ t0 ht0
            refine ⟨rfl, sz (by omega), sz (by decide), szl (by simp; omega), T ++ [t0 ++ [c]], _, _, rfl, sub_putZ (sub_putZ sb (gbk _) rfl) (gbw _) rfl, by first | rfl | exact gput_same, by first | rfl | rw [gput_ne nkw, gput_same], ?_, fun t ht => ?_, ?_, fun i t hi => ?_, ?_, fun i t hi ht => ?_, fun i t hi ht c' hc' => ?_, fun c' hc' => ?_⟩
            · rw [List.getElem?_append_left (List.getElem?_eq_some_iff.mp t0z).1]; exact t0z
            · rcases List.mem_append.mp ht with h | h
              · exact ov t h
              · rw [List.mem_singleton.mp h]; exact ovc
            · have := nd_snoc (T := T.map (a ++ ·)) (by rw [← ndm]; exact nd) hin
              have e2 : (T ++ [t0 ++ [c]]).map (fun t => classOf rs (a ++ t)) = (T.map (a ++ ·) ++ [a ++ (t0 ++ [c])]).map (classOf rs) := by simp [Function.comp_def]
              rw [e2]
              exact this
            · by_cases h : i < T.length
              · rw [List.getElem?_append_left h] at hi
                exact ln i t hi
              · have h2 := (List.getElem?_eq_some_iff.mp hi).1
                simp only [List.length_append, List.length_cons, List.length_nil] at h2
                have h3 : i = T.length := by omega
                rw [h3, List.getElem?_append_right (Nat.le_refl _)] at hi
                simp at hi
                rw [← hi, List.length_append, List.length_singleton]
                omega
            · rw [List.getElem?_append_left hatT]; exact ht0
            · rw [List.getElem?_append_left (by omega)] at ht
              exact inP i t hi ht
            · rw [List.getElem?_append_left (by omega)] at ht
              exact growH _ (done i t hi ht c' hc')
            · rw [take_snoc hc] at hc'
              rcases List.mem_append.mp hc' with z | z
              · exact growH _ (dt c' z)
              · rw [List.mem_singleton.mp z]; exact hasN
        · clear sb gw gk t0z ov nd ln ht0 inP done it0 hat0 t40 hat gy2
          rintro S' G3 ⟨T, x8, x9, rfl, sb, gw, gk, t0z, ov, nd, ln, ht0, inP, done, dt⟩
          rw [List.length_map, List.take_length] at dt
          have t40 := fewT T nd ov
          have hatT := (List.getElem?_eq_some_iff.mp ht0).1
          refine ⟨100 - (at_ + 1), by omega, at_ + 1, T, ext2, _, _, _, _, rfl, rfl, sb, gw, gk, t0z, ov, nd, ln, by omega, ndx, ovx, inP, fun i t hi ht c hc => ?_⟩
          by_cases h : i < at_
          · exact done i t h ht c hc
          · have : i = at_ := by omega
            subst this
            rw [ht0] at ht
            cases ht
            exact dt c hc
    · rw [if_neg (by simpa using hat)]
      have hA : ∀ v, Ov hs v → Has rs (T.map (a ++ ·)) (a ++ v) := fun v hv => by
        refine has_all (hs := hs) (fun s hs' c hc => ?_) ⟨a ++ [], List.mem_map.mpr ⟨[], List.mem_of_getElem? t0z, rfl⟩, by rw [List.append_nil]⟩ v hv
        obtain ⟨t, ht, rfl⟩ := List.mem_map.mp hs'
        obtain ⟨i, hi⟩ := List.mem_iff_getElem?.mp ht
        have := done i t (by have := (List.getElem?_eq_some_iff.mp hi).1; omega) hi c hc
        rwa [← List.append_assoc] at this
      refine ⟨_, sb, q ext ndx ovx fun v hv => ?_⟩
      obtain ⟨s, hs', e⟩ := hA v hv
      obtain ⟨t, ht, rfl⟩ := List.mem_map.mp hs'
      obtain ⟨i, hi⟩ := List.mem_iff_getElem?.mp ht
      obtain ⟨s2, h2, e2⟩ := inP i t (by have := (List.getElem?_eq_some_iff.mp hi).1; omega) hi
      exact ⟨s2, h2, e.trans e2⟩
end
end Pace
end
section
set_option Elab.async false
set_option linter.all false
set_option maxRecDepth 100000
set_option maxHeartbeats 4000000
namespace Pace
open PySem PySem.Spec PyProof.Rows L2 DL
section
variable {P : Program} {w : World} {K : PySem.W.Frag} {mg : Str → Option Value} {base : Heap} {C PT cT : Addr}
def spCInit (C W : Addr) (w : World) : SpD := fun ds G Q => ∃ (y : Addr) (hs ws : List Nat) (rs : List (List Mv)), ds = [.rf y, rulD C (mkR hs ws rs)] ∧ G y = some (.ins W []) ∧ RulV hs ws rs ∧ rs.length ≤ 7 ∧ hs.length ≤ 100 ∧ FewC hs rs 40 ∧
  ∀ (fs : List (Str × D)) (p : Addr) (Pm : List (List Nat × D)) (G' : GH), G' y = some (.ins W fs) → fs.lookup (Str.ofString "pumps") = some (.rf p) → G' p = some (.dN w (ckD rs Pm)) → ((Pm.map (·.1)).map (classOf rs)).Nodup → (∀ e ∈ Pm, Ov hs e.1) → (∀ u, Ov hs u → (Has rs (Pm.map (·.1)) u ↔ LongC hs rs u)) → Sub (gdel G y) G' → Q .non G'
abbrev N_Classes_u__init_u_ : List Str := ["self", "rules", "letter", "start", "at", "here", "there", "loop"]
theorem sc_Classes_u__init_u_ : FnScope N_Classes_u__init_u_ ["self", "rules"] (defScope s_Classes_u__init_u_) := ⟨rfl, rfl, rfl, by decide +kernel, rfl, by decide +kernel, by decide +kernel⟩
theorem c_Classes_u__init_u_ (T : Txt K mg C) (d : DefI K (He.ga K "Classes") "Classes.__init__" s_Classes_u__init_u_) (C_text_class : Cal P w K mg base "text_class" 3 ["rules", "text"] (spTClass C)) (Mm_letter_steps : CalM P w K mg base (He.ga K "Classes") "letter_steps" 2 ["self", "here"] (spLSteps (He.ga K "Classes"))) (Mm_way : CalM P w K mg base (He.ga K "Classes") "way" 3 ["self", "begin", "goal"] (spWay (He.ga K "Classes"))) (Mm_pump_on : CalM P w K mg base (He.ga K "Classes") "pump_on" 3 ["self", "begin", "loop"] (spPumpOn (He.ga K "Classes") w)) : Mak P w K mg base "Classes" (He.ga K "Classes") 5 ["self", "rules"] (spCInit C (He.ga K "Classes") w) := by
  refine mak_mk (N := N_Classes_u__init_u_) d T.mg_Classes sc_Classes_u__init_u_ (fun ds G Q h => ?_) (fun _ _ _ _ _ _ us hl => match us, hl with | [_, _], _ => rfl) (fun f cdv A outer s H E hg hr => ?_)
  · obtain ⟨y, hs, ws, rs, rfl, _⟩ := h
    rfl
  · have hu := hu100 hr
    have nd := sc_Classes_u__init_u_.nd
    have hA := deeper_guards (env := envOfC "Classes.__init__" (defScope s_Classes_u__init_u_) s.heap.objs.size f cdv) hg
    refine ⟨_, (dps_cons (dp_setFld T.cl_Classes T.no_Classes_letter_classes (de_var 0) (de_lc (own := [("letter", 2)]) (p := (.nm 2)) rfl nd (di_str (de_fld T.clR T.no_heard (de_var 1))) (blkOk_by (by show blkC N_Classes_u__init_u_ (defScope s_Classes_u__init_u_) _ _ = true; decide +kernel)) (by decide) (fun _ _ _ _ _ => pg_name (i := 2) nd rfl (Or.inl rfl)) (fun _ _ _ _ _ => dts_nil) (fun _ _ _ _ _ => (de_tup (da_cons (de_var 2) (da_cons (de_cal C_text_class hA (hr.mono (by decide)) (da_cons (de_var 1) (da_cons (de_var 2) da_nil))) da_nil))))))
  (dps_cons (dp_asg (de_cal C_text_class hA (hr.mono (by decide)) (da_cons (de_var 1) (da_cons de_str da_nil))) (dg_name 3 nd))
  (dps_cons (dp_setFld T.cl_Classes T.no_Classes_texts (de_var 0) (de_dispN hu (de_var 3) de_str))
  (dps_cons (dp_setFld T.cl_Classes T.no_Classes_order (de_var 0) (de_lstM (da_cons (de_var 3) da_nil)))
  (dps_cons (dp_asg de_int (dg_name 4 nd))
  (dps_cons (dp_while PassesOwn.never (dt_cmp (od_lt hu) (de_var 4) (de_callB cd_len rfl T.f_len (by decide +kernel) (da_cons (de_fld T.cl_Classes T.no_Classes_order (de_var 0)) da_nil)) (nomark _))
  (dps_cons (dp_asg (de_ix hu (de_fld T.cl_Classes T.no_Classes_order (de_var 0)) (de_var 4)) (dg_name 5 nd))
  (dps_cons (dp_aug (i := 4) nd ip_add de_int)
  (dps_one (dp_for PassesOwn.never rfl (di_list (de_calM T.cl_Classes Mm_letter_steps hA (hr.mono (by decide)) (de_var 0) (da_cons (de_var 5) da_nil))) (dg_tup (n := 2) rfl (dgs_cons (dg_name 2 nd) (dgs_cons (dg_name 6 nd) dgs_nil)))
  (dps_one (dp_if (dt_cmp (od_notInN hu) (de_var 6) (de_fld T.cl_Classes T.no_Classes_texts (de_var 0)) (by rfl))
  (dps_cons (dp_asg (de_op od_add (de_ixN hu (de_fld T.cl_Classes T.no_Classes_texts (de_var 0)) (de_var 5)) (de_var 2)) (dg_subN hu (de_fld T.cl_Classes T.no_Classes_texts (de_var 0)) (de_var 6)))
  (dps_one (dp_expr (de_bm PySem.F.plainAttrs_list PySem.F.slot_list_append PySem.F.type_list_append md_append (de_fld T.cl_Classes T.no_Classes_order (de_var 0)) (da_cons (de_var 6) da_nil)))))
  dps_nil)))))))
  (dps_cons (dp_setFld T.cl_Classes T.no_Classes_pumps (de_var 0) de_newN)
  (dps_one (dp_for PassesOwn.never rfl (di_list (de_fld T.cl_Classes T.no_Classes_order (de_var 0))) (dg_name 5 nd)
  (dps_cons (dp_asg (de_if (dt_cmp (od_inN hu) (de_var 5) (de_fld T.cl_Classes T.no_Classes_pumps (de_var 0)) (by rfl)) de_non (de_calM T.cl_Classes Mm_way hA (hr.mono (by decide)) (de_var 0) (da_cons (de_var 5) (da_cons (de_var 5) da_nil)))) (dg_name 7 nd))
  (dps_one (dp_if (dt_cmp od_notN (de_var 7) de_non (nomark _))
  (dps_one (dp_expr (de_calM T.cl_Classes Mm_pump_on hA (hr.mono (by decide)) (de_var 0) (da_cons (de_var 5) (da_cons (de_var 7) da_nil)))))
  dps_nil)))))))))))), fun ds G Q h => ?_⟩
    obtain ⟨y, hs, ws, rs, rfl, gy, v, n7, h1, few, q⟩ := h
    rw [show dstart N_Classes_u__init_u_ [.rf y, rulD C (mkR hs ws rs)] = [some (.rf y), some (rulD C (mkR hs ws rs)), none, none, none, none, none, none] from rfl]
    have e0 : ∀ (G : GH) (R : Rul), D.cur G (rulD C R) = .obj C (rulF R) := fun _ _ => rfl
    have ehd : ∀ (h m : List Nat) (X : Rows), List.lookup (Str.ofString "heard") (rulF (mkR h m X)) = some (.str (strOf h)) := fun _ _ _ => rfl
    simp only [dxs, dl, cx_w2, e0, ehd, true_and]
    have ok := v.ok
    have tl : ∀ r ∈ rs, ∀ m ∈ r, m.t < rs.length := fun r hr m hm => (v.ok.at_ r hr).2 m hm
    have s00 : D.str (Str.ofString "") = .str (strOf []) := by rw [str_nil]
    refine lc_mapA hs (fun c => D.str (sgn c)) (fun c => D.tup [.str (sgn c), classD rs [c]]) (signs_map hs) (sz (by omega)) trivial (fun c _ => ⟨_, rfl, fun Q zz => ?_⟩) ?_
    · simp only [dxs, dl, dwipe, List.map_cons, List.map_nil]
      exact ⟨mkR hs ws rs, [c], rfl, ok, by show rs.length < 64; omega, sz (by decide), zz⟩
    have f1 : ∀ X : D, putFD (Str.ofString "letter_classes") X [] = [(Str.ofString "letter_classes", X)] := fun _ => rfl
    have f2 : ∀ X Y : D, putFD (Str.ofString "texts") Y [(Str.ofString "letter_classes", X)] = [(Str.ofString "letter_classes", X), (Str.ofString "texts", Y)] := fun _ _ => rfl
    have f3 : ∀ X Y Z : D, putFD (Str.ofString "order") Z [(Str.ofString "letter_classes", X), (Str.ofString "texts", Y)] = [(Str.ofString "letter_classes", X), (Str.ofString "texts", Y), (Str.ofString "order", Z)] := fun _ _ _ => rfl
    have f4 : ∀ X Y Z V : D, putFD (Str.ofString "pumps") V [(Str.ofString "letter_classes", X), (Str.ofString "texts", Y), (Str.ofString "order", Z)] = [(Str.ofString "letter_classes", X), (Str.ofString "texts", Y), (Str.ofString "order", Z), (Str.ofString "pumps", V)] := fun _ _ _ _ => rfl
    have elc : D.lst (hs.map fun c => D.tup [.str (sgn c), classD rs [c]]) = lcD hs rs := rfl
    rw [elc]
    simp only [gy, f1]
    refine ⟨trivial, by simp, mkR hs ws rs, [], by rw [s00], ok, by show rs.length < 64; omega, ?_⟩
    have eM : (mkR hs ws rs).rows = rs := rfl
    rw [eM]
    refine c_disp (u := []) (v := .str (strOf [])) (fun h => h) (fun {K} h => by show K (.str (Str.ofString "")) _; rw [s00]; exact h) fun t ht => ?_
    obtain ⟨nty, ht'⟩ := gput_none ht
    have yt : y ≠ t := fun e => nty e.symm
    simp only [gput_ne yt, gput_same, f2]
    refine ⟨trivial, by simp, sz (by decide), fun o ho => ?_⟩
    obtain ⟨noy, ho1⟩ := gput_none ho
    obtain ⟨not_, ho2⟩ := gput_none ho1
    obtain ⟨_, ho'⟩ := gput_none ho2
    have yo : y ≠ o := fun e => noy e.symm
    have to_ : t ≠ o := fun e => not_ e.symm
    simp only [gput_ne yo, gput_same, f3]
    refine ⟨trivial, by simp, ?_⟩
    have sbG : Sub (gdel G y) G := ⟨gdel_sub, fun c hc => by
      rw [gdel_ne (fun e => by rw [e, gy] at hc; cases hc)]; exact hc⟩
    have by_ : gdel G y y = none := gdel_same
    have bt : gdel G y t = none := by rw [gdel_ne (Ne.symm yt)]; exact ht'
    have bo : gdel G y o = none := by rw [gdel_ne (Ne.symm yo)]; exact ho'
    have sb1 : ∀ A B C D E, A.isDeck = false → B.isDeck = false → C.isDeck = false → D.isDeck = false → E.isDeck = false → Sub (gdel G y) (gput (gput (gput (gput (gput G y A) t B) y C) o D) y E) := fun A B C D E a b c d e => sub_putZ (sub_putZ (sub_putZ (sub_putZ (sub_putZ sbG by_ a) bt b) by_ c) bo d) by_ e
    refine ⟨fun m S' G' => ∃ (at_ : Nat) (W : List (List Nat)) (x2 x5 x6 : Option D), m = 100 - at_ ∧ S' = [some (.rf y), some (rulD C (mkR hs ws rs)), x2, some (classD rs []), some (.int (at_ : Int)), x5, x6, none] ∧
      Sub (gdel G y) G' ∧ G' y = some (.ins (He.ga K "Classes") [(Str.ofString "letter_classes", lcD hs rs), (Str.ofString "texts", .rf t), (Str.ofString "order", .rf o)]) ∧ G' t = some (.dN w (ckD rs (W.map fun l => (l, D.str (strOf l))))) ∧ G' o = some (.lst (W.map (classD rs))) ∧
      W[0]? = some [] ∧ (∀ l ∈ W, Ov hs l) ∧ (W.map (classOf rs)).Nodup ∧ (∀ (i : Nat) (l : List Nat), W[i]? = some l → l.length ≤ i) ∧ at_ ≤ W.length ∧ ∀ (i : Nat) (l : List Nat), i < at_ → W[i]? = some l → ∀ c ∈ hs, Has rs W (l ++ [c]),
      ⟨_, 0, [[]], _, none, none, rfl, rfl, sb1 _ _ _ _ _ rfl rfl rfl rfl rfl, gput_same, by rw [gput_ne (Ne.symm yt), gput_ne to_, gput_ne (Ne.symm yt), gput_same]; rfl, by rw [gput_ne (Ne.symm yo), gput_same]; rfl, rfl, fun t ht => (by rw [List.mem_singleton.mp ht]; intro c hc; cases hc), by simp, fun i t h => by
        cases i with
        | zero => cases h; simp
        | succ i => simp at h, by simp, fun i t h => by omega⟩, ?_⟩
    rintro m S' G' ⟨at_, W, x2, x5, x6, rfl, rfl, sb, gy', gt, go, w0, ov, nd, ln, hat0, done⟩
    have w40 := few.le nd ov
    have fo : List.lookup (Str.ofString "order") [(Str.ofString "letter_classes", lcD hs rs), (Str.ofString "texts", D.rf t), (Str.ofString "order", D.rf o)] = some (.rf o) := rfl
    have ft : List.lookup (Str.ofString "texts") [(Str.ofString "letter_classes", lcD hs rs), (Str.ofString "texts", D.rf t), (Str.ofString "order", D.rf o)] = some (.rf t) := rfl
    have fl : List.lookup (Str.ofString "letter_classes") [(Str.ofString "letter_classes", lcD hs rs), (Str.ofString "texts", D.rf t), (Str.ofString "order", D.rf o)] = some (lcD hs rs) := rfl
    have fm : List.lookup (Str.ofString "letter_steps") [(Str.ofString "letter_classes", lcD hs rs), (Str.ofString "texts", D.rf t), (Str.ofString "order", D.rf o)] = none := rfl
    simp only [dxs, dl, rLenD, D.len, gy', fo, go, List.length_map, okL_int, DL.lt_int, true_and]
    by_cases hat : at_ < W.length
    · rw [if_pos (by simpa using hat)]
      obtain ⟨l0, hl0⟩ : ∃ l0, W[at_]? = some l0 := ⟨_, List.getElem?_eq_getElem hat⟩
      have ovl := ov l0 (List.mem_of_getElem? hl0)
      have it0 : D.item (.lst (W.map (classD rs))) (.int (at_ : Int)) = some (classD rs l0) := atI_nat (by rw [List.getElem?_map, hl0]; rfl)
      simp only [dxs, dl, gy', fo, go, it0, fm]
      refine ⟨trivial, y, _, hs, rs, l0, rfl, gy', fl, tl, n7, h1, ?_⟩
      refine ⟨fun i S' G' => ∃ (W : List (List Nat)) (x2 x6 : Option D), S' = [some (.rf y), some (rulD C (mkR hs ws rs)), x2, some (classD rs []), some (.int ((at_ : Int) + 1)), some (classD rs l0), x6, none] ∧
        Sub (gdel G y) G' ∧ G' y = some (.ins (He.ga K "Classes") [(Str.ofString "letter_classes", lcD hs rs), (Str.ofString "texts", .rf t), (Str.ofString "order", .rf o)]) ∧ G' t = some (.dN w (ckD rs (W.map fun l => (l, D.str (strOf l))))) ∧ G' o = some (.lst (W.map (classD rs))) ∧
        W[0]? = some [] ∧ (∀ l ∈ W, Ov hs l) ∧ (W.map (classOf rs)).Nodup ∧ (∀ (i : Nat) (l : List Nat), W[i]? = some l → l.length ≤ i) ∧ W[at_]? = some l0 ∧ (∀ (i : Nat) (l : List Nat), i < at_ → W[i]? = some l → ∀ c ∈ hs, Has rs W (l ++ [c])) ∧ ∀ c ∈ hs.take i, Has rs W (l0 ++ [c]),
        ⟨W, _, _, rfl, sb, gy', gt, go, w0, ov, nd, ln, hl0, done, by simp⟩, fun _ _ _ _ => trivial, ?_, ?_⟩
      · clear sb gy' gt go w0 ov nd ln hl0 done it0 hat0 w40 hat
        rintro i S' G' dd ⟨W, x2, x6, rfl, sb, gy', gt, go, w0, ov, nd, ln, hl0, done, dt⟩ hd
        obtain ⟨c, hc, rfl⟩ := map_get hd
        have hch := List.mem_of_getElem? hc
        have w40 := few.le nd ov
        have hatW := (List.getElem?_eq_some_iff.mp hl0).1
        have ovc : Ov hs (l0 ++ [c]) := ovl.app (Ov.one hch)
        have tl0 := ln at_ l0 hl0
        have esg : strOf l0 ++ sgn c = strOf (l0 ++ [c]) := strOf_app l0 [c]
        have eSt : ∀ (G : GH) (x : Str), D.cur G (.str x) = .str x := fun _ _ => rfl
        have s1 : (sgn c).length = 1 := rfl
        have em : (W.map fun l => (l, D.str (strOf l))).map (·.1) = W := by simp [List.map_map, Function.comp_def]
        simp only [dxs, dl, stepT, gy', ft]
        refine ⟨trivial, trivial, ?_⟩
        by_cases hin : Has rs W (l0 ++ [c])
        · refine c_yes gt (by rw [em]; exact hin) ?_
          simp only [Bool.not_true, Bool.false_eq_true, if_false]
          refine ⟨W, _, _, rfl, sb, gy', gt, go, w0, ov, nd, ln, hl0, done, fun c' hc' => ?_⟩
          rw [take_snoc hc] at hc'
          rcases List.mem_append.mp hc' with z | z
          · exact dt c' z
          · rw [List.mem_singleton.mp z]; exact hin
        · refine c_no gt (by rw [em]; exact hin) ?_
          simp only [if_true, gy', ft]
          have hvl : valD (ckD rs (W.map fun l => (l, D.str (strOf l)))) (clN rs l0) = some (.str (strOf l0)) := ck_val (by rw [em]; exact nd) (e := (l0, D.str (strOf l0))) (List.mem_map.mpr ⟨l0, List.mem_of_getElem? hl0, rfl⟩) rfl
          refine ⟨trivial, c_item gt hvl ?_⟩
          simp only [rAddD, eSt, esg, strOf_len, s1]
          refine ⟨sz (by omega), ?_⟩
          refine c_set (fun {K} h => by simp only [dxs, dl, gy', ft]; exact ⟨trivial, h⟩) (fun h => h) gt (by rw [List.length_map]; omega) (by rw [em]; exact hin) ?_
          have eE : (W.map fun l => (l, D.str (strOf l))) ++ [(l0 ++ [c], D.str (strOf (l0 ++ [c])))] = (W ++ [l0 ++ [c]]).map fun l => (l, D.str (strOf l)) := by rw [List.map_append]; rfl
          have eT : W.map (classD rs) ++ [classD rs (l0 ++ [c])] = (W ++ [l0 ++ [c]]).map (classD rs) := by rw [List.map_append]; rfl
          have go2 : ∀ X, gput G' t X o = some (.lst (W.map (classD rs))) := fun X => by rw [gput_ne (Ne.symm to_)]; exact go
          have gy2 : ∀ X, gput G' t X y = some (.ins (He.ga K "Classes") [(Str.ofString "letter_classes", lcD hs rs), (Str.ofString "texts", .rf t), (Str.ofString "order", .rf o)]) := fun X => by rw [gput_ne yt]; exact gy'
          rw [eE]
          simp only [dxs, dl, gy2, fo, go2, rAppendD, eT, List.length_map]
          have hasN : Has rs (W ++ [l0 ++ [c]]) (l0 ++ [c]) := ⟨l0 ++ [c], by simp, rfl⟩
          refine ⟨trivial, rfl, szl (by omega), W ++ [l0 ++ [c]], _, _, rfl, sub_putZ (sub_putZ sb bt rfl) bo rfl, by rw [gput_ne yo, gput_ne yt]; exact gy', by rw [gput_ne to_, gput_same], by first | rfl | exact gput_same, ?_, fun l hl => ?_, nd_snoc nd hin, fun i l hi => ?_, ?_, fun i l hi hl c' hc' => ?_, fun c' hc' => ?_⟩
          · rw [List.getElem?_append_left (List.getElem?_eq_some_iff.mp w0).1]; exact w0
          · rcases List.mem_append.mp hl with h | h
            · exact ov l h
            · rw [List.mem_singleton.mp h]; exact ovc
          · by_cases h : i < W.length
            · rw [List.getElem?_append_left h] at hi
              exact ln i l hi
            · have h2 := (List.getElem?_eq_some_iff.mp hi).1
              simp only [List.length_append, List.length_cons, List.length_nil] at h2
              have h3 : i = W.length := by omega
              rw [h3, List.getElem?_append_right (Nat.le_refl _)] at hi
              simp at hi
              rw [← hi, List.length_append, List.length_singleton]
              omega
          · rw [List.getElem?_append_left hatW]; exact hl0
          · rw [List.getElem?_append_left (by omega)] at hl
            exact (done i l hi hl c' hc').grow _
          · rw [take_snoc hc] at hc'
            rcases List.mem_append.mp hc' with z | z
            · exact (dt c' z).grow _
            · rw [List.mem_singleton.mp z]; exact hasN
      · clear sb gy' gt go w0 ov nd ln hl0 done it0 hat0 w40 hat
        rintro S' G' ⟨W, x2, x6, rfl, sb, gy', gt, go, w0, ov, nd, ln, hl0, done, dt⟩
        rw [List.length_map, List.take_length] at dt
        have w40 := few.le nd ov
        have hatW := (List.getElem?_eq_some_iff.mp hl0).1
        refine ⟨100 - (at_ + 1), by omega, at_ + 1, W, _, _, _, rfl, rfl, sb, gy', gt, go, w0, ov, nd, ln, by omega, fun i l hi hl c hc => ?_⟩
        by_cases h : i < at_
        · exact done i l h hl c hc
        · have : i = at_ := by omega
          subst this
          rw [hl0] at hl
          cases hl
          exact dt c hc
    · rw [if_neg (by simpa using hat)]
      have allW : ∀ u, Ov hs u → Has rs W u := fun u hu => by
        have := has_all (hs := hs) (T := W) (fun l hl c hc => by
          obtain ⟨i, hi⟩ := List.mem_iff_getElem?.mp hl
          exact done i l (by have := (List.getElem?_eq_some_iff.mp hi).1; omega) hi c hc) ⟨[], List.mem_of_getElem? w0, rfl⟩ u hu
        simpa using this
      intro p hp
      have py : y ≠ p := fun e => by rw [← e, gy'] at hp; cases hp
      have pt : t ≠ p := fun e => by rw [← e, gt] at hp; cases hp
      have po : o ≠ p := fun e => by rw [← e, go] at hp; cases hp
      have bp : gdel G y p = none := sb.no hp
      have gyp : ∀ X, gput G' p X y = some (.ins (He.ga K "Classes") [(Str.ofString "letter_classes", lcD hs rs), (Str.ofString "texts", .rf t), (Str.ofString "order", .rf o)]) := fun X => by rw [gput_ne py]; exact gy'
      have fo4 : List.lookup (Str.ofString "order") [(Str.ofString "letter_classes", lcD hs rs), (Str.ofString "texts", D.rf t), (Str.ofString "order", D.rf o), (Str.ofString "pumps", D.rf p)] = some (.rf o) := rfl
      have ft4 : List.lookup (Str.ofString "texts") [(Str.ofString "letter_classes", lcD hs rs), (Str.ofString "texts", D.rf t), (Str.ofString "order", D.rf o), (Str.ofString "pumps", D.rf p)] = some (.rf t) := rfl
      have fl4 : List.lookup (Str.ofString "letter_classes") [(Str.ofString "letter_classes", lcD hs rs), (Str.ofString "texts", D.rf t), (Str.ofString "order", D.rf o), (Str.ofString "pumps", D.rf p)] = some (lcD hs rs) := rfl
      have fp4 : List.lookup (Str.ofString "pumps") [(Str.ofString "letter_classes", lcD hs rs), (Str.ofString "texts", D.rf t), (Str.ofString "order", D.rf o), (Str.ofString "pumps", D.rf p)] = some (.rf p) := rfl
      have fm4 : List.lookup (Str.ofString "letter_steps") [(Str.ofString "letter_classes", lcD hs rs), (Str.ofString "texts", D.rf t), (Str.ofString "order", D.rf o), (Str.ofString "pumps", D.rf p)] = none := rfl
      have fw4 : List.lookup (Str.ofString "way") [(Str.ofString "letter_classes", lcD hs rs), (Str.ofString "texts", D.rf t), (Str.ofString "order", D.rf o), (Str.ofString "pumps", D.rf p)] = none := rfl
      have fu4 : List.lookup (Str.ofString "pump_on") [(Str.ofString "letter_classes", lcD hs rs), (Str.ofString "texts", D.rf t), (Str.ofString "order", D.rf o), (Str.ofString "pumps", D.rf p)] = none := rfl
      have go4 : ∀ X Y, gput (gput G' p X) y Y o = some (.lst (W.map (classD rs))) := fun X Y => by rw [gput_ne (Ne.symm yo), gput_ne po]; exact go
      simp only [gyp, f4, fo4, go4]
      refine ⟨trivial, by simp, ?_⟩
      have em : (W.map fun l => (l, D.str (strOf l))).map (·.1) = W := by simp [List.map_map, Function.comp_def]
      refine ⟨fun i S' G2 => ∃ (Pm : List (List Nat × D)) (x5 x7 : Option D), S' = [some (.rf y), some (rulD C (mkR hs ws rs)), x2, some (classD rs []), some (.int (at_ : Int)), x5, x6, x7] ∧
        Sub (gdel G y) G2 ∧ G2 y = some (.ins (He.ga K "Classes") [(Str.ofString "letter_classes", lcD hs rs), (Str.ofString "texts", .rf t), (Str.ofString "order", .rf o), (Str.ofString "pumps", .rf p)]) ∧ G2 t = some (.dN w (ckD rs (W.map fun l => (l, D.str (strOf l))))) ∧ G2 o = some (.lst (W.map (classD rs))) ∧ G2 p = some (.dN w (ckD rs Pm)) ∧
        ((Pm.map (·.1)).map (classOf rs)).Nodup ∧ (∀ e ∈ Pm, Ov hs e.1) ∧ (∀ e ∈ Pm, LongC hs rs e.1) ∧ (∀ e ∈ Pm, ∀ u, Ov hs u → Has rs (Pm.map (·.1)) (e.1 ++ u)) ∧ ∀ (j : Nat) (l : List Nat), j < i → W[j]? = some l → ∀ v, v ≠ [] → Ov hs v → classOf rs (l ++ v) = classOf rs l → Has rs (Pm.map (·.1)) l,
        ⟨[], _, _, rfl, sub_putZ (sub_putZ sb bp rfl) by_ rfl, gput_same, by rw [gput_ne (Ne.symm yt), gput_ne pt]; exact gt, go4 _ _, by rw [gput_ne (Ne.symm py), gput_same]; rfl, by simp, by simp, by simp, by simp, fun j l h => by omega⟩, fun i S' G2 h => by obtain ⟨_, _, _, _, _, _, _, h, _⟩ := h; exact h, ?_, ?_⟩
      · rintro i S' G2 dd ⟨Pm, x5, x7, rfl, sb2, gy2, gt2, go2, gp2, ndP, ovP, lgP, clP, dnP⟩ hd
        obtain ⟨l, hl, rfl⟩ := map_get hd
        have hlm := List.mem_of_getElem? hl
        have ovl := ov l hlm
        simp only [dxs, dl, gy2, fp4, fw4]
        refine ⟨trivial, ?_⟩
        by_cases hin : Has rs (Pm.map (·.1)) l
        · refine c_yes gp2 hin ?_
          simp only [Bool.not_false, if_true, D.isNon, Bool.not_true, Bool.false_eq_true, if_false]
          refine ⟨Pm, _, _, rfl, sb2, gy2, gt2, go2, gp2, ndP, ovP, lgP, clP, fun j l2 hj hl2 => ?_⟩
          by_cases h : j < i
          · exact dnP j l2 h hl2
          · have : j = i := by omega
            subst this
            rw [hl] at hl2
            cases hl2
            exact fun _ _ _ _ => hin
        · refine c_no gp2 hin ?_
          simp only [Bool.false_eq_true, if_false, gy2, fw4]
          refine ⟨trivial, trivial, y, _, hs, rs, l, l, rfl, gy2, fl4, fm4, tl, n7, h1, few, ovl, fun u u0 ovu lu hu => ?_, fun no => ?_⟩
          · simp only [D.isNon, Bool.not_false, if_true, gy2, fu4]
            have hvl : valD (ckD rs (W.map fun l => (l, D.str (strOf l)))) (clN rs l) = some (.str (strOf l)) := ck_val (by rw [em]; exact nd) (e := (l, D.str (strOf l))) (List.mem_map.mpr ⟨l, hlm, rfl⟩) rfl
            refine ⟨trivial, trivial, y, _, hs, rs, l, u, t, p, _, Pm, _, rfl, gy2, fl4, fm4, ft4, fp4, pt, gt2, hvl, gp2, ndP, ovP, tl, n7, h1, few, ovl, fun ext ndx ovx all => ?_⟩
            have hasl : Has rs ((Pm ++ ext).map (·.1)) l := by simpa using all [] (by intro c hc; cases hc)
            refine ⟨Pm ++ ext, _, _, rfl, sub_putZ sb2 bp rfl, by rw [gput_ne py]; exact gy2, by rw [gput_ne pt]; exact gt2, by rw [gput_ne po]; exact go2, gput_same, ndx, fun e he => ?_, fun e he => ?_, fun e he v hv => ?_, fun j l2 hj hl2 => ?_⟩
            · rcases List.mem_append.mp he with h | h
              · exact ovP e h
              · obtain ⟨v, hv, e2⟩ := ovx e h
                rw [e2]; exact ovl.app hv
            · rcases List.mem_append.mp he with h | h
              · exact lgP e h
              · obtain ⟨v, hv, e2⟩ := ovx e h
                exact ⟨l, u, v, ovl, ovu, hv, u0, hu, by rw [e2]⟩
            · rcases List.mem_append.mp he with h | h
              · rw [List.map_append]; exact (clP e h v hv).grow _
              · obtain ⟨v2, hv2, e2⟩ := ovx e h
                rw [e2, List.append_assoc]
                exact all _ (hv2.app hv)
            · by_cases h : j < i
              · intro v v0 hv hc
                rw [List.map_append]
                exact (dnP j l2 h hl2 v v0 hv hc).grow _
              · have : j = i := by omega
                subst this
                rw [hl] at hl2
                cases hl2
                exact fun _ _ _ _ => hasl
          · simp only [D.isNon, Bool.not_true, Bool.false_eq_true, if_false]
            refine ⟨Pm, _, _, rfl, sb2, gy2, gt2, go2, gp2, ndP, ovP, lgP, clP, fun j l2 hj hl2 => ?_⟩
            by_cases h : j < i
            · exact dnP j l2 h hl2
            · have : j = i := by omega
              subst this
              rw [hl] at hl2
              cases hl2
              exact fun v v0 hv hc => absurd hc (no v v0 hv)
      · rintro S' G2 ⟨Pm, x5, x7, rfl, sb2, gy2, gt2, go2, gp2, ndP, ovP, lgP, clP, dnP⟩
        rw [List.length_map] at dnP
        refine ⟨G2, Sub.refl _, q _ p Pm G2 gy2 fp4 gp2 ndP ovP (fun u hu => ⟨fun h => ?_, fun h => ?_⟩) sb2⟩
        · obtain ⟨s, hs', e⟩ := h
          obtain ⟨e1, he1, rfl⟩ := List.mem_map.mp hs'
          exact (lgP e1 he1).congr e
        · obtain ⟨a, v, w', ova, ovv, ovw, v0, hc, hu2⟩ := h
          obtain ⟨l, hl, e⟩ := allW a ova
          obtain ⟨j, hj⟩ := List.mem_iff_getElem?.mp hl
          have hlv : classOf rs (l ++ v) = classOf rs l := by rw [← cls_app e v, hc, e]
          obtain ⟨s, hs', e2⟩ := dnP j l (List.getElem?_eq_some_iff.mp hj).1 hj v v0 ovv hlv
          obtain ⟨e1, he1, rfl⟩ := List.mem_map.mp hs'
          obtain ⟨s2, h2, e3⟩ := clP e1 he1 w' ovw
          refine ⟨s2, h2, ?_⟩
          rw [hu2, cls_app e w', cls_app e2 w', e3]
end
end Pace
end
section
set_option Elab.async false
set_option linter.all false
set_option maxRecDepth 100000
set_option maxHeartbeats 4000000
namespace Pace
open PySem PySem.Spec PyProof.Rows L2 DL
section
variable {P : Program} {w : World} {K : PySem.W.Frag} {mg : Str → Option Value} {base : Heap} {C PT cT : Addr}
def spLongC (C : Addr) (w : World) : SpD := fun ds G Q => ∃ (hs ws : List Nat) (rs : List (List Mv)), ds = [rulD C (mkR hs ws rs)] ∧ RulV hs ws rs ∧ muteOf rs hs = none ∧ rs.length ≤ 7 ∧ hs.length ≤ 100 ∧ FewC hs rs 40 ∧
  ∀ T : List (List Nat), (T.map (classOf rs)).Nodup → (∀ t ∈ T, Ov hs t) → (∀ u, Ov hs u → (Has rs T u ↔ LongC hs rs u)) → Q (.tup (sortD (T.map (classD rs)))) G
abbrev N_long_classes : List Str := ["rules"]
theorem sc_long_classes : FnScope N_long_classes ["rules"] (defScope s_long_classes) := ⟨rfl, rfl, rfl, by decide +kernel, rfl, by decide +kernel, by decide +kernel⟩
theorem c_long_classes (T : Txt K mg C) (d : Def K mg "long_classes" s_long_classes) (C_check_full : Cal P w K mg base "check_full" 3 ["rules"] (spFull C)) (M_Classes : Mak P w K mg base "Classes" (He.ga K "Classes") 5 ["self", "rules"] (spCInit C (He.ga K "Classes") w)) : Cal P w K mg base "long_classes" 7 ["rules"] (spLongC C w) ∧ CalK P w K mg base "long_classes" 7 ["rules"] (spLongC C w) 0 ["rules"] [0] := by
  refine cal_mkK (N := N_long_classes) d sc_long_classes (fun ds G Q h => ?_) (fun _ _ _ _ _ _ us hl => match us, hl with | [_], _ => rfl) (fun _ _ _ _ _ _ us ws hl hw => match us, ws, hl, hw with | [], [_], _, _ => rfl) (fun f cdv A outer s H E hg hr => ?_)
  · obtain ⟨hs, ws, rs, rfl, _⟩ := h
    rfl
  · have hu := hu100 hr
    have nd := sc_long_classes.nd
    have hA := deeper_guards (env := envOfC "long_classes" (defScope s_long_classes) s.heap.objs.size f cdv) hg
    refine ⟨_, (dps_cons (dp_expr (de_cal C_check_full hA (hr.mono (by decide)) (da_cons (de_var 0) da_nil)))
  (dps_one (dp_ret (de_callTy cd_tuple rfl T.f_tuple (by decide +kernel) (da_cons (de_callB (cd_sortN hu rfl) rfl T.f_sorted (by decide +kernel) (da_cons (de_fld T.cl_Classes T.no_Classes_pumps (de_mak M_Classes hA (hr.mono (by decide)) (da_cons (de_var 0) da_nil))) da_nil)) da_nil))))), fun ds G Q h => ?_⟩
    obtain ⟨hs, ws, rs, rfl, v, hm, n7, h1, few, q⟩ := h
    rw [show dstart N_long_classes [rulD C (mkR hs ws rs)] = [some (rulD C (mkR hs ws rs))] from rfl]
    simp only [dxs, dl, cx_w2]
    refine ⟨mkR hs ws rs, hs, rfl, v.ok, rfl, v.n1, by show rs.length ≤ 10; omega, hm, fun y hy => ⟨y, hs, ws, rs, rfl, gput_same, v, n7, h1, few, fun fs p Pm G2 gy fp gp nd ov lc sb => ?_⟩⟩
    rw [gdel_gput hy] at sb
    have py : p ≠ y := fun e => by rw [e, gy] at gp; cases gp
    have gp2 : gdel G2 y p = some (.dN w (ckD rs Pm)) := by rw [gdel_ne py]; exact gp
    have sb2 : Sub G (gdel G2 y) := ⟨fun b o hb => by
      rw [gdel_ne (fun e => by rw [e, hy] at hb; cases hb)]; exact sb.le b o hb, fun c hc => sb.dc c (gdel_sub c _ hc)⟩
    have ek : (ckD rs Pm).map (fun kv => kToD kv.1) = (Pm.map (·.1)).map (classD rs) := by
      unfold ckD
      rw [List.map_map, List.map_map]
      exact List.map_congr_left fun e _ => clN_toD e.1
    have eO : D.cur (gdel G2 y) (.obj (He.ga K "Classes") fs) = .obj (He.ga K "Classes") fs := rfl
    simp only [gy, MO.cold, eO, fp]
    refine ⟨trivial, ?_⟩
    have h0 : 0 < rs.length := by have := v.n1; omega
    unfold rSortN
    simp only [gp2, ek]
    exact ⟨trivial, okS_cls _ h0, _, sb2, q (Pm.map (·.1)) nd (fun t ht => by obtain ⟨e, he, rfl⟩ := List.mem_map.mp ht; exact ov e he) lc⟩
end
end Pace
end
section
set_option Elab.async false
set_option linter.all false
set_option maxRecDepth 100000
set_option maxHeartbeats 4000000
namespace Pace
open PySem PySem.Spec PyProof.Rows L2 DL
section
variable {P : Program} {w : World} {K : PySem.W.Frag} {mg : Str → Option Value} {base : Heap} {C PT cT : Addr}
def spLClass : SpD := fun ds G Q => ∃ (hs ws : List Nat) (rs : List (List Mv)) (cs : List Nat), ds = [wD hs ws rs, .str (strOf cs)] ∧ Few rs ∧ (∀ r ∈ rs, r.length ≤ 1000 ∧ ∀ m ∈ r, m.t < rs.length) ∧ rs.length ≤ 999 ∧ Q (classD rs cs) G
abbrev N__law_class : List Str := ["_law_w", "_law_page", "_law_s"]
theorem sc__law_class : FnScope N__law_class ["_law_w", "_law_page"] (defScope s__law_class) := ⟨rfl, rfl, rfl, by decide +kernel, rfl, by decide +kernel, by decide +kernel⟩
theorem c__law_class (T : Txt K mg C) (d : Def K mg "_law_class" s__law_class) (C__law_on : Cal P w K mg base "_law_on" 2 ["_law_w", "_law_spots", "_law_page"] (spOn)) : Cal P w K mg base "_law_class" 3 ["_law_w", "_law_page"] (spLClass) := by
  refine cal_mk (N := N__law_class) d sc__law_class (fun ds G Q h => ?_) (fun _ _ _ _ _ _ us hl => match us, hl with | [_, _], _ => rfl) (fun f cdv A outer s H E hg hr => ?_)
  · obtain ⟨hs, ws, rs, cs, rfl, _⟩ := h
    rfl
  · have hu := hu100 hr
    have nd := sc__law_class.nd
    have hA := deeper_guards (env := envOfC "_law_class" (defScope s__law_class) s.heap.objs.size f cdv) hg
    refine ⟨_, (dps_one (dp_ret (de_callTy cd_tuple rfl T.f_tuple (by decide +kernel) (da_cons (de_lc (own := [("_law_s", 2)]) (p := (.nm 2)) rfl nd (di_range1 rfl T.f_range (da_cons (de_callB cd_len rfl T.f_len (by decide +kernel) (da_cons (de_ix hu (de_var 0) de_str) da_nil)) da_nil)) (blkOk_by (by show blkC N__law_class (defScope s__law_class) _ _ = true; decide +kernel)) (by decide) (fun _ _ _ _ _ => pg_name (i := 2) nd rfl (Or.inl rfl)) (fun _ _ _ _ _ => dts_nil) (fun _ _ _ _ _ => (de_callTy cd_tuple rfl T.f_tuple (by decide +kernel) (da_cons (de_cal C__law_on hA (hr.mono (by decide)) (da_cons (de_var 0) (da_cons (de_lst (da_cons (de_var 2) da_nil)) (da_cons (de_var 1) da_nil)))) da_nil)))) da_nil)))), fun ds G Q h => ?_⟩
    obtain ⟨hs, ws, rs, cs, rfl, fw, ok, n2, q⟩ := h
    rw [show dstart N__law_class [wD hs ws rs, .str (strOf cs)] = [some (wD hs ws rs), some (.str (strOf cs)), none] from rfl]
    simp only [dxs, dl, wD_cur, wD_rows, rows_len_]
    refine ⟨by omega, by omega, ?_⟩
    refine lc_mapA (List.range rs.length) (fun (i : Nat) => .int (i : Int)) (fun (i : Nat) => .tup (natsD (run rs [i] cs))) (by rw [Int.toNat_natCast]) (sz (by simp; omega)) trivial (fun i hi => ⟨_, rfl, fun Q z => ?_⟩) ?_
    · have hi2 := List.mem_range.mp hi
      simp only [dxs, dl, dwipe, List.map_cons, List.map_nil]
      refine ⟨sz (by simp), hs, ws, rs, [i], cs, rfl, fw, ok, by simp, by simpa using hi2, ?_⟩
      simp only [rTupleD, dxs]
      exact z
    · simp only [rTupleD, dxs]
      have e : D.tup ((List.range rs.length).map fun (i : Nat) => .tup (natsD (run rs [i] cs))) = classD rs cs := by
        unfold classD classOf
        rw [List.map_map]
        rfl
      rw [e]
      exact ⟨G, Sub.refl _, q⟩
end
section
variable {P : Program} {w : World} {K : PySem.W.Frag} {mg : Str → Option Value} {base : Heap} {C PT cT : Addr}
def spPut : SpD := fun ds G Q => ∃ (rs : List (List Mv)) (a b : List Nat), ds = [classD rs a, classD rs b] ∧ (∀ r ∈ rs, ∀ m ∈ r, m.t < rs.length) ∧ rs.length ≤ 7 ∧ Q (classD rs (a ++ b)) G
abbrev N__law_put : List Str := ["_law_one_class", "_law_far", "_law_found", "_law_lot", "_law_spots", "_law_t"]
theorem sc__law_put : FnScope N__law_put ["_law_one_class", "_law_far"] (defScope s__law_put) := ⟨rfl, rfl, rfl, by decide +kernel, rfl, by decide +kernel, by decide +kernel⟩
theorem c__law_put (T : Txt K mg C) (d : Def K mg "_law_put" s__law_put) : Cal P w K mg base "_law_put" 1 ["_law_one_class", "_law_far"] (spPut) := by
  refine cal_mk (N := N__law_put) d sc__law_put (fun ds G Q h => ?_) (fun _ _ _ _ _ _ us hl => match us, hl with | [_, _], _ => rfl) (fun f cdv A outer s H E hg hr => ?_)
  · obtain ⟨rs, a, b, rfl, _⟩ := h
    rfl
  · have hu := hu100 hr
    have nd := sc__law_put.nd
    have hA := deeper_guards (env := envOfC "_law_put" (defScope s__law_put) s.heap.objs.size f cdv) hg
    refine ⟨_, (dps_cons (dp_asg (de_lstM da_nil) (dg_name 2 nd))
  (dps_cons (dp_for PassesOwn.never rfl (di_tup (de_var 0)) (dg_name 3 nd)
  (dps_cons (dp_asg (de_lstM da_nil) (dg_name 4 nd))
  (dps_cons (dp_for PassesOwn.never rfl (di_tup (de_var 3)) (dg_name 5 nd)
  (dps_one (dp_expr (de_bm PySem.F.plainAttrs_list PySem.F.slot_list_extend PySem.F.type_list_extend md_extT (de_var 4) (da_cons (de_ix hu (de_var 1) (de_var 5)) da_nil)))))
  (dps_one (dp_expr (de_bm PySem.F.plainAttrs_list PySem.F.slot_list_append PySem.F.type_list_append md_append (de_var 2) (da_cons (de_callTy cd_tuple rfl T.f_tuple (by decide +kernel) (da_cons (de_sortSet rfl rfl T.f_sorted rfl T.f_set (de_var 4)) da_nil)) da_nil)))))))
  (dps_one (dp_ret (de_callTy cd_tuple rfl T.f_tuple (by decide +kernel) (da_cons (de_var 2) da_nil)))))), fun ds G Q h => ?_⟩
    obtain ⟨rs, a, b, rfl, tl, n7, q⟩ := h
    rw [show dstart N__law_put [classD rs a, classD rs b] = [some (classD rs a), some (classD rs b), none, none, none, none] from rfl]
    simp only [dxs, dl]
    have ec : ∀ (G : GH), D.cur G (classD rs b) = classD rs b := fun _ => rfl
    have rl : ∀ s, s < rs.length → ∀ k ∈ run rs [s] a, k < rs.length := fun s hs => run_lt tl (by simpa using hs)
    have rn : ∀ (s : Nat) (l : List Nat), s < rs.length → (run rs [s] l).length ≤ 7 := fun s l hs => Nat.le_trans (nodup_lt_len ((run_sorted l).imp fun h => by omega) (run_lt tl (by simpa using hs))) n7
    have cl : ∀ l, (classOf rs l).length = rs.length := fun l => by simp [classOf]
    have cg : ∀ l s, s < rs.length → (classOf rs l)[s]? = some (run rs [s] l) := fun l s hs => by simp [classOf, hs]
    refine ⟨Nat.zero_le _, fun p hp => ?_⟩
    show ForB ((classOf rs a).map fun ss => D.tup (natsD ss)) _ _ _ _ _ _
    refine ⟨fun i S' G' => ∃ (x3 x4 x5 : Option D), S' = [some (classD rs a), some (classD rs b), some (.rf p), x3, x4, x5] ∧ Sub (gput G p (.lst (((classOf rs (a ++ b)).take i).map fun ss => .tup (natsD ss)))) G',
      ⟨none, none, none, rfl, by simp; exact Sub.refl _⟩, fun _ _ _ _ => trivial, ?_, ?_⟩
    · rintro i S' G' dd ⟨x3, x4, x5, rfl, sb⟩ hd
      obtain ⟨ss, hss, rfl⟩ := map_get hd
      have hi : i < rs.length := by have := (List.getElem?_eq_some_iff.mp hss).1; rwa [cl] at this
      have es : ss = run rs [i] a := by rw [cg a i hi] at hss; exact (Option.some.inj hss).symm
      subst es
      have gp := sb.le p _ gput_same
      simp only [dxs, dl]
      refine ⟨Nat.zero_le _, fun y hy => ?_⟩
      have hyp : y ≠ p := fun e => by rw [e, gp] at hy; cases hy
      refine ⟨fun j S' G2 => ∃ (x5 : Option D), S' = [some (classD rs a), some (classD rs b), some (.rf p), some (.tup (natsD (run rs [i] a))), some (.rf y), x5] ∧ G2 = gput G' y (.lst (natsD (((run rs [i] a).take j).flatMap fun t => run rs [t] b))),
        ⟨_, rfl, by simp [natsD]⟩, fun _ _ _ _ => trivial, ?_, ?_⟩
      · rintro j S' G2 d2 ⟨x5, rfl, rfl⟩ hd2
        obtain ⟨t, ht, rfl⟩ := natsD_get hd2
        have htl := rl i hi t (List.mem_of_getElem? ht)
        have ei : D.item (classD rs b) (.int (t : Int)) = some (.tup (natsD (run rs [t] b))) := atI_nat (by rw [List.getElem?_map, cg b t htl]; rfl)
        simp only [dxs, dl, ec, ei, rExtT, gput_gput, beq_self_eq_true, true_and]
        have hfl : (((run rs [i] a).take j).flatMap fun t => run rs [t] b).length ≤ 49 := by
          refine Nat.le_trans (flat_len _ 7 _ fun k hk => rn k b (rl i hi k (List.mem_of_mem_take hk))) ?_
          have := rn i a hi
          have : ((run rs [i] a).take j).length ≤ 7 := by rw [List.length_take]; omega
          omega
        have hr := rn t b htl
        refine ⟨sz (by simp only [natsD, List.length_map]; omega), _, rfl, ?_⟩
        rw [take_snoc ht, List.flatMap_append]
        simp [natsD]
      · rintro S' G2 ⟨x5, rfl, rfl⟩
        have en : (natsD (run rs [i] a)).length = (run rs [i] a).length := by simp [natsD]
        rw [en, List.take_length]
        have gp2 : gput G' y (.lst (natsD ((run rs [i] a).flatMap fun t => run rs [t] b))) p = some (.lst (((classOf rs (a ++ b)).take i).map fun ss => .tup (natsD ss))) := by rw [gput_ne (Ne.symm hyp), gp]
        have cy : D.cur (gput G' y (.lst (natsD ((run rs [i] a).flatMap fun t => run rs [t] b)))) (.rf y) = .lst (natsD ((run rs [i] a).flatMap fun t => run rs [t] b)) := D.cur_rf gput_same
        simp only [dSortSet, dxs, dl, cy, intsD_nats, isort1_nat, rTupleD, rAppendD, gp2, beq_self_eq_true, true_and]
        have hfl : ((run rs [i] a).flatMap fun t => run rs [t] b).length ≤ 49 := by
          refine Nat.le_trans (flat_len _ 7 _ fun k hk => rn k b (rl i hi k hk)) ?_
          have := rn i a hi
          omega
        refine ⟨by rw [List.length_map]; omega, by simp; unfold sizeLine; omega, _, _, _, rfl, ?_⟩
        rw [take_snoc (cg (a ++ b) i hi), List.map_append, class_put]
        have s2 : Sub (gput G p (.lst (((classOf rs (a ++ b)).take i).map fun ss => .tup (natsD ss)))) (gput G' y (.lst (natsD ((run rs [i] a).flatMap fun t => run rs [t] b)))) := sb.trans (sub_new hy rfl)
        have := s2.put p (.lst ((((classOf rs (a ++ b)).take i).map fun ss => .tup (natsD ss)) ++ [.tup (natsD (nsort (firstsF ((run rs [i] a).flatMap fun t => run rs [t] b))))]))
        rw [gput_gput] at this
        exact this
    · rintro S' G' ⟨x3, x4, x5, rfl, sb⟩
      have gp := sb.le p _ gput_same
      rw [List.length_map, cl, ← cl (a ++ b), List.take_length] at gp
      simp only [dxs, dl, rTupleD, gp]
      exact ⟨G, (sub_new hp rfl).trans sb, q⟩
end
end Pace
end
section
set_option Elab.async false
set_option linter.all false
set_option maxRecDepth 100000
set_option maxHeartbeats 4000000
namespace Pace
open PySem PySem.Spec PyProof.Rows L2 DL
section
variable {P : Program} {w : World} {K : PySem.W.Frag} {mg : Str → Option Value} {base : Heap} {C PT cT : Addr}
theorem cx_w3 {CX : CXT} {P : Program} {w : World} {K : PySem.W.Frag} {mg : Str → Option Value} {base : Heap} {N : List Str} {q : Str} {sc : Scope} {f : Addr} {cdv : Value} {A : Around} {outer : List Env} {s : Shared} {H : Hp} {E : XK} : (cxOf CX P w K mg base N q sc f cdv A outer s H E).w = w := rfl
def spClasses21 (w : World) : SpD := fun ds G Q => ∃ (hs ws : List Nat) (rs : List (List Mv)), ds = [wD hs ws rs, .int 40] ∧ Few rs ∧ (∀ r ∈ rs, r.length ≤ 1000 ∧ ∀ m ∈ r, m.t < rs.length) ∧ rs.length ≤ 7 ∧ hs.length ≤ 100 ∧ Q .non G ∧
  ∀ (k : Addr) (W : List (List Nat)), G k = none → (W.map (classOf rs)).Nodup → (∀ w ∈ W, Ov hs w) → W[0]? = some [] → (∀ w ∈ W, ∀ c ∈ hs, Has rs W (w ++ [c])) → W.length ≤ 40 → Q (.rf k) (gput G k (.dN w (ckD rs (W.map fun l => (l, .str (strOf l))))))
abbrev N__law_classes : List Str := ["_law_w", "_law_top", "_law_first", "_law_s", "_law_steps_now", "_law_letter", "_law_order", "_law_at", "_law_known_here", "_law_step", "_law_far"]
theorem sc__law_classes : FnScope N__law_classes ["_law_w", "_law_top"] (defScope s__law_classes) := ⟨rfl, rfl, rfl, by decide +kernel, rfl, by decide +kernel, by decide +kernel⟩
theorem c__law_classes (T : Txt K mg C) (d : Def K mg "_law_classes" s__law_classes) (C__law_class : Cal P w K mg base "_law_class" 3 ["_law_w", "_law_page"] (spLClass)) (C__law_put : Cal P w K mg base "_law_put" 1 ["_law_one_class", "_law_far"] (spPut)) : Cal P w K mg base "_law_classes" 5 ["_law_w", "_law_top"] (spClasses21 w) := by
  refine cal_mk (N := N__law_classes) d sc__law_classes (fun ds G Q h => ?_) (fun _ _ _ _ _ _ us hl => match us, hl with | [_, _], _ => rfl) (fun f cdv A outer s H E hg hr => ?_)
  · obtain ⟨hs, ws, rs, rfl, _⟩ := h
    rfl
  · have hu := hu100 hr
    have nd := sc__law_classes.nd
    have hA := deeper_guards (env := envOfC "_law_classes" (defScope s__law_classes) s.heap.objs.size f cdv) hg
    refine ⟨_, (dps_cons (dp_asg (de_callTy cd_tuple rfl T.f_tuple (by decide +kernel) (da_cons (de_lc (own := [("_law_s", 3)]) (p := (.nm 3)) rfl nd (di_range1 rfl T.f_range (da_cons (de_callB cd_len rfl T.f_len (by decide +kernel) (da_cons (de_ix hu (de_var 0) de_str) da_nil)) da_nil)) (blkOk_by (by show blkC N__law_classes (defScope s__law_classes) _ _ = true; decide +kernel)) (by decide) (fun _ _ _ _ _ => pg_name (i := 3) nd rfl (Or.inl rfl)) (fun _ _ _ _ _ => dts_nil) (fun _ _ _ _ _ => (de_tup (da_cons (de_var 3) da_nil)))) da_nil)) (dg_name 2 nd))
  (dps_cons (dp_setLc (i := 4) (own := [("_law_letter", 5)]) (p := (.nm 5)) rfl nd rfl rfl (sw_true rfl rfl rfl (by decide +kernel)) (di_str (de_ix hu (de_var 0) de_str)) (blkOk_by (by show blkC N__law_classes (defScope s__law_classes) _ _ = true; decide +kernel)) (by decide) (fun _ _ _ _ _ => pg_name (i := 5) nd rfl (Or.inl rfl)) (fun _ _ _ _ _ => dts_nil) (fun _ _ _ _ _ => (de_tup (da_cons (de_var 5) (da_cons (de_cal C__law_class hA (hr.mono (by decide)) (da_cons (de_var 0) (da_cons (de_var 5) da_nil))) da_nil)))))
  (dps_cons (dp_par (i := 6) (j := 7) rfl nd (ha := (da_cons (de_lstM (da_cons (de_var 2) da_nil)) (da_cons de_int da_nil))))
  (dps_cons (dp_asg (de_dispN hu (de_var 2) de_str) (dg_name 8 nd))
  (dps_cons (dp_while PassesOwn.never (dt_cmp (od_lt hu) (de_var 7) (de_callB cd_len rfl T.f_len (by decide +kernel) (da_cons (de_var 6) da_nil)) (nomark _))
  (dps_cons (dp_for PassesOwn.never rfl (di_list (de_var 4)) (dg_tup (n := 2) rfl (dgs_cons (dg_name 5 nd) (dgs_cons (dg_name 9 nd) dgs_nil)))
  (dps_cons (dp_asg (de_cal C__law_put hA (hr.mono (by decide)) (da_cons (de_ix hu (de_var 6) (de_var 7)) (da_cons (de_var 9) da_nil))) (dg_name 10 nd))
  (dps_one (dp_if (dt_cmp (od_notInN hu) (de_var 10) (de_var 8) (by rfl))
  (dps_cons (dp_asg (de_op od_add (de_ixN hu (de_var 8) (de_ix hu (de_var 6) (de_var 7))) (de_var 5)) (dg_subN hu (de_var 8) (de_var 10)))
  (dps_one (dp_expr (de_bm PySem.F.plainAttrs_list PySem.F.slot_list_append PySem.F.type_list_append md_append (de_var 6) (da_cons (de_var 10) da_nil)))))
  dps_nil))))
  (dps_cons (dp_asg (de_op od_add (de_var 7) de_int) (dg_name 7 nd))
  (dps_one (dp_if (dt_cmp (od_gt hu) (de_callB cd_len rfl T.f_len (by decide +kernel) (da_cons (de_var 6) da_nil)) (de_var 1) (nomark _))
  (dps_one (dp_ret de_non))
  dps_nil)))))
  (dps_one (dp_ret (de_var 8)))))))), fun ds G Q h => ?_⟩
    obtain ⟨hs, ws, rs, rfl, fw, ok, n7, h1, q1, q2⟩ := h
    rw [show dstart N__law_classes [wD hs ws rs, .int 40] = [some (wD hs ws rs), some (.int 40), none, none, none, none, none, none, none, none, none] from rfl]
    simp only [dxs, dl, cx_w3, wD_cur, wD_rows, rows_len_, wD_heard]
    have tl : ∀ r ∈ rs, ∀ m ∈ r, m.t < rs.length := fun r hr m hm => (ok r hr).2 m hm
    have s00 : D.str (Str.ofString "") = .str (strOf []) := by rw [str_nil]
    refine ⟨by omega, by omega, ?_⟩
    refine lc_mapA (List.range rs.length) (fun (i : Nat) => D.int (i : Int)) (fun (i : Nat) => D.tup [.int (i : Int)]) (by rw [Int.toNat_natCast]) (sz (by simp; omega)) trivial (fun i _ => ⟨_, rfl, fun Q zz => ?_⟩) ?_
    · simp only [dxs, dl, dwipe, List.map_cons, List.map_nil]
      exact ⟨sz (by decide), zz⟩
    have e0 : D.tup ((List.range rs.length).map fun (i : Nat) => D.tup [.int (i : Int)]) = classD rs [] := by
      unfold classD classOf
      rw [List.map_map]
      rfl
    have rTu : ∀ {xs : List D} {Q : DQ} {G : GH}, Q (.tup xs) G → rTupleD [.lst xs] G Q := fun {xs Q G} z => z
    refine rTu ?_
    rw [e0]
    refine lc_mapA hs (fun c => D.str (sgn c)) (fun c => D.tup [.str (sgn c), classD rs [c]]) (signs_map hs) (sz (by omega)) trivial (fun c _ => ⟨_, rfl, fun Q zz => ?_⟩) ?_
    · simp only [dxs, dl, dwipe, List.map_cons, List.map_nil]
      exact ⟨hs, ws, rs, [c], rfl, fw, ok, by omega, sz (by decide), zz⟩
    refine ⟨sz (by decide), fun o ho => ?_⟩
    refine c_disp (u := []) (v := .str (strOf [])) (fun h => h) (fun {K} h => by show K (.str (Str.ofString "")) _; rw [s00]; exact h) fun k hk => ?_
    obtain ⟨nko, hk'⟩ := gput_none hk
    have ok_ : o ≠ k := fun e => nko e.symm
    refine ⟨fun m S' G' => ∃ (at_ : Nat) (W : List (List Nat)) (x5 x9 x10 : Option D), m = 100 - at_ ∧ S' = [some (wD hs ws rs), some (.int 40), some (classD rs []), none, some (.lst (hs.map fun c => D.tup [.str (sgn c), classD rs [c]])), x5, some (.rf o), some (.int (at_ : Int)), some (.rf k), x9, x10] ∧
      Sub G G' ∧ G' k = some (.dN w (ckD rs (W.map fun l => (l, D.str (strOf l))))) ∧ G' o = some (.lst (W.map (classD rs))) ∧
      W[0]? = some [] ∧ (∀ l ∈ W, Ov hs l) ∧ (W.map (classOf rs)).Nodup ∧ (∀ (i : Nat) (l : List Nat), W[i]? = some l → l.length ≤ i) ∧ at_ ≤ W.length ∧ W.length ≤ 40 ∧ ∀ (i : Nat) (l : List Nat), i < at_ → W[i]? = some l → ∀ c ∈ hs, Has rs W (l ++ [c]),
      ⟨_, 0, [[]], none, none, none, rfl, rfl, (sub_new ho rfl).trans (sub_new hk rfl), by rw [gput_same]; rfl, by rw [gput_ne ok_, gput_same]; rfl, rfl, fun t ht => (by rw [List.mem_singleton.mp ht]; intro c hc; cases hc), by simp, fun i t h => by
        cases i with
        | zero => cases h; simp
        | succ i => simp at h, by simp, by decide, fun i t h => by omega⟩, ?_⟩
    rintro m S' G' ⟨at_, W, x5, x9, x10, rfl, rfl, sb, gk, go, w0, ov, nd, ln, hat0, w40, done⟩
    simp only [dxs, dl, rLenD, D.len, go, List.length_map, okL_int, DL.lt_int, true_and]
    by_cases hat : at_ < W.length
    · rw [if_pos (by simpa using hat)]
      obtain ⟨l0, hl0⟩ : ∃ l0, W[at_]? = some l0 := ⟨_, List.getElem?_eq_getElem hat⟩
      have ovl := ov l0 (List.mem_of_getElem? hl0)
      refine ⟨fun i S' G' => ∃ (W : List (List Nat)) (x5 x9 x10 : Option D), S' = [some (wD hs ws rs), some (.int 40), some (classD rs []), none, some (.lst (hs.map fun c => D.tup [.str (sgn c), classD rs [c]])), x5, some (.rf o), some (.int (at_ : Int)), some (.rf k), x9, x10] ∧
        Sub G G' ∧ G' k = some (.dN w (ckD rs (W.map fun l => (l, D.str (strOf l))))) ∧ G' o = some (.lst (W.map (classD rs))) ∧
        W[0]? = some [] ∧ (∀ l ∈ W, Ov hs l) ∧ (W.map (classOf rs)).Nodup ∧ (∀ (i : Nat) (l : List Nat), W[i]? = some l → l.length ≤ i) ∧ W[at_]? = some l0 ∧ W.length ≤ 40 + i ∧ (∀ (i : Nat) (l : List Nat), i < at_ → W[i]? = some l → ∀ c ∈ hs, Has rs W (l ++ [c])) ∧ ∀ c ∈ hs.take i, Has rs W (l0 ++ [c]),
        ⟨W, _, _, _, rfl, sb, gk, go, w0, ov, nd, ln, hl0, w40, done, by simp⟩, fun _ _ _ _ => trivial, ?_, ?_⟩
      · clear sb gk go w0 ov nd ln hl0 done hat0 w40 hat
        rintro i S' G' dd ⟨W, x5, x9, x10, rfl, sb, gk, go, w0, ov, nd, ln, hl0, w40, done, dt⟩ hd
        obtain ⟨c, hc, rfl⟩ := map_get hd
        have hch := List.mem_of_getElem? hc
        have hi100 : i < 100 := by have := (List.getElem?_eq_some_iff.mp hc).1; omega
        have hatW := (List.getElem?_eq_some_iff.mp hl0).1
        have ovc : Ov hs (l0 ++ [c]) := ovl.app (Ov.one hch)
        have tl0 := ln at_ l0 hl0
        have esg : strOf l0 ++ sgn c = strOf (l0 ++ [c]) := strOf_app l0 [c]
        have eSt : ∀ (G : GH) (x : Str), D.cur G (.str x) = .str x := fun _ _ => rfl
        have s1 : (sgn c).length = 1 := rfl
        have em : (W.map fun l => (l, D.str (strOf l))).map (·.1) = W := by simp [List.map_map, Function.comp_def]
        have it0 : D.item (.lst (W.map (classD rs))) (.int (at_ : Int)) = some (classD rs l0) := atI_nat (by rw [List.getElem?_map, hl0]; rfl)
        simp only [dxs, dl, go, it0]
        refine ⟨trivial, rs, l0, [c], rfl, tl, n7, ?_⟩
        by_cases hin : Has rs W (l0 ++ [c])
        · refine c_yes gk (by rw [em]; exact hin) ?_
          simp only [Bool.not_true, Bool.false_eq_true, if_false]
          refine ⟨W, _, _, _, rfl, sb, gk, go, w0, ov, nd, ln, hl0, by omega, done, fun c' hc' => ?_⟩
          rw [take_snoc hc] at hc'
          rcases List.mem_append.mp hc' with z | z
          · exact dt c' z
          · rw [List.mem_singleton.mp z]; exact hin
        · refine c_no gk (by rw [em]; exact hin) ?_
          simp only [if_true, go, it0]
          have hvl : valD (ckD rs (W.map fun l => (l, D.str (strOf l)))) (clN rs l0) = some (.str (strOf l0)) := ck_val (by rw [em]; exact nd) (e := (l0, D.str (strOf l0))) (List.mem_map.mpr ⟨l0, List.mem_of_getElem? hl0, rfl⟩) rfl
          refine c_item gk hvl ?_
          simp only [rAddD, eSt, esg, strOf_len, s1]
          refine ⟨sz (by omega), ?_⟩
          refine c_set (fun h => h) (fun h => h) gk (by rw [List.length_map]; omega) (by rw [em]; exact hin) ?_
          have eE : (W.map fun l => (l, D.str (strOf l))) ++ [(l0 ++ [c], D.str (strOf (l0 ++ [c])))] = (W ++ [l0 ++ [c]]).map fun l => (l, D.str (strOf l)) := by rw [List.map_append]; rfl
          have eT : W.map (classD rs) ++ [classD rs (l0 ++ [c])] = (W ++ [l0 ++ [c]]).map (classD rs) := by rw [List.map_append]; rfl
          have go2 : ∀ X, gput G' k X o = some (.lst (W.map (classD rs))) := fun X => by rw [gput_ne ok_]; exact go
          rw [eE]
          simp only [dxs, dl, go2, rAppendD, eT, List.length_map]
          have hasN : Has rs (W ++ [l0 ++ [c]]) (l0 ++ [c]) := ⟨l0 ++ [c], by simp, rfl⟩
          refine ⟨rfl, szl (by omega), W ++ [l0 ++ [c]], _, _, _, rfl, sub_putZ (sub_putZ sb hk' rfl) ho rfl, by rw [gput_ne nko, gput_same], by first | rfl | exact gput_same, ?_, fun l hl => ?_, nd_snoc nd hin, fun i l hi => ?_, ?_, by rw [List.length_append, List.length_singleton]; omega, fun i l hi hl c' hc' => ?_, fun c' hc' => ?_⟩
          · rw [List.getElem?_append_left (List.getElem?_eq_some_iff.mp w0).1]; exact w0
          · rcases List.mem_append.mp hl with h | h
            · exact ov l h
            · rw [List.mem_singleton.mp h]; exact ovc
          · by_cases h : i < W.length
            · rw [List.getElem?_append_left h] at hi
              exact ln i l hi
            · have h2 := (List.getElem?_eq_some_iff.mp hi).1
              simp only [List.length_append, List.length_cons, List.length_nil] at h2
              have h3 : i = W.length := by omega
              rw [h3, List.getElem?_append_right (Nat.le_refl _)] at hi
              simp at hi
              rw [← hi, List.length_append, List.length_singleton]
              omega
          · rw [List.getElem?_append_left hatW]; exact hl0
          · rw [List.getElem?_append_left (by omega)] at hl
            exact (done i l hi hl c' hc').grow _
          · rw [take_snoc hc] at hc'
            rcases List.mem_append.mp hc' with z | z
            · exact (dt c' z).grow _
            · rw [List.mem_singleton.mp z]; exact hasN
      · clear sb gk go w0 ov nd ln hl0 done hat0 hat
        rintro S' G' ⟨W2, x5, x9, x10, rfl, sb, gk, go, w0, ov, nd, ln, hl0, w402, done, dt⟩
        rw [List.length_map, List.take_length] at dt
        have hatW := (List.getElem?_eq_some_iff.mp hl0).1
        have eI : ∀ (G : GH) (i : Int), D.cur G (.int i) = .int i := fun _ _ => rfl
        simp only [dxs, dl, rAddD, eI, rLenD, D.len, go, List.length_map, okL_int, DL.lt_int, true_and]
        by_cases h40 : 40 < W2.length
        · rw [if_pos (by simpa using (by omega : (40 : Int) < (W2.length : Int)))]
          exact ⟨G, sb, q1⟩
        · rw [if_neg (by simpa using (by omega : ¬ (40 : Int) < (W2.length : Int)))]
          refine ⟨100 - (at_ + 1), by omega, at_ + 1, W2, _, _, _, rfl, rfl, sb, gk, rfl, w0, ov, nd, ln, by omega, by omega, fun i l hi hl c hc => ?_⟩
          by_cases h : i < at_
          · exact done i l h hl c hc
          · have : i = at_ := by omega
            subst this
            rw [hl0] at hl
            cases hl
            exact dt c hc
    · rw [if_neg (by simpa using hat)]
      have el : at_ = W.length := by omega
      refine ⟨gput G k (.dN w (ckD rs (W.map fun l => (l, D.str (strOf l))))), ?_, q2 k W hk' nd ov w0 (fun l hl c hc => ?_) w40⟩
      · refine ⟨fun b X hb => ?_, fun c hc => ?_⟩
        · by_cases e : b = k
          · rw [e, gput_same] at hb
            rw [e, gk]; exact hb
          · rw [gput_ne e] at hb
            exact sb.le b X hb
        · have := sb.dc c hc
          rw [gput_ne (fun e => by rw [e, hk'] at this; cases this)]
          exact this
      · obtain ⟨i, hi⟩ := List.mem_iff_getElem?.mp hl
        exact done i l (by have := (List.getElem?_eq_some_iff.mp hi).1; omega) hi c hc
end
end Pace
end
section
set_option Elab.async false
set_option linter.all false
set_option maxRecDepth 100000
set_option maxHeartbeats 4000000
namespace Pace
open PySem PySem.Spec PyProof.Rows L2 DL
section
variable {P : Program} {w : World} {K : PySem.W.Frag} {mg : Str → Option Value} {base : Heap} {C PT cT : Addr}
theorem sub_back21 {G G' : GH} {k : Addr} {X : MO} (s : Sub (gdel G k) G') (hk : G k = some X) (hd : X.isDeck = false) : Sub G (gput G' k X) := by
  refine ⟨fun b o hb => ?_, fun c hc => ?_⟩
  · by_cases e : b = k
    · rw [e, gput_same]; rw [e, hk] at hb; exact hb
    · rw [gput_ne e]; exact s.le b o (by rw [gdel_ne e]; exact hb)
  · by_cases e : c = k
    · rw [e, gput_same] at hc; cases hc; cases hd
    · rw [gput_ne e] at hc
      exact gdel_sub c _ (s.dc c hc)
theorem sub_del21 {G : GH} {k : Addr} {X : MO} (hk : G k = some X) (hd : X.isDeck = false) : Sub (gdel G k) G := ⟨gdel_sub, fun c hc => by
  rw [gdel_ne (fun e => by rw [e, hk] at hc; cases hc; cases hd)]; exact hc⟩
def nrV (hs : List Nat) (rs : List (List Mv)) (l : List Nat) : D := .lst (hs.map fun c => classD rs (l ++ [c]))
theorem nrV_congr {hs : List Nat} {rs : List (List Mv)} {a b : List Nat} (h : classOf rs a = classOf rs b) : nrV hs rs a = nrV hs rs b := by
  unfold nrV
  congr 1
  refine List.map_congr_left fun c _ => ?_
  unfold classD
  rw [cls_app h [c]]
/-- the dicts of what is behind each class -/
structure BehOk (hs : List Nat) (rs : List (List Mv)) (w : World) (G : GH) (W : List (List Nat)) (Fs : List (List Nat × Addr × List (List Nat × D))) : Prop where
  fst : Fs.map (·.1) = W
  at_ : ∀ e ∈ Fs, G e.2.1 = some (.dN w (ckD rs e.2.2))
  nd : ∀ e ∈ Fs, ((e.2.2.map (·.1)).map (classOf rs)).Nodup
  ov : ∀ e ∈ Fs, ∀ x ∈ e.2.2, Ov hs x.1
  has : ∀ e ∈ Fs, ∀ u, Ov hs u → (Has rs (e.2.2.map (·.1)) u ↔ ∃ v, v ≠ [] ∧ Ov hs v ∧ classOf rs u = classOf rs (e.1 ++ v))
def spBehind21 (w : World) : SpD := fun ds G Q => ∃ (hs ws : List Nat) (rs : List (List Mv)) (k : Addr) (W : List (List Nat)), ds = [wD hs ws rs, .rf k] ∧ G k = some (.dN w (ckD rs (W.map fun l => (l, D.str (strOf l))))) ∧ Few rs ∧ (∀ r ∈ rs, r.length ≤ 1000 ∧ ∀ m ∈ r, m.t < rs.length) ∧ rs.length ≤ 7 ∧ hs.length ≤ 100 ∧
  (W.map (classOf rs)).Nodup ∧ (∀ w ∈ W, Ov hs w) ∧ (∀ w ∈ W, ∀ c ∈ hs, Has rs W (w ++ [c])) ∧ W.length ≤ 40 ∧
  ∀ (f : Addr) (Fs : List (List Nat × Addr × List (List Nat × D))) (G' : GH), Sub G G' → f ≠ k → G f = none → G' f = some (.dN w (ckD rs (Fs.map fun e => (e.1, D.rf e.2.1)))) → BehOk hs rs w G' W Fs → (∀ e ∈ Fs, G e.2.1 = none ∧ e.2.1 ≠ f) → Q (.rf f) G'
abbrev N__law_behind : List Str := ["_law_w", "_law_known_here", "_law_steps_now", "_law_near", "_law_found", "_law_letter", "_law_one_class", "_law_step", "_law_seen", "_law_stack", "_law_here"]
theorem sc__law_behind : FnScope N__law_behind ["_law_w", "_law_known_here"] (defScope s__law_behind) := ⟨rfl, rfl, rfl, by decide +kernel, rfl, by decide +kernel, by decide +kernel⟩
theorem c__law_behind (T : Txt K mg C) (d : Def K mg "_law_behind" s__law_behind) (C__law_class : Cal P w K mg base "_law_class" 3 ["_law_w", "_law_page"] (spLClass)) (C__law_put : Cal P w K mg base "_law_put" 1 ["_law_one_class", "_law_far"] (spPut)) : Cal P w K mg base "_law_behind" 5 ["_law_w", "_law_known_here"] (spBehind21 w) := by
  refine cal_mk (N := N__law_behind) d sc__law_behind (fun ds G Q h => ?_) (fun _ _ _ _ _ _ us hl => match us, hl with | [_, _], _ => rfl) (fun f cdv A outer s H E hg hr => ?_)
  · obtain ⟨hs, ws, rs, k, W, rfl, _⟩ := h
    rfl
  · have hu := hu100 hr
    have nd := sc__law_behind.nd
    have hA := deeper_guards (env := envOfC "_law_behind" (defScope s__law_behind) s.heap.objs.size f cdv) hg
    refine ⟨_, (dps_cons (dp_par3 (i := 2) (j := 3) (l := 4) rfl nd (ha := (da_cons (de_lc (own := [("_law_letter", 5)]) (p := (.nm 5)) rfl nd (di_str (de_ix hu (de_var 0) de_str)) (blkOk_by (by show blkC N__law_behind (defScope s__law_behind) _ _ = true; decide +kernel)) (by decide) (fun _ _ _ _ _ => pg_name (i := 5) nd rfl (Or.inl rfl)) (fun _ _ _ _ _ => dts_nil) (fun _ _ _ _ _ => (de_cal C__law_class hA (hr.mono (by decide)) (da_cons (de_var 0) (da_cons (de_var 5) da_nil))))) (da_cons de_newN (da_cons de_newN da_nil)))))
  (dps_cons (dp_lockN (dp_for PassesOwn.never rfl (di_keysN (de_var 1)) (dg_name 6 nd)
  (dps_one (dp_asg (de_lc (own := [("_law_step", 7)]) (p := (.nm 7)) rfl nd (di_list (de_var 2)) (blkOk_by (by show blkC N__law_behind (defScope s__law_behind) _ _ = true; decide +kernel)) (by decide) (fun _ _ _ _ _ => pg_name (i := 7) nd rfl (Or.inl rfl)) (fun _ _ _ _ _ => dts_nil) (fun _ _ _ _ _ => (de_cal C__law_put hA (hr.mono (by decide)) (da_cons (de_var 6) (da_cons (de_var 7) da_nil))))) (dg_subN hu (de_var 3) (de_var 6))))))
  (dps_cons (dp_lockN (dp_for PassesOwn.never rfl (di_keysN (de_var 1)) (dg_name 6 nd)
  (dps_cons (dp_par (i := 8) (j := 9) rfl nd (ha := (da_cons de_newN (da_cons (de_callTy cd_listM rfl T.f_list (by decide +kernel) (da_cons (de_ixN hu (de_var 3) (de_var 6)) da_nil)) da_nil))))
  (dps_cons (dp_while PassesOwn.never (dt_cmp (od_neNil hu) (de_var 9) (de_lst da_nil) (nomark _))
  (dps_cons (dp_asg (de_bm0 PySem.F.plainAttrs_list PySem.F.slot_list_pop PySem.F.type_list_pop md_pop (de_var 9)) (dg_name 10 nd))
  (dps_one (dp_if (dt_cmp (od_notInN hu) (de_var 10) (de_var 8) (by rfl))
  (dps_cons (dp_asg de_bl (dg_subN hu (de_var 8) (de_var 10)))
  (dps_one (dp_expr (de_bm PySem.F.plainAttrs_list PySem.F.slot_list_extend PySem.F.type_list_extend md_extend (de_var 9) (da_cons (de_ixN hu (de_var 3) (de_var 10)) da_nil)))))
  dps_nil))))
  (dps_one (dp_asg (de_var 8) (dg_subN hu (de_var 4) (de_var 6))))))))
  (dps_one (dp_ret (de_var 4)))))), fun ds G Q h => ?_⟩
    obtain ⟨hs, ws, rs, k, W, rfl, gk, fw, ok, n7, h1, nd, ov, cl, w40, q⟩ := h
    rw [show dstart N__law_behind [wD hs ws rs, .rf k] = [some (wD hs ws rs), some (.rf k), none, none, none, none, none, none, none, none, none] from rfl]
    simp only [dxs, dl, cx_w3, wD_cur, wD_heard]
    have tl : ∀ r ∈ rs, ∀ m ∈ r, m.t < rs.length := fun r hr m hm => (ok r hr).2 m hm
    refine lc_mapA hs (fun c => D.str (sgn c)) (fun c => classD rs [c]) (signs_map hs) (sz (by omega)) trivial (fun c _ => ⟨_, rfl, fun Q zz => ?_⟩) ?_
    · simp only [dxs, dl, dwipe, List.map_cons, List.map_nil]
      exact ⟨hs, ws, rs, [c], rfl, fw, ok, by omega, zz⟩
    intro nr hnr f hf
    obtain ⟨nfr, hf'⟩ := gput_none hf
    have kn : k ≠ nr := fun e => by rw [← e, gk] at hnr; cases hnr
    have kf : k ≠ f := fun e => by rw [← e, gk] at hf'; cases hf'
    have nf : nr ≠ f := fun e => nfr e.symm
    have bk : gdel G k k = none := gdel_same
    have bn : gdel G k nr = none := by rw [gdel_ne (Ne.symm kn)]; exact hnr
    have bf : gdel G k f = none := by rw [gdel_ne (Ne.symm kf)]; exact hf'
    have keys : (ckD rs (W.map fun l => (l, D.str (strOf l)))).map (fun kv => kToD kv.1) = W.map (classD rs) := by
      unfold ckD
      rw [List.map_map, List.map_map]
      exact List.map_congr_left fun e _ => clN_toD e
    have gk1 : gput (gput G nr (.dN w [])) f (.dN w []) k = some (.dN w (ckD rs (W.map fun l => (l, D.str (strOf l))))) := by rw [gput_ne kf, gput_ne kn]; exact gk
    have hasTake : ∀ (i : Nat) (l : List Nat), W[i]? = some l → ¬ Has rs (W.take i) l := fun i l hl h => by
      rw [has_map] at h
      have hi := (List.getElem?_eq_some_iff.mp hl).1
      have e1 : W.map (classOf rs) = (W.take i).map (classOf rs) ++ (W.drop i).map (classOf rs) := by rw [← List.map_append, List.take_append_drop]
      rw [e1] at nd
      have h2 : classOf rs l ∈ (W.drop i).map (classOf rs) := List.mem_map.mpr ⟨l, by rw [List.mem_iff_getElem?]; exact ⟨0, by rw [List.getElem?_drop]; simpa using hl⟩, rfl⟩
      exact (List.nodup_append.mp nd).2.2 _ h _ h2 rfl
    simp only [dLockN, dxs, dl]
    refine ⟨k, _, gk1, fun o xs => ?_⟩
    simp only [diKeysN, dxs, dl, gput_same, keys]
    refine ⟨trivial, ?_⟩
    refine ⟨fun i S' G1 => ∃ (x6 : Option D), S' = [some (wD hs ws rs), some (.rf k), some (.lst (hs.map fun c => classD rs [c])), some (.rf nr), some (.rf f), none, x6, none, none, none, none] ∧ Sub (gdel G k) G1 ∧ G1 k = some (.lkN w o xs (ckD rs (W.map fun l => (l, D.str (strOf l))))) ∧ G1 nr = some (.dN w (ckD rs ((W.take i).map fun l => (l, nrV hs rs l)))) ∧ G1 f = some (.dN w []),
      ⟨none, rfl, sub_putZ (sub_putZ (sub_putZ (sub_del21 gk rfl) bn rfl) bf rfl) bk rfl, gput_same, by rw [gput_ne (Ne.symm kn), gput_ne nf, gput_same]; rfl, by rw [gput_ne (Ne.symm kf), gput_same]⟩, fun i S' G1 h => by obtain ⟨_, _, _, h, _⟩ := h; exact h, ?_, ?_⟩
    · rintro i S' G1 dd ⟨x6, rfl, sb, gk2, gn, gf⟩ hd
      obtain ⟨l, hl, rfl⟩ := map_get hd
      simp only [dxs, dl]
      refine lc_mapA hs (fun c => classD rs [c]) (fun c => classD rs (l ++ [c])) rfl (sz (by omega)) trivial (fun c _ => ⟨_, rfl, fun Q zz => ?_⟩) ?_
      · simp only [dxs, dl, dwipe, List.map_cons, List.map_nil]
        exact ⟨rs, l, [c], rfl, tl, n7, zz⟩
      · have hn : ¬ Has rs (((W.take i).map fun l => (l, nrV hs rs l)).map (·.1)) l := by
          rw [List.map_map]
          simpa [Function.comp_def] using hasTake i l hl
        refine c_set (fun h => h) (fun h => h) gn (by rw [List.length_map, List.length_take]; omega) hn ?_
        refine ⟨_, rfl, sub_putZ sb bn rfl, by rw [gput_ne kn]; exact gk2, ?_, by rw [gput_ne nfr]; exact gf⟩
        rw [gput_same, take_snoc hl, List.map_append]
        rfl
    · rintro S' G1 ⟨x6, rfl, sb, gk2, gn, gf⟩
      rw [List.length_map, List.take_length] at gn
      refine ⟨gk2, ?_⟩
      have sbG := sub_back21 sb gk rfl
      have gkB : gput G1 k (.dN w (ckD rs (W.map fun l => (l, D.str (strOf l))))) k = some (.dN w (ckD rs (W.map fun l => (l, D.str (strOf l))))) := gput_same
      simp only [dLockN, dxs, dl]
      refine ⟨k, _, gkB, fun o2 xs2 => ?_⟩
      simp only [diKeysN, dxs, dl, gput_same, keys]
      refine ⟨trivial, ?_⟩
      have fewS : ∀ T : List (List Nat), (T.map (classOf rs)).Nodup → (∀ t ∈ T, Has rs W t) → T.length ≤ 40 := fun T ndT hT => by
        have := List.Nodup.length_le_of_subset ndT (l₂ := W.map (classOf rs)) fun c hc => by
          obtain ⟨t, ht, rfl⟩ := List.mem_map.mp hc
          exact has_map.mp (hT t ht)
        simp only [List.length_map] at this
        omega
      have hasLV : ∀ l ∈ W, ∀ v, Ov hs v → Has rs W (l ++ v) := fun l hl v hv => has_all (hs := hs) cl ⟨l, hl, rfl⟩ v hv
      have emN : (W.map fun l => (l, nrV hs rs l)).map (·.1) = W := by simp [List.map_map, Function.comp_def]
      have nrv : ∀ t, Has rs W t → valD (ckD rs (W.map fun l => (l, nrV hs rs l))) (clN rs t) = some (nrV hs rs t) := fun t ht => by
        obtain ⟨w', hw', e⟩ := ht
        rw [nrV_congr e]
        exact ck_val (by rw [emN]; exact nd) (e := (w', nrV hs rs w')) (List.mem_map.mpr ⟨w', hw', rfl⟩) e
      refine ⟨fun i S' G2 => ∃ (Fs : List (List Nat × Addr × List (List Nat × D))) (x6 x8 x9 x10 : Option D), S' = [some (wD hs ws rs), some (.rf k), some (.lst (hs.map fun c => classD rs [c])), some (.rf nr), some (.rf f), none, x6, none, x8, x9, x10] ∧ Sub (gdel G k) G2 ∧ G2 k = some (.lkN w o2 xs2 (ckD rs (W.map fun l => (l, D.str (strOf l))))) ∧ G2 nr = some (.dN w (ckD rs (W.map fun l => (l, nrV hs rs l)))) ∧ G2 f = some (.dN w (ckD rs (Fs.map fun e => (e.1, D.rf e.2.1)))) ∧
          BehOk hs rs w G2 (W.take i) Fs ∧ ∀ e ∈ Fs, gdel G k e.2.1 = none ∧ e.2.1 ≠ f ∧ e.2.1 ≠ nr ∧ e.2.1 ≠ k,
        ⟨[], _, _, _, _, rfl, sub_putZ (sub_putZ sb bk rfl) bk rfl, gput_same, by rw [gput_ne (Ne.symm kn), gput_ne (Ne.symm kn)]; exact gn, by rw [gput_ne (Ne.symm kf), gput_ne (Ne.symm kf)]; exact gf, ⟨by simp, by simp, by simp, by simp, by simp⟩, by simp⟩, fun i S' G1 h => by obtain ⟨_, _, _, _, _, _, _, h, _⟩ := h; exact h, ?_, ?_⟩
      · clear sb gk2 gn gf sbG gkB
        rintro i S' G2 dd ⟨Fs, x6, x8, x9, x10, rfl, sb, gk2, gn, gf, beh, fr⟩ hd
        obtain ⟨l, hl, rfl⟩ := map_get hd
        have hlm := List.mem_of_getElem? hl
        have ovl := ov l hlm
        have hLl : Has rs W l := ⟨l, hlm, rfl⟩
        simp only [dxs, dl]
        intro se hse
        have nse : nr ≠ se := fun e => by rw [← e, gn] at hse; cases hse
        have fse : f ≠ se := fun e => by rw [← e, gf] at hse; cases hse
        have kse : k ≠ se := fun e => by rw [← e, gk2] at hse; cases hse
        have bse : gdel G k se = none := sb.no hse
        have gn2 : gput G2 se (.dN w []) nr = some (.dN w (ckD rs (W.map fun l => (l, nrV hs rs l)))) := by rw [gput_ne nse]; exact gn
        refine c_item gn2 (nrv l hLl) ?_
        have rLM : ∀ {Q : DQ} {G : GH}, (∀ p, G p = none → Q (.rf p) (gput G p (.lst (hs.map fun c => classD rs (l ++ [c]))))) → rListMD [nrV hs rs l] G Q := fun {Q G} z => z
        refine rLM fun sk hsk => ?_
        obtain ⟨nks, hsk'⟩ := gput_none hsk
        have nsk : nr ≠ sk := fun e => by rw [← e, gn] at hsk'; cases hsk'
        have fsk : f ≠ sk := fun e => by rw [← e, gf] at hsk'; cases hsk'
        have ksk : k ≠ sk := fun e => by rw [← e, gk2] at hsk'; cases hsk'
        have bsk : gdel G k sk = none := sb.no hsk'
        have ses : se ≠ sk := fun e => nks e.symm
        have eFs : ∀ e ∈ Fs, e.2.1 ≠ se ∧ e.2.1 ≠ sk := fun e he => by
          have := beh.at_ e he
          exact ⟨fun z => (by rw [z, hse] at this; cases this), fun z => (by rw [z, hsk'] at this; cases this)⟩
        have eInit : (hs.map fun c => classD rs (l ++ [c])) = (hs.map fun c => l ++ [c]).map (classD rs) := by rw [List.map_map]; rfl
        have hh : hs.length + 1 ≤ 101 := by omega
        refine ⟨fun m S' G3 => ∃ (E T : List (List Nat)) (x10 : Option D), m = (41 - E.length) * (hs.length + 1) + T.length ∧ S' = [some (wD hs ws rs), some (.rf k), some (.lst (hs.map fun c => classD rs [c])), some (.rf nr), some (.rf f), none, some (classD rs l), none, some (.rf se), some (.rf sk), x10] ∧ Sub (gdel G k) G3 ∧ G3 k = some (.lkN w o2 xs2 (ckD rs (W.map fun l => (l, D.str (strOf l))))) ∧ G3 nr = some (.dN w (ckD rs (W.map fun l => (l, nrV hs rs l)))) ∧ G3 f = some (.dN w (ckD rs (Fs.map fun e => (e.1, D.rf e.2.1)))) ∧
            (∀ e ∈ Fs, G3 e.2.1 = some (.dN w (ckD rs e.2.2))) ∧ G3 se = some (.dN w (ckD rs (E.map fun t => (t, D.bl true)))) ∧ G3 sk = some (.lst (T.map (classD rs))) ∧ (∀ t ∈ E ++ T, ∃ v, v ≠ [] ∧ Ov hs v ∧ t = l ++ v) ∧ (E.map (classOf rs)).Nodup ∧ (∀ c ∈ hs, Has rs (E ++ T) (l ++ [c])) ∧ (∀ e ∈ E, ∀ c ∈ hs, Has rs (E ++ T) (e ++ [c])) ∧ (41 - E.length) * (hs.length + 1) + T.length ≤ 4300,
          ⟨_, [], hs.map fun c => l ++ [c], _, rfl, rfl, (sub_putZ (sub_putZ sb bse rfl) bsk rfl), by rw [gput_ne ksk, gput_ne kse]; exact gk2, by rw [gput_ne nsk, gput_ne nse]; exact gn, by rw [gput_ne fsk, gput_ne fse]; exact gf, fun e he => by rw [gput_ne (eFs e he).2, gput_ne (eFs e he).1]; exact beh.at_ e he, by rw [gput_ne ses, gput_same]; rfl, by rw [gput_same, eInit], fun t ht => ?_, by simp, fun c hc => ⟨l ++ [c], by rw [List.nil_append]; exact List.mem_map.mpr ⟨c, hc, rfl⟩, rfl⟩, by simp, ?_⟩, ?_⟩
        · rw [List.nil_append] at ht
          obtain ⟨c, hc, rfl⟩ := List.mem_map.mp ht
          exact ⟨[c], by simp, Ov.one hc, rfl⟩
        · rw [List.length_map, List.length_nil]
          have : (41 - 0) * (hs.length + 1) ≤ 41 * 101 := Nat.mul_le_mul (by decide) hh
          omega
        · clear sb gk2 gn gf hse hsk hsk' gn2
          rintro m S' G3 ⟨E, T, x10, rfl, rfl, sb, gk2, gn, gf, gFs, ge, gs, tv, ndE, st0, clE, mb⟩
          have hasW : ∀ t ∈ E ++ T, Has rs W t := fun t ht => by
            obtain ⟨v, _, hv, rfl⟩ := tv t ht
            exact hasLV l hlm v hv
          have e40 := fewS E ndE fun t ht => hasW t (List.mem_append_left _ ht)
          have rN : ∀ {Q : DQ}, Q (.bl (!T.isEmpty)) G3 → rNil true (.rf sk) (.lst []) G3 Q := fun {Q} zz => by
            unfold rNil
            simp only [D.cur, gs, List.isEmpty_map]
            exact zz
          simp only [dxs, dl]
          refine ⟨Nat.zero_le _, rN ?_⟩
          cases hT0 : T.isEmpty with
          | true =>
            have hT : T = [] := List.isEmpty_iff.mp hT0
            subst hT
            rw [List.append_nil] at tv st0 clE
            simp only [Bool.not_true, Bool.false_eq_true, if_false]
            have char : ∀ v, v ≠ [] → Ov hs v → Has rs E (l ++ v) := fun v => by
              induction v using snoc_ind with
              | nil => intro h; exact absurd rfl h
              | snoc v c ih =>
                intro _ hv
                have hc : c ∈ hs := hv c (by simp)
                by_cases h0 : v = []
                · subst h0
                  exact st0 c hc
                · obtain ⟨e, he, e2⟩ := ih h0 fun x hx => hv x (List.mem_append_left _ hx)
                  obtain ⟨e3, he3, e4⟩ := clE e he c hc
                  exact ⟨e3, he3, by rw [← List.append_assoc, cls_app e2 [c], e4]⟩
            have emF : (Fs.map fun e => (e.1, D.rf e.2.1)).map (·.1) = W.take i := by
              rw [List.map_map]
              exact beh.fst
            have lF : Fs.length ≤ 40 := by
              have := congrArg List.length beh.fst
              rw [List.length_map, List.length_take] at this
              omega
            refine c_set (fun h => h) (fun h => h) gf (by rw [List.length_map]; omega) (by rw [emF]; exact hasTake i l hl) ?_
            have emE : (E.map fun t => (t, D.bl true)).map (·.1) = E := by simp [List.map_map, Function.comp_def]
            refine ⟨Fs ++ [(l, se, E.map fun t => (t, D.bl true))], _, _, _, _, rfl, sub_putZ sb bf rfl, by rw [gput_ne kf]; exact gk2, by rw [gput_ne nf]; exact gn, by rw [gput_same, List.map_append]; rfl, ⟨?_, fun e he => ?_, fun e he => ?_, fun e he x hx => ?_, fun e he u hu => ?_⟩, fun e he => ?_⟩
            · rw [List.map_append, beh.fst, take_snoc hl]; rfl
            · rcases List.mem_append.mp he with h | h
              · rw [gput_ne (fr e h).2.1]; exact gFs e h
              · rw [List.mem_singleton.mp h, gput_ne (Ne.symm fse)]; exact ge
            · rcases List.mem_append.mp he with h | h
              · exact beh.nd e h
              · rw [List.mem_singleton.mp h]
                show (((E.map fun t => (t, D.bl true)).map (·.1)).map (classOf rs)).Nodup
                rw [emE]; exact ndE
            · rcases List.mem_append.mp he with h | h
              · exact beh.ov e h x hx
              · rw [List.mem_singleton.mp h] at hx
                obtain ⟨t, ht, rfl⟩ := List.mem_map.mp hx
                obtain ⟨v, _, hv, e2⟩ := tv t ht
                rw [e2]; exact ovl.app hv
            · rcases List.mem_append.mp he with h | h
              · exact beh.has e h u hu
              · rw [List.mem_singleton.mp h]
                show Has rs ((E.map fun t => (t, D.bl true)).map (·.1)) u ↔ _
                rw [emE]
                constructor
                · rintro ⟨t, ht, e2⟩
                  obtain ⟨v, v0, hv, e3⟩ := tv t ht
                  exact ⟨v, v0, hv, by rw [e2, e3]⟩
                · rintro ⟨v, v0, hv, e2⟩
                  obtain ⟨e3, he3, e4⟩ := char v v0 hv
                  exact ⟨e3, he3, e2.trans e4⟩
            · rcases List.mem_append.mp he with h | h
              · exact fr e h
              · rw [List.mem_singleton.mp h]
                exact ⟨bse, Ne.symm fse, Ne.symm nse, Ne.symm kse⟩
          | false =>
            simp only [Bool.not_false, if_true]
            obtain ⟨T1, t, rfl⟩ : ∃ T1 t, T = T1 ++ [t] := by
              rcases List.eq_nil_or_concat T with rfl | ⟨T1, t, rfl⟩
              · simp at hT0
              · exact ⟨T1, t, List.concat_eq_append⟩
            have pop : ∀ {Q : DQ}, Q (classD rs t) (gput G3 sk (.lst (T1.map (classD rs)))) → rPopD (.rf sk) [] G3 Q := fun {Q} zz => by
              unfold rPopD
              have e1 : ((T1 ++ [t]).map (classD rs))[((T1 ++ [t]).map (classD rs)).length - 1]? = some (classD rs t) := by simp
              have e2 : ((T1 ++ [t]).map (classD rs)).dropLast = T1.map (classD rs) := by simp
              simp only [gs, e1, e2]
              exact zz
            simp only [gs]
            refine ⟨rfl, pop ?_⟩
            have ge1 : ∀ X, gput G3 sk X se = some (.dN w (ckD rs (E.map fun t => (t, D.bl true)))) := fun X => by rw [gput_ne ses]; exact ge
            have gn1 : ∀ X, gput G3 sk X nr = some (.dN w (ckD rs (W.map fun l => (l, nrV hs rs l)))) := fun X => by rw [gput_ne nsk]; exact gn
            have emE : (E.map fun t => (t, D.bl true)).map (·.1) = E := by simp [List.map_map, Function.comp_def]
            have htm : t ∈ E ++ (T1 ++ [t]) := by simp
            rw [List.length_append, List.length_singleton] at mb ⊢
            by_cases hin : Has rs E t
            · refine c_yes (ge1 _) (by rw [emE]; exact hin) ?_
              simp only [Bool.not_true, Bool.false_eq_true, if_false]
              have red : ∀ u, Has rs (E ++ (T1 ++ [t])) u → Has rs (E ++ T1) u := fun u h => by
                obtain ⟨s, hs', e⟩ := h
                rw [← List.append_assoc] at hs'
                rcases List.mem_append.mp hs' with h | h
                · exact ⟨s, h, e⟩
                · rw [List.mem_singleton.mp h] at e
                  obtain ⟨s2, h2, e2⟩ := hin
                  exact ⟨s2, List.mem_append_left _ h2, e.trans e2⟩
              refine ⟨(41 - E.length) * (hs.length + 1) + T1.length, by omega, E, T1, _, rfl, rfl, sub_putZ sb bsk rfl, by rw [gput_ne ksk]; exact gk2, gn1 _, by rw [gput_ne fsk]; exact gf, fun e he => by rw [gput_ne (eFs e he).2]; exact gFs e he, ge1 _, gput_same, fun t' ht' => tv t' (by rw [← List.append_assoc]; exact List.mem_append_left _ ht'), ndE, fun c hc => red _ (st0 c hc), fun e he c hc => red _ (clE e he c hc), by omega⟩
            · refine c_no (ge1 _) (by rw [emE]; exact hin) ?_
              simp only [if_true]
              refine c_set (fun h => h) (fun h => h) (ge1 _) (by rw [List.length_map]; omega) (by rw [emE]; exact hin) ?_
              have eE : (E.map fun t => (t, D.bl true)) ++ [(t, D.bl true)] = (E ++ [t]).map fun t => (t, D.bl true) := by rw [List.map_append]; rfl
              rw [eE]
              have gs2 : ∀ X Y, gput (gput G3 sk X) se Y sk = some X := fun X Y => by rw [gput_ne (Ne.symm ses), gput_same]
              have gn2 : ∀ X Y, gput (gput G3 sk X) se Y nr = some (.dN w (ckD rs (W.map fun l => (l, nrV hs rs l)))) := fun X Y => by rw [gput_ne nse, gput_ne nsk]; exact gn
              have e3 : nrV hs rs t = .lst ((hs.map fun c => t ++ [c]).map (classD rs)) := by
                unfold nrV
                rw [List.map_map]
                rfl
              simp only [dxs, dl, gs2]
              refine ⟨rfl, c_item (gn2 _ _) (nrv t (hasW t htm)) ?_⟩
              rw [e3]
              simp only [rExtendD, gs2, D.cur, ← List.map_append]
              have em1 : (41 - E.length) * (hs.length + 1) = (41 - (E ++ [t]).length) * (hs.length + 1) + (hs.length + 1) := by
                rw [List.length_append, List.length_singleton]
                have : 41 - E.length = (41 - (E.length + 1)) + 1 := by omega
                rw [this, Nat.add_mul, Nat.one_mul]
              have lT : (T1 ++ hs.map fun c => t ++ [c]).length = T1.length + hs.length := by rw [List.length_append, List.length_map]
              have grow : ∀ u, Has rs (E ++ (T1 ++ [t])) u → Has rs ((E ++ [t]) ++ (T1 ++ hs.map fun c => t ++ [c])) u := fun u h => by
                obtain ⟨s, hs', e⟩ := h
                refine ⟨s, ?_, e⟩
                simp only [List.mem_append, List.mem_singleton] at hs' ⊢
                rcases hs' with h | h | h
                · exact .inl (.inl h)
                · exact .inr (.inl h)
                · exact .inl (.inr h)
              refine ⟨?_, (41 - (E ++ [t]).length) * (hs.length + 1) + (T1 ++ hs.map fun c => t ++ [c]).length, by rw [lT]; omega, E ++ [t], T1 ++ hs.map fun c => t ++ [c], _, rfl, rfl, sub_putZ (sub_putZ (sub_putZ sb bsk rfl) bse rfl) bsk rfl, by rw [gput_ne ksk, gput_ne kse, gput_ne ksk]; exact gk2, by rw [gput_ne nsk]; exact gn2 _ _, by rw [gput_ne fsk, gput_ne fse, gput_ne fsk]; exact gf, fun e he => by rw [gput_ne (eFs e he).2, gput_ne (eFs e he).1, gput_ne (eFs e he).2]; exact gFs e he, by rw [gput_ne ses, gput_same], gput_same, fun t' ht' => ?_, nd_snoc ndE hin, fun c hc => grow _ (st0 c hc), fun e he c hc => ?_, by rw [lT]; omega⟩
              · exact sz (by simp only [List.length_map, List.length_append] at *; omega)
              · simp only [List.mem_append, List.mem_singleton, List.mem_map] at ht'
                rcases ht' with (h | h) | (h | ⟨c, hc, rfl⟩)
                · exact tv t' (List.mem_append_left _ h)
                · rw [h]; exact tv t htm
                · exact tv t' (by simp [h])
                · obtain ⟨v, v0, hv, e2⟩ := tv t htm
                  exact ⟨v ++ [c], by simp, hv.app (Ov.one hc), by rw [e2, List.append_assoc]⟩
              · rcases List.mem_append.mp he with h | h
                · exact grow _ (clE e h c hc)
                · rw [List.mem_singleton.mp h]
                  exact ⟨t ++ [c], List.mem_append_right _ (List.mem_append_right _ (List.mem_map.mpr ⟨c, hc, rfl⟩)), rfl⟩
      · rintro S' G2 ⟨Fs, x6, x8, x9, x10, rfl, sb2, gk3, gn2, gf2, beh, fr⟩
        rw [List.length_map, List.take_length] at beh
        refine ⟨gk3, ?_⟩
        have sbB := sub_back21 sb2 gk rfl
        refine ⟨_, Sub.refl _, q f Fs _ sbB (Ne.symm kf) hf' (by rw [gput_ne (Ne.symm kf)]; exact gf2) ⟨beh.fst, fun e he => by rw [gput_ne (fr e he).2.2.2]; exact beh.at_ e he, beh.nd, beh.ov, beh.has⟩ fun e he => ⟨?_, (fr e he).2.1⟩⟩
        have := (fr e he).1
        rwa [gdel_ne (fr e he).2.2.2] at this
end
end Pace
end
section
set_option Elab.async false
set_option linter.all false
set_option maxRecDepth 100000
set_option maxHeartbeats 4000000
namespace Pace
open PySem PySem.Spec PyProof.Rows L2 DL
section
variable {P : Program} {w : World} {K : PySem.W.Frag} {mg : Str → Option Value} {base : Heap} {C PT cT : Addr}
structure Grows (rs : List (List Mv)) (E E' : List (List Nat × D)) (M : List (List Nat)) : Prop where
  nd : ((E.map (·.1)).map (classOf rs)).Nodup → ((E'.map (·.1)).map (classOf rs)).Nodup
  has : ∀ v, Has rs (E'.map (·.1)) v ↔ Has rs (E.map (·.1)) v ∨ Has rs M v
  from_ : ∀ t ∈ E'.map (·.1), t ∈ E.map (·.1) ∨ t ∈ M
  ne : E ≠ [] ∨ M ≠ [] → E' ≠ []
theorem has_app {rs : List (List Mv)} {A B : List (List Nat)} {u : List Nat} : Has rs (A ++ B) u ↔ Has rs A u ∨ Has rs B u := by
  constructor
  · rintro ⟨t, ht, e⟩
    exact (List.mem_append.mp ht).elim (fun h => .inl ⟨t, h, e⟩) fun h => .inr ⟨t, h, e⟩
  · rintro (⟨t, ht, e⟩ | ⟨t, ht, e⟩)
    · exact ⟨t, List.mem_append_left _ ht, e⟩
    · exact ⟨t, List.mem_append_right _ ht, e⟩
theorem has_one {rs : List (List Mv)} {t u : List Nat} : Has rs [t] u ↔ classOf rs u = classOf rs t := by
  constructor
  · rintro ⟨t2, ht, e⟩
    rw [List.mem_singleton.mp ht] at e
    exact e
  · intro e
    exact ⟨t, by simp, e⟩
theorem ck_putAny {rs : List (List Mv)} (E : List (List Nat × D)) (u : List Nat) (d : D) : ∃ E', putD (ckD rs E) (clN rs u) d = ckD rs E' ∧ Grows rs E E' [u] := by
  by_cases h : Has rs (E.map (·.1)) u
  · have yes : ((ckD rs E).any fun kv => decide (kv.1 = clN rs u)) = true := by
      obtain ⟨t, ht, e⟩ := h
      obtain ⟨y, hy, rfl⟩ := List.mem_map.mp ht
      rw [List.any_eq_true]
      exact ⟨(clN rs y.1, y.2), List.mem_map.mpr ⟨y, hy, rfl⟩, by rw [decide_eq_true_eq]; exact clN_eq e.symm⟩
    have ek : (E.map fun e => if clN rs e.1 = clN rs u then (e.1, d) else e).map (·.1) = E.map (·.1) := by
      rw [List.map_map]
      refine List.map_congr_left fun e _ => ?_
      show (if clN rs e.1 = clN rs u then (e.1, d) else e).1 = e.1
      split <;> rfl
    refine ⟨E.map fun e => if clN rs e.1 = clN rs u then (e.1, d) else e, ?_, ⟨fun z => by rw [ek]; exact z, fun v => ?_, fun t ht => by rw [ek] at ht; exact .inl ht, fun _ z => ?_⟩⟩
    · unfold putD
      rw [if_pos yes]
      unfold ckD
      rw [List.map_map, List.map_map]
      refine List.map_congr_left fun e _ => ?_
      show (if clN rs e.1 = clN rs u then (clN rs e.1, d) else (clN rs e.1, e.2)) = _
      by_cases z : clN rs e.1 = clN rs u
      · rw [if_pos z]
        show _ = (clN rs (if clN rs e.1 = clN rs u then (e.1, d) else e).1, (if clN rs e.1 = clN rs u then (e.1, d) else e).2)
        rw [if_pos z]
      · rw [if_neg z]
        show _ = (clN rs (if clN rs e.1 = clN rs u then (e.1, d) else e).1, (if clN rs e.1 = clN rs u then (e.1, d) else e).2)
        rw [if_neg z]
    · rw [ek]
      refine ⟨.inl, fun z => z.elim id fun z => ?_⟩
      obtain ⟨t, ht, e⟩ := h
      exact ⟨t, ht, (has_one.mp z).trans e⟩
    · have := congrArg List.length z
      rw [List.length_map, List.length_nil, List.length_eq_zero_iff] at this
      rw [this] at h
      obtain ⟨_, ht, _⟩ := h
      cases ht
  · refine ⟨E ++ [(u, d)], ck_put h d, ⟨fun z => ?_, fun v => ?_, fun t ht => ?_, fun _ z => by simp at z⟩⟩
    · rw [List.map_append]
      exact nd_snoc z h
    · rw [List.map_append]
      exact has_app
    · rw [List.map_append] at ht
      exact List.mem_append.mp ht
theorem ck_merge {rs : List (List Mv)} : ∀ (M E : List (List Nat × D)), ∃ E', mergeN (ckD rs E) (ckD rs M) = ckD rs E' ∧ Grows rs E E' (M.map (·.1))
  | [], E => ⟨E, rfl, ⟨id, fun v => ⟨.inl, fun z => z.elim id fun ⟨_, h, _⟩ => by cases h⟩, fun t ht => .inl ht, fun z => z.elim id fun y => absurd rfl y⟩⟩
  | m :: M, E => by
    obtain ⟨E1, e1, g1⟩ := ck_putAny (rs := rs) E m.1 m.2
    obtain ⟨E2, e2, g2⟩ := ck_merge (rs := rs) M E1
    refine ⟨E2, ?_, ⟨fun z => g2.nd (g1.nd z), fun v => ?_, fun t ht => ?_, fun _ => g2.ne (.inl (g1.ne (.inr (by simp))))⟩⟩
    · rw [← e2, ← e1]
      rfl
    · rw [g2.has, g1.has, List.map_cons, ← List.singleton_append (l := M.map (·.1)), has_app, or_assoc]
    · rw [List.map_cons]
      rcases g2.from_ t ht with h | h
      · rcases g1.from_ t h with h | h
        · exact .inl h
        · exact .inr (by rw [List.mem_singleton.mp h]; exact List.mem_cons_self)
      · exact .inr (List.mem_cons_of_mem _ h)
theorem c_setAny {rs : List (List Mv)} {w : World} {to ti : DTE} {G : GH} {S : DS} {d : Addr} {E E1 : List (List Nat × D)} {u : List Nat} {v : D} {Q : DS → GH → Prop} (hto : ∀ {K : DQ}, K (.rf d) G → to S G K) (hti : ∀ {K : DQ}, K (classD rs u) G → ti S G K) (h : G d = some (.dN w (ckD rs E))) (hl : E.length ≤ 1000) (e1 : putD (ckD rs E) (clN rs u) v = ckD rs E1) (z : Q S (gput G d (.dN w (ckD rs E1)))) : dSetSubN w to ti v S G Q := by
  unfold dSetSubN
  refine hto (hti ?_)
  unfold classD
  simp only [h, nkeys_class]
  refine ⟨trivial, class_depth _, szl (by rw [ck_len]; omega), ?_⟩
  have : putD (ckD rs E) (.tup (classK (classOf rs u))) v = ckD rs E1 := e1
  rw [this]
  exact z
theorem c_upd {rs : List (List Mv)} {w : World} {G : GH} {a b : Addr} {E M E2 : List (List Nat × D)} {Q : DQ} (ha : G a = some (.dN w (ckD rs E))) (hb : G b = some (.dN w (ckD rs M))) (ab : a ≠ b) (ne : E ≠ []) (hl : E.length ≤ 1000) (hm : M.length ≤ 1000) (e2 : mergeN (ckD rs E) (ckD rs M) = ckD rs E2) (z : Q .non (gput G a (.dN w (ckD rs E2)))) : rUpdN w (.rf a) [.rf b] G Q := by
  unfold rUpdN
  simp only [ha, hb]
  refine ⟨trivial, trivial, ab, .inl fun h => ne ?_, by rw [ck_len, ck_len]; exact sz (by omega), by rw [e2]; exact z⟩
  have := congrArg List.length h
  rw [ck_len, List.length_nil, List.length_eq_zero_iff] at this
  exact this
def spLong21 (w : World) : SpD := fun ds G Q => ∃ (hs ws : List Nat) (rs : List (List Mv)) (k : Addr) (W : List (List Nat)), ds = [wD hs ws rs, .rf k] ∧ G k = some (.dN w (ckD rs (W.map fun l => (l, D.str (strOf l))))) ∧ Few rs ∧ (∀ r ∈ rs, r.length ≤ 1000 ∧ ∀ m ∈ r, m.t < rs.length) ∧ rs.length ≤ 7 ∧ 0 < rs.length ∧ hs.length ≤ 100 ∧
  (W.map (classOf rs)).Nodup ∧ (∀ w ∈ W, Ov hs w) ∧ (∀ w ∈ W, ∀ c ∈ hs, Has rs W (w ++ [c])) ∧ Has rs W [] ∧ W.length ≤ 40 ∧
  ∀ (T : List (List Nat)) (G' : GH), Sub G G' → (T.map (classOf rs)).Nodup → (∀ t ∈ T, Ov hs t) → (∀ u, Ov hs u → (Has rs T u ↔ LongC hs rs u)) → Q (.lst (sortD (T.map (classD rs)))) G'
abbrev N__law_long : List Str := ["_law_w", "_law_known_here", "_law_onward", "_law_found", "_law_one_class"]
theorem sc__law_long : FnScope N__law_long ["_law_w", "_law_known_here"] (defScope s__law_long) := ⟨rfl, rfl, rfl, by decide +kernel, rfl, by decide +kernel, by decide +kernel⟩
theorem c__law_long (T : Txt K mg C) (d : Def K mg "_law_long" s__law_long) (C__law_behind : Cal P w K mg base "_law_behind" 5 ["_law_w", "_law_known_here"] (spBehind21 w)) : Cal P w K mg base "_law_long" 6 ["_law_w", "_law_known_here"] (spLong21 w) := by
  refine cal_mk (N := N__law_long) d sc__law_long (fun ds G Q h => ?_) (fun _ _ _ _ _ _ us hl => match us, hl with | [_, _], _ => rfl) (fun f cdv A outer s H E hg hr => ?_)
  · obtain ⟨hs, ws, rs, k, W, rfl, _⟩ := h
    rfl
  · have hu := hu100 hr
    have nd := sc__law_long.nd
    have hA := deeper_guards (env := envOfC "_law_long" (defScope s__law_long) s.heap.objs.size f cdv) hg
    refine ⟨_, (dps_cons (dp_par (i := 2) (j := 3) rfl nd (ha := (da_cons (de_cal C__law_behind hA (hr.mono (by decide)) (da_cons (de_var 0) (da_cons (de_var 1) da_nil))) (da_cons de_newN da_nil))))
  (dps_cons (dp_lockN (dp_for PassesOwn.never rfl (di_keysN (de_var 1)) (dg_name 4 nd)
  (dps_one (dp_if (dt_cmp (od_inN hu) (de_var 4) (de_ixN hu (de_var 2) (de_var 4)) (by rfl))
  (dps_cons (dp_asg de_bl (dg_subN hu (de_var 3) (de_var 4)))
  (dps_one (dp_expr (de_updN hu (de_var 3) (de_ixN hu (de_var 2) (de_var 4))))))
  dps_nil))))
  (dps_one (dp_ret (de_callB (cd_sortN hu rfl) rfl T.f_sorted (by decide +kernel) (da_cons (de_var 3) da_nil)))))), fun ds G Q h => ?_⟩
    obtain ⟨hs, ws, rs, k, W, rfl, gk, fw, ok, n7, n0, h1, nd, ov, cl, w0, w40, q⟩ := h
    rw [show dstart N__law_long [wD hs ws rs, .rf k] = [some (wD hs ws rs), some (.rf k), none, none, none] from rfl]
    simp only [dxs, dl, cx_w3]
    refine ⟨hs, ws, rs, k, W, rfl, gk, fw, ok, n7, h1, nd, ov, cl, w40, fun o Fs G2 sG ok_ no ho beh fr => ?_⟩
    intro f hf
    have hf' := hf
    have gk2 := sG.le k _ gk
    have kf : k ≠ f := fun e => by rw [← e, gk2] at hf'; cases hf'
    have of' : o ≠ f := fun e => by rw [← e, ho] at hf'; cases hf'
    have ko : k ≠ o := fun e => ok_ e.symm
    have eFs : ∀ e ∈ Fs, e.2.1 ≠ f ∧ e.2.1 ≠ k ∧ e.2.1 ≠ o := fun e he => ⟨fun z => (by have := beh.at_ e he; rw [z, hf'] at this; cases this), fun z => (by have := (fr e he).1; rw [z, gk] at this; cases this), (fr e he).2⟩
    have bk : gdel G2 k k = none := gdel_same
    have bf : gdel G2 k f = none := by rw [gdel_ne (Ne.symm kf)]; exact hf'
    have keys : (ckD rs (W.map fun l => (l, D.str (strOf l)))).map (fun kv => kToD kv.1) = W.map (classD rs) := by
      unfold ckD
      rw [List.map_map, List.map_map]
      exact List.map_congr_left fun e _ => clN_toD e
    have gk1 : gput G2 f (.dN w []) k = some (.dN w (ckD rs (W.map fun l => (l, D.str (strOf l))))) := by rw [gput_ne kf]; exact gk2
    have ndF : ((Fs.map fun e => (e.1, D.rf e.2.1)).map (·.1)) = W := by rw [List.map_map]; exact beh.fst
    have few : FewC hs rs 40 := ⟨W, w40, fun u hu => by
      have := has_all (hs := hs) cl w0 u hu
      rwa [List.nil_append] at this⟩
    simp only [dLockN, dxs, dl]
    refine ⟨k, _, gk1, fun o2 xs => ?_⟩
    simp only [diKeysN, dxs, dl, gput_same, keys]
    refine ⟨trivial, ?_⟩
    refine ⟨fun i S' G1 => ∃ (x4 : Option D) (E : List (List Nat × D)), S' = [some (wD hs ws rs), some (.rf k), some (.rf o), some (.rf f), x4] ∧ Sub (gdel G2 k) G1 ∧ G1 k = some (.lkN w o2 xs (ckD rs (W.map fun l => (l, D.str (strOf l))))) ∧ G1 o = some (.dN w (ckD rs (Fs.map fun e => (e.1, D.rf e.2.1)))) ∧ (∀ e ∈ Fs, G1 e.2.1 = some (.dN w (ckD rs e.2.2))) ∧ G1 f = some (.dN w (ckD rs E)) ∧
        ((E.map (·.1)).map (classOf rs)).Nodup ∧ (∀ t ∈ E.map (·.1), Ov hs t) ∧ (∀ u, Ov hs u → (Has rs (E.map (·.1)) u ↔ ∃ l ∈ W.take i, ∃ v v', v ≠ [] ∧ Ov hs v ∧ Ov hs v' ∧ classOf rs l = classOf rs (l ++ v) ∧ classOf rs u = classOf rs (l ++ v'))),
      ⟨none, [], rfl, sub_putZ (sub_putZ (sub_del21 gk2 rfl) bf rfl) bk rfl, gput_same, by rw [gput_ne (Ne.symm ko), gput_ne of']; exact ho, fun e he => by rw [gput_ne (eFs e he).2.1, gput_ne (eFs e he).1]; exact beh.at_ e he, by rw [gput_ne (Ne.symm kf), gput_same]; rfl, by simp, by simp, fun u _ => ⟨(fun ⟨_, h, _⟩ => by cases h), (fun ⟨_, h, _⟩ => by simp at h)⟩⟩, fun i S' G1 h => by obtain ⟨_, _, _, _, h, _⟩ := h; exact h, ?_, ?_⟩
    · rintro i S' G1 dd ⟨x4, E, rfl, sb, gk3, go, gFs, gf, ndE, ovE, hasE⟩ hd
      obtain ⟨l, hl, rfl⟩ := map_get hd
      have hlm := List.mem_of_getElem? hl
      have ovl := ov l hlm
      have hil : i < W.length := (List.getElem?_eq_some_iff.mp hl).1
      obtain ⟨e, he, rfl⟩ : ∃ e ∈ Fs, e.1 = l := by
        rw [← beh.fst] at hlm
        exact List.mem_map.mp hlm
      have val : valD (ckD rs (Fs.map fun e => (e.1, D.rf e.2.1))) (clN rs e.1) = some (.rf e.2.1) := ck_val (e := (e.1, D.rf e.2.1)) (by rw [ndF]; exact nd) (List.mem_map.mpr ⟨e, he, rfl⟩) rfl
      have lE : E.length ≤ 40 := by
        have := few.le ndE ovE
        rwa [List.length_map] at this
      have tk : W.take (i + 1) = W.take i ++ [e.1] := by rw [List.take_succ, hl]; rfl
      simp only [dxs, dl]
      refine c_item go val ?_
      by_cases hh : Has rs (e.2.2.map (·.1)) e.1
      · refine c_yes (gFs e he) hh ?_
        simp only [Bool.not_false, if_true]
        obtain ⟨E1, e1, g1⟩ := ck_putAny (rs := rs) E e.1 (.bl true)
        obtain ⟨E2, e2, g2⟩ := ck_merge (rs := rs) e.2.2 E1
        obtain ⟨fe, ke, oe⟩ := eFs e he
        have nd1 := g1.nd ndE
        have ov1 : ∀ t ∈ E1.map (·.1), Ov hs t := fun t ht => (g1.from_ t ht).elim (ovE t) fun h => by rw [List.mem_singleton.mp h]; exact ovl
        have l1 : E1.length ≤ 40 := by
          have := few.le nd1 ov1
          rwa [List.length_map] at this
        have ovM : ∀ t ∈ e.2.2.map (·.1), Ov hs t := fun t ht => by
          obtain ⟨x, hx, rfl⟩ := List.mem_map.mp ht
          exact beh.ov e he x hx
        have lM : e.2.2.length ≤ 40 := by
          have := few.le (beh.nd e he) ovM
          rwa [List.length_map] at this
        refine c_setAny (fun h => h) (fun h => h) gf (by omega) e1 ?_
        have go1 : gput G1 f (.dN w (ckD rs E1)) o = some (.dN w (ckD rs (Fs.map fun e => (e.1, D.rf e.2.1)))) := by rw [gput_ne of']; exact go
        have ge1 : gput G1 f (.dN w (ckD rs E1)) e.2.1 = some (.dN w (ckD rs e.2.2)) := by rw [gput_ne fe]; exact gFs e he
        simp only [dxs, dl, gput_same]
        refine ⟨⟨_, gput_same⟩, ?_⟩
        simp only [dxs, dl]
        refine c_item go1 val ?_
        refine c_upd gput_same ge1 (Ne.symm fe) (g1.ne (.inr (by simp))) (by omega) (by omega) e2 ?_
        refine ⟨_, E2, rfl, sub_putZ (sub_putZ sb bf rfl) bf rfl, by rw [gput_ne kf, gput_ne kf]; exact gk3, by rw [gput_ne of', gput_ne of']; exact go, fun e he => by rw [gput_ne (eFs e he).1, gput_ne (eFs e he).1]; exact gFs e he, gput_same, g2.nd nd1, fun t ht => (g2.from_ t ht).elim (ov1 t) (ovM t), fun u hu => ?_⟩
        rw [g2.has, g1.has, has_one, hasE u hu, beh.has e he u hu, tk]
        have hh2 := (beh.has e he e.1 ovl).mp hh
        constructor
        · rintro ((⟨l, h, z⟩ | z) | ⟨v, z1, z2, z3⟩)
          · exact ⟨l, List.mem_append_left _ h, z⟩
          · obtain ⟨v, y1, y2, y3⟩ := hh2
            exact ⟨e.1, by simp, v, [], y1, y2, (fun c hc => by cases hc), y3, by rw [List.append_nil]; exact z⟩
          · obtain ⟨v0, y1, y2, y3⟩ := hh2
            exact ⟨e.1, by simp, v0, v, y1, y2, z2, y3, z3⟩
        · rintro ⟨l, h, v, v', z1, z2, z3, z4, z5⟩
          rcases List.mem_append.mp h with h | h
          · exact .inl (.inl ⟨l, h, v, v', z1, z2, z3, z4, z5⟩)
          · rw [List.mem_singleton.mp h] at z4 z5
            by_cases h0 : v' = []
            · subst h0
              rw [List.append_nil] at z5
              exact .inl (.inr z5)
            · exact .inr ⟨v', h0, z3, z5⟩
      · refine c_no (gFs e he) hh ?_
        simp only [Bool.false_eq_true, if_false]
        refine ⟨_, E, rfl, sb, gk3, go, gFs, gf, ndE, ovE, fun u hu => ?_⟩
        rw [hasE u hu, tk]
        constructor
        · rintro ⟨l, h, z⟩
          exact ⟨l, List.mem_append_left _ h, z⟩
        · rintro ⟨l, h, v, v', z1, z2, z3, z4, z5⟩
          rcases List.mem_append.mp h with h | h
          · exact ⟨l, h, v, v', z1, z2, z3, z4, z5⟩
          · rw [List.mem_singleton.mp h] at z4
            exact absurd ((beh.has e he e.1 ovl).mpr ⟨v, z1, z2, z4⟩) hh
    · rintro S' G1 ⟨x4, E, rfl, sb, gk3, go, gFs, gf, ndE, ovE, hasE⟩
      rw [List.length_map, List.take_length] at hasE
      refine ⟨gk3, ?_⟩
      have sbB := sub_back21 sb gk2 rfl
      have gfB : gput G1 k (.dN w (ckD rs (W.map fun l => (l, D.str (strOf l))))) f = some (.dN w (ckD rs E)) := by rw [gput_ne (Ne.symm kf)]; exact gf
      have kE : (ckD rs E).map (fun kv => kToD kv.1) = (E.map (·.1)).map (classD rs) := by
        unfold ckD
        rw [List.map_map, List.map_map]
        exact List.map_congr_left fun e _ => clN_toD e.1
      simp only [dxs, dl, rSortN, gfB, kE]
      refine ⟨trivial, okS_cls _ n0, _, Sub.refl _, q (E.map fun (x : List Nat × D) => x.1) _ (sG.trans sbB) ndE ovE fun u hu => ?_⟩
      rw [hasE u hu]
      constructor
      · rintro ⟨l, h, v, v', z1, z2, z3, z4, z5⟩
        exact ⟨l, v, v', ov l h, z2, z3, z1, z4.symm, z5⟩
      · rintro ⟨a, v, v', z0, z2, z3, z1, z4, z5⟩
        obtain ⟨l, hl, e⟩ := has_all (hs := hs) cl w0 a z0
        rw [List.nil_append] at e
        exact ⟨l, hl, v, v', z1, z2, z3, by rw [← cls_app e v, z4, e], by rw [z5, cls_app e v']⟩
end
end Pace
end
section
set_option Elab.async false
set_option linter.all false
set_option maxRecDepth 100000
set_option maxHeartbeats 4000000
namespace DL
open PySem PySem.Spec PyProof.Rows L2
def spLaw (n : Nat) : SpD := fun ds G Q => ∃ ns : List Int, ds = [.scr ns] ∧ ns.length ≤ n ∧ (G = fun _ => none) ∧ ∀ G', Q (.bl true) G'
section
variable {P : Program} {w : World} {K : PySem.W.Frag} {mg mb : Str → Option Value} {k : Nat} {fa a : Addr} {fd : FuncData} {x : Str} {s₁ : Shared} {vs : List Value} {ns : List Int} {n : Nat}
theorem last_core (inn : K.In s₁.heap) (hns : s₁.heap.Ns mainGlobals mg) (hb : s₁.heap.Ns builtinsNs mb) (hbb : ∀ x : Str, x ≠ "__name__" → mb x = bootBuiltins x) (hlim : s₁.heap.NoLimit) (hg : s₁.gens = #[])
    (ha : s₁.heap.get? a = some { cls := .type "list", data := .seq vs.toArray }) (hl : ns.length ≤ n) (hr : Room k callerA)
    (Fn : ∀ base : Heap, K.In base → base.Ns mainGlobals mg → FnG P w K mg base CX0 k fa fd [x] (SpOf K (spLaw n))) (bd : ∀ (s : Shared) (u : Value), BindsTo s fd ⟨[u], []⟩ [(x, u)])
    (H : Hp) (hO : Only H) (hS : SqL K H a (ns.map V.int)) (hok : HOk P w H s₁.heap) (hA : ∀ b, H b ≠ none → b = a) (hK : H a ≠ none → K.lookup a = none) :
    codeAny (model P w) callerA (.call (.ref fa) ⟨[.ref a], []⟩) (fun r s' => r = .ok (.ret (.bool true)) ∧ OldK s₁.heap s'.heap ∧ s'.os = s₁.os ∧ AllBare s'.gens) s₁ := by
  have put : ∀ {b : Addr} {o : Obj}, s₁.heap.get? b = some o → H b = none → (hidT s₁.heap H).get? b = some o := by
    intro b o z y
    exact hidT_get z y
  have nod : ∀ {b : Addr} {o : Obj} {es : Array DictEntry} {ep : Nat}, s₁.heap.get? b = some o → o.data = .dict es ep → H b = none := by
    intro b o es ep z y
    cases q : H b with
    | none => rfl
    | some u =>
      obtain rfl : b = a := hA b (by rw [q]; simp)
      rw [ha] at z
      cases z
      exact absurd y (by intro c; cases c)
  have ns2 : ∀ {b : Addr} {m : Str → Option Value}, s₁.heap.Ns b m → (hidT s₁.heap H).Ns b m := by
    rintro b m ⟨o, es, ep, z, y, r⟩
    exact ⟨o, es, ep, put z (nod z y), y, r⟩
  have in2 : K.In (hidT s₁.heap H) := by
    intro b o z
    refine put (inn b o z) ?_
    cases q : H b with
    | none => rfl
    | some u =>
      have y : b = a := hA b (by rw [q]; simp)
      subst y
      have c := hK (by rw [q]; simp)
      rw [c] at z; cases z
  have md : Mod K mg (hidT s₁.heap H) := by
    obtain ⟨mc, l1, l2⟩ := hlim
    exact ⟨in2, ns2 hns, ⟨mb, ns2 hb, hbb⟩, ⟨mc, ns2 l1, l2⟩⟩
  have e0 : Env0 P w K mg (hidT s₁.heap H) callerA [] s₁ H := by
    refine ⟨rfl, md, fun b o z => of_hidT z, Nat.le_of_eq (hidT_size _ _), trivial, ?_, hok, .of_eq hg⟩
    intro b hb
    cases hb
  have sp0 : SpOf K (spLaw n) [.ref a] H (fun v _ => v = .bl true) (fun _ _ _ => False) := by
    refine ⟨H, fun _ => none, [.scr ns], fun d _ => d = .bl true, ⟨Ex.refl H, fun _ _ z => (nomatch z), fun _ _ _ _ _ _ _ _ _ _ z => (nomatch z)⟩, .one (.scr hS), ⟨ns, rfl, hl, rfl, fun _ => rfl⟩, ?_⟩
    intro F' H' v d G' _ _ r z
    subst z
    cases r
    rfl
  refine codeAny_mono ((Fn _ in2 (ns2 hns)).goes callerA [] s₁ H ⟨[.ref a], []⟩ [.ref a] [.ref a] _ _ rfl hr e0 (bd s₁ (.ref a)) (.cons rfl .nil) sp0) ?_
  intro r s' z
  match r, z with
  | .error er, z => exact z.elim
  | .ok .next, z => exact z.elim
  | .ok .brk, z => exact z.elim
  | .ok .cont, z => exact z.elim
  | .ok (.ret u), z =>
    obtain ⟨v, H', os, bare, un, hok', r', q⟩ := z
    have q' : v = .bl true := q
    subst q'
    obtain rfl : u = Value.bool true := r'
    refine ⟨rfl, OldK.of_keep ?_, os, bare⟩
    intro b o z
    cases q : H b with
    | none => exact un.keep b o z q (by intro c; cases c) (by simp)
    | some y =>
      rcases hO b with c | ⟨ob, xs, c⟩
      · rw [q] at c; cases c
      · have c2 := un.frzs b ob _ c
        have d1 := (hok b _ c).1
        have d2 := (hok' b _ c2).1
        rw [z] at d1
        cases d1
        exact d2
theorem last_call (inn : K.In s₁.heap) (hns : s₁.heap.Ns mainGlobals mg) (hb : s₁.heap.Ns builtinsNs mb) (hbb : ∀ x : Str, x ≠ "__name__" → mb x = bootBuiltins x) (hlim : s₁.heap.NoLimit) (hg : s₁.gens = #[])
    (ha : s₁.heap.get? a = some { cls := .type "list", data := .seq vs.toArray }) (hi : IntsAre vs ns) (hl : ns.length ≤ n) (hn : n ≤ sizeLine) (hr : Room k callerA)
    (Fn : ∀ base : Heap, K.In base → base.Ns mainGlobals mg → FnG P w K mg base CX0 k fa fd [x] (SpOf K (spLaw n))) (bd : ∀ (s : Shared) (u : Value), BindsTo s fd ⟨[u], []⟩ [(x, u)]) :
    codeAny (model P w) callerA (.call (.ref fa) ⟨[.ref a], []⟩) (fun r s' => r = .ok (.ret (.bool true)) ∧ OldK s₁.heap s'.heap ∧ s'.os = s₁.os ∧ AllBare s'.gens) s₁ := by
  have rv := vals_ints hi
  have lv := hi.length
  have hz : ns.length ≤ sizeLine := Nat.le_trans hl hn
  cases hk : K.lookup a with
  | some o =>
    have z := inn a o hk
    rw [ha] at z
    cases z
    refine last_core inn hns hb hbb hlim hg ha hl hr Fn bd (fun _ => none) (fun _ => .inl rfl) ?_ (fun b u z => (nomatch z)) (fun b z => absurd rfl z) (fun z => absurd rfl z)
    refine .inr ⟨_, vs.toArray, _, hk, rfl, rfl, rfl, ?_, by simpa using rv⟩
    rw [List.size_toArray, lv]
    exact hz
  | none =>
    let H : Hp := fun b => if b = a then some (.frz { cls := .type "list", data := .seq vs.toArray } (.lst (ns.map V.int))) else none
    have hy : H a = some (.frz { cls := .type "list", data := .seq vs.toArray } (.lst (ns.map V.int))) := if_pos rfl
    have hno : ∀ b, b ≠ a → H b = none := fun b z => if_neg z
    refine last_core inn hns hb hbb hlim hg ha hl hr Fn bd H (fun b => ?_) (.inl (.inr ⟨_, hy⟩)) (fun b u z => ?_) (fun b z => ?_) (fun _ => hk)
    · by_cases c : b = a
      · subst c; exact .inr ⟨_, _, hy⟩
      · exact .inl (hno b c)
    · by_cases c : b = a
      · subst c
        rw [hy] at z
        cases z
        exact ⟨ha, by rw [List.length_map]; exact hz, vs, _, rv, ha⟩
      · rw [hno b c] at z; cases z
    · by_cases c : b = a
      · exact c
      · exact absurd (hno b c) z
end
theorem walk_G {l : PySem.W.OpenLaw} {n k : Nat} {q : Program} {loose : List Str} {XP : (Str → Option Value) → Heap → Prop} {YP : World → Heap → Prop} {d : DefRec} {x : Str}
    (hn : l.most = some n) (hn2 : n ≤ sizeLine) (hdf : d.params.defaults = []) (hr : Room k callerA)
    (Fn : ∀ (w : World) (mg : Str → Option Value) (fa : Addr) (h : Heap), YP w h → h.Ns mainGlobals mg → mg d.name = some (.ref fa) →
      ∃ (K : PySem.W.Frag) (fd : FuncData), K.In h ∧ (∀ (s : Shared) (u : Value), BindsTo s fd ⟨[u], []⟩ [(x, u)]) ∧
        ∀ base : Heap, K.In base → base.Ns mainGlobals mg → FnG l.prog w K mg base CX0 k fa fd [x] (SpOf K (spLaw n))) :
    PySem.W.WalkO q loose XP YP l.row.toRowW d [] (fun f vs => PySem.call f vs) := by
  refine Att.attach_call hn hdf ?_
  intro w s₀ s₁ mg mb fa o pm cd doc a vs ns G Y ho hd hcd hmg hobj hints hlen hg
  obtain ⟨K, fd, inn, bd, hF⟩ := Fn w mg fa _ Y G.T.g hmg
  exact last_call inn G.T.g G.T.b G.T.builtins G.T.nolimit hg hobj hints hlen hn2 hr hF bd
end DL
end
section
set_option Elab.async false
set_option linter.all false
set_option maxRecDepth 100000
set_option maxHeartbeats 4000000
namespace Pace
open PySem PySem.Spec PyProof.Rows L2 DL
section
variable {P : Program} {w : World} {K : PySem.W.Frag} {mg : Str → Option Value} {base : Heap} {C PT cT : Addr}
theorem bks_le {w : Nat} : ∀ {xs : List D}, (∀ x ∈ xs, bkD x ≤ w) → bksD xs ≤ xs.length * (w + 1)
  | [], _ => Nat.zero_le _
  | x :: xs, h => by
    have h1 := bks_le (xs := xs) fun y hy => h y (List.mem_cons_of_mem _ hy)
    have h2 := h x List.mem_cons_self
    rw [bks_cons, List.length_cons, Nat.add_mul]
    omega
theorem class_odd {rs : List (List Mv)} (tl : ∀ r ∈ rs, ∀ m ∈ r, m.t < rs.length) (n4 : rs.length ≤ 4) (l : List Nat) : Odd 0 2 50 (classD rs l) := by
  have rn : ∀ s, s < rs.length → (run rs [s] l).length ≤ 4 := fun s hs => Nat.le_trans (nodup_lt_len ((run_sorted l).imp fun h => by omega) (run_lt tl (by simpa using hs))) n4
  have each : ∀ s, s < rs.length → Odd 0 1 4 (.tup (natsD (run rs [s] l))) := fun s hs => by
    refine oddP_tup (n := 0) (fun x hx => ?_) ?_
    · obtain ⟨k, hk, rfl⟩ := List.mem_map.mp hx
      have := run_lt tl (by simpa using hs) k hk
      exact (oddP_int (m := 0) (n := 0) (w := 0) (by have : (4 : Nat) ≤ 10 ^ 39 := by decide
                                                     omega)).one
    · have := bks_le (w := 0) (xs := natsD (run rs [s] l)) fun x hx => by obtain ⟨k, hk, rfl⟩ := List.mem_map.mp hx; exact Nat.le_refl _
      have e : (natsD (run rs [s] l)).length = (run rs [s] l).length := by simp [natsD]
      have := rn s hs
      omega
  refine oddP_tup (n := 1) (fun x hx => ?_) ?_
  · obtain ⟨ss, hss, rfl⟩ := List.mem_map.mp hx
    obtain ⟨s, hs, rfl⟩ := List.mem_map.mp hss
    exact (each s (List.mem_range.mp hs)).one
  · have := bks_le (w := 4) (xs := (classOf rs l).map fun ss => D.tup (natsD ss)) fun x hx => by
      obtain ⟨ss, hss, rfl⟩ := List.mem_map.mp hx
      obtain ⟨s, hs, rfl⟩ := List.mem_map.mp hss
      exact (each s (List.mem_range.mp hs)).bk
    have e : ((classOf rs l).map fun ss => D.tup (natsD ss)).length = rs.length := by simp [classOf]
    omega
theorem abc_lt : ∀ c ∈ abc, c < 128 := by decide +kernel
theorem has_same {hs : List Nat} {rs : List (List Mv)} {T U : List (List Nat)} (oT : ∀ t ∈ T, Ov hs t) (oU : ∀ t ∈ U, Ov hs t) (hT : ∀ u, Ov hs u → (Has rs T u ↔ LongC hs rs u)) (hU : ∀ u, Ov hs u → (Has rs U u ↔ LongC hs rs u)) : ∀ u, Has rs T u ↔ Has rs U u := by
  have one : ∀ {A B : List (List Nat)}, (∀ t ∈ A, Ov hs t) → (∀ u, Ov hs u → (Has rs A u ↔ LongC hs rs u)) → (∀ u, Ov hs u → (Has rs B u ↔ LongC hs rs u)) → ∀ u, Has rs A u → Has rs B u := fun {A B} oA hA hB u h => by
    obtain ⟨t, ht, e⟩ := h
    obtain ⟨t2, h2, e2⟩ := (hB t (oA t ht)).mpr ((hA t (oA t ht)).mp ⟨t, ht, rfl⟩)
    exact ⟨t2, h2, e.trans e2⟩
  exact fun u => ⟨one oT hT hU u, one oU hU hT u⟩
theorem letters_26n21 {cs : List Nat} (h : lettersB cs = true) : cs.length ≤ 26 := by
  have lt := letters_lt h
  have nd : cs.Nodup := lt.imp fun {a b} hab e => by omega
  have sub : ∀ c ∈ cs, c ∈ abc := by
    unfold lettersB at h
    simp only [Bool.and_eq_true, List.all_eq_true, decide_eq_true_eq] at h
    exact h.1.2
  have := nd.length_le_of_subset sub
  have e : abc.length = 26 := by decide +kernel
  omega
theorem cls_inn {rs : List (List Mv)} {T : List (List Nat)} {u : List Nat} (h : Has rs T u) : D.inn (classD rs u) (.tup (sortD (T.map (classD rs)))) = some true := by
  have mem : ∀ x ∈ sortD (T.map (classD rs)), ∃ l, x = classD rs l := fun x hx => by
    have hx := (List.mergeSort_perm _ _).mem_iff.mp hx
    obtain ⟨t, _, rfl⟩ := List.mem_map.mp hx
    exact ⟨t, rfl⟩
  have ok : okI (classD rs u) (sortD (T.map (classD rs))) = true := by
    unfold okI
    simp only [Bool.and_eq_true, decide_eq_true_eq]
    refine ⟨⟨pls_cls (classOf rs u), ?_⟩, ?_⟩
    · rw [D.pls_all, List.all_eq_true]
      intro x hx
      obtain ⟨l, rfl⟩ := mem x hx
      exact pls_cls (classOf rs l)
    · rw [classD_py]
      have := depth_cls (classOf rs u)
      simp only [PyData.depth]
      omega
  have yes : (classD rs u).isIn (sortD (T.map (classD rs))) = true := by
    refine (isIn_si (classD_si rs u) (sis_all.mpr fun x hx => by obtain ⟨l, rfl⟩ := mem x hx; exact classD_si rs l)).mpr ?_
    obtain ⟨t, ht, e⟩ := h
    refine (List.mergeSort_perm _ _).mem_iff.mpr (List.mem_map.mpr ⟨t, ht, ?_⟩)
    unfold classD
    rw [e]
  show (if okI (classD rs u) (sortD (T.map (classD rs))) = true then some ((classD rs u).isIn (sortD (T.map (classD rs)))) else none) = some true
  rw [if_pos ok, yes]
abbrev N_law : List Str := ["_law_script", "_law_deck_here", "_law_w", "_law_known_here", "_law_rules_now", "_law_due", "_law_told", "_law_page", "_law_k", "_law_first", "_law_s"]
theorem sc_law : FnScope N_law ["_law_script"] (defScope s_law) := ⟨rfl, rfl, rfl, by decide +kernel, rfl, by decide +kernel, by decide +kernel⟩
theorem c_law {f0 : Addr} {fd0 : FuncData} (T : Txt K mg C) (d : Fun K "law" "law" s_law f0 fd0) (C__law_deck : Cal P w K mg base "_law_deck" 1 ["_law_script"] (spDeck)) (C__law_some : Cal P w K mg base "_law_some" 5 ["_law_deck_here", "_law_top"] (spSome21)) (C__law_made : Cal P w K mg base "_law_made" 6 ["_law_w"] (spMade C)) (C__law_classes : Cal P w K mg base "_law_classes" 5 ["_law_w", "_law_top"] (spClasses21 w)) (C__law_long : Cal P w K mg base "_law_long" 6 ["_law_w", "_law_known_here"] (spLong21 w)) (K_long_classes : CalK P w K mg base "long_classes" 7 ["rules"] (spLongC C w) 0 ["rules"] [0]) (C_long_classes : Cal P w K mg base "long_classes" 7 ["rules"] (spLongC C w)) (C__law_pick : Cal P w K mg base "_law_pick" 2 ["_law_deck_here", "_law_some_here"] (spPick)) (C__law_draw : Cal P w K mg base "_law_draw" 1 ["_law_deck_here", "_law_many"] (spDraw)) (C_class_of : Cal P w K mg base "class_of" 4 ["rules", "text"] (spClass C)) : FnG P w K mg base CX0 8 f0 fd0 ["_law_script"] (SpOf K (spLaw 63)) := by
  refine fn_mk (N := N_law) d sc_law (fun ds G Q h => ?_) (fun cdv A outer s H E hg hr => ?_)
  · obtain ⟨ns, rfl, _⟩ := h
    rfl
  · have hu := hu100 hr
    have nd := sc_law.nd
    have hA := deeper_guards (env := envOfC "law" (defScope s_law) s.heap.objs.size f0 cdv) hg
    refine ⟨_, (dps_cons (dp_asg (de_cal C__law_deck hA (hr.mono (by decide)) (da_cons (de_var 0) da_nil)) (dg_name 1 nd))
  (dps_cons (dp_asg (de_cal C__law_some hA (hr.mono (by decide)) (da_cons (de_var 1) (da_cons de_int da_nil))) (dg_name 2 nd))
  (dps_cons (dp_par (i := 3) (j := 4) rfl nd (ha := (da_cons (de_cal C__law_classes hA (hr.mono (by decide)) (da_cons (de_var 2) (da_cons de_int da_nil))) (da_cons (de_cal C__law_made hA (hr.mono (by decide)) (da_cons (de_var 2) da_nil)) da_nil))))
  (dps_cons (dp_if (dt_cmp od_isN (de_var 3) de_non (nomark _))
  (dps_one (dp_ret de_bl))
  dps_nil)
  (dps_cons (dp_par (i := 5) (j := 6) rfl nd (ha := (da_cons (de_cal C__law_long hA (hr.mono (by decide)) (da_cons (de_var 2) (da_cons (de_var 3) da_nil))) (da_cons (de_cal C_long_classes hA (hr.mono (by decide)) (da_cons (de_var 4) da_nil)) da_nil))))
  (dps_cons (dp_if (dt_cmp (od_ne hu) (de_callB (cd_reprG hu hA T.sysM) rfl T.f_repr (by decide +kernel) (da_cons (de_lst (da_cons (de_var 6) (da_cons (de_calK0 K_long_classes hA (hr.mono (by decide)) (dk_cons (de_var 4) dk_nil)) da_nil))) da_nil)) (de_callB (cd_reprG hu hA T.sysM) rfl T.f_repr (by decide +kernel) (da_cons (de_op od_mulL (de_lst (da_cons (de_callTy cd_tuple rfl T.f_tuple (by decide +kernel) (da_cons (de_var 5) da_nil)) da_nil)) de_int) da_nil)) (nomark _))
  (dps_one (dp_ret de_bl))
  dps_nil)
  (dps_cons (dp_asg (de_bm PySem.F.plainAttrs_str PySem.F.slot_str_join PySem.F.type_str_join md_join de_str (da_cons (de_lc (own := [("_law_k", 8)]) (p := (.nm 8)) rfl nd (di_range1 rfl T.f_range (da_cons (de_op od_add (de_callB cd_lenN rfl T.f_len (by decide +kernel) (da_cons (de_var 3) da_nil)) (de_cal C__law_draw hA (hr.mono (by decide)) (da_cons (de_var 1) (da_cons de_int da_nil)))) da_nil)) (blkOk_by (by show blkC N_law (defScope s_law) _ _ = true; decide +kernel)) (by decide) (fun _ _ _ _ _ => pg_name (i := 8) nd rfl (Or.inl rfl)) (fun _ _ _ _ _ => dts_nil) (fun _ _ _ _ _ => (de_cal C__law_pick hA (hr.mono (by decide)) (da_cons (de_var 1) (da_cons (de_ix hu (de_var 2) de_str) da_nil))))) da_nil)) (dg_name 7 nd))
  (dps_cons (dp_if (DW.dt (dw_and (dt_cmp (od_lt hu) (de_callB cd_len rfl T.f_len (by decide +kernel) (da_cons (de_var 7) da_nil)) de_int (nomark _)) (dw_and1 (dt_cmp (od_notIn hu) (de_cal C_class_of hA (hr.mono (by decide)) (da_cons (de_var 4) (da_cons (de_var 7) da_nil))) (de_var 6) (by rfl)))))
  (dps_one (dp_ret de_bl))
  dps_nil)
  (dps_cons (dp_asg (de_callTy cd_tuple rfl T.f_tuple (by decide +kernel) (da_cons (de_lc (own := [("_law_s", 10)]) (p := (.nm 10)) rfl nd (di_range1 rfl T.f_range (da_cons (de_callB cd_len rfl T.f_len (by decide +kernel) (da_cons (de_ix hu (de_var 2) de_str) da_nil)) da_nil)) (blkOk_by (by show blkC N_law (defScope s_law) _ _ = true; decide +kernel)) (by decide) (fun _ _ _ _ _ => pg_name (i := 10) nd rfl (Or.inl rfl)) (fun _ _ _ _ _ => dts_nil) (fun _ _ _ _ _ => (de_tup (da_cons (de_var 10) da_nil)))) da_nil)) (dg_name 9 nd))
  (dps_one (dp_ret (de_cmp (od_eq hu) (de_cal C_class_of hA (hr.mono (by decide)) (da_cons (de_var 4) (da_cons de_str da_nil))) (de_var 9) (nomark _))))))))))))), fun ds G Q h => ?_⟩
    obtain ⟨ns, rfl, hl, rfl, q⟩ := h
    rw [show dstart N_law [.scr ns] = [some (.scr ns), none, none, none, none, none, none, none, none, none, none] from rfl]
    simp only [dxs, dl]
    refine ⟨ns, rfl, (fun _ _ _ _ _ z => by cases z), fun p c hp hc hcp => ?_⟩
    have gp0 : shutG (fun _ => none) p c "left" "blend" "lap" 1000000 p = some (dk 1000000) := gput_same
    generalize shutG (fun _ => none) p c "left" "blend" "lap" 1000000 = G0 at gp0
    refine ⟨p, 998990, rfl, gp0, fun hs ws rs m1 hm1 so => ?_⟩
    have n4 := so.n
    have n1 := so.val.n1
    have h2 := so.val.sh
    have tl : ∀ r ∈ rs, ∀ m ∈ r, m.t < rs.length := fun r hr m hm => (so.val.ok.at_ r hr).2 m hm
    have h1 : 1 ≤ hs.length := by
      have := so.val.lh
      cases hs with
      | nil => simp [lettersB] at this
      | cons a l => simp
    have gp1 : gput G0 p (dk m1) p = some (dk m1) := gput_same
    generalize gput G0 p (dk m1) = G1 at gp1
    have h26 := letters_26n21 so.val.lh
    have rt : ∀ {G : GH}, (fin Q).rt (.bl true) G := fun {G} => ⟨_, Sub.refl _, q _⟩
    have made : ∀ {G : GH} {Q : DQ}, Q (rulD C (mkR hs ws rs)) G → spMade C [wD hs ws rs] G Q := fun {G Q} z => ⟨hs, ws, rs, rfl, so.val, z⟩
    refine ⟨hs, ws, rs, rfl, so.few, so.val.ok.at_, by omega, by omega, made ?_, fun k W hk nd ov w0 cl w40 => made ?_⟩
    · exact rt
    refine iteInduction (motive := fun x => x) (fun z => by cases z) fun _ => ?_
    have gk0 : gput G1 k (.dN w (ckD rs (W.map fun l => (l, D.str (strOf l))))) k = some (.dN w (ckD rs (W.map fun l => (l, D.str (strOf l))))) := gput_same
    have pk : p ≠ k := fun e => by rw [← e, gp1] at hk; cases hk
    have gp2 : gput G1 k (.dN w (ckD rs (W.map fun l => (l, D.str (strOf l))))) p = some (dk m1) := by rw [gput_ne pk]; exact gp1
    generalize gput G1 k (.dN w (ckD rs (W.map fun l => (l, D.str (strOf l))))) = G2 at gk0 gp2
    have hasE : Has rs W [] := ⟨[], List.mem_of_getElem? w0, rfl⟩
    have all := fun u hu => by
      have := has_all (hs := hs) cl hasE u hu
      rwa [List.nil_append] at this
    have few : FewC hs rs 40 := ⟨W, w40, all⟩
    refine ⟨hs, ws, rs, k, W, rfl, gk0, so.few, so.val.ok.at_, by omega, by omega, by omega, nd, ov, cl, hasE, w40, fun T G3 sb ndT ovT lcT => ?_⟩
    have gk3 := sb.le k _ gk0
    have gp3 := sb.le p _ gp2
    have lT : T.length ≤ 40 := few.le ndT ovT
    have rp2 : ∀ (G : GH) (Q : DQ), Q (.str (D.pyR (.lst [.tup (sortD (T.map (classD rs))), .tup (sortD (T.map (classD rs)))])).shown) G → rReprG [.lst [.tup (sortD (T.map (classD rs))), .tup (sortD (T.map (classD rs)))]] G Q := fun G Q z => by
      have o : Odd 0 3 2040 (.tup (sortD (T.map (classD rs)))) := by
        have hm : ∀ x ∈ sortD (T.map (classD rs)), Odd 0 2 50 x := fun x hx => by
          have hx := (List.mergeSort_perm _ _).mem_iff.mp hx
          obtain ⟨t, _, rfl⟩ := List.mem_map.mp hx
          exact class_odd tl n4 t
        refine oddP_tup (n := 2) (fun x hx => (hm x hx).one) ?_
        have h1 := bks_le (w := 50) fun x hx => (hm x hx).bk
        have h2 : (sortD (T.map (classD rs))).length = T.length := by
          rw [show (sortD (T.map (classD rs))).length = _ from (List.mergeSort_perm _ _).length_eq, List.length_map]
        rw [h2] at h1
        omega
      have := o.bk
      refine Odd.repr (m := 0) (n := 4) (w := 4082) (oddP_lst (n := 3) (fun x hx => ?_) ?_) (by decide) (by decide) (by decide) z
      · simp only [List.mem_cons, List.not_mem_nil, or_false] at hx
        rcases hx with rfl | rfl
        · exact o.one
        · exact o.one
      · rw [bks_cons, bks_cons, bks_nil]
        omega
    have lc2 : ∀ {G : GH} {Q : DQ}, Q (.tup (sortD (T.map (classD rs)))) G → spLongC C w [rulD C (mkR hs ws rs)] G Q := fun {G Q} z => ⟨hs, ws, rs, rfl, so.val, so.mute, by omega, by omega, few, fun U ndU ovU lcU => by
      rw [sort_cls (T := U) (U := T) (by omega) ndU ndT (has_same ovU ovT lcU lcT)]
      exact z⟩
    refine lc2 ?_
    simp only [dxs, dl, dx2]
    refine ⟨⟨trivial, trivial⟩, lc2 ⟨sz (by decide), rp2 _ _ ?_⟩⟩
    have rTu : ∀ {xs : List D} {Q : DQ} {G : GH}, Q (.tup xs) G → rTupleD [.lst xs] G Q := fun {xs Q G} z => z
    refine rTu ⟨sz (by decide), (by decide : (0 : Int) ≤ 2), (by decide : (2 : Int) < 1000), (by show 1 ≤ 1000; decide), ?_⟩
    show rReprG [.lst [.tup (sortD (T.map (classD rs))), .tup (sortD (T.map (classD rs)))]] _ _
    refine rp2 _ _ ⟨okE_str _ _, ?_⟩
    rw [if_neg (by simp [D.cur, eqv_str])]
    simp only [rLenN, gk3, cx_w3]
    refine ⟨rfl, trivial, p, 3, m1 - 1, rfl, by decide, by decide, by rw [gp3]; congr 2; omega, fun r hr => ?_⟩
    simp only [dxs, dl, rAddD, ck_len, List.length_map]
    have gp4 : gput G3 p (dk (m1 - 1)) p = some (dk (m1 - 1)) := gput_same
    generalize gput G3 p (dk (m1 - 1)) = G4 at gp4
    have eN : ((W.length : Int) + (r : Int)).toNat = W.length + r := by omega
    have hs128 : ∀ c ∈ hs, c < 128 := fun c hc => by
      have := so.val.lh
      unfold lettersB at this
      simp only [Bool.and_eq_true, List.all_eq_true, decide_eq_true_eq] at this
      exact abc_lt c (this.1.2 c hc)
    rw [eN]
    refine ⟨by omega, by omega, ?_⟩
    refine ⟨sz (by simp; omega), fun i acc G' => ∃ cs : List Nat, acc = cs.map (fun c => .str (sgn c)) ∧ cs.length = i ∧ i ≤ W.length + r ∧ G' = gput G4 p (dk (m1 - 1 - i)) ∧ ∀ c ∈ cs, c ∈ hs, ⟨[], rfl, rfl, Nat.zero_le _, (by rw [Nat.sub_zero, gput_self gp4]), by simp⟩, fun _ _ _ _ => trivial, ?_, ?_⟩
    · rintro i acc G' d ⟨cs, rfl, hl, hi, rfl, hcs⟩ hd
      have hi2 : i < W.length + r := by
        have := (List.getElem?_eq_some_iff.mp hd).1
        simpa using this
      refine ⟨_, rfl, ?_⟩
      simp only [dxs, dl, dwipe, List.map_cons, List.map_nil, wD_cur, wD_heard, if_true]
      refine ⟨p, m1 - 1 - (i + 1), _, _, rfl, .inr ⟨hs, rfl, rfl⟩, by simpa using h1, by simpa using h2, ?_, fun x hx => ?_⟩
      · rw [gput_same]
        congr 2
        omega
      · obtain ⟨c, hc, rfl⟩ := List.mem_map.mp hx
        refine ⟨cs ++ [c], by simp, by simp [hl], hi2, by rw [gput_gput], fun y hy => ?_⟩
        rcases List.mem_append.mp hy with hy | hy
        · exact hcs y hy
        · rw [List.mem_singleton.mp hy]; exact hc
    · rintro acc G' ⟨cs, rfl, hl, hi, rfl, hcs⟩
      have hl2 : cs.length = W.length + r := by rw [hl]; simp
      have h0 : (Str.ofString "").length = 0 := by rw [str_nil]; rfl
      have hasT : Has rs T cs := (lcT cs hcs).mpr (long_text (n := W.length) ⟨W, Nat.le_refl _, all⟩ hcs (by omega))
      have clR : ∀ (G : GH) (Q : DQ) (l : List Nat), Q (classD rs l) G → spClass C [rulD C (mkR hs ws rs), .str (strOf l)] G Q := fun G Q l z => ⟨mkR hs ws rs, hs, l, rfl, so.val.ok, rfl, n1, by show rs.length ≤ 10; omega, so.mute, z⟩
      have ecl : ∀ (G : GH) (l : List Nat), D.cur G (classD rs l) = classD rs l := fun _ _ => rfl
      have e0 : D.tup ((List.range rs.length).map fun (i : Nat) => D.tup [.int (i : Int)]) = classD rs [] := by
        unfold classD classOf
        rw [List.map_map]
        rfl
      simp only [rJoinD, dxs, dl, texts_sgn, join_sgn, sgn_sum]
      refine ⟨by rw [h0]; simp; omega, ?_⟩
      generalize gput G4 p (dk (m1 - 1 - (List.map (fun (i : Nat) => D.int (i : Int)) (List.range (W.length + r))).length)) = G5
      have rLn : ∀ {x : Str} {Q : DQ} {G : GH}, x.length ≤ 5000 → Q (.int (x.length : Nat)) G → rLenD [.str x] G Q := fun {x Q G} hz z => by
        have e : D.len (D.str x) = some x.length := by
          show (if x.length ≤ sizeLine then some x.length else none) = _
          rw [if_pos (sz hz)]
        unfold rLenD
        show (match D.len (D.str x) with | some n => Q (.int (n : Nat)) G | none => False)
        rw [e]
        exact z
      refine rLn (by rw [strOf_len]; omega) ⟨okL_int _ _, ?_⟩
      split
      · refine clR _ _ _ ?_
        rw [cls_inn hasT]
        simp only [dxs, dl, wD_cur, wD_rows, rows_len_]
        refine ⟨by omega, by omega, ?_⟩
        refine lc_mapA (List.range rs.length) (fun (i : Nat) => D.int (i : Int)) (fun (i : Nat) => D.tup [.int (i : Int)]) (by rw [Int.toNat_natCast]) (sz (by simp; omega)) trivial (fun i _ => ⟨_, rfl, fun Q zz => ?_⟩) ?_
        · simp only [dxs, dl, dwipe, List.map_cons, List.map_nil]
          exact ⟨sz (by decide), zz⟩
        refine rTu ?_
        rw [e0, str_nil]
        refine clR _ _ _ ⟨okE_si (classD_si _ _) (classD_si _ _) (classD_dp _ _), ?_⟩
        rw [ecl, classD_eqv, decide_eq_true rfl]
        exact rt
      · refine iteInduction (motive := fun x => x) (fun z => by cases z) fun _ => ?_
        simp only [dxs, dl, wD_cur, wD_rows, rows_len_]
        refine ⟨by omega, by omega, ?_⟩
        refine lc_mapA (List.range rs.length) (fun (i : Nat) => D.int (i : Int)) (fun (i : Nat) => D.tup [.int (i : Int)]) (by rw [Int.toNat_natCast]) (sz (by simp; omega)) trivial (fun i _ => ⟨_, rfl, fun Q zz => ?_⟩) ?_
        · simp only [dxs, dl, dwipe, List.map_cons, List.map_nil]
          exact ⟨sz (by decide), zz⟩
        refine rTu ?_
        rw [e0, str_nil]
        refine clR _ _ _ ⟨okE_si (classD_si _ _) (classD_si _ _) (classD_dp _ _), ?_⟩
        rw [ecl, classD_eqv, decide_eq_true rfl]
        exact rt
end
end Pace
end
section
set_option Elab.async false
set_option linter.all false
set_option maxRecDepth 100000
set_option maxHeartbeats 0
namespace Pace
open PySem PySem.Spec PyProof.Rows L2 DL
theorem htxt {K : PySem.W.Frag} {h : Heap} {mg : Str → Option Value} (X : K.In h) (G : h.Ns mainGlobals mg) (c : He.SaysD hfa hfn K) (cx : hex0 K = true) (ck : hkup K = true) : Txt K mg (He.ga K "Rules") where
  f_Exception := He.free_ok X G (c.fact 44 (f := .free "Exception") rfl)
  f_classmethod := He.free_ok X G (c.fact 45 (f := .free "classmethod") rfl)
  f_tuple := He.free_ok X G (c.fact 46 (f := .free "tuple") rfl)
  f_all := He.free_ok X G (c.fact 47 (f := .free "all") rfl)
  f_enumerate := He.free_ok X G (c.fact 48 (f := .free "enumerate") rfl)
  f_dict := He.free_ok X G (c.fact 49 (f := .free "dict") rfl)
  f_range := He.free_ok X G (c.fact 50 (f := .free "range") rfl)
  f_sorted := He.free_ok X G (c.fact 51 (f := .free "sorted") rfl)
  f_len := He.free_ok X G (c.fact 52 (f := .free "len") rfl)
  f_isinstance := He.free_ok X G (c.fact 53 (f := .free "isinstance") rfl)
  f_str := He.free_ok X G (c.fact 54 (f := .free "str") rfl)
  f_int := He.free_ok X G (c.fact 55 (f := .free "int") rfl)
  f_list := He.free_ok X G (c.fact 56 (f := .free "list") rfl)
  f_repr := He.free_ok X G (c.fact 57 (f := .free "repr") rfl)
  f_bool := He.free_ok X G (c.fact 58 (f := .free "bool") rfl)
  f_set := He.free_ok X G (c.fact 59 (f := .free "set") rfl)
  f_super := He.free_ok X G (c.fact 60 (f := .free "super") rfl)
  f_zip := He.free_ok X G (c.fact 61 (f := .free "zip") rfl)
  c_RULES_WORD := He.str_ok X G (c.fact 62 (f := .str "RULES_WORD" "rules") rfl)
  c_MOVE_WORD := He.str_ok X G (c.fact 63 (f := .str "MOVE_WORD" "move") rfl)
  c_BREAK := He.str_ok X G (c.fact 64 (f := .str "BREAK" "\n") rfl)
  c_BLANK := He.str_ok X G (c.fact 65 (f := .str "BLANK" " ") rfl)
  c_DIGITS := He.str_ok X G (c.fact 66 (f := .str "DIGITS" "0123456789") rfl)
  c_MOST_DIGITS := He.int_ok X G (c.fact 67 (f := .int "MOST_DIGITS" (3)) rfl)
  c_FIRST_PARTS := He.int_ok X G (c.fact 68 (f := .int "FIRST_PARTS" (4)) rfl)
  c_MOVE_PARTS_ruletexts := He.int_ok X G (c.fact 69 (f := .int "MOVE_PARTS_ruletexts" (5)) rfl)
  c_LETTERS := He.str_ok X G (c.fact 70 (f := .str "LETTERS" "abcdefghijklmnopqrstuvwxyz") rfl)
  c_MOST_STATES := He.int_ok X G (c.fact 71 (f := .int "MOST_STATES" (999)) rfl)
  c_MOVE_PARTS_rules := He.int_ok X G (c.fact 72 (f := .int "MOVE_PARTS_rules" (3)) rfl)
  c_NOWHERE := He.int_ok X G (c.fact 73 (f := .int "NOWHERE" (-1)) rfl)
  clR := He.cls_ok (c.fact 75 (f := .cls "Rules") rfl)
  mgR := He.glo_ok X G (c.fact 74 (f := .glo "Rules") rfl)
  insR := insB_ok (He.cls_ok (c.fact 75 (f := .cls "Rules") rfl)) (Bool.and_eq_true_iff.mp (Bool.and_eq_true_iff.mp cx).1).1
  neR := neB_ok (Bool.and_eq_true_iff.mp (Bool.and_eq_true_iff.mp cx).1).2
  sysM := sysB_ok (Bool.and_eq_true_iff.mp cx).2
  no_heard := He.noat_ok (c.fact 77 (f := .noat "Rules" "heard") rfl)
  no_written := He.noat_ok (c.fact 78 (f := .noat "Rules" "written") rfl)
  no_rows := He.noat_ok (c.fact 79 (f := .noat "Rules" "rows") rfl)
  no_steps := He.noat_ok (c.fact 80 (f := .noat "Rules" "steps") rfl)
  cl_Classes := He.cls_ok (c.fact 86 (f := .cls "Classes") rfl)
  mg_Classes := He.glo_ok X G (c.fact 85 (f := .glo "Classes") rfl)
  no_Classes_letter_classes := He.noat_ok (c.fact 88 (f := .noat "Classes" "letter_classes") rfl)
  no_Classes_texts := He.noat_ok (c.fact 89 (f := .noat "Classes" "texts") rfl)
  no_Classes_order := He.noat_ok (c.fact 90 (f := .noat "Classes" "order") rfl)
  no_Classes_pumps := He.noat_ok (c.fact 91 (f := .noat "Classes" "pumps") rfl)
theorem hd_states_behind {K : PySem.W.Frag} {h : Heap} {mg : Str → Option Value} (X : K.In h) (G : h.Ns mainGlobals mg) (c : He.SaysD hfa hfn K) : Def K mg "states_behind" s_states_behind := by
  obtain ⟨fd, F⟩ := c.def_ 1 (d := d_states_behind) rfl
  exact ⟨_, fd, He5.fun_of F, He.glo_ok X G (c.fact 1 (f := .glo "states_behind") rfl)⟩
theorem hd_reached {K : PySem.W.Frag} {h : Heap} {mg : Str → Option Value} (X : K.In h) (G : h.Ns mainGlobals mg) (c : He.SaysD hfa hfn K) : Def K mg "reached" s_reached := by
  obtain ⟨fd, F⟩ := c.def_ 2 (d := d_reached) rfl
  exact ⟨_, fd, He5.fun_of F, He.glo_ok X G (c.fact 2 (f := .glo "reached") rfl)⟩
theorem hd_mute {K : PySem.W.Frag} {h : Heap} {mg : Str → Option Value} (X : K.In h) (G : h.Ns mainGlobals mg) (c : He.SaysD hfa hfn K) : Def K mg "mute" s_mute := by
  obtain ⟨fd, F⟩ := c.def_ 3 (d := d_mute) rfl
  exact ⟨_, fd, He5.fun_of F, He.glo_ok X G (c.fact 3 (f := .glo "mute") rfl)⟩
theorem hd_check_full {K : PySem.W.Frag} {h : Heap} {mg : Str → Option Value} (X : K.In h) (G : h.Ns mainGlobals mg) (c : He.SaysD hfa hfn K) : Def K mg "check_full" s_check_full := by
  obtain ⟨fd, F⟩ := c.def_ 4 (d := d_check_full) rfl
  exact ⟨_, fd, He5.fun_of F, He.glo_ok X G (c.fact 4 (f := .glo "check_full") rfl)⟩
theorem hd_is_integer {K : PySem.W.Frag} {h : Heap} {mg : Str → Option Value} (X : K.In h) (G : h.Ns mainGlobals mg) (c : He.SaysD hfa hfn K) : Def K mg "is_integer" s_is_integer := by
  obtain ⟨fd, F⟩ := c.def_ 15 (d := d_is_integer) rfl
  exact ⟨_, fd, He5.fun_of F, He.glo_ok X G (c.fact 15 (f := .glo "is_integer") rfl)⟩
theorem hd_is_letter_of {K : PySem.W.Frag} {h : Heap} {mg : Str → Option Value} (X : K.In h) (G : h.Ns mainGlobals mg) (c : He.SaysD hfa hfn K) : Def K mg "is_letter_of" s_is_letter_of := by
  obtain ⟨fd, F⟩ := c.def_ 16 (d := d_is_letter_of) rfl
  exact ⟨_, fd, He5.fun_of F, He.glo_ok X G (c.fact 16 (f := .glo "is_letter_of") rfl)⟩
theorem hd_are_letters {K : PySem.W.Frag} {h : Heap} {mg : Str → Option Value} (X : K.In h) (G : h.Ns mainGlobals mg) (c : He.SaysD hfa hfn K) : Def K mg "are_letters" s_are_letters := by
  obtain ⟨fd, F⟩ := c.def_ 9 (d := d_are_letters) rfl
  exact ⟨_, fd, He5.fun_of F, He.glo_ok X G (c.fact 9 (f := .glo "are_letters") rfl)⟩
theorem hd_is_move {K : PySem.W.Frag} {h : Heap} {mg : Str → Option Value} (X : K.In h) (G : h.Ns mainGlobals mg) (c : He.SaysD hfa hfn K) : Def K mg "is_move" s_is_move := by
  obtain ⟨fd, F⟩ := c.def_ 17 (d := d_is_move) rfl
  exact ⟨_, fd, He5.fun_of F, He.glo_ok X G (c.fact 17 (f := .glo "is_move") rfl)⟩
theorem hd_is_row {K : PySem.W.Frag} {h : Heap} {mg : Str → Option Value} (X : K.In h) (G : h.Ns mainGlobals mg) (c : He.SaysD hfa hfn K) : Def K mg "is_row" s_is_row := by
  obtain ⟨fd, F⟩ := c.def_ 18 (d := d_is_row) rfl
  exact ⟨_, fd, He5.fun_of F, He.glo_ok X G (c.fact 18 (f := .glo "is_row") rfl)⟩
theorem hd_steps_of {K : PySem.W.Frag} {h : Heap} {mg : Str → Option Value} (X : K.In h) (G : h.Ns mainGlobals mg) (c : He.SaysD hfa hfn K) : Def K mg "steps_of" s_steps_of := by
  obtain ⟨fd, F⟩ := c.def_ 19 (d := d_steps_of) rfl
  exact ⟨_, fd, He5.fun_of F, He.glo_ok X G (c.fact 19 (f := .glo "steps_of") rfl)⟩
theorem hd_Rules_u__init_u_ {K : PySem.W.Frag} (c : He.SaysD hfa hfn K) : DefI K (He.ga K "Rules") "Rules.__init__" s_Rules_u__init_u_ := by
  obtain ⟨fd, F⟩ := c.def_ 44 (d := d_RI) rfl
  exact ⟨_, fd, He5.fun_of F, He.mkr_ok (c.fact 76 (f := .mkr "Rules") rfl)⟩
theorem hd__law_moves {K : PySem.W.Frag} {h : Heap} {mg : Str → Option Value} (X : K.In h) (G : h.Ns mainGlobals mg) (c : He.SaysD hfa hfn K) : Def K mg "_law_moves" s__law_moves := by
  obtain ⟨fd, F⟩ := c.def_ 30 (d := d__law_moves) rfl
  exact ⟨_, fd, He5.fun_of F, He.glo_ok X G (c.fact 30 (f := .glo "_law_moves") rfl)⟩
theorem hd__law_on {K : PySem.W.Frag} {h : Heap} {mg : Str → Option Value} (X : K.In h) (G : h.Ns mainGlobals mg) (c : He.SaysD hfa hfn K) : Def K mg "_law_on" s__law_on := by
  obtain ⟨fd, F⟩ := c.def_ 31 (d := d__law_on) rfl
  exact ⟨_, fd, He5.fun_of F, He.glo_ok X G (c.fact 31 (f := .glo "_law_on") rfl)⟩
theorem hd__law_mute {K : PySem.W.Frag} {h : Heap} {mg : Str → Option Value} (X : K.In h) (G : h.Ns mainGlobals mg) (c : He.SaysD hfa hfn K) : Def K mg "_law_mute" s__law_mute := by
  obtain ⟨fd, F⟩ := c.def_ 32 (d := d__law_mute) rfl
  exact ⟨_, fd, He5.fun_of F, He.glo_ok X G (c.fact 32 (f := .glo "_law_mute") rfl)⟩
theorem hd__law_set {K : PySem.W.Frag} {h : Heap} {mg : Str → Option Value} (X : K.In h) (G : h.Ns mainGlobals mg) (c : He.SaysD hfa hfn K) : Def K mg "_law_set" s__law_set := by
  obtain ⟨fd, F⟩ := c.def_ 33 (d := d__law_set) rfl
  exact ⟨_, fd, He5.fun_of F, He.glo_ok X G (c.fact 33 (f := .glo "_law_set") rfl)⟩
theorem hd__law_draw {K : PySem.W.Frag} {h : Heap} {mg : Str → Option Value} (X : K.In h) (G : h.Ns mainGlobals mg) (c : He.SaysD hfa hfn K) : Def K mg "_law_draw" s__law_draw := by
  obtain ⟨fd, F⟩ := c.def_ 28 (d := d__law_draw) rfl
  exact ⟨_, fd, He5.fun_of F, He.glo_ok X G (c.fact 28 (f := .glo "_law_draw") rfl)⟩
theorem hd__law_pick {K : PySem.W.Frag} {h : Heap} {mg : Str → Option Value} (X : K.In h) (G : h.Ns mainGlobals mg) (c : He.SaysD hfa hfn K) : Def K mg "_law_pick" s__law_pick := by
  obtain ⟨fd, F⟩ := c.def_ 29 (d := d__law_pick) rfl
  exact ⟨_, fd, He5.fun_of F, He.glo_ok X G (c.fact 29 (f := .glo "_law_pick") rfl)⟩
theorem hd__law_deck {K : PySem.W.Frag} {h : Heap} {mg : Str → Option Value} (X : K.In h) (G : h.Ns mainGlobals mg) (c : He.SaysD hfa hfn K) : Def K mg "_law_deck" s__law_deck := by
  obtain ⟨fd, F⟩ := c.def_ 27 (d := d__law_deck) rfl
  exact ⟨_, fd, He5.fun_of F, He.glo_ok X G (c.fact 27 (f := .glo "_law_deck") rfl)⟩
theorem hd__law_known {K : PySem.W.Frag} {h : Heap} {mg : Str → Option Value} (X : K.In h) (G : h.Ns mainGlobals mg) (c : He.SaysD hfa hfn K) : Def K mg "_law_known" s__law_known := by
  obtain ⟨fd, F⟩ := c.def_ 36 (d := d__law_known) rfl
  exact ⟨_, fd, He5.fun_of F, He.glo_ok X G (c.fact 36 (f := .glo "_law_known") rfl)⟩
theorem hd__law_drawn {K : PySem.W.Frag} {h : Heap} {mg : Str → Option Value} (X : K.In h) (G : h.Ns mainGlobals mg) (c : He.SaysD hfa hfn K) : Def K mg "_law_drawn" s__law_drawn := by
  obtain ⟨fd, F⟩ := c.def_ 34 (d := d__law_drawn) rfl
  exact ⟨_, fd, He5.fun_of F, He.glo_ok X G (c.fact 34 (f := .glo "_law_drawn") rfl)⟩
theorem hd__law_some {K : PySem.W.Frag} {h : Heap} {mg : Str → Option Value} (X : K.In h) (G : h.Ns mainGlobals mg) (c : He.SaysD hfa hfn K) : Def K mg "_law_some" s__law_some := by
  obtain ⟨fd, F⟩ := c.def_ 37 (d := d__law_some) rfl
  exact ⟨_, fd, He5.fun_of F, He.glo_ok X G (c.fact 37 (f := .glo "_law_some") rfl)⟩
theorem hd__law_made {K : PySem.W.Frag} {h : Heap} {mg : Str → Option Value} (X : K.In h) (G : h.Ns mainGlobals mg) (c : He.SaysD hfa hfn K) : Def K mg "_law_made" s__law_made := by
  obtain ⟨fd, F⟩ := c.def_ 35 (d := d__law_made) rfl
  exact ⟨_, fd, He5.fun_of F, He.glo_ok X G (c.fact 35 (f := .glo "_law_made") rfl)⟩
theorem hd_Rules_u__len_u_ {K : PySem.W.Frag} (c : He.SaysD hfa hfn K) : DefM K (He.ga K "Rules") "__len__" "Rules.__len__" s_Rules_u__len_u_ := by
  obtain ⟨fd, F⟩ := c.def_ 46 (d := d_Rules_u__len_u_) rfl
  exact ⟨_, fd, He5.fun_of F, He.meth_ok (c.fact 81 (f := .meth "Rules" "__len__") rfl)⟩
theorem hd_text_class {K : PySem.W.Frag} {h : Heap} {mg : Str → Option Value} (X : K.In h) (G : h.Ns mainGlobals mg) (c : He.SaysD hfa hfn K) : Def K mg "text_class" s_text_class := by
  obtain ⟨fd, F⟩ := c.def_ 5 (d := d_text_class) rfl
  exact ⟨_, fd, He5.fun_of F, He.glo_ok X G (c.fact 5 (f := .glo "text_class") rfl)⟩
theorem hd_class_of {K : PySem.W.Frag} {h : Heap} {mg : Str → Option Value} (X : K.In h) (G : h.Ns mainGlobals mg) (c : He.SaysD hfa hfn K) : Def K mg "class_of" s_class_of := by
  obtain ⟨fd, F⟩ := c.def_ 6 (d := d_class_of) rfl
  exact ⟨_, fd, He5.fun_of F, He.glo_ok X G (c.fact 6 (f := .glo "class_of") rfl)⟩
theorem hd__law_class {K : PySem.W.Frag} {h : Heap} {mg : Str → Option Value} (X : K.In h) (G : h.Ns mainGlobals mg) (c : He.SaysD hfa hfn K) : Def K mg "_law_class" s__law_class := by
  obtain ⟨fd, F⟩ := c.def_ 38 (d := d__law_class) rfl
  exact ⟨_, fd, He5.fun_of F, He.glo_ok X G (c.fact 38 (f := .glo "_law_class") rfl)⟩
theorem hd__law_put {K : PySem.W.Frag} {h : Heap} {mg : Str → Option Value} (X : K.In h) (G : h.Ns mainGlobals mg) (c : He.SaysD hfa hfn K) : Def K mg "_law_put" s__law_put := by
  obtain ⟨fd, F⟩ := c.def_ 39 (d := d__law_put) rfl
  exact ⟨_, fd, He5.fun_of F, He.glo_ok X G (c.fact 39 (f := .glo "_law_put") rfl)⟩
theorem hd_longer_class {K : PySem.W.Frag} {h : Heap} {mg : Str → Option Value} (X : K.In h) (G : h.Ns mainGlobals mg) (c : He.SaysD hfa hfn K) : Def K mg "longer_class" s_longer_class := by
  obtain ⟨fd, F⟩ := c.def_ 7 (d := d_longer_class) rfl
  exact ⟨_, fd, He5.fun_of F, He.glo_ok X G (c.fact 7 (f := .glo "longer_class") rfl)⟩
theorem hd_Classes_letter_steps {K : PySem.W.Frag} (c : He.SaysD hfa hfn K) : DefM K (He.ga K "Classes") "letter_steps" "Classes.letter_steps" s_Classes_letter_steps := by
  obtain ⟨fd, F⟩ := c.def_ 47 (d := d_Classes_letter_steps) rfl
  exact ⟨_, fd, He5.fun_of F, He.meth_ok (c.fact 82 (f := .meth "Classes" "letter_steps") rfl)⟩
theorem hd_Classes_way {K : PySem.W.Frag} (c : He.SaysD hfa hfn K) : DefM K (He.ga K "Classes") "way" "Classes.way" s_Classes_way := by
  obtain ⟨fd, F⟩ := c.def_ 48 (d := d_Classes_way) rfl
  exact ⟨_, fd, He5.fun_of F, He.meth_ok (c.fact 83 (f := .meth "Classes" "way") rfl)⟩
theorem hd_Classes_pump_on {K : PySem.W.Frag} (c : He.SaysD hfa hfn K) : DefM K (He.ga K "Classes") "pump_on" "Classes.pump_on" s_Classes_pump_on := by
  obtain ⟨fd, F⟩ := c.def_ 49 (d := d_Classes_pump_on) rfl
  exact ⟨_, fd, He5.fun_of F, He.meth_ok (c.fact 84 (f := .meth "Classes" "pump_on") rfl)⟩
theorem hd_Classes_u__init_u_ {K : PySem.W.Frag} (c : He.SaysD hfa hfn K) : DefI K (He.ga K "Classes") "Classes.__init__" s_Classes_u__init_u_ := by
  obtain ⟨fd, F⟩ := c.def_ 45 (d := d_I_Classes) rfl
  exact ⟨_, fd, He5.fun_of F, He.mkr_ok (c.fact 87 (f := .mkr "Classes") rfl)⟩
theorem hd_long_classes {K : PySem.W.Frag} {h : Heap} {mg : Str → Option Value} (X : K.In h) (G : h.Ns mainGlobals mg) (c : He.SaysD hfa hfn K) : Def K mg "long_classes" s_long_classes := by
  obtain ⟨fd, F⟩ := c.def_ 8 (d := d_long_classes) rfl
  exact ⟨_, fd, He5.fun_of F, He.glo_ok X G (c.fact 8 (f := .glo "long_classes") rfl)⟩
theorem hd__law_classes {K : PySem.W.Frag} {h : Heap} {mg : Str → Option Value} (X : K.In h) (G : h.Ns mainGlobals mg) (c : He.SaysD hfa hfn K) : Def K mg "_law_classes" s__law_classes := by
  obtain ⟨fd, F⟩ := c.def_ 40 (d := d__law_classes) rfl
  exact ⟨_, fd, He5.fun_of F, He.glo_ok X G (c.fact 40 (f := .glo "_law_classes") rfl)⟩
theorem hd__law_behind {K : PySem.W.Frag} {h : Heap} {mg : Str → Option Value} (X : K.In h) (G : h.Ns mainGlobals mg) (c : He.SaysD hfa hfn K) : Def K mg "_law_behind" s__law_behind := by
  obtain ⟨fd, F⟩ := c.def_ 41 (d := d__law_behind) rfl
  exact ⟨_, fd, He5.fun_of F, He.glo_ok X G (c.fact 41 (f := .glo "_law_behind") rfl)⟩
theorem hd__law_long {K : PySem.W.Frag} {h : Heap} {mg : Str → Option Value} (X : K.In h) (G : h.Ns mainGlobals mg) (c : He.SaysD hfa hfn K) : Def K mg "_law_long" s__law_long := by
  obtain ⟨fd, F⟩ := c.def_ 42 (d := d__law_long) rfl
  exact ⟨_, fd, He5.fun_of F, He.glo_ok X G (c.fact 42 (f := .glo "_law_long") rfl)⟩
theorem hfacts {P : Program} {w : World} {K : PySem.W.Frag} {h : Heap} {mg : Str → Option Value} {f : Addr} (X : K.In h) (G : h.Ns mainGlobals mg) (hfa0 : mg ("law" : Str) = some (.ref f)) (c : He.SaysD hfa hfn K) (cx : hex0 K = true) (ck : hkup K = true) (cy : (hys.map fun p => fnXo K (p.1 K)) = hys.map Prod.snd) :
    ∃ fd : FuncData, (∀ (s : Shared) (v : Value), BindsTo s fd ⟨[v], []⟩ [("_law_script", v)]) ∧ ∀ base : Heap, K.In base → base.Ns mainGlobals mg → FnG P w K mg base CX0 8 f fd ["_law_script"] (SpOf K (spLaw 63)) := by
  obtain ⟨fd, F⟩ := c.def_ 43 (d := d_law) rfl
  have e := hfa0.symm.trans (He.glo_ok X G (c.fact 43 (f := .glo "law") rfl))
  cases e
  have b := FunD.bindsA (ps := ["_law_script"]) F fun _ _ _ _ _ _ us hl => match us, hl with | [_], _ => rfl
  have T := htxt X G c cx ck
  refine ⟨fd, fun s v => b s [v] rfl, fun base _ _ => ?_⟩
  have q_states_behind := c_states_behind (P := P) (w := w) (base := base) T (hd_states_behind X G c)
  have q_reached := c_reached (P := P) (w := w) (base := base) T (hd_reached X G c) q_states_behind
  have q_mute := c_mute (P := P) (w := w) (base := base) T (hd_mute X G c) q_states_behind
  have q_check_full := c_check_full (P := P) (w := w) (base := base) T (hd_check_full X G c) q_mute
  have q_is_integer := c_is_integer (P := P) (w := w) (base := base) T (hd_is_integer X G c)
  have q_is_letter_of := c_is_letter_of (P := P) (w := w) (base := base) T (hd_is_letter_of X G c)
  have q_are_letters := c_are_letters (P := P) (w := w) (base := base) T (hd_are_letters X G c)
  have q_is_move := c_is_move (P := P) (w := w) (base := base) T (hd_is_move X G c) q_is_letter_of q_is_integer
  have q_is_row := c_is_row (P := P) (w := w) (base := base) T (hd_is_row X G c) q_is_move
  have q_steps_of := c_steps_of (P := P) (w := w) (base := base) T (hd_steps_of X G c)
  have q_Rules_u__init_u_ := c_Rules_u__init_u_ (P := P) (w := w) (base := base) T (hd_Rules_u__init_u_ c) q_are_letters q_is_row q_steps_of
  have q__law_moves := c__law_moves (P := P) (w := w) (base := base) T (hd__law_moves X G c)
  have q__law_on := c__law_on (P := P) (w := w) (base := base) T (hd__law_on X G c) q__law_moves
  have q__law_mute := c__law_mute (P := P) (w := w) (base := base) T (hd__law_mute X G c) q__law_on
  have q__law_set := c__law_set (P := P) (w := w) (base := base) T (hd__law_set X G c)
  have q__law_draw := c__law_draw (P := P) (w := w) (base := base) T (hd__law_draw X G c)
  have q__law_pick := c__law_pick (P := P) (w := w) (base := base) T (hd__law_pick X G c) q__law_draw
  have q__law_deck := c__law_deck (P := P) (w := w) (base := base) T (hd__law_deck X G c)
  have q__law_known := c__law_known (P := P) (w := w) (base := base) T (hd__law_known X G c) q__law_draw
  have q__law_drawn := c__law_drawn (P := P) (w := w) (base := base) T (hd__law_drawn X G c) q__law_draw q__law_pick q__law_on q__law_mute q__law_set
  have q__law_some := c__law_some (P := P) (w := w) (base := base) T (hd__law_some X G c) q__law_draw q__law_known q__law_pick q__law_drawn
  have q__law_made := c__law_made (P := P) (w := w) (base := base) T (hd__law_made X G c) q_Rules_u__init_u_
  have q_Rules_u__len_u_ := c_Rules_u__len_u_ (P := P) (w := w) (base := base) T (hd_Rules_u__len_u_ c)
  have q_text_class := c_text_class (P := P) (w := w) (base := base) T (hd_text_class X G c) q_reached q_Rules_u__len_u_
  have q_class_of := c_class_of (P := P) (w := w) (base := base) T (hd_class_of X G c) q_check_full q_text_class
  have q__law_class := c__law_class (P := P) (w := w) (base := base) T (hd__law_class X G c) q__law_on
  have q__law_put := c__law_put (P := P) (w := w) (base := base) T (hd__law_put X G c)
  have q_longer_class := c_longer_class (P := P) (w := w) (base := base) T (hd_longer_class X G c)
  have q_Classes_letter_steps := c_Classes_letter_steps (P := P) (w := w) (base := base) T (hd_Classes_letter_steps c) q_longer_class
  have q_Classes_way := c_Classes_way (P := P) (w := w) (base := base) T (hd_Classes_way c) q_Classes_letter_steps
  have q_Classes_pump_on := c_Classes_pump_on (P := P) (w := w) (base := base) T (hd_Classes_pump_on c) q_Classes_letter_steps
  have q_Classes_u__init_u_ := c_Classes_u__init_u_ (P := P) (w := w) (base := base) T (hd_Classes_u__init_u_ c) q_text_class q_Classes_letter_steps q_Classes_way q_Classes_pump_on
  have q_long_classes := c_long_classes (P := P) (w := w) (base := base) T (hd_long_classes X G c) q_check_full q_Classes_u__init_u_
  have q__law_classes := c__law_classes (P := P) (w := w) (base := base) T (hd__law_classes X G c) q__law_class q__law_put
  have q__law_behind := c__law_behind (P := P) (w := w) (base := base) T (hd__law_behind X G c) q__law_class q__law_put
  have q__law_long := c__law_long (P := P) (w := w) (base := base) T (hd__law_long X G c) q__law_behind
  exact c_law (P := P) (w := w) (base := base) T (He5.fun_of F) q__law_deck q__law_some q__law_made q__law_classes q__law_long q_long_classes.2 q_long_classes.1 q__law_pick q__law_draw q_class_of
end Pace
open PySem PySem.W PySem.Calls PyProof.Rows
theorem PySem.Challenge.cw_pacehouse_k21_long_classes_holds : PySem.Challenge.rw_pacehouse_k21_long_classes.Holds := by
  w_on; o_law
  refine HandSHeadRun.head_any (r := OpenLaw.row PySem.Challenge.rw_pacehouse_k21_long_classes) (q := view (OpenLaw.row PySem.Challenge.rw_pacehouse_k21_long_classes).prog [69]) (H := Pace.hhk) (ob := Pace.hob) (M := 20000) (loose := Pace.hnm) (d := HandSHeadRun.topDef (OpenLaw.row PySem.Challenge.rw_pacehouse_k21_long_classes).prog 69) (kwd := []) Pace.hob_eq
    (by kernel_rfl) (fun s => by kernel_rfl) Pace.hrun (by kernel_rfl) (by kernel_rfl) (by kernel_rfl) (by rfl) (by first | assumption | decide +kernel) (by decide +kernel) ⟨rfl, rfl, rfl, rfl, rfl, by decide +kernel⟩ ?hw ?hc
  case hw => w_witness2
  case hc =>
    refine DL.walk_G (l := PySem.Challenge.rw_pacehouse_k21_long_classes) (n := 63) (k := 8) (x := "_law_script") rfl (by decide) (by kernel_rfl) ⟨rfl, by decide, by decide⟩ ?F
    intro w mg fa h Y G hmg0
    obtain ⟨K, KX, c, cxx, cy⟩ := Y
    have cx := (Bool.and_eq_true_iff.mp cxx).1
    have ck := (Bool.and_eq_true_iff.mp cxx).2
    have hmg : mg ("law" : PySem.Str) = some (.ref fa) := by
      have e : (HandSHeadRun.topDef (OpenLaw.row PySem.Challenge.rw_pacehouse_k21_long_classes).prog 69).name = ("law" : PySem.Str) := by kernel_rfl
      rw [← e]
      exact hmg0
    obtain ⟨fd, hb, hF⟩ := Pace.hfacts (P := (PySem.Challenge.rw_pacehouse_k21_long_classes).prog) (w := w) KX G hmg c cx ck cy
    exact ⟨K, fd, KX, hb, hF⟩
end
