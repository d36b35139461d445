import PyProof.Rows.All
import Wide.All
import OpenK.AllK
import Wide.FinOn
import KE.KStateDown
import Lean
import HandS.ForMost
import HandS.ForExc
import KE.KDictKeyed
import KE.DataCmp
import KE.DataEq
import KE.DataFind
import KE.DataIsa
import KE.SortData
import HandS.TupAny
import HandS.TupLen
import HandS.Conv
import HandS.IsInst
import HandS.Text
import HandS.Sort
import HandS.More
import HandS.Zip
import HandS.Style
import KE.GoesEnum
import KE.GoesZip
import KE.GoesMore
import KE.KDictDisplayH
import PyProof.ReprRoads
import HandS.SetFor
import HandS.Strs
import HandS.Set
import KE.KDictPairs
import HandS.ListItems
import HandS.Codes
import HandS.HeadHook1
import HandS.HeadHook2
import KE.KDictZip
import PyProof.InstSpecial
import PyProof.AutoSeq1
import PyProof.NeKinds
import HandS.FStr
import HandS.TupMul
import HandS.RaiseMore
import KE.KCallOwn
import HandS.ClsMeth
import HandS.ExcSuper
import HandS.ExcOwn
import HandS.ExcIs
import HandS.ExcField
import KE.KExcMake
import KE.KSuper
import HandS.Property
import PySem.Challenge.RW_pacehouse_k64_joined_pieces
import HandS.Head0
import HandS.Base
import HandS.Call
import HandS.Ends
import HandS.Words
import HandS.WordsExc
import HandS.Defaults
import HandS.Head1
import HandS.Head2
import HandS.HeadEnd
import HandS.HeadNt
import KE.DatumOrd
import KE.GoesEnumKw
import HandS.Replace
import HandS.Star
import HandS.Deep
import KE.KDictSum
import KE.KDictList
import PyProof.DictValues
import PyProof.Rows.StrRev
import HandS.TupSets
import KE.KDictWalk
import PyProof.CollectStr
import PyProof.ListStr
import PyProof.StrLawsFirst
import HandS.NoneIn
import HandS.DictComp
import PyProof.Rows.RowHeap
import KE.DataMinMax
import HandS.SortKw
import KE.KDictItemsList
import KE.KAssignIn
import HandS.TryOnly
import HandS.DictEq
section
set_option Elab.async false
set_option linter.all false
set_option maxRecDepth 100000
set_option maxHeartbeats 4000000
namespace DL
open PySem PySem.Spec PyProof.Rows L2
inductive D where
  | non | bl (b : Bool) | int (i : Int) | str (x : Str) | ty (n : String)
  | tup (xs : List D) | lst (xs : List D)
  | dK (kvs : List (Key × D)) | dT (kvs : List (List Key × D))
  | obj (C : Addr) (fs : List (Str × D))
  | rf (a : Addr)
  | scr (ns : List Int)
def Ex (F F' : Hp) : Prop := ∀ a o, F a = some o → F' a = some o
theorem Ex.refl (F : Hp) : Ex F F := fun _ _ h => h
theorem Ex.trans {F F1 F2 : Hp} (a : Ex F F1) (b : Ex F1 F2) : Ex F F2 := fun x o h => b x o (a x o h)
theorem Ex.new {F : Hp} {p : Addr} {o : HO} (h : F p = none) : Ex F (upd F p o) := fun a u e => by
  by_cases q : a = p
  · subst q; rw [h] at e; cases e
  · rw [upd_ne q]; exact e
theorem Ex.nope {F H : Hp} (e : Ex F H) {p : Addr} (h : H p = none) : F p = none := by
  cases q : F p with
  | none => rfl
  | some o => rw [e p o q] at h; cases h
theorem Ex.upds {F H : Hp} (e : Ex F H) {p : Addr} (o : HO) : Ex (upd F p o) (upd H p o) := fun a u h => by
  by_cases q : a = p
  · subst q; rw [upd_same] at h ⊢; exact h
  · rw [upd_ne q] at h ⊢; exact e a u h
theorem Ex.updR {F H : Hp} (e : Ex F H) {p : Addr} {o : HO} (h : F p = none) : Ex F (upd H p o) := fun a u z => by
  by_cases q : a = p
  · subst q; rw [h] at z; cases z
  · rw [upd_ne q]; exact e a u z
theorem Ex.rd {F F' : Hp} {a : Addr} {u : HO} (e : Ex F F') (h : Rd F a u) : Rd F' a u := by
  rcases h with h | ⟨o, h⟩
  · exact .inl (e _ _ h)
  · exact .inr ⟨o, e _ _ h⟩
theorem Ex.sql {K : PySem.W.Frag} {F F' : Hp} {a : Addr} {xs : List V} (e : Ex F F') (h : SqL K F a xs) : SqL K F' a xs := by
  rcases h with h | h
  · exact .inl (e.rd h)
  · exact .inr h
theorem Ex.sqt {K : PySem.W.Frag} {F F' : Hp} {a : Addr} {xs : List V} (e : Ex F F') (h : SqT K F a xs) : SqT K F' a xs := by
  rcases h with h | h
  · exact .inl (e.rd h)
  · exact .inr h
mutual
inductive Rep (K : PySem.W.Frag) (F : Hp) : V → D → Prop
  | non : Rep K F .non .non
  | bl (b : Bool) : Rep K F (.bl b) (.bl b)
  | int (i : Int) : Rep K F (.int i) (.int i)
  | str (x : Str) : Rep K F (.str x) (.str x)
  | ty (n : String) : Rep K F (.ty n) (.ty n)
  | tup {a : Addr} {vs : List V} {ds : List D} : F a = some (.tup vs) → Reps K F vs ds → Rep K F (.ref a) (.tup ds)
  | lst {a : Addr} {vs : List V} {ds : List D} : F a = some (.lst vs) → Reps K F vs ds → Rep K F (.ref a) (.lst ds)
  | dK {a : Addr} {kvs : List (Key × V)} {kds : List (Key × D)} : F a = some (.dK kvs) → kvs.map (·.1) = kds.map (·.1) → Reps K F (kvs.map (·.2)) (kds.map (·.2)) → Rep K F (.ref a) (.dK kds)
  | dT {a : Addr} {kvs : List (List Key × V)} {kds : List (List Key × D)} : F a = some (.dT kvs) → kvs.map (·.1) = kds.map (·.1) → Reps K F (kvs.map (·.2)) (kds.map (·.2)) → Rep K F (.ref a) (.dT kds)
  | obj {a C dx : Addr} {kvs : List (Str × V)} {kds : List (Str × D)} : F a = some (.ins C dx kvs) → kvs.map (·.1) = kds.map (·.1) → Reps K F (kvs.map (·.2)) (kds.map (·.2)) → Rep K F (.ref a) (.obj C kds)
  | rf (a : Addr) : Rep K F (.ref a) (.rf a)
  | scr {a : Addr} {ns : List Int} : SqL K F a (ns.map V.int) → Rep K F (.ref a) (.scr ns)
inductive Reps (K : PySem.W.Frag) (F : Hp) : List V → List D → Prop
  | nil : Reps K F [] []
  | cons {v : V} {vs : List V} {d : D} {ds : List D} : Rep K F v d → Reps K F vs ds → Reps K F (v :: vs) (d :: ds)
end
mutual
theorem Rep.mono {K : PySem.W.Frag} {F F' : Hp} (e : Ex F F') : ∀ {v : V} {d : D}, Rep K F v d → Rep K F' v d
  | _, _, .non => .non
  | _, _, .bl b => .bl b
  | _, _, .int i => .int i
  | _, _, .str x => .str x
  | _, _, .ty n => .ty n
  | _, _, .tup h r => .tup (e _ _ h) (Reps.mono e r)
  | _, _, .lst h r => .lst (e _ _ h) (Reps.mono e r)
  | _, _, .dK h l r => .dK (e _ _ h) l (Reps.mono e r)
  | _, _, .dT h l r => .dT (e _ _ h) l (Reps.mono e r)
  | _, _, .obj h l r => .obj (e _ _ h) l (Reps.mono e r)
  | _, _, .rf a => .rf a
  | _, _, .scr h => .scr (e.sql h)
theorem Reps.mono {K : PySem.W.Frag} {F F' : Hp} (e : Ex F F') : ∀ {vs : List V} {ds : List D}, Reps K F vs ds → Reps K F' vs ds
  | _, _, .nil => .nil
  | _, _, .cons h t => .cons (Rep.mono e h) (Reps.mono e t)
end
section
variable {K : PySem.W.Frag} {F : Hp}
theorem Reps.length : ∀ {vs : List V} {ds : List D}, Reps K F vs ds → vs.length = ds.length
  | _, _, .nil => rfl
  | _, _, .cons _ t => congrArg (· + 1) (Reps.length t)
theorem Reps.get : ∀ {vs : List V} {ds : List D} {i : Nat} {d : D}, Reps K F vs ds → ds[i]? = some d → ∃ v, vs[i]? = some v ∧ Rep K F v d
  | _, _, _, _, .nil, e => by simp at e
  | _, _, 0, _, .cons r _, e => by simp at e; subst e; exact ⟨_, rfl, r⟩
  | _, _, i + 1, _, .cons _ t, e => by
    obtain ⟨v, h1, h2⟩ := Reps.get (i := i) t (by simpa using e)
    exact ⟨v, by simpa using h1, h2⟩
theorem Reps.get' : ∀ {vs : List V} {ds : List D} {i : Nat} {v : V}, Reps K F vs ds → vs[i]? = some v → ∃ d, ds[i]? = some d ∧ Rep K F v d
  | _, _, _, _, .nil, e => by simp at e
  | _, _, 0, _, .cons r _, e => by simp at e; subst e; exact ⟨_, rfl, r⟩
  | _, _, i + 1, _, .cons _ t, e => by
    obtain ⟨v, h1, h2⟩ := Reps.get' (i := i) t (by simpa using e)
    exact ⟨v, by simpa using h1, h2⟩
theorem Reps.append : ∀ {vs vs' : List V} {ds ds' : List D}, Reps K F vs ds → Reps K F vs' ds' → Reps K F (vs ++ vs') (ds ++ ds')
  | _, _, _, _, .nil, s => s
  | _, _, _, _, .cons r t, s => .cons r (Reps.append t s)
theorem Reps.one {v : V} {d : D} (h : Rep K F v d) : Reps K F [v] [d] := .cons h .nil
theorem Reps.set {v : V} {d : D} (h : Rep K F v d) : ∀ {vs : List V} {ds : List D} (i : Nat), Reps K F vs ds → Reps K F (vs.set i v) (ds.set i d)
  | _, _, _, .nil => .nil
  | _, _, 0, .cons _ t => .cons h t
  | _, _, i + 1, .cons r t => .cons r (Reps.set h i t)
theorem Reps.take : ∀ {vs : List V} {ds : List D} (n : Nat), Reps K F vs ds → Reps K F (vs.take n) (ds.take n)
  | _, _, 0, _ => .nil
  | _, _, _ + 1, .nil => .nil
  | _, _, n + 1, .cons r t => .cons r (Reps.take n t)
theorem Reps.drop : ∀ {vs : List V} {ds : List D} (n : Nat), Reps K F vs ds → Reps K F (vs.drop n) (ds.drop n)
  | _, _, 0, r => r
  | _, _, _ + 1, .nil => .nil
  | _, _, n + 1, .cons _ t => Reps.drop n t
theorem Reps.reverse {vs : List V} {ds : List D} (r : Reps K F vs ds) : Reps K F vs.reverse ds.reverse := by
  induction vs generalizing ds with
  | nil => cases r; exact .nil
  | cons v vs ih =>
    cases r with
    | cons h t =>
      rw [List.reverse_cons, List.reverse_cons]
      exact (ih t).append (.one h)
end
inductive MO where
  | lst (xs : List D) | dK (kvs : List (Key × D)) | dT (kvs : List (List Key × D))
  | ins (C : Addr) (fs : List (Str × D))
  | deck (k1 k2 k3 : Str) (n : Nat)
  | dcell
  | lkT (o : Obj) (kvs : List (List Key × V)) (kds : List (List Key × D))
  | lkK (o : Obj) (kvs : List (Key × V)) (kds : List (Key × D))
  | dN (w : World) (kds : List (NestedKey × D))
  | lkN (w : World) (o : Obj) (xs : List (NestedKey × Addr × Value)) (kds : List (NestedKey × D))
  | tupU (o : Obj) (vs : List V) (ds : List D)
abbrev GH := Addr → Option MO
def gput (G : GH) (a : Addr) (o : MO) : GH := fun b => if b = a then some o else G b
def gdel (G : GH) (a : Addr) : GH := fun b => if b = a then none else G b
theorem gput_same {G : GH} {a : Addr} {o : MO} : gput G a o a = some o := by unfold gput; rw [if_pos rfl]
theorem gput_ne {G : GH} {a b : Addr} {o : MO} (h : b ≠ a) : gput G a o b = G b := by unfold gput; rw [if_neg h]
theorem gput_gput {G : GH} {a : Addr} {o o' : MO} : gput (gput G a o) a o' = gput G a o' := by
  funext b
  by_cases h : b = a
  · subst h; rw [gput_same, gput_same]
  · rw [gput_ne h, gput_ne h, gput_ne h]
theorem gput_self {G : GH} {a : Addr} {o : MO} (h : G a = some o) : gput G a o = G := by
  funext b
  by_cases q : b = a
  · subst q; rw [gput_same, h]
  · rw [gput_ne q]
def deckOk (F H : Hp) (G : GH) (a : Addr) (k1 k2 k3 : Str) (n : Nat) : Prop :=
  ∃ (c : Addr) (g t : Int) (ns : List Int), H a = some (.dK [(.inr k1, .ref c), (.inr k2, .int g), (.inr k3, .int t)]) ∧ H c = some (.lst (ns.map V.int)) ∧ G c = some .dcell ∧
    0 ≤ t ∧ t + n ≤ 1099511627776 ∧ 0 ≤ g ∧ g < 4294967296 ∧ ns.length ≤ 63
/-- a dict whose keys are tuples of any depth: what stands at its own place -/
def RawN (w : World) (a : Addr) (xs : List (NestedKey × Addr × Value)) (h : Heap) : Prop :=
  (a == sysModules) = false ∧ ∃ o es ep, h.get? a = some o ∧ o.ExactDict ∧ o.data = .dict es ep ∧ es.toList = xs.map (fun x => ({ hash := x.1.hash w, key := .ref x.2.1, val := x.2.2 } : DictEntry)) ∧ (xs.map (·.1)).Nodup
mutual
/-- data as a key -/
def D.nkey : D → Option NestedKey
  | .non => some .none
  | .int i => some (.num i)
  | .str x => some (.text x)
  | .tup ds => (D.nkeys ds).map .tup
  | _ => none
def D.nkeys : List D → Option (List NestedKey)
  | [] => some []
  | d :: ds => match d.nkey, D.nkeys ds with
    | some k, some ks => some (k :: ks)
    | _, _ => none
end
def KN (K : PySem.W.Frag) (F : Hp) : List (NestedKey × D) → List (NestedKey × Addr × Value) → Prop := Paired fun p q => p.1 = q.1 ∧ (∃ d : D, d.nkey = some p.1 ∧ p.1.depth ≤ 8 ∧ Rep K F (.ref q.2.1) d) ∧ ∃ v, RelV v q.2.2 ∧ Rep K F v p.2
def MRep (K : PySem.W.Frag) (F H : Hp) (G : GH) (a : Addr) : MO → Prop
  | .lst ds => ∃ vs, H a = some (.lst vs) ∧ Reps K F vs ds
  | .dK kds => ∃ kvs, H a = some (.dK kvs) ∧ kvs.map (·.1) = kds.map (·.1) ∧ Reps K F (kvs.map (·.2)) (kds.map (·.2))
  | .dT kds => ∃ kvs, H a = some (.dT kvs) ∧ kvs.map (·.1) = kds.map (·.1) ∧ Reps K F (kvs.map (·.2)) (kds.map (·.2))
  | .ins C kds => ∃ dx kvs, H a = some (.ins C dx kvs) ∧ kvs.map (·.1) = kds.map (·.1) ∧ Reps K F (kvs.map (·.2)) (kds.map (·.2))
  | .deck k1 k2 k3 n => deckOk F H G a k1 k2 k3 n
  | .dcell => ∃ xs, H a = some (.lst xs)
  | .lkT o kvs kds => H a = some (.frz o (.dT kvs)) ∧ kvs.map (·.1) = kds.map (·.1) ∧ Reps K F (kvs.map (·.2)) (kds.map (·.2))
  | .lkK o kvs kds => H a = some (.frz o (.dK kvs)) ∧ kvs.map (·.1) = kds.map (·.1) ∧ Reps K F (kvs.map (·.2)) (kds.map (·.2))
  | .dN w kds => ∃ xs, H a = some (.ext (RawN w a xs)) ∧ kds.length ≤ sizeLine ∧ KN K F kds xs
  | .lkN w o xs kds => H a = some (.frz o (.ext (RawN w a xs))) ∧ kds.length ≤ sizeLine ∧ KN K F kds xs
  | .tupU o vs ds => H a = some (.frz o (.tup vs)) ∧ o.dict = none ∧ o.cls = .type "tuple" ∧ Reps K F vs ds
structure Gok (K : PySem.W.Frag) (F H : Hp) (G : GH) : Prop where
  ex : Ex F H
  at_ : ∀ a o, G a = some o → F a = none ∧ MRep K F H G a o
  one : ∀ a b k1 k2 k3 n j1 j2 j3 m, G a = some (.deck k1 k2 k3 n) → G b = some (.deck j1 j2 j3 m) → a = b
section
variable {K : PySem.W.Frag} {F H : Hp} {G : GH}
theorem MRep.isAt {a : Addr} {o : MO} (h : MRep K F H G a o) : ∃ u, H a = some u := by
  cases o with
  | lst xs => obtain ⟨vs, e, _⟩ := h; exact ⟨_, e⟩
  | dK kds => obtain ⟨vs, e, _⟩ := h; exact ⟨_, e⟩
  | dT kds => obtain ⟨vs, e, _⟩ := h; exact ⟨_, e⟩
  | ins C kds => obtain ⟨dx, vs, e, _⟩ := h; exact ⟨_, e⟩
  | deck k1 k2 k3 n => obtain ⟨c, g, t, ns, e, _⟩ := h; exact ⟨_, e⟩
  | dcell => obtain ⟨xs, e⟩ := h; exact ⟨_, e⟩
  | lkT o kvs kds => exact ⟨_, h.1⟩
  | lkK o kvs kds => exact ⟨_, h.1⟩
  | dN w kds => obtain ⟨xs, e, _⟩ := h; exact ⟨_, e⟩
  | lkN w o xs kds => exact ⟨_, h.1⟩
  | tupU o vs ds => exact ⟨_, h.1⟩
theorem Gok.free (g : Gok K F H G) {p : Addr} (h : H p = none) : G p = none := by
  cases q : G p with
  | none => rfl
  | some o =>
    obtain ⟨u, e⟩ := (g.at_ p o q).2.isAt
    rw [e] at h; cases h
theorem MRep.move {F' H' : Hp} {G' : GH} {a : Addr} {o : MO} (h : MRep K F H G a o) (e : Ex F F') (k : ∀ b u, H b = some u → (b = a ∨ G b = some .dcell) → H' b = some u) (g : ∀ c, G c = some .dcell → G' c = some .dcell) : MRep K F' H' G' a o := by
  cases o with
  | lst xs =>
    obtain ⟨vs, e1, r⟩ := h
    exact ⟨vs, k _ _ e1 (.inl rfl), r.mono e⟩
  | dK kds =>
    obtain ⟨vs, e1, l, r⟩ := h
    exact ⟨vs, k _ _ e1 (.inl rfl), l, r.mono e⟩
  | dT kds =>
    obtain ⟨vs, e1, l, r⟩ := h
    exact ⟨vs, k _ _ e1 (.inl rfl), l, r.mono e⟩
  | ins C kds =>
    obtain ⟨dx, vs, e1, l, r⟩ := h
    exact ⟨dx, vs, k _ _ e1 (.inl rfl), l, r.mono e⟩
  | deck k1 k2 k3 n =>
    obtain ⟨c, g0, t, ns, e1, e2, gc, hz⟩ := h
    exact ⟨c, g0, t, ns, k _ _ e1 (.inl rfl), k _ _ e2 (.inr gc), g c gc, hz⟩
  | dcell =>
    obtain ⟨xs, e1⟩ := h
    exact ⟨xs, k _ _ e1 (.inl rfl)⟩
  | lkT o kvs kds => exact ⟨k _ _ h.1 (.inl rfl), h.2.1, h.2.2.mono e⟩
  | lkK o kvs kds => exact ⟨k _ _ h.1 (.inl rfl), h.2.1, h.2.2.mono e⟩
  | dN w kds =>
    obtain ⟨xs, e1, hz, r⟩ := h
    exact ⟨xs, k _ _ e1 (.inl rfl), hz, Paired.mapP r fun _ _ ⟨z1, ⟨d, z2, zd, z3⟩, v, z4, z5⟩ => ⟨z1, ⟨d, z2, zd, z3.mono e⟩, v, z4, z5.mono e⟩⟩
  | lkN w o xs kds =>
    obtain ⟨e1, hz, r⟩ := h
    exact ⟨k _ _ e1 (.inl rfl), hz, Paired.mapP r fun _ _ ⟨z1, ⟨d, z2, zd, z3⟩, v, z4, z5⟩ => ⟨z1, ⟨d, z2, zd, z3.mono e⟩, v, z4, z5.mono e⟩⟩
  | tupU o vs ds => exact ⟨k _ _ h.1 (.inl rfl), h.2.1, h.2.2.1, h.2.2.2.mono e⟩
/-- the heap grows, frozen things with it -/
structure Gr (F H F' H' : Hp) : Prop where
  ff : Ex F F'
  fh : Ex F' H'
  hh : Ex H H'
  no : ∀ a u, H a = some u → F a = none → F' a = none
theorem Gok.grow (g : Gok K F H G) {F' H' : Hp} (r : Gr F H F' H') : Gok K F' H' G where
  ex := r.fh
  at_ := fun a o e => by
    obtain ⟨f, m⟩ := g.at_ a o e
    obtain ⟨u, hu⟩ := m.isAt
    exact ⟨r.no a u hu f, m.move r.ff (fun b u q _ => r.hh b u q) (fun c z => z)⟩
  one := g.one
theorem Gr.new (e : Ex F H) {p : Addr} {u : HO} (h : H p = none) : Gr F H (upd F p u) (upd H p u) where
  ff := Ex.new (e.nope h)
  fh := e.upds u
  hh := Ex.new h
  no := fun a w ha fa => by
    have q : a ≠ p := fun q => by rw [q, h] at ha; cases ha
    rw [upd_ne q]; exact fa
theorem Gr.only (e : Ex F H) {p : Addr} {u : HO} (h : H p = none) : Gr F H F (upd H p u) where
  ff := Ex.refl F
  fh := e.updR (e.nope h)
  hh := Ex.new h
  no := fun a w ha fa => fa
theorem Gr.refl (e : Ex F H) : Gr F H F H := ⟨Ex.refl F, e, Ex.refl H, fun _ _ _ z => z⟩
/-- fewer things that may change -/
structure Sub (G' G : GH) : Prop where
  le : ∀ a o, G' a = some o → G a = some o
  dc : ∀ c, G c = some .dcell → G' c = some .dcell
theorem Sub.refl (G : GH) : Sub G G := ⟨fun _ _ z => z, fun _ z => z⟩
theorem Sub.trans {G1 G2 G3 : GH} (a : Sub G1 G2) (b : Sub G2 G3) : Sub G1 G3 := ⟨fun x o z => b.le x o (a.le x o z), fun c z => a.dc c (b.dc c z)⟩
theorem Gok.sub (g : Gok K F H G) {G' : GH} (h : Sub G' G) : Gok K F H G' where
  ex := g.ex
  at_ := fun a o e => by
    obtain ⟨f, m⟩ := g.at_ a o (h.le a o e)
    exact ⟨f, m.move (Ex.refl F) (fun b u q _ => q) h.dc⟩
  one := fun a b k1 k2 k3 n j1 j2 j3 m e1 e2 => g.one a b k1 k2 k3 n j1 j2 j3 m (h.le _ _ e1) (h.le _ _ e2)
def MO.isDeck : MO → Bool
  | .deck _ _ _ _ => true
  | .dcell => true
  | _ => false
theorem sub_new {p : Addr} {o : MO} (h : G p = none) (hd : o.isDeck = false) : Sub G (gput G p o) := by
  refine ⟨fun a w z => ?_, fun c z => ?_⟩
  · have q : a ≠ p := fun y => by rw [y, h] at z; cases z
    rw [gput_ne q]; exact z
  · by_cases q : c = p
    · subst q; rw [gput_same] at z; cases z; cases hd
    · rw [gput_ne q] at z; exact z
theorem Sub.put {G' : GH} (s : Sub G' G) (p : Addr) (o : MO) : Sub (gput G' p o) (gput G p o) := by
  refine ⟨fun a w z => ?_, fun c z => ?_⟩
  · by_cases q : a = p
    · subst q; rw [gput_same] at z ⊢; exact z
    · rw [gput_ne q] at z ⊢; exact s.le a w z
  · by_cases q : c = p
    · subst q; rw [gput_same] at z ⊢; exact z
    · rw [gput_ne q] at z ⊢; exact s.dc c z
theorem upd_none {H : Hp} {p b : Addr} {u : HO} (h : upd H p u b = none) : H b = none := by
  by_cases q : b = p
  · subst q; rw [upd_same] at h; cases h
  · rw [upd_ne q] at h; exact h
/-- from one moment to a later one -/
structure Go (F H : Hp) (G : GH) (F' H' : Hp) (G' : GH) : Prop where
  ex : Ex F F'
  fr : ∀ b u, H b = some u → G b = none → H' b = some u ∧ G' b = none
  no : ∀ b u, H b = some u → G b = none → F b = none → (∀ vs, u ≠ .tup vs) → F' b = none
  st : ∀ b, H' b = none → H b = none
theorem Go.refl : Go F H G F H G := ⟨Ex.refl F, fun _ _ h g => ⟨h, g⟩, fun _ _ _ _ f _ => f, fun _ z => z⟩
theorem Go.trans {F1 H1 F2 H2 : Hp} {G1 G2 : GH} (a : Go F H G F1 H1 G1) (b : Go F1 H1 G1 F2 H2 G2) : Go F H G F2 H2 G2 := by
  refine ⟨a.ex.trans b.ex, fun c u h g => ?_, fun c u h g f t => ?_, fun c z => a.st c (b.st c z)⟩
  · obtain ⟨h1, g1⟩ := a.fr c u h g
    exact b.fr c u h1 g1
  · obtain ⟨h1, g1⟩ := a.fr c u h g
    exact b.no c u h1 g1 (a.no c u h g f t) t
theorem Gr.go {F' H' : Hp} (r : Gr F H F' H') : Go F H G F' H' G := ⟨r.ff, fun b u h g => ⟨r.hh b u h, g⟩, fun b u h _ f _ => r.no b u h f, fun b z => r.hh.nope z⟩
theorem Go.sub {F' H' : Hp} {G' G0 : GH} (a : Go F H G F' H' G') (s : Sub G0 G') : Go F H G F' H' G0 := by
  refine ⟨a.ex, fun b u h g => ?_, a.no, a.st⟩
  obtain ⟨h1, g1⟩ := a.fr b u h g
  refine ⟨h1, ?_⟩
  cases q : G0 b with
  | none => rfl
  | some o => rw [s.le b o q] at g1; cases g1
theorem Go.alloc {p : Addr} {u : HO} {o : MO} (h : H p = none) : Go F H G F (upd H p u) (gput G p o) := by
  refine ⟨Ex.refl F, fun b w hb g => ?_, fun _ _ _ _ f _ => f, fun b z => upd_none z⟩
  have q : b ≠ p := fun y => by rw [y, h] at hb; cases hb
  exact ⟨by rw [upd_ne q]; exact hb, by rw [gput_ne q]; exact g⟩
theorem Go.put {p : Addr} {u : HO} {o o0 : MO} (h : G p = some o0) : Go F H G F (upd H p u) (gput G p o) := by
  refine ⟨Ex.refl F, fun b w hb g => ?_, fun _ _ _ _ f _ => f, fun b z => upd_none z⟩
  have q : b ≠ p := fun y => by rw [y, h] at g; cases g
  exact ⟨by rw [upd_ne q]; exact hb, by rw [gput_ne q]; exact g⟩
/-- a new thing that may change -/
theorem Gok.alloc (g : Gok K F H G) {p : Addr} {u : HO} {o : MO} (h : H p = none) (hd : o.isDeck = false) (r : MRep K F (upd H p u) (gput G p o) p o) : Gok K F (upd H p u) (gput G p o) where
  ex := g.ex.updR (g.ex.nope h)
  at_ := fun a w e => by
    by_cases q : a = p
    · subst q
      rw [gput_same] at e; cases e
      exact ⟨g.ex.nope h, r⟩
    · rw [gput_ne q] at e
      obtain ⟨f, m⟩ := g.at_ a w e
      refine ⟨f, m.move (Ex.refl F) (fun b z qb _ => (Ex.new h) b z qb) fun c z => ?_⟩
      have : c ≠ p := fun y => by rw [y, g.free h] at z; cases z
      rw [gput_ne this]; exact z
  one := fun a b k1 k2 k3 n j1 j2 j3 m e1 e2 => by
    have ha : a ≠ p := fun y => by rw [y, gput_same] at e1; cases e1; cases hd
    have hb : b ≠ p := fun y => by rw [y, gput_same] at e2; cases e2; cases hd
    rw [gput_ne ha] at e1; rw [gput_ne hb] at e2
    exact g.one a b k1 k2 k3 n j1 j2 j3 m e1 e2
/-- a thing changes -/
theorem Gok.put (g : Gok K F H G) {p : Addr} {u : HO} {o o0 : MO} (h : G p = some o0) (h0 : o0.isDeck = false) (hd : o.isDeck = false) (r : MRep K F (upd H p u) (gput G p o) p o) : Gok K F (upd H p u) (gput G p o) where
  ex := g.ex.updR (g.at_ p o0 h).1
  at_ := fun a w e => by
    by_cases q : a = p
    · subst q
      rw [gput_same] at e; cases e
      exact ⟨(g.at_ a o0 h).1, r⟩
    · rw [gput_ne q] at e
      obtain ⟨f, m⟩ := g.at_ a w e
      have np : ∀ c, (c = a ∨ G c = some .dcell) → c ≠ p := fun c hc y => by
        rcases hc with hc | hc
        · exact q (hc ▸ y)
        · rw [y, h] at hc; cases hc; cases h0
      refine ⟨f, m.move (Ex.refl F) (fun b z qb hb => by rw [upd_ne (np b hb)]; exact qb) fun c z => by rw [gput_ne (np c (.inr z))]; exact z⟩
  one := fun a b k1 k2 k3 n j1 j2 j3 m e1 e2 => by
    have ha : a ≠ p := fun y => by rw [y, gput_same] at e1; cases e1; cases hd
    have hb : b ≠ p := fun y => by rw [y, gput_same] at e2; cases e2; cases hd
    rw [gput_ne ha] at e1; rw [gput_ne hb] at e2
    exact g.one a b k1 k2 k3 n j1 j2 j3 m e1 e2
theorem gdel_sub {G : GH} {p : Addr} : ∀ a o, gdel G p a = some o → G a = some o := fun a o e => by
  unfold gdel at e
  by_cases q : a = p
  · rw [if_pos q] at e; cases e
  · rw [if_neg q] at e; exact e
theorem gdel_same {G : GH} {p : Addr} : gdel G p p = none := by unfold gdel; rw [if_pos rfl]
theorem gdel_ne {G : GH} {p a : Addr} (h : a ≠ p) : gdel G p a = G a := by unfold gdel; rw [if_neg h]
theorem gdel_gput {G : GH} {p : Addr} {o : MO} (h : G p = none) : gdel (gput G p o) p = G := by
  funext b
  by_cases q : b = p
  · subst q; rw [gdel_same, h]
  · rw [gdel_ne q, gput_ne q]
/-- a thing changes no more -/
theorem Gok.freeze (g : Gok K F H G) {p : Addr} {u : HO} {o0 : MO} (h : G p = some o0) (h0 : o0.isDeck = false) (hu : H p = some u) : Gok K (upd F p u) H (gdel G p) ∧ Go F H G (upd F p u) H (gdel G p) := by
  have fp := (g.at_ p o0 h).1
  have eF : Ex F (upd F p u) := Ex.new fp
  refine ⟨⟨fun a w z => ?_, fun a w e => ?_, ?_⟩, eF, fun b w hb gb => ⟨hb, ?_⟩, fun b w hb gb fb _ => ?_, fun _ z => z⟩
  · by_cases q : a = p
    · subst q; rw [upd_same] at z; cases z; exact hu
    · rw [upd_ne q] at z; exact g.ex a w z
  · have q : a ≠ p := fun y => by rw [y, gdel_same] at e; cases e
    rw [gdel_ne q] at e
    obtain ⟨f, m⟩ := g.at_ a w e
    refine ⟨by rw [upd_ne q]; exact f, m.move eF (fun b w hb _ => hb) fun c z => ?_⟩
    have nq : c ≠ p := fun y => by rw [y, h] at z; cases z; cases h0
    rw [gdel_ne nq]; exact z
  · exact fun a b k1 k2 k3 n j1 j2 j3 m e1 e2 => g.one a b k1 k2 k3 n j1 j2 j3 m (gdel_sub _ _ e1) (gdel_sub _ _ e2)
  · have q : b ≠ p := fun y => by rw [y, h] at gb; cases gb
    rw [gdel_ne q]; exact gb
  · have q : b ≠ p := fun y => by rw [y, h] at gb; cases gb
    rw [upd_ne q]; exact fb
end
abbrev DS := List (Option D)
inductive Slots (K : PySem.W.Frag) (F : Hp) : L2.St → DS → Prop
  | nil : Slots K F [] []
  | any {v : Option V} {σ : L2.St} {S : DS} : Slots K F σ S → Slots K F (v :: σ) (none :: S)
  | val {v : V} {d : D} {σ : L2.St} {S : DS} : Rep K F v d → Slots K F σ S → Slots K F (some v :: σ) (some d :: S)
section
variable {K : PySem.W.Frag} {F : Hp}
theorem Slots.mono {F' : Hp} (e : Ex F F') : ∀ {σ : L2.St} {S : DS}, Slots K F σ S → Slots K F' σ S
  | _, _, .nil => .nil
  | _, _, .any t => .any (Slots.mono e t)
  | _, _, .val h t => .val (h.mono e) (Slots.mono e t)
theorem Slots.get : ∀ {σ : L2.St} {S : DS} {i : Nat} {d : D}, Slots K F σ S → S[i]? = some (some d) → ∃ v, σ[i]? = some (some v) ∧ Rep K F v d
  | _, _, _, _, .nil, e => by simp at e
  | _, _, 0, _, .any _, e => by simp at e
  | _, _, 0, _, .val r _, e => by simp at e; subst e; exact ⟨_, rfl, r⟩
  | _, _, i + 1, _, .any t, e => by
    obtain ⟨v, h1, h2⟩ := Slots.get (i := i) t (by simpa using e)
    exact ⟨v, by simpa using h1, h2⟩
  | _, _, i + 1, _, .val _ t, e => by
    obtain ⟨v, h1, h2⟩ := Slots.get (i := i) t (by simpa using e)
    exact ⟨v, by simpa using h1, h2⟩
theorem Slots.set {v : V} {d : D} (h : Rep K F v d) : ∀ {σ : L2.St} {S : DS} (i : Nat), Slots K F σ S → Slots K F (σ.set i (some v)) (S.set i (some d))
  | _, _, _, .nil => .nil
  | _, _, 0, .any t => .val h t
  | _, _, 0, .val _ t => .val h t
  | _, _, i + 1, .any t => .any (Slots.set h i t)
  | _, _, i + 1, .val r t => .val r (Slots.set h i t)
theorem Slots.setN (o : Option V) : ∀ {σ : L2.St} {S : DS} (i : Nat), Slots K F σ S → Slots K F (σ.set i o) (S.set i none)
  | _, _, _, .nil => .nil
  | _, _, 0, .any t => .any t
  | _, _, 0, .val _ t => .any t
  | _, _, i + 1, .any t => .any (Slots.setN o i t)
  | _, _, i + 1, .val r t => .val r (Slots.setN o i t)
def dstart (N : List Str) (ds : List D) : DS := ds.map some ++ List.replicate (N.length - ds.length) none
theorem slots_none : ∀ (n : Nat), Slots K F (List.replicate n none) (List.replicate n none)
  | 0 => .nil
  | n + 1 => .any (slots_none n)
theorem slots_append : ∀ {vs : List V} {ds : List D} {σ : L2.St} {S : DS}, Reps K F vs ds → Slots K F σ S → Slots K F (vs.map some ++ σ) (ds.map some ++ S)
  | _, _, _, _, .nil, s => s
  | _, _, _, _, .cons h t, s => .val h (slots_append t s)
theorem Reps.start {N : List Str} {vs : List V} {ds : List D} (r : Reps K F vs ds) : Slots K F (start N vs) (dstart N ds) := by
  have e := r.length
  unfold L2.start dstart
  rw [e]
  exact slots_append r (slots_none _)
end
structure Ok (K : PySem.W.Frag) (F H : Hp) (σ : L2.St) (S : DS) (G : GH) : Prop where
  g : Gok K F H G
  s : Slots K F σ S
end DL
end
section
set_option Elab.async false
set_option linter.all false
set_option maxRecDepth 100000
set_option maxHeartbeats 4000000
namespace DL
open PySem PySem.Spec PyProof.Rows L2
abbrev DQ := D → GH → Prop
abbrev DTE := DS → GH → DQ → Prop
abbrev DTT := DS → GH → (Bool → GH → Prop) → Prop
abbrev DTA := DS → GH → (List D → GH → Prop) → Prop
structure DEnds where
  nx : DS → GH → Prop
  rt : DQ
  bk : DS → GH → Prop := fun _ _ => False
  ct : DS → GH → Prop := fun _ _ => False
abbrev DTS := DEnds → DS → GH → Prop
def KpE (K : PySem.W.Frag) (F H : Hp) (G : GH) (Q' : DQ) (Q : VK) : Prop := ∀ F' H' v d G', Go F H G F' H' G' → Gok K F' H' G' → Rep K F' v d → Q' d G' → Q v H'
def KpT (K : PySem.W.Frag) (F H : Hp) (G : GH) (Q' : Bool → GH → Prop) (Q : Bool → Hp → Prop) : Prop := ∀ F' H' b G', Go F H G F' H' G' → Gok K F' H' G' → Q' b G' → Q b H'
def KpA (K : PySem.W.Frag) (F H : Hp) (G : GH) (Q' : List D → GH → Prop) (Q : List V → Hp → Prop) : Prop := ∀ F' H' vs ds G', Go F H G F' H' G' → Gok K F' H' G' → Reps K F' vs ds → Q' ds G' → Q vs H'
def KpN (K : PySem.W.Frag) (F H : Hp) (G : GH) (Q' : DS → GH → Prop) (Q : L2.St → Hp → Prop) : Prop := ∀ F' H' σ S G', Go F H G F' H' G' → Ok K F' H' σ S G' → Q' S G' → Q σ H'
structure KpS (K : PySem.W.Frag) (F H : Hp) (G : GH) (D' : DEnds) (D0 : Ends) : Prop where
  nx : KpN K F H G D'.nx D0.nx
  rt : KpE K F H G D'.rt D0.rt
  bk : KpN K F H G D'.bk D0.bk
  ct : KpN K F H G D'.ct D0.ct
section
variable {K : PySem.W.Frag} {F H F1 H1 : Hp} {G G1 : GH}
theorem KpE.mono {Q' : DQ} {Q : VK} (e : Go F H G F1 H1 G1) (h : KpE K F H G Q' Q) : KpE K F1 H1 G1 Q' Q := fun F' H' v d G' a b c q => h F' H' v d G' (e.trans a) b c q
theorem KpT.mono {Q' : Bool → GH → Prop} {Q : Bool → Hp → Prop} (e : Go F H G F1 H1 G1) (h : KpT K F H G Q' Q) : KpT K F1 H1 G1 Q' Q := fun F' H' v G' a b q => h F' H' v G' (e.trans a) b q
theorem KpN.mono {Q' : DS → GH → Prop} {Q : L2.St → Hp → Prop} (e : Go F H G F1 H1 G1) (h : KpN K F H G Q' Q) : KpN K F1 H1 G1 Q' Q := fun F' H' σ S G' a b q => h F' H' σ S G' (e.trans a) b q
theorem KpS.mono {D' : DEnds} {D0 : Ends} (e : Go F H G F1 H1 G1) (h : KpS K F H G D' D0) : KpS K F1 H1 G1 D' D0 := ⟨h.nx.mono e, h.rt.mono e, h.bk.mono e, h.ct.mono e⟩
end
structure DE (X : Cx) (e : Expr) (t' : DTE) : Prop where
  ex : ∃ t, PE X e t ∧ ∀ F H σ S G, Ok X.K F H σ S G → ∀ Q', t' S G Q' → ∀ Q, KpE X.K F H G Q' Q → t σ H Q
structure DT (X : Cx) (e : Expr) (t' : DTT) : Prop where
  ex : ∃ t, PT X e t ∧ ∀ F H σ S G, Ok X.K F H σ S G → ∀ Q', t' S G Q' → ∀ Q, KpT X.K F H G Q' Q → t σ H Q
structure DW (X : Cx) (e : Expr) (t' : DTT) : Prop where
  ex : ∃ t, PW X e t ∧ ∀ F H σ S G, Ok X.K F H σ S G → ∀ Q', t' S G Q' → ∀ Q, KpT X.K F H G Q' Q → t σ H Q
structure DA (X : Cx) (es : List Expr) (t' : DTA) : Prop where
  ex : ∃ t, PA X es t ∧ ∀ F H σ S G, Ok X.K F H σ S G → ∀ Q', t' S G Q' → ∀ Q, KpA X.K F H G Q' Q → t σ H Q
structure DP (X : Cx) (st : Stmt) (t' : DTS) : Prop where
  ex : ∃ t, PS X st t ∧ ∀ F H σ S G, Ok X.K F H σ S G → ∀ D', t' D' S G → ∀ D0, KpS X.K F H G D' D0 → t D0 σ H
structure DPs (X : Cx) (st : List Stmt) (t' : DTS) : Prop where
  ex : ∃ t, PSs X st t ∧ ∀ F H σ S G, Ok X.K F H σ S G → ∀ D', t' D' S G → ∀ D0, KpS X.K F H G D' D0 → t D0 σ H
section
variable {X : Cx} {pos : Pos}
theorem Ok.go {K : PySem.W.Frag} {F H F' H' : Hp} {σ : L2.St} {S : DS} {G G' : GH} (o : Ok K F H σ S G) (e : Go F H G F' H' G') (g : Gok K F' H' G') : Ok K F' H' σ S G' := ⟨g, o.s.mono e.ex⟩
def dVar (i : Nat) : DTE := fun S G Q => match S[i]? with
  | some (some d) => Q d G
  | _ => False
def dC (d : D) : DTE := fun _ G Q => Q d G
theorem de_var (i : Nat) {x : Str} (hN : X.N[i]? = some x := by rfl) (hv : Vis X.env.scope x := by first | exact Or.inl rfl | exact Or.inr (Or.inl rfl) | exact Or.inr (Or.inr rfl)) (hd : (x == ("__debug__" : Str)) = false := by decide)
    (hcd : (x == ("__classdict__" : Str)) = false := by decide) : DE X (.Name x pos) (dVar i) := by
  refine ⟨_, pe_var hN hv hd hcd, fun F H σ S G o Q' h Q k => ?_⟩
  unfold dVar at h
  split at h
  · rename_i d e
    obtain ⟨v, e1, r⟩ := o.s.get e
    exact ⟨v, e1, k F H v d G Go.refl o.g r h⟩
  · exact h.elim
theorem dc_of {e : Expr} {v : V} {d : D} (h : PE X e (tC v)) (r : ∀ F, Rep X.K F v d) : DE X e (dC d) :=
  ⟨_, h, fun F H σ S G o Q' h Q k => k F H v d G Go.refl o.g (r F) h⟩
theorem de_int {i : Int} {j} : DE X (.Constant (.int i) j pos) (dC (.int i)) := dc_of pe_int fun _ => .int i
theorem de_bl {b : Bool} {j} : DE X (.Constant (.bool b) j pos) (dC (.bl b)) := dc_of pe_bl fun _ => .bl b
theorem de_non {j} : DE X (.Constant .none j pos) (dC .non) := dc_of pe_non fun _ => .non
theorem de_str {x : Str} {j} : DE X (.Constant (.str x) j pos) (dC (.str x)) := dc_of pe_str fun _ => .str x
theorem de_gint {x : Str} {i : Int} (hg : Gl X x) (hm : ∃ t, X.mg x = some (.int i t)) (hd : (x == ("__debug__" : Str)) = false := by decide) : DE X (.Name x pos) (dC (.int i)) := by
  obtain ⟨t, hm⟩ := hm
  exact dc_of (pe_glob (v := .int i) hg hm ⟨t, rfl⟩ hd) fun _ => .int i
theorem de_gstr {x z : Str} (hg : Gl X x) (hm : ∃ t, X.mg x = some (.str z t)) (hd : (x == ("__debug__" : Str)) = false := by decide) : DE X (.Name x pos) (dC (.str z)) := by
  obtain ⟨t, hm⟩ := hm
  exact dc_of (pe_glob (v := .str z) hg hm ⟨t, rfl⟩ hd) fun _ => .str z
def dNil : DTA := fun _ G Q => Q [] G
def dCons (ta : DTE) (tr : DTA) : DTA := fun S G Q => ta S G fun d G1 => tr S G1 fun ds G2 => Q (d :: ds) G2
theorem da_nil : DA X [] dNil := ⟨_, pa_nil, fun F H σ S G o Q' h Q k => k F H [] [] G Go.refl o.g .nil h⟩
theorem da_cons {e : Expr} {es : List Expr} {ta : DTE} {tr : DTA} (ha : DE X e ta) (hr : DA X es tr) (hs : starEach (e :: es) X.env = (false, eval e X.env) :: starEach es X.env := by rfl) : DA X (e :: es) (dCons ta tr) := by
  obtain ⟨t1, p1, r1⟩ := ha.ex
  obtain ⟨t2, p2, r2⟩ := hr.ex
  refine ⟨_, pa_cons p1 p2 hs, fun F H σ S G o Q' h Q k => ?_⟩
  refine r1 F H σ S G o _ h _ fun F1 H1 v d G1 e1 g1 q1 h1 => ?_
  refine r2 F1 H1 σ S G1 (o.go e1 g1) _ h1 _ fun F2 H2 vs ds G2 e2 g2 q2 h2 => ?_
  exact k F2 H2 _ _ G2 (e1.trans e2) g2 (.cons (q1.mono e2.ex) q2) h2
def dTup (ta : DTA) : DTE := fun S G Q => ta S G fun ds G1 => ds.length ≤ sizeLine ∧ Q (.tup ds) G1
theorem de_tup {es : List Expr} {ta : DTA} {x1} (h : DA X es ta) : DE X (.Tuple es x1 pos) (dTup ta) := by
  obtain ⟨t, p, r⟩ := h.ex
  refine ⟨_, pe_tup p, fun F H σ S G o Q' h Q k => ?_⟩
  refine r F H σ S G o _ h _ fun F1 H1 vs ds G1 e1 g1 q1 h1 => ?_
  refine ⟨q1.length ▸ h1.1, fun p hp => ?_⟩
  have gr : Gr F1 H1 (upd F1 p (.tup vs)) (upd H1 p (.tup vs)) := Gr.new g1.ex hp
  exact k _ _ _ _ G1 (e1.trans gr.go) (g1.grow gr) (.tup upd_same (q1.mono gr.ff)) h1.2
/-- a list as it is written: frozen -/
def dLst (ta : DTA) : DTE := fun S G Q => ta S G fun ds G1 => ds.length ≤ sizeLine ∧ Q (.lst ds) G1
theorem de_lst {es : List Expr} {ta : DTA} (h : DA X es ta) : DE X (.List es pos) (dLst ta) := by
  obtain ⟨t, p, r⟩ := h.ex
  refine ⟨_, pe_lst p, fun F H σ S G o Q' h Q k => ?_⟩
  refine r F H σ S G o _ h _ fun F1 H1 vs ds G1 e1 g1 q1 h1 => ?_
  refine ⟨q1.length ▸ h1.1, fun p hp => ?_⟩
  have gr : Gr F1 H1 (upd F1 p (.lst vs)) (upd H1 p (.lst vs)) := Gr.new g1.ex hp
  exact k _ _ _ _ G1 (e1.trans gr.go) (g1.grow gr) (.lst upd_same (q1.mono gr.ff)) h1.2
/-- .. that may change -/
def dLstM (ta : DTA) : DTE := fun S G Q => ta S G fun ds G1 => ds.length ≤ sizeLine ∧ ∀ p, G1 p = none → Q (.rf p) (gput G1 p (.lst ds))
theorem de_lstM {es : List Expr} {ta : DTA} (h : DA X es ta) : DE X (.List es pos) (dLstM ta) := by
  obtain ⟨t, p, r⟩ := h.ex
  refine ⟨_, pe_lst p, fun F H σ S G o Q' h Q k => ?_⟩
  refine r F H σ S G o _ h _ fun F1 H1 vs ds G1 e1 g1 q1 h1 => ?_
  refine ⟨q1.length ▸ h1.1, fun p hp => ?_⟩
  exact k _ _ _ _ _ (e1.trans (Go.alloc hp)) (g1.alloc (o := .lst ds) hp rfl ⟨vs, upd_same, q1⟩) (.rf p) (h1.2 p (g1.free hp))
def MO.cold : MO → Option D
  | .lst xs => some (.lst xs)
  | .dK kds => some (.dK kds)
  | .dT kds => some (.dT kds)
  | .ins C kds => some (.obj C kds)
  | .deck _ _ _ _ => none
  | .dcell => none
  | .lkT _ _ _ => none
  | .lkK _ _ _ => none
  | .dN _ _ => none
  | .lkN _ _ _ _ => none
  | .tupU _ _ _ => none
theorem Gok.cold {K : PySem.W.Frag} {F H : Hp} {G : GH} (g : Gok K F H G) {p : Addr} {o : MO} {d : D} (h : G p = some o) (hc : o.cold = some d) : ∃ F', Go F H G F' H (gdel G p) ∧ Gok K F' H (gdel G p) ∧ Rep K F' (.ref p) d := by
  obtain ⟨fp, m⟩ := g.at_ p o h
  cases o with
  | lst xs =>
    obtain ⟨vs, e, r⟩ := m
    obtain ⟨g', ef⟩ := g.freeze h rfl e
    cases hc
    exact ⟨_, ef, g', .lst upd_same (r.mono ef.ex)⟩
  | dK kds =>
    obtain ⟨vs, e, l, r⟩ := m
    obtain ⟨g', ef⟩ := g.freeze h rfl e
    cases hc
    exact ⟨_, ef, g', .dK upd_same l (r.mono ef.ex)⟩
  | dT kds =>
    obtain ⟨vs, e, l, r⟩ := m
    obtain ⟨g', ef⟩ := g.freeze h rfl e
    cases hc
    exact ⟨_, ef, g', .dT upd_same l (r.mono ef.ex)⟩
  | ins C kds =>
    obtain ⟨dx, vs, e, l, r⟩ := m
    obtain ⟨g', ef⟩ := g.freeze h rfl e
    cases hc
    exact ⟨_, ef, g', .obj upd_same l (r.mono ef.ex)⟩
  | deck k1 k2 k3 n => cases hc
  | dcell => cases hc
  | lkT o kvs kds => cases hc
  | lkK o kvs kds => cases hc
  | dN w kds => cases hc
  | lkN w o xs kds => cases hc
  | tupU o vs ds => cases hc
/-- the value, frozen from here on -/
def dCold (ta : DTE) : DTE := fun S G Q => ta S G fun d G1 => match d with
  | .rf a => (match G1 a with
    | some o => (match o.cold with
      | some d => Q d (gdel G1 a)
      | none => False)
    | none => False)
  | d => Q d G1
theorem de_cold {e : Expr} {ta : DTE} (h : DE X e ta) : DE X e (dCold ta) := by
  obtain ⟨t, p, r⟩ := h.ex
  refine ⟨t, p, fun F H σ S G o Q' h Q k => ?_⟩
  refine r F H σ S G o _ h _ fun F1 H1 v d G1 e1 g1 q1 h1 => ?_
  dsimp only at h1
  split at h1
  · rename_i a
    split at h1
    · rename_i o eo
      split at h1
      · rename_i d ed
        obtain ⟨F2, e2, g2, r2⟩ := g1.cold eo ed
        cases q1
        exact k F2 H1 _ _ _ (e1.trans e2) g2 r2 h1
      · exact h1.elim
    · exact h1.elim
  · exact k F1 H1 v _ G1 e1 g1 q1 h1
end
end DL
end
section
set_option Elab.async false
set_option linter.all false
set_option maxRecDepth 100000
set_option maxHeartbeats 4000000
namespace DL
open PySem PySem.Spec PyProof.Rows L2
structure FnG (P : Program) (w : World) (K : PySem.W.Frag) (mg : Str → Option Value) (base : Heap) (CX : CXT) (k : Nat) (f : Addr) (fd : FuncData) (ps : List Str) (sp : Sp) : Prop where
  many : ∀ vs H Q E, sp vs H Q E → vs.length = ps.length
  goes : ∀ (A : Around) (outer : List Env) (s : Shared) (H : Hp) (args : Args) (us : List Value) (vs : List V) (Q : VK) (E : XK),
    A.guards = some [] → Room k A → Env0 P w K mg base A outer s H → BindsTo s fd args (ps.zip us) → Vals vs us → sp vs H Q E →
      codeAny (model P w) A (.call (.ref f) args) (CR CX outer P w H s Q E) s
theorem deeper_guards {A : Around} {env : Env} (h : A.guards = some []) : (A.deeper env).guards = some [] := by
  first
  | exact h
  | simpa [Around.deeper] using h
section
variable {P : Program} {w : World} {K : PySem.W.Frag} {mg : Str → Option Value} {base : Heap} {CX : CXT}
/-- a def keeps its promise: by its body -/
theorem fng_of {k : Nat} {f : Addr} {name qual : Str} {params : Arguments} {body : List Stmt} {scope : Scope} {dV kV doc pm cdv ct oc : Value} {an od : Option Addr} {osl : Array (Option Value)} {N ps : List Str} {sp : Sp}
    (lk : K.lookup f = some ⟨oc, od, .func (PySem.W.fnOf name qual params body scope dV kV doc pm an cdv ct), osl⟩)
    (hcd : PySem.W.codeIn K cdv qual = true) (S : FnScope N ps scope) (len : ∀ vs H Q E, sp vs H Q E → vs.length = ps.length)
    (hb : ∀ (A : Around) (outer : List Env) (s : Shared) (H : Hp) (vs : List V) (Q : VK) (E : XK), A.guards = some [] → Room k (A.deeper (envOfC qual scope s.heap.objs.size f cdv)) → sp vs H Q E →
      ∃ t, PSs (cxOf CX P w K mg base N qual scope f cdv A outer s H E) body t ∧ t ⟨fun _ H' => Q .non H', Q, fun _ _ => False, fun _ _ => False⟩ (start N vs) H) :
    FnG P w K mg base CX (k + 1) f (PySem.W.fnOf name qual params body scope dV kV doc pm an cdv ct) ps sp := by
  refine ⟨len, fun A outer s H args us vs Q E hg hr e0 bd r hsp => ?_⟩
  have many := len vs H Q E hsp
  have inn : K.In s.heap := e0.mod.kin.keeps fun a u z => (e0.bs a u z).1
  have nol : s.heap.NoLimit := e0.mod.nolimit.keeps fun a u z => (e0.bs a u z).1
  have kinds : ∀ y ∈ ps.zip us, scope.names.lookup y.1 = some .local ∨ (scope.names.lookup y.1 = some .cell ∧ ((cellsFrom (s.heap.objs.size + 1) scope.names []).lookup y.1).isSome = true) := by
    rintro ⟨n, v⟩ hy
    have hm := (List.of_mem_zip hy).1
    rcases S.par n hm with z | z
    · left; exact z
    · right; exact ⟨z, PySem.W.cellsFrom_some _ _ _ (Or.inl z)⟩
  refine codeAny_call_function hr.depth (inn _ _ lk) rfl S.co S.gen rfl (PySem.W.codeRec_of inn hcd) (bd _ _ _ _ ?_)
  refine wpAny_newFunctionEnv_cells S.kind kinds ?_
  rintro env rfl s1 x
  refine ⟨nol.keeps x.toInCall.keep, codeAny_func ?_⟩
  obtain ⟨t, ht, q⟩ := hb A outer s H vs Q E hg (hr.deeper _) hsp
  have J : Inv (cxOf CX P w K mg base N qual scope f cdv A outer s H E) [] (start N vs) H s1 := inv_start S hr.hd e0 many r x
  refine wpAny_mono (ht.run [] s1 (start N vs) H _ J q) ?_ (fun e s' z => z)
  intro fl s' z
  cases fl with
  | ret u =>
    obtain ⟨v, σ', H', J', rv, q'⟩ := z
    exact ⟨v, H', J'.os, J'.bare, J'.base, J'.hok, rv, q'⟩
  | next =>
    obtain ⟨σ', H', J', q'⟩ := z
    exact ⟨V.non, H', J'.os, J'.bare, J'.base, J'.hok, rfl, q'⟩
  | brk =>
    obtain ⟨_, _, _, q'⟩ := z
    exact q'.elim
  | cont =>
    obtain ⟨_, _, _, q'⟩ := z
    exact q'.elim
end
section
variable {X : Cx} {CX : CXT} {k : Nat} {f C : Addr} {fd : FuncData} {ps ks : List Str} {sp : Sp} {E : XK} {x m : Str} {p pos apos : Pos} {e o : Expr} {es : List Expr} {kws : List Keyword} {ta : TE} {t tk : TA}
  {dvs : List V} {ds : List Value} {g : List Value → List Value → List Value} {gV : List V → List V → List V}
theorem goes_fn {pins : List (Addr × Obj)} {σ : L2.St} {H : Hp} {s : Shared} {Q : VK} {us ws : List Value} {zs : List V} (F : FnG X.prog X.w X.K X.mg X.base CX k f fd ps sp) (hA : X.A.guards = some []) (hr : Room k X.A)
    (kw : List (Str × Value)) (bd : ∀ s : Shared, X.K.In s.heap → ws.length = ps.length → BindsTo s fd ⟨us, kw⟩ (ps.zip ws)) (hx : Passes CX X E)
    (I : Inv X pins σ H s) (r : Vals zs ws) (h : sp zs H Q E) : wpAny (model X.prog X.w) X.A (call (.ref f) us kw) (EP X pins σ Q) X.xe s := by
  have many : ws.length = ps.length := r.length ▸ F.many zs H Q E h
  refine wpAny_call (codeAny_mono (F.goes X.A X.stack s H ⟨us, kw⟩ ws zs Q E hA hr I.env0 (bd s I.kIn many) r h) ?_)
  intro res s' z
  match res, z with
  | .error er, z => exact hx pins σ H s er s' I z
  | .ok (.ret u), z => exact I.after z
  | .ok .next, z => exact z.elim
  | .ok .brk, z => exact z.elim
  | .ok .cont, z => exact z.elim
theorem pg_call (F : FnG X.prog X.w X.K X.mg X.base CX k f fd ps sp) (hA : X.A.guards = some []) (hr : Room k X.A) (hg : Gl X x) (hm : X.mg x = some (.ref f)) (hk : PySem.W.keepIn X.K (.ref f) = true) (hb : Binds X.K fd ps ds) (hd : Vals dvs ds) (hx : Passes CX X E)
    (ha : PA X (e :: es) t) (hdb : (x == ("__debug__" : Str)) = false) (he : starEach (e :: es) X.env = (false, eval e X.env) :: starEach es X.env) (hpl : (backTo pos (starEach es X.env)).any (·.1) = false) :
    PE X (.Call (.Name x p) (e :: es) [] pos) (tCall sp dvs E t) := by
  constructor
  intro pins s σ H Q I h
  apply wpAny_Call_Name_kw
  refine ld_glob I hg hm ?_ hdb
  refine PySem.W.callWith_K (h₀ := X.base) I.ok.mod.kin hk (thn (ha.run pos pins s σ H _ I h) ?_) he hpl
  rintro us s1 ⟨vs, H1, I1, r, q⟩
  exact ⟨I1.kIn, goes_fn F hA hr [] (fun s2 i l => hb s2 us i l) hx I1 (r.append hd) q⟩
theorem pg_meth {pl : Sem Bool} (he : PE X o ta) (c : Cls X.K C) (hm : Meth X.K C m f) (F : FnG X.prog X.w X.K X.mg X.base CX k f fd ps sp) (hA : X.A.guards = some []) (hr : Room k X.A) (hb : Binds X.K fd ps ds) (hd : Vals dvs ds) (hx : Passes CX X E) (ha : PA X (e :: es) t)
    (hst : starEach (e :: es) X.env = (false, eval e X.env) :: starEach es X.env) (hpl : (backTo pos (starEach es X.env)).any (·.1) = false)
    (ht : eval (.Call (.Attribute o m apos) (e :: es) [] pos) X.env = (do let ov ← eval o X.env; standAt apos.atName; let (f, first) ← holding [ov] (getMethod ov m pl); callWith pos f first (backTo pos (starEach (e :: es) X.env)) (backToKw pos (keywordEach [] X.env)))) :
    PE X (.Call (.Attribute o m apos) (e :: es) [] pos) (tMeth C m sp dvs E ta t) := by
  constructor
  intro pins s σ H Q I h
  refine PySem.W.methodCall_KW (pl := pl) (thn (he.run pins s σ H _ I h) ?_) ht
  rintro u s1 ⟨y, H1, I1, rx, a, dx, fs, rfl, ea, l, q⟩
  obtain rfl : u = Value.ref a := rx
  refine getmeth_ok I1 ea c hm l ?_
  refine PySem.W.callWith_K (first := [.ref a]) (h₀ := X.base) I.ok.mod.kin hm.kp (thn (ha.run pos pins s1 σ H1 _ I1 q) ?_) hst hpl
  rintro us s2 ⟨vs, H2, I2, r, q2⟩
  exact ⟨I2.kIn, goes_fn (us := .ref a :: us) F hA hr [] (fun s3 i lg => hb s3 (.ref a :: us) i lg) hx I2 (Vals.append (xs := .ref a :: vs) (us := .ref a :: us) (.cons rfl r) hd) q2⟩
theorem pg_meth0 {pl : Sem Bool} (he : PE X o ta) (c : Cls X.K C) (hm : Meth X.K C m f) (F : FnG X.prog X.w X.K X.mg X.base CX k f fd ps sp) (hA : X.A.guards = some []) (hr : Room k X.A) (hb : Binds X.K fd ps ds) (hd : Vals dvs ds) (hx : Passes CX X E)
    (ht : eval (.Call (.Attribute o m apos) [] [] pos) X.env = (do let ov ← eval o X.env; standAt apos.atName; let (f, first) ← holding [ov] (getMethod ov m pl); callWith pos f first (backTo pos (starEach [] X.env)) (backToKw pos (keywordEach [] X.env)))) :
    PE X (.Call (.Attribute o m apos) [] [] pos) (tMeth C m sp dvs E ta tNil) := by
  constructor
  intro pins s σ H Q I h
  refine PySem.W.methodCall_KW (pl := pl) (thn (he.run pins s σ H _ I h) ?_) ht
  rintro u s1 ⟨y, H1, I1, rx, a, dx, fs, rfl, ea, l, q⟩
  obtain rfl : u = Value.ref a := rx
  refine getmeth_ok I1 ea c hm l ?_
  exact PySem.W.callWith_K0 (first := [.ref a]) I1.kIn hm.kp (goes_fn (us := [.ref a]) F hA hr [] (fun s3 i lg => hb s3 [.ref a] i lg) hx I1 (Vals.append (xs := [.ref a]) (us := [.ref a]) (.cons rfl .nil) hd) q)
theorem under_guards {A : Around} {us : List Value} {kw : List (Str × Value)} (h : A.guards = some []) : (A.under (.builtin "type.__call__" ⟨.ref C :: us, kw⟩)).guards = some [] := by
  simp [Around.under, Code.guards, Code.isGuard, guardIds, pushGuards, h]
theorem goes_make {pins : List (Addr × Obj)} {σ : L2.St} {H : Hp} {s : Shared} {Q : VK} {us : List Value} {vs : List V} (M : Mk X.K C f) (F : FnG X.prog X.w X.K X.mg X.base CX k f fd ps sp) (hA : X.A.guards = some []) (hr : Room (k + 1) X.A) (hb : Binds X.K fd ps ds) (hd : Vals dvs ds)
    (hx : Passes CX X E) (I : Inv X pins σ H s) (r : Vals vs us)
    (h : ∀ y dy, H y = none → H dy = none → dy ≠ y → sp (.ref y :: (vs ++ dvs)) (upd (upd H dy (.own y)) y (.ins C dy [])) (fun v H2 => v = .non ∧ Q (.ref y) H2) E) :
    wpAny (model X.prog X.w) X.A (call (.ref C) us) (EP X pins σ Q) X.xe s := by
  have nw : H (s.heap.objs.size + 1) = none := I.hok.fresh (Nat.le_succ _)
  have nd : H s.heap.objs.size = none := I.hok.fresh (Nat.le_refl _)
  have q0 := h (s.heap.objs.size + 1) s.heap.objs.size nw nd (Nat.ne_of_lt (Nat.lt_succ_self _))
  have J := Inv.made (C := C) I
  have r2 : Vals (V.ref (s.heap.objs.size + 1) :: (vs ++ dvs)) (Value.ref (s.heap.objs.size + 1) :: (us ++ ds)) := Paired.cons rfl (r.append hd)
  have lg : (Value.ref (s.heap.objs.size + 1) :: us ++ ds).length = ps.length := by
    have z := r2.length
    rw [F.many _ _ _ _ q0] at z
    exact z.symm
  refine wpAny_call (make_map (f := f) I.kIn M.makes M.init (beq_iff_eq.mp M.fn) (codeAny_mono (F.goes _ X.stack _ _ ⟨Value.ref (s.heap.objs.size + 1) :: us, []⟩ (Value.ref (s.heap.objs.size + 1) :: (us ++ ds)) _ _ E (under_guards hA) (hr.make C us [])
    (J.env0.make C us []) (hb _ (Value.ref (s.heap.objs.size + 1) :: us) J.kIn lg) r2 q0) ?_))
  intro res s' z
  match res, z with
  | .error er, z => exact hx pins σ _ _ er s' J z
  | .ok (.ret u), z =>
    obtain ⟨v, H', J', rv, ev, q3⟩ := J.after z
    subst ev
    exact ⟨rv, ⟨V.ref (s.heap.objs.size + 1), H', J', rfl, q3⟩⟩
  | .ok .next, z => exact z.elim
  | .ok .brk, z => exact z.elim
  | .ok .cont, z => exact z.elim
theorem pg_make (M : Mk X.K C f) (F : FnG X.prog X.w X.K X.mg X.base CX k f fd ps sp) (hA : X.A.guards = some []) (hr : Room (k + 1) X.A) (hg : Gl X x) (hm : X.mg x = some (.ref C)) (hb : Binds X.K fd ps ds) (hd : Vals dvs ds) (hx : Passes CX X E)
    (ha : PA X (e :: es) t) (hdb : (x == ("__debug__" : Str)) = false) (he : starEach (e :: es) X.env = (false, eval e X.env) :: starEach es X.env) (hpl : (backTo pos (starEach es X.env)).any (·.1) = false) :
    PE X (.Call (.Name x p) (e :: es) [] pos) (tMake C sp dvs E t) := by
  constructor
  intro pins s σ H Q I h
  apply wpAny_Call_Name_kw
  refine ld_glob I hg hm ?_ hdb
  refine PySem.W.callWith_K (h₀ := X.base) I.ok.mod.kin M.kp (thn (ha.run pos pins s σ H _ I h) ?_) he hpl
  rintro us s1 ⟨vs, H1, I1, r, q⟩
  exact ⟨I1.kIn, goes_make M F hA hr hb hd hx I1 r q⟩
end
end DL
end
section
set_option Elab.async false
set_option linter.all false
set_option maxRecDepth 100000
set_option maxHeartbeats 4000000
namespace DL
open PySem PySem.Spec PyProof.Rows L2
section
variable {X : Cx} {pos : Pos}
abbrev DR2 := D → D → GH → DQ → Prop
abbrev DR1 := D → GH → DQ → Prop
structure OpD (X : Cx) (f : Value → Value → Sem Value) (r' : DR2) : Prop where
  ex : ∃ r, OpR X f r ∧ ∀ F H G x y dx dy, Gok X.K F H G → Rep X.K F x dx → Rep X.K F y dy → ∀ Q', r' dx dy G Q' → ∀ Q, KpE X.K F H G Q' Q → r x y H Q
structure UnD (X : Cx) (f : Value → Sem Value) (r' : DR1) : Prop where
  ex : ∃ r, UnR X f r ∧ ∀ F H G x dx, Gok X.K F H G → Rep X.K F x dx → ∀ Q', r' dx G Q' → ∀ Q, KpE X.K F H G Q' Q → r x H Q
structure CallD (X : Cx) (f : Value) (r' : List D → GH → DQ → Prop) : Prop where
  ex : ∃ r, CallR X f r ∧ ∀ F H G vs ds, Gok X.K F H G → Reps X.K F vs ds → ∀ Q', r' ds G Q' → ∀ Q, KpE X.K F H G Q' Q → r vs H Q
def dOp (r : DR2) (ta tb : DTE) : DTE := fun S G Q => ta S G fun x G1 => tb S G1 fun y G2 => r x y G2 Q
def dUn (r : DR1) (ta : DTE) : DTE := fun S G Q => ta S G fun x G1 => r x G1 Q
theorem dop_of {a b : Expr} {ta tb : DTE} {r : R2} {r' : DR2} (hr : ∀ F H G x y dx dy, Gok X.K F H G → Rep X.K F x dx → Rep X.K F y dy → ∀ Q', r' dx dy G Q' → ∀ Q, KpE X.K F H G Q' Q → r x y H Q)
    {t1 t2 : TE} (r1 : ∀ F H σ S G, Ok X.K F H σ S G → ∀ Q', ta S G Q' → ∀ Q, KpE X.K F H G Q' Q → t1 σ H Q) (r2 : ∀ F H σ S G, Ok X.K F H σ S G → ∀ Q', tb S G Q' → ∀ Q, KpE X.K F H G Q' Q → t2 σ H Q) :
    ∀ F H σ S G, Ok X.K F H σ S G → ∀ Q', dOp r' ta tb S G Q' → ∀ Q, KpE X.K F H G Q' Q → tOp r t1 t2 σ H Q := fun F H σ S G o Q' h Q k => by
  refine r1 F H σ S G o _ h _ fun F1 H1 v d G1 e1 g1 q1 h1 => ?_
  refine r2 F1 H1 σ S G1 (o.go e1 g1) _ h1 _ fun F2 H2 u d2 G2 e2 g2 q2 h2 => ?_
  exact hr F2 H2 G2 v u d d2 g2 (q1.mono e2.ex) q2 Q' h2 Q (k.mono (e1.trans e2))
theorem de_op {op : Operator} {r' : DR2} {a b : Expr} {ta tb : DTE} (ho : OpD X (binaryOp op) r') (ha : DE X a ta) (hb : DE X b tb) : DE X (.BinOp a op b pos) (dOp r' ta tb) := by
  obtain ⟨r, p, hr⟩ := ho.ex
  obtain ⟨t1, p1, r1⟩ := ha.ex
  obtain ⟨t2, p2, r2⟩ := hb.ex
  exact ⟨_, pe_op p p1 p2, dop_of (a := a) (b := b) hr r1 r2⟩
theorem de_cmp {op : CmpOp} {r' : DR2} {a b : Expr} {ta tb : DTE} (ho : OpD X (compareOp op) r') (ha : DE X a ta) (hb : DE X b tb) (hm : behindInMarks op b = false) : DE X (.Compare a [op] [b] pos) (dOp r' ta tb) := by
  obtain ⟨r, p, hr⟩ := ho.ex
  obtain ⟨t1, p1, r1⟩ := ha.ex
  obtain ⟨t2, p2, r2⟩ := hb.ex
  exact ⟨_, pe_cmpR p p1 p2 hm, dop_of (a := a) (b := b) hr r1 r2⟩
theorem de_un {op : UnaryOp} {r' : DR1} {a : Expr} {ta : DTE} (ho : UnD X (unaryOp op) r') (ha : DE X a ta) : DE X (.UnaryOp op a pos) (dUn r' ta) := by
  obtain ⟨r, p, hr⟩ := ho.ex
  obtain ⟨t1, p1, r1⟩ := ha.ex
  refine ⟨_, pe_un p p1, fun F H σ S G o Q' h Q k => ?_⟩
  refine r1 F H σ S G o _ h _ fun F1 H1 v d G1 e1 g1 q1 h1 => ?_
  exact hr F1 H1 G1 v d g1 q1 Q' h1 Q (k.mono e1)
/-- a value that is a bool, as a test -/
def dTest (ta : DTE) : DTT := fun S G Q => ta S G fun d G1 => match d with
  | .bl b => Q b G1
  | _ => False
theorem dt_cmp {op : CmpOp} {r' : DR2} {a b : Expr} {ta tb : DTE} (ho : OpD X (compareOp op) r') (ha : DE X a ta) (hb : DE X b tb) (hm : behindInMarks op b = false) : DT X (.Compare a [op] [b] pos) (dTest (dOp r' ta tb)) := by
  obtain ⟨r, p, hr⟩ := ho.ex
  obtain ⟨t1, p1, r1⟩ := ha.ex
  obtain ⟨t2, p2, r2⟩ := hb.ex
  refine ⟨_, pt_cmpR p p1 p2 hm, fun F H σ S G o Q' h Q k => ?_⟩
  refine dop_of (a := a) (b := b) hr r1 r2 F H σ S G o _ h _ fun F1 H1 v d G1 e1 g1 q1 h1 => ?_
  dsimp only at h1
  split at h1
  · cases q1
    exact ⟨_, rfl, k F1 H1 _ G1 e1 g1 h1⟩
  · exact h1.elim
theorem dt_val {e : Expr} {ta : DTE} (h : DE X e ta) (he : ∀ whole, isTrue e X.env whole = (do let v ← whole; standAt e.pos; holding [v] (truthy v)) := by intro _; rfl) : DT X e (dTest ta) := by
  obtain ⟨t1, p1, r1⟩ := h.ex
  refine ⟨_, pt_val p1 he, fun F H σ S G o Q' h Q k => ?_⟩
  refine r1 F H σ S G o _ h _ fun F1 H1 v d G1 e1 g1 q1 h1 => ?_
  dsimp only at h1
  split at h1
  · cases q1
    exact ⟨_, rfl, k F1 H1 _ G1 e1 g1 h1⟩
  · exact h1.elim
def dNot (t : DTT) : DTT := fun S G Q => t S G fun b G1 => Q (!b) G1
theorem dt_not {a : Expr} {t' : DTT} (h : DT X a t') : DT X (.UnaryOp .Not a pos) (dNot t') := by
  obtain ⟨t1, p1, r1⟩ := h.ex
  exact ⟨_, pt_not p1, fun F H σ S G o Q' h Q k => r1 F H σ S G o _ h _ fun F1 H1 b G1 e1 g1 h1 => k F1 H1 _ G1 e1 g1 h1⟩
theorem DW.dt {e : Expr} {t' : DTT} (h : DW X e t') : DT X e t' := by
  obtain ⟨t1, p1, r1⟩ := h.ex
  exact ⟨_, p1.pt, r1⟩
def dAnd (t u : DTT) : DTT := fun S G Q => t S G fun b G1 => if b = true then u S G1 Q else Q false G1
def dOr (t u : DTT) : DTT := fun S G Q => t S G fun b G1 => if b = true then Q true G1 else u S G1 Q
theorem dw_and1 {a : Expr} {t' : DTT} (h : DT X a t') : DW X (.BoolOp .And [a] pos) t' := by
  obtain ⟨t1, p1, r1⟩ := h.ex
  exact ⟨_, pw_and1 p1, r1⟩
theorem dw_or1 {a : Expr} {t' : DTT} (h : DT X a t') : DW X (.BoolOp .Or [a] pos) t' := by
  obtain ⟨t1, p1, r1⟩ := h.ex
  exact ⟨_, pw_or1 p1, r1⟩
theorem dw_and {a b : Expr} {rest : List Expr} {t' u' : DTT} (h : DT X a t') (h2 : DW X (.BoolOp .And (b :: rest) pos) u') : DW X (.BoolOp .And (a :: b :: rest) pos) (dAnd t' u') := by
  obtain ⟨t1, p1, r1⟩ := h.ex
  obtain ⟨t2, p2, r2⟩ := h2.ex
  refine ⟨_, pw_and p1 p2, fun F H σ S G o Q' h Q k => ?_⟩
  refine r1 F H σ S G o _ h _ fun F1 H1 b G1 e1 g1 h1 => ?_
  cases b with
  | true =>
    rw [if_pos rfl] at h1 ⊢
    exact r2 F1 H1 σ S G1 (o.go e1 g1) _ h1 _ (k.mono e1)
  | false =>
    rw [if_neg Bool.false_ne_true] at h1 ⊢
    exact k F1 H1 _ G1 e1 g1 h1
theorem dw_or {a b : Expr} {rest : List Expr} {t' u' : DTT} (h : DT X a t') (h2 : DW X (.BoolOp .Or (b :: rest) pos) u') : DW X (.BoolOp .Or (a :: b :: rest) pos) (dOr t' u') := by
  obtain ⟨t1, p1, r1⟩ := h.ex
  obtain ⟨t2, p2, r2⟩ := h2.ex
  refine ⟨_, pw_or p1 p2, fun F H σ S G o Q' h Q k => ?_⟩
  refine r1 F H σ S G o _ h _ fun F1 H1 b G1 e1 g1 h1 => ?_
  cases b with
  | true =>
    rw [if_pos rfl] at h1 ⊢
    exact k F1 H1 _ G1 e1 g1 h1
  | false =>
    rw [if_neg Bool.false_ne_true] at h1 ⊢
    exact r2 F1 H1 σ S G1 (o.go e1 g1) _ h1 _ (k.mono e1)
def dIf (t : DTT) (ta tb : DTE) : DTE := fun S G Q => t S G fun b G1 => if b = true then ta S G1 Q else tb S G1 Q
theorem de_if {c a b : Expr} {t' : DTT} {ta tb : DTE} (hc : DT X c t') (ha : DE X a ta) (hb : DE X b tb) : DE X (.IfExp c a b pos) (dIf t' ta tb) := by
  obtain ⟨t0, p0, r0⟩ := hc.ex
  obtain ⟨t1, p1, r1⟩ := ha.ex
  obtain ⟨t2, p2, r2⟩ := hb.ex
  refine ⟨_, pe_ifExp p0 p1 p2, fun F H σ S G o Q' h Q k => ?_⟩
  refine r0 F H σ S G o _ h _ fun F1 H1 b G1 e1 g1 h1 => ?_
  cases b with
  | true =>
    rw [if_pos rfl] at h1 ⊢
    exact r1 F1 H1 σ S G1 (o.go e1 g1) _ h1 _ (k.mono e1)
  | false =>
    rw [if_neg Bool.false_ne_true] at h1 ⊢
    exact r2 F1 H1 σ S G1 (o.go e1 g1) _ h1 _ (k.mono e1)
/-- and, or, not as values: bools -/
def dAndV (ta tb : DTE) : DTE := fun S G Q => ta S G fun d G1 => match d with
  | .bl b => if b = true then tb S G1 Q else Q (.bl false) G1
  | _ => False
def dOrV (ta tb : DTE) : DTE := fun S G Q => ta S G fun d G1 => match d with
  | .bl b => if b = true then Q (.bl true) G1 else tb S G1 Q
  | _ => False
def dNotV (ta : DTE) : DTE := fun S G Q => ta S G fun d G1 => match d with
  | .bl b => Q (.bl (!b)) G1
  | _ => False
theorem de_one {op} {a : Expr} {ta : DTE} (h : DE X a ta) : DE X (.BoolOp op [a] pos) ta := by
  obtain ⟨t1, p1, r1⟩ := h.ex
  exact ⟨_, pe_one p1, r1⟩
theorem de_and {a b : Expr} {rest : List Expr} {ta tb : DTE} (ha : DE X a ta) (hb : DE X (.BoolOp .And (b :: rest) pos) tb) : DE X (.BoolOp .And (a :: b :: rest) pos) (dAndV ta tb) := by
  obtain ⟨t1, p1, r1⟩ := ha.ex
  obtain ⟨t2, p2, r2⟩ := hb.ex
  refine ⟨_, pe_and p1 p2, fun F H σ S G o Q' h Q k => ?_⟩
  refine r1 F H σ S G o _ h _ fun F1 H1 v d G1 e1 g1 q1 h1 => ?_
  dsimp only at h1
  split at h1
  · rename_i b0
    cases q1
    refine ⟨b0, rfl, ?_⟩
    cases b0 with
    | true =>
      rw [if_pos rfl] at h1 ⊢
      exact r2 F1 H1 σ S G1 (o.go e1 g1) _ h1 _ (k.mono e1)
    | false =>
      rw [if_neg Bool.false_ne_true] at h1 ⊢
      exact k F1 H1 _ _ G1 e1 g1 (.bl _) h1
  · exact h1.elim
theorem de_not {a : Expr} {ta : DTE} (ha : DE X a ta) : DE X (.UnaryOp .Not a pos) (dNotV ta) := by
  obtain ⟨t1, p1, r1⟩ := ha.ex
  refine ⟨_, pe_not p1, fun F H σ S G o Q' h Q k => ?_⟩
  refine r1 F H σ S G o _ h _ fun F1 H1 v d G1 e1 g1 q1 h1 => ?_
  dsimp only at h1
  split at h1
  · rename_i b0
    cases q1
    exact ⟨b0, rfl, k F1 H1 _ _ G1 e1 g1 (.bl _) h1⟩
  · exact h1.elim
abbrev DTG := D → DS → GH → (DS → GH → Prop) → Prop
abbrev DTGs := List D → DS → GH → (DS → GH → Prop) → Prop
structure DG (X : Cx) (tg : Expr) (g' : DTG) : Prop where
  ex : ∃ g, PG X tg g ∧ ∀ F H σ S G v d, Ok X.K F H σ S G → Rep X.K F v d → ∀ Q', g' d S G Q' → ∀ Q, KpN X.K F H G Q' Q → g v σ H Q
structure DGs (X : Cx) (tgs : List Expr) (g' : DTGs) : Prop where
  ex : ∃ g, PGs X tgs g ∧ ∀ F H σ S G vs ds, Ok X.K F H σ S G → Reps X.K F vs ds → ∀ Q', g' ds S G Q' → ∀ Q, KpN X.K F H G Q' Q → g vs σ H Q
def dgName (i : Nat) : DTG := fun d S G Q => Q (S.set i (some d)) G
theorem dg_name (i : Nat) {x : Str} (hN : X.N.Nodup) (hi : X.N[i]? = some x := by rfl) (hx : Loc X.env.scope x := by first | exact Or.inl rfl | exact Or.inr rfl) (hf : X.fn x = true ∨ X.env.scope.names.lookup x = some .local := by first | exact .inl rfl | exact .inr rfl | assumption) : DG X (.Name x pos) (dgName i) :=
  ⟨_, pg_name (i := i) hN hi hx hf, fun F H σ S G v d o r Q' h Q k => k F H _ _ G Go.refl ⟨o.g, o.s.set r i⟩ h⟩
def dgNil : DTGs := fun ds S G Q => match ds with
  | [] => Q S G
  | _ => False
def dgCons (t : DTG) (u : DTGs) : DTGs := fun ds S G Q => match ds with
  | d :: r => t d S G fun S1 G1 => u r S1 G1 Q
  | _ => False
theorem dgs_nil : DGs X [] dgNil := ⟨_, pgs_nil, fun F H σ S G vs ds o r Q' h Q k => by
  cases r with
  | nil => exact ⟨rfl, k F H σ S G Go.refl o h⟩
  | cons a b => exact h.elim⟩
theorem dgs_cons {e : Expr} {es : List Expr} {t : DTG} {u : DTGs} (h1 : DG X e t) (h2 : DGs X es u) (hs : (assignEach (e :: es) X.env).map (·.2) = assign e X.env :: (assignEach es X.env).map (·.2) := by rfl) : DGs X (e :: es) (dgCons t u) := by
  obtain ⟨t1, p1, r1⟩ := h1.ex
  obtain ⟨t2, p2, r2⟩ := h2.ex
  refine ⟨_, pgs_cons p1 p2 hs, fun F H σ S G vs ds o r Q' h Q k => ?_⟩
  cases r with
  | nil => exact h.elim
  | cons a b =>
    refine ⟨_, _, rfl, r1 F H σ S G _ _ o a _ h _ fun F1 H1 σ1 S1 G1 e1 o1 h1 => ?_⟩
    exact r2 F1 H1 σ1 S1 G1 _ _ o1 (b.mono e1.ex) _ h1 _ (k.mono e1)
def dgTup (n : Nat) (u : DTGs) : DTG := fun d S G Q => match d with
  | .tup ds => ds.length = n ∧ u ds S G Q
  | _ => False
theorem dg_tup {es : List Expr} {k : Nat} {u : DTGs} {n : Nat} (hc : X.calm = true) (h : DGs X es u) (hn : (assignEach es X.env).length = n := by rfl) (hst : (assignEach es X.env).findIdx? (·.1) = none := by rfl) : DG X (.Tuple es k pos) (dgTup n u) := by
  obtain ⟨t1, p1, r1⟩ := h.ex
  refine ⟨_, pg_tup hc p1 hn hst, fun F H σ S G v d o r Q' h Q k => ?_⟩
  cases r with
  | tup hs hr =>
    refine ⟨_, _, rfl, .inl (.inl (o.g.ex _ _ hs)), by rw [hr.length]; exact h.1, ?_⟩
    exact r1 F H σ S G _ _ o hr _ h.2 _ k
  | _ => exact h.elim
def dNext : DTS := fun D' S G => D'.nx S G
def dSeq (t u : DTS) : DTS := fun D' S G => t { D' with nx := u D' } S G
def dAsg (te : DTE) (g : DTG) : DTS := fun D' S G => te S G fun d G1 => g d S G1 D'.nx
def dDrop (te : DTE) : DTS := fun D' S G => te S G fun _ G1 => D'.nx S G1
def dRet (te : DTE) : DTS := fun D' S G => te S G D'.rt
def dRetN : DTS := fun D' _ G => D'.rt .non G
def dIfS (c : DTT) (t u : DTS) : DTS := fun D' S G => c S G fun b G1 => if b = true then t D' S G1 else u D' S G1
def dNever : DTS := fun _ _ _ => False
def dBreak : DTS := fun D' S G => D'.bk S G
def dCont : DTS := fun D' S G => D'.ct S G
theorem dps_nil : DPs X [] dNext := ⟨_, pss_nil, fun F H σ S G o D' h D0 k => k.nx F H σ S G Go.refl o h⟩
theorem dps_cons {st : Stmt} {rest : List Stmt} {t u : DTS} (h1 : DP X st t) (h2 : DPs X rest u) : DPs X (st :: rest) (dSeq t u) := by
  obtain ⟨t1, p1, r1⟩ := h1.ex
  obtain ⟨t2, p2, r2⟩ := h2.ex
  refine ⟨_, pss_cons p1 p2, fun F H σ S G o D' h D0 k => ?_⟩
  exact r1 F H σ S G o _ h _ ⟨fun F1 H1 σ1 S1 G1 e1 o1 h1 => r2 F1 H1 σ1 S1 G1 o1 _ h1 _ (k.mono e1), k.rt, k.bk, k.ct⟩
theorem dps_one {st : Stmt} {t : DTS} (h1 : DP X st t) : DPs X [st] t := by
  obtain ⟨t1, p1, r1⟩ := h1.ex
  exact ⟨_, pss_one p1, r1⟩
theorem dp_asg {tg e : Expr} {te : DTE} {g : DTG} (he : DE X e te) (hg : DG X tg g) (hs : swapsWithSole [tg] e pos.line X.env = pure false := by rfl) (hw : swappedStores [tg] e X.env = pure none := by rfl)
    (h1 : (assignEach [tg] X.env).map (·.2) = [assign tg X.env] := by rfl) : DP X (.Assign [tg] e pos) (dAsg te g) := by
  obtain ⟨t1, p1, r1⟩ := he.ex
  obtain ⟨t2, p2, r2⟩ := hg.ex
  refine ⟨_, ps_asg p1 p2 hs hw h1, fun F H σ S G o D' h D0 k => ?_⟩
  refine r1 F H σ S G o _ h _ fun F1 H1 v d G1 e1 g1 q1 h1 => ?_
  exact r2 F1 H1 σ S G1 v d (o.go e1 g1) q1 _ h1 _ (k.nx.mono e1)
theorem dp_expr {e : Expr} {te : DTE} (he : DE X e te) (hs : swapsWith e none pos.line X.env = pure false := by rfl) : DP X (.Expr e pos) (dDrop te) := by
  obtain ⟨t1, p1, r1⟩ := he.ex
  refine ⟨_, ps_expr p1 hs, fun F H σ S G o D' h D0 k => ?_⟩
  exact r1 F H σ S G o _ h _ fun F1 H1 v d G1 e1 g1 q1 h1 => k.nx F1 H1 σ S G1 e1 (o.go e1 g1) h1
theorem dp_ret {e : Expr} {te : DTE} (he : DE X e te) : DP X (.Return (some e) pos) (dRet te) := by
  obtain ⟨t1, p1, r1⟩ := he.ex
  exact ⟨_, ps_ret p1, fun F H σ S G o D' h D0 k => r1 F H σ S G o _ h _ k.rt⟩
theorem dp_if {c : Expr} {a b : List Stmt} {tc : DTT} {t u : DTS} (hc : DT X c tc) (ha : DPs X a t) (hb : DPs X b u) : DP X (.If c a b pos) (dIfS tc t u) := by
  obtain ⟨t0, p0, r0⟩ := hc.ex
  obtain ⟨t1, p1, r1⟩ := ha.ex
  obtain ⟨t2, p2, r2⟩ := hb.ex
  refine ⟨_, ps_if p0 p1 p2, fun F H σ S G o D' h D0 k => ?_⟩
  refine r0 F H σ S G o _ h _ fun F1 H1 b G1 e1 g1 h1 => ?_
  cases b with
  | true =>
    rw [if_pos rfl] at h1 ⊢
    exact r1 F1 H1 σ S G1 (o.go e1 g1) _ h1 _ (k.mono e1)
  | false =>
    rw [if_neg Bool.false_ne_true] at h1 ⊢
    exact r2 F1 H1 σ S G1 (o.go e1 g1) _ h1 _ (k.mono e1)
theorem dp_never {st : Stmt} : DP X st dNever := ⟨_, ps_never, fun F H σ S G o D' h D0 k => h.elim⟩
def dWhile (c : DTT) (tb : DTS) : DTS := fun D' S G => ∃ W : Nat → DS → GH → Prop, (∃ m, W m S G) ∧ ∀ m S G, W m S G →
  c S G fun b G1 => if b = true then tb { D' with nx := fun S' G' => ∃ m', m' < m ∧ W m' S' G', ct := fun S' G' => ∃ m', m' < m ∧ W m' S' G', bk := D'.nx } S G1 else D'.nx S G1
structure ItOk (K : PySem.W.Frag) (F : Hp) (J : It) (ds : List D) (gd : GH → Prop) : Prop where
  go : ∀ F1 H1 G1 (i : Nat) d, Ex F F1 → Gok K F1 H1 G1 → gd G1 → ds[i]? = some d → J.go i H1 ∧ ∀ x H2, J.yld i H1 x H2 → ∃ F2, Go F1 H1 G1 F2 H2 G1 ∧ Gok K F2 H2 G1 ∧ Rep K F2 x d
  stop : ∀ F1 H1 G1, Ex F F1 → Gok K F1 H1 G1 → gd G1 → J.stop ds.length H1
abbrev DTI := DS → GH → (List D → (GH → Prop) → GH → Prop) → Prop
structure DI (X : Cx) (tg iter : Expr) (wi' : DTI) : Prop where
  ex : ∃ wi, PI X tg iter wi ∧ ∀ F H σ S G, Ok X.K F H σ S G → ∀ R', wi' S G R' → ∀ R : It → Hp → Prop, (∀ F1 H1 G1 J ds gd, Go F H G F1 H1 G1 → Gok X.K F1 H1 G1 → ItOk X.K F1 J ds gd → R' ds gd G1 → R J H1) → wi σ H R
def dFor (wi : DTI) (g : DTG) (tb : DTS) : DTS := fun D' S G => wi S G fun ds gd G1 => ∃ W : Nat → DS → GH → Prop, W 0 S G1 ∧ (∀ i S G, W i S G → gd G) ∧
  (∀ i S G d, W i S G → ds[i]? = some d → g d S G fun S2 G2 => tb { D' with nx := W (i + 1), ct := W (i + 1), bk := D'.nx } S2 G2) ∧ (∀ S G, W ds.length S G → D'.nx S G)
theorem dp_for {tg iter : Expr} {body : List Stmt} {wi : DTI} {g : DTG} {tb : DTS} (hp : PassesOwn (model X.prog X.w) X.A X.env X.xe) (hc : X.calm = true) (hi : DI X tg iter wi) (hg : DG X tg g) (hb : DPs X body tb)
    (hs : ∀ x, foldedSetIterable iter X.env x = pure x := by intro _; rfl) : DP X (.For tg iter body [] pos) (dFor wi g tb) := by
  obtain ⟨t0, p0, r0⟩ := hi.ex
  obtain ⟨t1, p1, r1⟩ := hg.ex
  obtain ⟨t2, p2, r2⟩ := hb.ex
  refine ⟨_, ps_for hp hc p0 p1 p2 hs, fun F H σ S G o D' h D0 k => ?_⟩
  refine r0 F H σ S G o _ h _ fun F1 H1 G1 J ds gd e1 g1 it h1 => ?_
  obtain ⟨W, w0, wg, turn, done⟩ := h1
  refine ⟨fun i m σ2 H2 => i + m = ds.length ∧ ∃ F2 S2 G2, Go F1 H1 G1 F2 H2 G2 ∧ Ok X.K F2 H2 σ2 S2 G2 ∧ W i S2 G2, ⟨ds.length, Nat.zero_add _, F1, S, G1, Go.refl, o.go e1 g1, w0⟩, ?_⟩
  rintro i m σ2 H2 ⟨him, F2, S2, G2, e2, o2, w2⟩
  have gg := wg i S2 G2 w2
  cases m with
  | zero =>
    have hi : i = ds.length := him
    refine .inl ⟨hi ▸ it.stop F2 H2 G2 e2.ex o2.g gg, k.nx F2 H2 σ2 S2 G2 (e1.trans e2) o2 (done S2 G2 (hi ▸ w2))⟩
  | succ m =>
    have hlt : i < ds.length := by omega
    have hd : ds[i]? = some ds[i] := List.getElem?_eq_getElem hlt
    obtain ⟨ig, iy⟩ := it.go F2 H2 G2 i _ e2.ex o2.g gg hd
    refine .inr ⟨ig, fun σ3 H3 => ∃ F3 S3 G3, Go F1 H1 G1 F3 H3 G3 ∧ Ok X.K F3 H3 σ3 S3 G3 ∧ W (i + 1) S3 G3, fun σ3 H3 z => ⟨m, Nat.lt_succ_self m, by omega, z⟩, fun x H3 hy => ?_⟩
    obtain ⟨F3, e3, g3, q3⟩ := iy x H3 hy
    refine r1 F3 H3 σ2 S2 G2 x _ (o2.go e3 g3) q3 _ (turn i S2 G2 _ w2 hd) _ fun F4 H4 σ4 S4 G4 e4 o4 h4 => ?_
    have kk := k.mono (((e1.trans e2).trans e3).trans e4)
    have nn : KpN X.K F4 H4 G4 (W (i + 1)) (fun σ3 H3 => ∃ F3 S3 G3, Go F1 H1 G1 F3 H3 G3 ∧ Ok X.K F3 H3 σ3 S3 G3 ∧ W (i + 1) S3 G3) := fun F5 H5 σ5 S5 G5 e5 o5 w5 => ⟨F5, S5, G5, ((e2.trans e3).trans e4).trans e5, o5, w5⟩
    exact r2 F4 H4 σ4 S4 G4 o4 _ h4 _ ⟨nn, kk.rt, kk.nx, nn⟩
abbrev SpD := List D → GH → DQ → Prop
def SpOf (K : PySem.W.Frag) (sp : SpD) : Sp := fun vs H Q _ => ∃ F G ds Q', Gok K F H G ∧ Reps K F vs ds ∧ sp ds G Q' ∧ KpE K F H G Q' Q
def dCall (sp : SpD) (ta : DTA) : DTE := fun S G Q => ta S G fun ds G1 => sp ds G1 Q
theorem de_call {k : Nat} {f : Addr} {fd : FuncData} {ps : List Str} {sp : SpD} {x : Str} {p : Pos} {e : Expr} {es : List Expr} {ta : DTA} (Fn : FnG X.prog X.w X.K X.mg X.base CX0 k f fd ps (SpOf X.K sp)) (hA : X.A.guards = some []) (hr : Room k X.A) (hg : Gl X x) (hm : X.mg x = some (.ref f)) (hk : PySem.W.keepIn X.K (.ref f) = true) (hb : Binds X.K fd ps [])
    (ha : DA X (e :: es) ta) (hdb : (x == ("__debug__" : Str)) = false := by decide) (he : starEach (e :: es) X.env = (false, eval e X.env) :: starEach es X.env := by rfl) (hpl : (backTo pos (starEach es X.env)).any (·.1) = false := by rfl) :
    DE X (.Call (.Name x p) (e :: es) [] pos) (dCall sp ta) := by
  obtain ⟨t1, p1, r1⟩ := ha.ex
  refine ⟨_, pg_call Fn hA hr hg hm hk hb .nil pass0 p1 hdb he hpl, fun F H σ S G o Q' h Q k => ?_⟩
  refine r1 F H σ S G o _ h _ fun F1 H1 vs ds G1 e1 g1 q1 h1 => ?_
  rw [List.append_nil]
  exact ⟨F1, G1, ds, Q', g1, q1, h1, k.mono e1⟩
end
/-- what is wanted at a def's end: its own things may be forgotten -/
def fin (Q : DQ) : DEnds := { nx := fun _ G' => ∃ G0, Sub G0 G' ∧ Q .non G0, rt := fun d G' => ∃ G0, Sub G0 G' ∧ Q d G0 }
theorem fn_mk {P : Program} {w : World} {K : PySem.W.Frag} {mg : Str → Option Value} {base : Heap} {x qual : Str} {st : Stmt} {f : Addr} {fd : FuncData} {N ps : List Str} {k : Nat} {sp : SpD} (Fu : Fun K x qual st f fd) (sc : FnScope N ps (defScope st))
    (len : ∀ ds G Q, sp ds G Q → ds.length = ps.length)
    (hb : ∀ (cdv : Value) (A : Around) (outer : List Env) (s : Shared) (H : Hp) (E : XK), A.guards = some [] → Room k (A.deeper (envOfC qual (defScope st) s.heap.objs.size f cdv)) →
      ∃ t', DPs (cxOf CX0 P w K mg base N qual (defScope st) f cdv A outer s H E).nox (defBody st) t' ∧ ∀ ds G Q, sp ds G Q → t' (fin Q) (dstart N ds) G) : FnG P w K mg base CX0 (k + 1) f fd ps (SpOf K sp) := by
  obtain ⟨oc, od, kV, doc, pm, an, cdv, ct, osl, rfl, lk, hcd⟩ := Fu.ex
  refine fng_of lk hcd sc (fun vs H Q E h => ?_) (fun A outer s H vs Q E hg hr h => ?_)
  · obtain ⟨F, G, ds, Q', g, r, h, _⟩ := h
    rw [r.length]
    exact len ds G Q' h
  · obtain ⟨F, G, ds, Q', g, r, h, kk⟩ := h
    obtain ⟨t', d, rd⟩ := hb cdv A outer s H E hg hr
    obtain ⟨t, p, rf⟩ := d.ex
    refine ⟨t, p.nox, rf F H _ _ G ⟨g, r.start⟩ _ (rd ds G Q' h) _ ⟨fun F1 H1 σ1 S1 G1 e1 o1 h1 => ?_, fun F1 H1 v d G1 e1 g1 r1 h1 => ?_, fun _ _ _ _ _ _ _ z => z.elim, fun _ _ _ _ _ _ _ z => z.elim⟩⟩
    · obtain ⟨G0, sb, h1⟩ := h1
      exact kk F1 H1 _ _ G0 (e1.sub sb) (o1.g.sub sb) .non h1
    · obtain ⟨G0, sb, h1⟩ := h1
      exact kk F1 H1 v d G0 (e1.sub sb) (g1.sub sb) r1 h1
end DL
end
section
set_option Elab.async false
set_option linter.all false
set_option maxRecDepth 100000
set_option maxHeartbeats 4000000
namespace DL
open PySem PySem.Spec PyProof.Rows L2
mutual
def D.py : D → PyData
  | .non => .none
  | .bl b => .bool b
  | .int i => .int i
  | .str x => .str x
  | .tup xs => .tuple (D.pys xs)
  | .lst xs => .list (D.pys xs)
  | _ => .none
def D.pys : List D → List PyData
  | [] => []
  | x :: xs => D.py x :: D.pys xs
end
mutual
def D.pl : D → Bool
  | .non | .bl _ | .int _ | .str _ => true
  | .tup xs | .lst xs => D.pls xs
  | _ => false
def D.pls : List D → Bool
  | [] => true
  | x :: xs => D.pl x && D.pls xs
end
mutual
theorem D.py_plain : ∀ d : D, d.pl = true → d.py.plain = true
  | .non, _ => rfl
  | .bl _, _ => rfl
  | .int _, _ => rfl
  | .str _, _ => rfl
  | .tup xs, h => D.pys_plain xs h
  | .lst xs, h => D.pys_plain xs h
  | .ty _, h => by cases h
  | .dK _, h => by cases h
  | .dT _, h => by cases h
  | .obj _ _, h => by cases h
  | .rf _, h => by cases h
  | .scr _, h => by cases h
theorem D.pys_plain : ∀ xs : List D, D.pls xs = true → PyData.plainAll (D.pys xs) = true
  | [], _ => rfl
  | x :: xs, h => by
    have h' : x.pl = true ∧ D.pls xs = true := by simpa [D.pls] using h
    simp only [D.pys, PyData.plainAll, D.py_plain x h'.1, D.pys_plain xs h'.2, Bool.and_self]
end
theorem D.pls_all (xs : List D) : D.pls xs = xs.all D.pl := by
  induction xs with
  | nil => rfl
  | cons x xs ih => simp [D.pls, ih]
mutual
theorem Rep.dp {K : PySem.W.Frag} {F : Hp} : ∀ (d : D) {v : V}, Rep K F v d → d.pl = true → Dp K F v d.py
  | .non, _, .non, _ => .non
  | .bl _, _, .bl b, _ => .bl b
  | .int _, _, .int i, _ => .int i
  | .str _, _, .str x, _ => .str x
  | .tup xs, _, .tup h r, p => .tup (.inl (.inl h)) (Reps.dp xs r p)
  | .lst xs, _, .lst h r, p => .lst (.inl (.inl h)) (Reps.dp xs r p)
theorem Reps.dp {K : PySem.W.Frag} {F : Hp} : ∀ (ds : List D) {vs : List V}, Reps K F vs ds → D.pls ds = true → DpAll K F vs (D.pys ds)
  | [], _, .nil, _ => .nil
  | d :: ds, _, .cons h t, p => by
    have p' : d.pl = true ∧ D.pls ds = true := by simpa [D.pls] using p
    exact .cons (Rep.dp d h p'.1) (Reps.dp ds t p'.2)
end
mutual
theorem Dp.mono' {K : PySem.W.Frag} {F F' : Hp} (e : Ex F F') : ∀ (d : PyData) {v : V}, Dp K F v d → Dp K F' v d
  | .none, _, .non => .non
  | .bool _, _, .bl b => .bl b
  | .int _, _, .int i => .int i
  | .str _, _, .str x => .str x
  | .list ds, _, .lst h r => .lst (e.sql h) (DpAll.mono' e ds r)
  | .tuple ds, _, .tup h r => .tup (e.sqt h) (DpAll.mono' e ds r)
theorem DpAll.mono' {K : PySem.W.Frag} {F F' : Hp} (e : Ex F F') : ∀ (ds : List PyData) {vs : List V}, DpAll K F vs ds → DpAll K F' vs ds
  | [], _, .nil => .nil
  | d :: ds, _, .cons h t => .cons (Dp.mono' e d h) (DpAll.mono' e ds t)
end
/-- what stands there now: a list that changes, as it is -/
def D.cur (G : GH) : D → D
  | .rf a => (match G a with
    | some (.lst xs) => .lst xs
    | some (.dK kds) => .dK kds
    | some (.dT kds) => .dT kds
    | some (.ins C kds) => .obj C kds
    | _ => .rf a)
  | d => d
theorem cur_dp {K : PySem.W.Frag} {F H : Hp} {G : GH} {v : V} {d : D} (g : Gok K F H G) (r : Rep K F v d) (p : (d.cur G).pl = true) : Dp K H v (d.cur G).py := by
  cases d with
  | rf a =>
    cases r
    unfold D.cur at p ⊢
    cases q : G a with
    | none => simp only [q] at p; cases p
    | some o =>
      cases o with
      | lst xs =>
        simp only [q] at p ⊢
        obtain ⟨vs, e, rs⟩ := (g.at_ a _ q).2
        exact .lst (.inl (.inl e)) (DpAll.mono' g.ex _ (Reps.dp xs rs p))
      | _ => simp only [q] at p; cases p
  | _ => exact Dp.mono' g.ex _ (Rep.dp _ r p)
theorem cur_list {K : PySem.W.Frag} {F H : Hp} {G : GH} {v : V} {d : D} {ds : List D} (g : Gok K F H G) (r : Rep K F v d) (p : d.cur G = .lst ds) : ∃ a vs, v = .ref a ∧ H a = some (.lst vs) ∧ Reps K F vs ds := by
  cases d with
  | rf a =>
    cases r
    unfold D.cur at p
    cases q : G a with
    | none => simp only [q] at p; cases p
    | some o =>
      cases o with
      | lst xs =>
        simp only [q] at p; cases p
        obtain ⟨vs, e, rs⟩ := (g.at_ a _ q).2
        exact ⟨a, vs, rfl, e, rs⟩
      | dK kds => simp only [q] at p; cases p
      | dT kds => simp only [q] at p; cases p
      | ins C kds => simp only [q] at p; cases p
      | deck k1 k2 k3 n => simp only [q] at p; cases p
      | dcell => simp only [q] at p; cases p
      | lkT o kvs kds => simp only [q] at p; cases p
      | lkK o kvs kds => simp only [q] at p; cases p
      | dN w kds => simp only [q] at p; cases p
      | lkN w o xs kds => simp only [q] at p; cases p
      | tupU o vs ds => simp only [q] at p; cases p
  | lst xs =>
    cases p
    cases r with
    | lst h rs => exact ⟨_, _, rfl, g.ex _ _ h, rs⟩
  | _ => cases p
def okE (x y : D) : Bool := x.pl && y.pl && decide (min x.py.depth y.py.depth ≤ 60)
def D.eqv (x y : D) : Bool := PyData.eqv x.py y.py
section
variable {X : Cx} {pos : Pos}
def rCmpP (K : PySem.W.Frag) (C : PyData → PyData → Bool) (f : PyData → PyData → Bool) : R2 := fun x y H Q => ∃ d e, Dp K H x d ∧ Dp K H y e ∧ min d.depth e.depth ≤ 60 ∧ C d e = true ∧ Q (.bl (f d e)) H
theorem cmpP_of {op : CmpOp} {C f : PyData → PyData → Bool} (hu : X.A.units + 100 < cLine)
    (rule : ∀ {prog : Program} {w : World} {A : Around} {E : Value → Shared → Prop} {s : Shared} {a b : Value} {da db : PyData} {as bs : List Addr} {Q : Value → Shared → Prop}, Reads s.heap a da as → Reads s.heap b db bs → C da db = true → A.units + min da.depth db.depth < cLine → Q (.bool (f da db)) s → wpAny (model prog w) A (compareOp op a b) Q E s) :
    OpR X (compareOp op) (rCmpP X.K C f) := by
  intro pins s σ H x y v u Q I rx ry h
  obtain ⟨d, e, hd, he, hm, hc, q⟩ := h
  obtain ⟨as, r1⟩ := Dp.reads I d x v hd rx
  obtain ⟨bs, r2⟩ := Dp.reads I e y u he ry
  exact rule r1 r2 hc (by omega) ⟨.bl _, H, I, rfl, q⟩
theorem opd_cmp {op : CmpOp} {C f : PyData → PyData → Bool} {C' f' : D → D → Bool} (ho : OpR X (compareOp op) (rCmpP X.K C f)) (hc : ∀ x y : D, C' x y = true → x.pl = true ∧ y.pl = true ∧ min x.py.depth y.py.depth ≤ 60 ∧ C x.py y.py = true) (hf : ∀ x y : D, f' x y = f x.py y.py) :
    OpD X (compareOp op) (fun x y G Q => C' (x.cur G) (y.cur G) = true ∧ Q (.bl (f' (x.cur G) (y.cur G))) G) := by
  refine ⟨_, ho, fun F H G x y dx dy g rx ry Q' h Q k => ?_⟩
  obtain ⟨c, q⟩ := h
  obtain ⟨p1, p2, m, c2⟩ := hc _ _ c
  refine ⟨_, _, cur_dp g rx p1, cur_dp g ry p2, m, c2, ?_⟩
  rw [hf] at q
  exact k F H _ _ G Go.refl g (.bl _) q
theorem okE_of {x y : D} (h : okE x y = true) : x.pl = true ∧ y.pl = true ∧ min x.py.depth y.py.depth ≤ 60 := by
  unfold okE at h
  simp only [Bool.and_eq_true, decide_eq_true_eq] at h
  exact ⟨h.1.1, h.1.2, h.2⟩
theorem od_eq (hu : X.A.units + 100 < cLine) : OpD X (compareOp .Eq) (fun x y G Q => okE (x.cur G) (y.cur G) = true ∧ Q (.bl (D.eqv (x.cur G) (y.cur G))) G) :=
  opd_cmp (C := fun d e => d.plain && e.plain) (f := PyData.eqv) (cmpP_of hu fun r1 r2 c hu' q => by
    simp only [Bool.and_eq_true] at c
    exact SeqAt.eq_plain r1 r2 c.1 c.2 hu' q) (fun x y h => by
    obtain ⟨h1, h2, h3⟩ := okE_of h
    exact ⟨h1, h2, h3, by simp [D.py_plain _ h1, D.py_plain _ h2]⟩) fun _ _ => rfl
theorem od_ne (hu : X.A.units + 100 < cLine) : OpD X (compareOp .NotEq) (fun x y G Q => okE (x.cur G) (y.cur G) = true ∧ Q (.bl (!D.eqv (x.cur G) (y.cur G))) G) :=
  opd_cmp (C := fun d e => d.plain && e.plain) (f := fun d e => !PyData.eqv d e) (f' := fun x y => !D.eqv x y) (cmpP_of hu fun r1 r2 c hu' q => by
    simp only [Bool.and_eq_true] at c
    exact SeqAt.ne_plain r1 r2 c.1 c.2 hu' q) (fun x y h => by
    obtain ⟨h1, h2, h3⟩ := okE_of h
    exact ⟨h1, h2, h3, by simp [D.py_plain _ h1, D.py_plain _ h2]⟩) fun _ _ => rfl
def okL (x y : D) : Bool := okE x y && PySem.W.alike x.py y.py && (match x with | .non => false | _ => true)
def D.lt (x y : D) : Bool := PySem.W.dataLt x.py y.py
def notNone : PyData → Bool
  | .none => false
  | _ => true
theorem notNone_ne {d : PyData} (h : notNone d = true) : d ≠ .none := fun e => by rw [e] at h; cases h
theorem okL_of {x y : D} (h : okL x y = true) : x.pl = true ∧ y.pl = true ∧ min x.py.depth y.py.depth ≤ 60 ∧ (PySem.W.alike x.py y.py && notNone x.py) = true := by
  unfold okL at h
  simp only [Bool.and_eq_true] at h
  obtain ⟨⟨h1, h2⟩, h3⟩ := h
  obtain ⟨p1, p2, p3⟩ := okE_of h1
  refine ⟨p1, p2, p3, ?_⟩
  rw [h2, Bool.true_and]
  cases x <;> first | rfl | (simp [D.pl] at p1; done) | (simp at h3; done)
theorem od_lt (hu : X.A.units + 100 < cLine) : OpD X (compareOp .Lt) (fun x y G Q => okL (x.cur G) (y.cur G) = true ∧ Q (.bl (D.lt (x.cur G) (y.cur G))) G) :=
  opd_cmp (C := fun d e => PySem.W.alike d e && notNone d) (f := PySem.W.dataLt) (cmpP_of hu fun r1 r2 c hu' q => by
    simp only [Bool.and_eq_true] at c
    exact PySem.W.lt_data r1 r2 c.1 (notNone_ne c.2) hu' q) (fun x y h => okL_of h) fun _ _ => rfl
theorem od_le (hu : X.A.units + 100 < cLine) : OpD X (compareOp .LtE) (fun x y G Q => okL (x.cur G) (y.cur G) = true ∧ Q (.bl (!D.lt (y.cur G) (x.cur G))) G) :=
  opd_cmp (C := fun d e => PySem.W.alike d e && notNone d) (f := fun d e => !PySem.W.dataLt e d) (f' := fun x y => !D.lt y x) (cmpP_of hu fun r1 r2 c hu' q => by
    simp only [Bool.and_eq_true] at c
    exact PySem.W.le_data r1 r2 c.1 (notNone_ne c.2) hu' q) (fun x y h => okL_of h) fun _ _ => rfl
theorem od_ge (hu : X.A.units + 100 < cLine) : OpD X (compareOp .GtE) (fun x y G Q => okL (x.cur G) (y.cur G) = true ∧ Q (.bl (!D.lt (x.cur G) (y.cur G))) G) :=
  opd_cmp (C := fun d e => PySem.W.alike d e && notNone d) (f := fun d e => !PySem.W.dataLt d e) (f' := fun x y => !D.lt x y) (cmpP_of hu fun r1 r2 c hu' q => by
    simp only [Bool.and_eq_true] at c
    exact PySem.W.ge_data r1 r2 c.1 (notNone_ne c.2) hu' q) (fun x y h => okL_of h) fun _ _ => rfl
end
end DL
end
section
set_option Elab.async false
set_option linter.all false
set_option maxRecDepth 100000
set_option maxHeartbeats 4000000
namespace DL
open PySem PySem.Spec PyProof.Rows L2
def valD {κ : Type} [DecidableEq κ] (kds : List (κ × D)) (k : κ) : Option D := (kds.find? fun kv => decide (kv.1 = k)).map (·.2)
def putD {κ : Type} [DecidableEq κ] (kds : List (κ × D)) (k : κ) (d : D) : List (κ × D) :=
  if (kds.any fun kv => decide (kv.1 = k)) = true then kds.map (fun kv => if kv.1 = k then (kv.1, d) else kv) else kds ++ [(k, d)]
structure KR {κ : Type} (K : PySem.W.Frag) (F : Hp) (kvs : List (κ × V)) (kds : List (κ × D)) : Prop where
  ks : kvs.map (·.1) = kds.map (·.1)
  vs : Reps K F (kvs.map (·.2)) (kds.map (·.2))
section
variable {κ : Type} [DecidableEq κ] {K : PySem.W.Frag} {F : Hp}
theorem KR.nil : KR K F ([] : List (κ × V)) [] := ⟨rfl, .nil⟩
theorem KR.cons {k : κ} {v : V} {d : D} {kvs : List (κ × V)} {kds : List (κ × D)} (h : Rep K F v d) (t : KR K F kvs kds) : KR K F ((k, v) :: kvs) ((k, d) :: kds) := ⟨by simp [t.ks], .cons h t.vs⟩
theorem KR.uncons {kvs : List (κ × V)} {k : κ} {d : D} {kds : List (κ × D)} (h : KR K F kvs ((k, d) :: kds)) : ∃ v r, kvs = (k, v) :: r ∧ Rep K F v d ∧ KR K F r kds := by
  obtain ⟨h1, h2⟩ := h
  cases kvs with
  | nil => simp at h1
  | cons p r =>
    obtain ⟨k', v⟩ := p
    simp only [List.map_cons, List.cons.injEq] at h1
    obtain ⟨rfl, h1⟩ := h1
    cases h2 with
    | cons a b => exact ⟨v, r, rfl, a, h1, b⟩
theorem KR.unnil {kvs : List (κ × V)} (h : KR K F kvs []) : kvs = [] := by
  have := h.ks
  simpa using this
theorem KR.mono {F' : Hp} (e : Ex F F') {kvs : List (κ × V)} {kds : List (κ × D)} (h : KR K F kvs kds) : KR K F' kvs kds := ⟨h.ks, h.vs.mono e⟩
theorem KR.append {a b : List (κ × V)} {c d : List (κ × D)} (h : KR K F a c) (h' : KR K F b d) : KR K F (a ++ b) (c ++ d) := ⟨by simp [h.ks, h'.ks], by simpa using h.vs.append h'.vs⟩
theorem KR.len {kvs : List (κ × V)} {kds : List (κ × D)} (h : KR K F kvs kds) : kvs.length = kds.length := by
  have := congrArg List.length h.ks
  simpa using this
theorem KR.val {k : κ} : ∀ {kds : List (κ × D)} {kvs : List (κ × V)}, KR K F kvs kds → (∀ d, valD kds k = some d → ∃ v, valV kvs k = some v ∧ Rep K F v d) ∧ (valD kds k = none → valV kvs k = none)
  | [], kvs, h => by
    obtain rfl := h.unnil
    exact ⟨fun d z => (by cases z), fun _ => rfl⟩
  | (k', d') :: kds, kvs, h => by
    obtain ⟨v, r, rfl, rv, t⟩ := h.uncons
    by_cases e : k' = k
    · have e1 : valD ((k', d') :: kds) k = some d' := by simp [valD, e]
      have e2 : valV ((k', v) :: r) k = some v := valV_pos e
      rw [e1, e2]
      exact ⟨fun d z => (by cases z; exact ⟨v, rfl, rv⟩), fun z => (by cases z)⟩
    · have e1 : valD ((k', d') :: kds) k = valD kds k := by simp [valD, List.find?_cons, e]
      have e2 : valV ((k', v) :: r) k = valV r k := valV_neg e
      rw [e1, e2]
      exact KR.val t
theorem KR.any {k : κ} {kds : List (κ × D)} {kvs : List (κ × V)} (h : KR K F kvs kds) : (kvs.any fun kv => decide (kv.1 = k)) = kds.any fun kv => decide (kv.1 = k) := by
  have e1 : (kvs.any fun kv => decide (kv.1 = k)) = (kvs.map (·.1)).any fun x => decide (x = k) := by simp [List.any_map, Function.comp_def]
  have e2 : (kds.any fun kv => decide (kv.1 = k)) = (kds.map (·.1)).any fun x => decide (x = k) := by simp [List.any_map, Function.comp_def]
  rw [e1, e2, h.ks]
theorem KR.mapd {k : κ} {v : V} {d : D} (r : Rep K F v d) : ∀ {kds : List (κ × D)} {kvs : List (κ × V)}, KR K F kvs kds → KR K F (kvs.map fun kv => if kv.1 = k then (kv.1, v) else kv) (kds.map fun kv => if kv.1 = k then (kv.1, d) else kv)
  | [], kvs, h => by
    obtain rfl := h.unnil
    exact .nil
  | (k', d') :: kds, kvs, h => by
    obtain ⟨v', r', rfl, rv, t⟩ := h.uncons
    simp only [List.map_cons]
    by_cases e : k' = k
    · rw [if_pos e, if_pos e]; exact .cons r (KR.mapd r t)
    · rw [if_neg e, if_neg e]; exact .cons rv (KR.mapd r t)
theorem KR.put {k : κ} {v : V} {d : D} {kds : List (κ × D)} {kvs : List (κ × V)} (h : KR K F kvs kds) (r : Rep K F v d) : KR K F (putK kvs k v) (putD kds k d) := by
  unfold putK putD
  rw [h.any]
  by_cases e : (kds.any fun kv => decide (kv.1 = k)) = true
  · rw [if_pos e, if_pos e]; exact KR.mapd r h
  · rw [if_neg e, if_neg e]; exact h.append (.cons r .nil)
end
def D.key : D → Option Key
  | .int i => some (.inl i)
  | .str x => some (.inr x)
  | _ => none
def D.keys : List D → Option (List Key)
  | [] => some []
  | d :: ds => match d.key, D.keys ds with
    | some k, some ks => some (k :: ks)
    | _, _ => none
theorem Rep.key {K : PySem.W.Frag} {F : Hp} {v : V} {d : D} {k : Key} (r : Rep K F v d) (h : d.key = some k) : v = kV k := by
  cases r <;> first | (cases h; rfl) | cases h
theorem Reps.keys {K : PySem.W.Frag} {F : Hp} : ∀ {vs : List V} {ds : List D} {ks : List Key}, Reps K F vs ds → D.keys ds = some ks → vs = ks.map kV
  | _, _, _, .nil, h => by cases h; rfl
  | _, _, ks, .cons (v := v) (d := d) (ds := ds) a b, h => by
    unfold D.keys at h
    cases e1 : d.key with
    | none => simp [e1] at h
    | some k =>
      cases e2 : D.keys ds with
      | none => simp [e1, e2] at h
      | some r =>
        simp only [e1, e2] at h
        cases h
        rw [a.key e1, b.keys e2]
        rfl
/-- the value at a key, of a dict as it stands: none: no such lookup; some none: not there -/
def D.look (x y : D) : Option (Option D) := match x with
  | .dK kds => y.key.map (valD kds)
  | .dT kds => (match y with
    | .tup ds => (D.keys ds).map (valD kds)
    | _ => none)
  | _ => none
theorem cur_dK {K : PySem.W.Frag} {F H : Hp} {G : GH} {v : V} {d : D} {kds : List (Key × D)} (g : Gok K F H G) (r : Rep K F v d) (p : d.cur G = .dK kds) : ∃ a kvs, v = .ref a ∧ H a = some (.dK kvs) ∧ KR K F kvs kds := by
  cases d with
  | rf a =>
    cases r
    unfold D.cur at p
    cases q : G a with
    | none => simp only [q] at p; cases p
    | some o =>
      cases o with
      | dK kd =>
        simp only [q] at p; cases p
        obtain ⟨kvs, e, h1, h2⟩ := (g.at_ a _ q).2
        exact ⟨a, kvs, rfl, e, h1, h2⟩
      | lst xs => simp only [q] at p; cases p
      | dT kd => simp only [q] at p; cases p
      | ins C kd => simp only [q] at p; cases p
      | deck k1 k2 k3 n => simp only [q] at p; cases p
      | dcell => simp only [q] at p; cases p
      | lkT o kvs kds => simp only [q] at p; cases p
      | lkK o kvs kds => simp only [q] at p; cases p
      | dN w kds => simp only [q] at p; cases p
      | lkN w o xs kds => simp only [q] at p; cases p
      | tupU o vs ds => simp only [q] at p; cases p
  | dK kd =>
    cases p
    cases r with
    | dK h h1 h2 => exact ⟨_, _, rfl, g.ex _ _ h, h1, h2⟩
  | _ => cases p
theorem cur_dT {K : PySem.W.Frag} {F H : Hp} {G : GH} {v : V} {d : D} {kds : List (List Key × D)} (g : Gok K F H G) (r : Rep K F v d) (p : d.cur G = .dT kds) : ∃ a kvs, v = .ref a ∧ H a = some (.dT kvs) ∧ KR K F kvs kds := by
  cases d with
  | rf a =>
    cases r
    unfold D.cur at p
    cases q : G a with
    | none => simp only [q] at p; cases p
    | some o =>
      cases o with
      | dT kd =>
        simp only [q] at p; cases p
        obtain ⟨kvs, e, h1, h2⟩ := (g.at_ a _ q).2
        exact ⟨a, kvs, rfl, e, h1, h2⟩
      | lst xs => simp only [q] at p; cases p
      | dK kd => simp only [q] at p; cases p
      | ins C kd => simp only [q] at p; cases p
      | deck k1 k2 k3 n => simp only [q] at p; cases p
      | dcell => simp only [q] at p; cases p
      | lkT o kvs kds => simp only [q] at p; cases p
      | lkK o kvs kds => simp only [q] at p; cases p
      | dN w kds => simp only [q] at p; cases p
      | lkN w o xs kds => simp only [q] at p; cases p
      | tupU o vs ds => simp only [q] at p; cases p
  | dT kd =>
    cases p
    cases r with
    | dT h h1 h2 => exact ⟨_, _, rfl, g.ex _ _ h, h1, h2⟩
  | _ => cases p
theorem look_get {K : PySem.W.Frag} {F H : Hp} {G : GH} {v u : V} {x y : D} {o : Option D} (g : Gok K F H G) (r : Rep K F v x) (ry : Rep K F u y) (h : (x.cur G).look y = some o) :
    ∃ a o', v = .ref a ∧ DGet H a u o' ∧ (∀ d, o = some d → ∃ z, o' = some z ∧ Rep K F z d) ∧ (o = none → o' = none) := by
  unfold D.look at h
  cases e : x.cur G with
  | dK kds =>
    simp only [e] at h
    obtain ⟨a, kvs, rfl, ha, kr⟩ := cur_dK g r e
    cases ek : y.key with
    | none => simp [ek] at h
    | some k =>
      simp only [ek, Option.map_some, Option.some.injEq] at h
      rw [ry.key ek]
      refine ⟨a, _, rfl, DGet.k (k := k) ha, fun d z => ?_, fun z => ?_⟩
      · obtain ⟨v, h1, h2⟩ := kr.val.1 d (h.trans z)
        exact ⟨v, h1, h2⟩
      · exact kr.val.2 (h.trans z)
  | dT kds =>
    simp only [e] at h
    obtain ⟨a, kvs, rfl, ha, kr⟩ := cur_dT g r e
    cases ry with
    | tup hb rs =>
      simp only at h
      rename_i ds
      cases ek : D.keys ds with
      | none => simp [ek] at h
      | some k =>
        simp only [ek, Option.map_some, Option.some.injEq] at h
        have eb := rs.keys ek
        subst eb
        refine ⟨a, _, rfl, DGet.t (k := k) ha (g.ex _ _ hb), fun d z => ?_, fun z => ?_⟩
        · obtain ⟨v, h1, h2⟩ := kr.val.1 d (h.trans z)
          exact ⟨v, h1, h2⟩
        · exact kr.val.2 (h.trans z)
    | _ => simp at h
  | _ => simp [e] at h
section
variable {X : Cx} {pos : Pos}
def rAddD : DR2 := fun x y G Q => match x.cur G, y.cur G with
  | .int i, .int j => Q (.int (i + j)) G
  | .str a, .str b => a.length + b.length ≤ sizeLine ∧ Q (.str (a ++ b)) G
  | .tup a, .tup b => a.length + b.length ≤ sizeLine ∧ Q (.tup (a ++ b)) G
  | .lst a, .lst b => a.length + b.length ≤ sizeLine ∧ Q (.lst (a ++ b)) G
  | _, _ => False
theorem cur_int {K : PySem.W.Frag} {F : Hp} {G : GH} {v : V} {d : D} {i : Int} (r : Rep K F v d) (h : d.cur G = .int i) : v = .int i := by
  cases d with
  | rf a =>
    unfold D.cur at h
    cases q : G a with
    | none => simp only [q] at h; cases h
    | some o => cases o <;> (simp only [q] at h; cases h)
  | int j => cases h; cases r; rfl
  | _ => cases h
theorem cur_str {K : PySem.W.Frag} {F : Hp} {G : GH} {v : V} {d : D} {i : Str} (r : Rep K F v d) (h : d.cur G = .str i) : v = .str i := by
  cases d with
  | rf a =>
    unfold D.cur at h
    cases q : G a with
    | none => simp only [q] at h; cases h
    | some o => cases o <;> (simp only [q] at h; cases h)
  | str j => cases h; cases r; rfl
  | _ => cases h
theorem cur_tup {K : PySem.W.Frag} {F : Hp} {G : GH} {v : V} {d : D} {ds : List D} (r : Rep K F v d) (h : d.cur G = .tup ds) : ∃ a vs, v = .ref a ∧ F a = some (.tup vs) ∧ Reps K F vs ds := by
  cases d with
  | rf a =>
    unfold D.cur at h
    cases q : G a with
    | none => simp only [q] at h; cases h
    | some o => cases o <;> (simp only [q] at h; cases h)
  | tup j =>
    cases h
    cases r with
    | tup ha rs => exact ⟨_, _, rfl, ha, rs⟩
  | _ => cases h
theorem od_add : OpD X (binaryOp .Add) rAddD := by
  refine ⟨_, op_add.or (op_add_str.or (op_catA.or op_cat)), fun F H G x y dx dy g rx ry Q' h Q k => ?_⟩
  unfold rAddD at h
  split at h
  · rename_i i j e1 e2
    exact .inl ⟨i, j, cur_int rx e1, cur_int ry e2, k F H _ _ G Go.refl g (.int _) h⟩
  · rename_i a b e1 e2
    exact .inr (.inl ⟨a, b, cur_str rx e1, cur_str ry e2, h.1, k F H _ _ G Go.refl g (.str _) h.2⟩)
  · rename_i a b e1 e2
    obtain ⟨p, xs, rfl, hp, r1⟩ := cur_tup rx e1
    obtain ⟨q, ys, rfl, hq, r2⟩ := cur_tup ry e2
    refine .inr (.inr (.inl ⟨p, q, xs, ys, rfl, rfl, .inl (.inl (g.ex _ _ hp)), .inl (.inl (g.ex _ _ hq)), by rw [r1.length, r2.length]; exact h.1, fun z => ?_, fun z1 z2 => ?_, fun z1 z2 p' hp' => ?_⟩))
    · subst z
      cases r1
      exact k F H _ _ G Go.refl g (.tup hq r2) h.2
    · subst z2
      cases r2
      have h2 := h.2
      rw [List.append_nil] at h2
      exact k F H _ _ G Go.refl g (.tup hp r1) h2
    · have gr : Gr F H (upd F p' (.tup (xs ++ ys))) (upd H p' (.tup (xs ++ ys))) := Gr.new g.ex hp'
      exact k _ _ _ _ G gr.go (g.grow gr) (.tup upd_same ((r1.append r2).mono gr.ff)) h.2
  · rename_i a b e1 e2
    obtain ⟨p, xs, rfl, hp, r1⟩ := cur_list g rx e1
    obtain ⟨q, ys, rfl, hq, r2⟩ := cur_list g ry e2
    refine .inr (.inr (.inr ⟨p, q, xs, ys, rfl, rfl, hp, hq, by rw [r1.length, r2.length]; exact h.1, fun p' hp' => ?_⟩))
    have gr : Gr F H (upd F p' (.lst (xs ++ ys))) (upd H p' (.lst (xs ++ ys))) := Gr.new g.ex hp'
    exact k _ _ _ _ G gr.go (g.grow gr) (.lst upd_same ((r1.append r2).mono gr.ff)) h.2
  · exact h.elim
def rIntD (C : Int → Int → Prop) (f : Int → Int → Int) : DR2 := fun x y G Q => match x, y with
  | .int i, .int j => C i j ∧ Q (.int (f i j)) G
  | _, _ => False
theorem od_int {op : Operator} {C : Int → Int → Prop} {f : Int → Int → Int} (h : OpR X (binaryOp op) (rI C fun i j => .int (f i j))) : OpD X (binaryOp op) (rIntD C f) := by
  refine ⟨_, h, fun F H G x y dx dy g rx ry Q' h Q k => ?_⟩
  unfold rIntD at h
  split at h
  · cases rx; cases ry
    exact ⟨_, _, rfl, rfl, h.1, k F H _ _ G Go.refl g (.int _) h.2⟩
  · exact h.elim
theorem od_sub : OpD X (binaryOp .Sub) (rIntD (fun _ _ => True) fun i j => i - j) := by
  refine ⟨_, op_sub, fun F H G x y dx dy g rx ry Q' h Q k => ?_⟩
  unfold rIntD at h
  split at h
  · cases rx; cases ry
    exact ⟨_, _, rfl, rfl, k F H _ _ G Go.refl g (.int _) h.2⟩
  · exact h.elim
theorem od_fdiv : OpD X (binaryOp .FloorDiv) (rIntD CDiv fun i j => i / j) := od_int op_fdiv
theorem od_mod : OpD X (binaryOp .Mod) (rIntD (fun _ j => 0 < j) fun i j => i % j) := od_int op_mod
theorem od_pow : OpD X (binaryOp .Pow) (rIntD CPow fun i j => i ^ j.toNat) := od_int op_pow
def rMulD : DR2 := fun x y G Q => match x.cur G, y.cur G with
  | .int i, .int j => CMul i j ∧ Q (.int (i * j)) G
  | .lst a, .int j => -(2 ^ 63) ≤ j ∧ j < 2 ^ 63 ∧ a.length * j.toNat ≤ sizeLine ∧ Q (.lst (List.replicate j.toNat a).flatten) G
  | _, _ => False
theorem Reps.rep {K : PySem.W.Frag} {F : Hp} {vs : List V} {ds : List D} (r : Reps K F vs ds) : ∀ n : Nat, Reps K F (List.replicate n vs).flatten (List.replicate n ds).flatten
  | 0 => .nil
  | n + 1 => by
    rw [List.replicate_succ, List.replicate_succ, List.flatten_cons, List.flatten_cons]
    exact r.append (Reps.rep r n)
theorem od_mul : OpD X (binaryOp .Mult) rMulD := by
  refine ⟨_, op_mul.or op_rep, fun F H G x y dx dy g rx ry Q' h Q k => ?_⟩
  unfold rMulD at h
  split at h
  · rename_i i j e1 e2
    exact .inl ⟨i, j, cur_int rx e1, cur_int ry e2, h.1, k F H _ _ G Go.refl g (.int _) h.2⟩
  · rename_i a j e1 e2
    obtain ⟨p, xs, rfl, hp, r1⟩ := cur_list g rx e1
    obtain ⟨h1, h2, h3, h4⟩ := h
    refine .inr ⟨p, j, xs, rfl, cur_int ry e2, hp, h1, h2, by rw [r1.length]; exact h3, fun p' hp' => ?_⟩
    have gr := Gr.new (u := .lst (List.replicate j.toNat xs).flatten) g.ex hp'
    exact k _ _ _ _ G gr.go (g.grow gr) (.lst upd_same ((r1.rep _).mono gr.ff)) h4
  · exact h.elim
def rNegD : DR1 := fun x G Q => match x with
  | .int i => Q (.int (-i)) G
  | _ => False
theorem ud_neg : UnD X (unaryOp .USub) rNegD := by
  refine ⟨_, un_neg, fun F H G x dx g rx Q' h Q k => ?_⟩
  unfold rNegD at h
  split at h
  · cases rx
    exact ⟨_, rfl, k F H _ _ G Go.refl g (.int _) h⟩
  · exact h.elim
def D.isNon : D → Bool
  | .non => true
  | _ => false
theorem Rep.isNon {K : PySem.W.Frag} {F : Hp} {v : V} {d : D} (r : Rep K F v d) : decide (v = .non) = d.isNon := by
  cases r <;> first | rfl | exact decide_eq_false (by intro h; cases h)
theorem od_isN : OpD X (compareOp .Is) (fun x y G Q => match y with | .non => Q (.bl x.isNon) G | _ => False) := by
  refine ⟨_, op_isN, fun F H G x y dx dy g rx ry Q' h Q k => ?_⟩
  split at h
  · cases ry
    refine ⟨rfl, ?_⟩
    rw [rx.isNon]
    exact k F H _ _ G Go.refl g (.bl _) h
  · exact h.elim
theorem od_notN : OpD X (compareOp .IsNot) (fun x y G Q => match y with | .non => Q (.bl (!x.isNon)) G | _ => False) := by
  refine ⟨_, op_notN, fun F H G x y dx dy g rx ry Q' h Q k => ?_⟩
  split at h
  · cases ry
    refine ⟨rfl, ?_⟩
    rw [rx.isNon]
    exact k F H _ _ G Go.refl g (.bl _) h
  · exact h.elim
def strIn (x z : Str) : Bool := !(Builtin.Str.occurrences z x 0 z.length 1).isEmpty
def okI (x : D) (ys : List D) : Bool := x.pl && D.pls ys && decide (min (PyData.depthAll (D.pys ys)) x.py.depth ≤ 60)
def D.isIn (x : D) (ys : List D) : Bool := (D.pys ys).any fun z => PyData.eqv z x.py
/-- x in y: none where it is not served -/
def D.inn (x y : D) : Option Bool := match y with
  | .str z => (match x with
    | .str w => some (strIn w z)
    | _ => none)
  | .lst ys => if okI x ys = true then some (x.isIn ys) else none
  | .tup ys => if okI x ys = true then some (x.isIn ys) else none
  | y => (y.look x).map Option.isSome
def rInP (K : PySem.W.Frag) (neg : Bool) : R2 := fun x y H Q => ∃ d ds b, Dp K H x d ∧ (Dp K H y (.list ds) ∨ Dp K H y (.tuple ds)) ∧ d.plain = true ∧ PyData.plainAll ds = true ∧ min (PyData.depthAll ds) d.depth ≤ 60 ∧ b = (if neg then !(ds.any fun z => PyData.eqv z d) else ds.any fun z => PyData.eqv z d) ∧ Q (.bl b) H
def rInDict (neg : Bool) : R2 := fun x y H Q => ∃ a o, y = .ref a ∧ DGet H a x o ∧ Q (.bl (if neg then !o.isSome else o.isSome)) H
theorem op_inP (hu : X.A.units + 100 < cLine) : OpR X (compareOp .In) (rInP X.K false) := by
  intro pins s σ H x y v u Q I rx ry h
  obtain ⟨d, ds, b, hd, hy, p1, p2, hm, rfl, q⟩ := h
  obtain ⟨as, r1⟩ := Dp.reads I d x v hd rx
  rcases hy with hy | hy
  · obtain ⟨bs, r2⟩ := Dp.reads I _ y u hy ry
    exact SeqAt.in_list_data r2 r1 p2 p1 (by omega) ⟨.bl _, H, I, rfl, q⟩
  · obtain ⟨bs, r2⟩ := Dp.reads I _ y u hy ry
    exact SeqAt.in_tuple_data r2 r1 p2 p1 (by omega) ⟨.bl _, H, I, rfl, q⟩
theorem op_inDict (hu : X.A.units + 100 < cLine) : OpR X (compareOp .In) (rInDict false) := by
  intro pins s σ H x y v u Q I rx ry h
  obtain ⟨a, o, rfl, g, q⟩ := h
  obtain rfl : u = Value.ref a := ry
  exact d_in (by omega) I g rx fun s' I' => ⟨.bl _, H, I', rfl, q⟩
theorem in_core {neg : Bool} {r : R2} (hs : ∀ x y H Q, (∃ i j, x = V.str i ∧ y = V.str j ∧ Q (.bl (if neg then !(strIn i j) else strIn i j)) H) → r x y H Q) (hl : ∀ x y H Q, rInP X.K neg x y H Q → r x y H Q) (hd : ∀ x y H Q, rInDict neg x y H Q → r x y H Q)
    {F H : Hp} {G : GH} {x y : V} {dx dy : D} (g : Gok X.K F H G) (rx : Rep X.K F x dx) (ry : Rep X.K F y dy) {Q' : DQ} {b : Bool} (h : D.inn dx (dy.cur G) = some b) (q : Q' (.bl (if neg then !b else b)) G) {Q : VK} (k : KpE X.K F H G Q' Q) : r x y H Q := by
  have fin : Q (.bl (if neg then !b else b)) H := k F H _ _ G Go.refl g (.bl _) q
  unfold D.inn at h
  have seqs : ∀ (ys : List D), okI dx ys = true → dx.isIn ys = b → (Dp X.K H y (.list (D.pys ys)) ∨ Dp X.K H y (.tuple (D.pys ys))) → r x y H Q := by
    intro ys ok e hy
    unfold okI at ok
    simp only [Bool.and_eq_true, decide_eq_true_eq] at ok
    obtain ⟨⟨p1, p2⟩, p3⟩ := ok
    refine hl _ _ _ _ ⟨dx.py, D.pys ys, _, ?_, hy, D.py_plain _ p1, D.pys_plain _ p2, p3, rfl, ?_⟩
    · exact Dp.mono' g.ex _ (Rep.dp _ rx p1)
    · unfold D.isIn at e
      rw [e]
      exact fin
  split at h
  · rename_i z e
    split at h
    · cases h
      cases rx
      exact hs _ _ _ _ ⟨_, _, rfl, cur_str ry e, fin⟩
    · cases h
  · rename_i ys e
    split at h
    · rename_i ok
      cases h
      obtain ⟨a, vs, rfl, ha, rs⟩ := cur_list g ry e
      unfold okI at ok
      simp only [Bool.and_eq_true, decide_eq_true_eq] at ok
      refine seqs ys (by unfold okI; simp [ok]) rfl (.inl (.lst (.inl (.inl ha)) (DpAll.mono' g.ex _ (Reps.dp _ rs ok.1.2))))
    · cases h
  · rename_i ys e
    split at h
    · rename_i ok
      cases h
      obtain ⟨a, vs, rfl, ha, rs⟩ := cur_tup ry e
      unfold okI at ok
      simp only [Bool.and_eq_true, decide_eq_true_eq] at ok
      refine seqs ys (by unfold okI; simp [ok]) rfl (.inr (.tup (.inl (.inl (g.ex _ _ ha))) (DpAll.mono' g.ex _ (Reps.dp _ rs ok.1.2))))
    · cases h
  · cases e : (dy.cur G).look dx with
    | none => rw [e] at h; cases h
    | some o =>
      rw [e] at h
      cases h
      obtain ⟨a, o', rfl, dg, h1, h2⟩ := look_get g ry rx e
      refine hd _ _ _ _ ⟨a, o', rfl, dg, ?_⟩
      have eo : o'.isSome = o.isSome := by
        cases o with
        | none => simp [h2 rfl]
        | some d =>
          obtain ⟨z, ez, _⟩ := h1 d rfl
          rw [ez]; rfl
      rw [eo]
      exact fin
theorem od_in (hu : X.A.units + 100 < cLine) : OpD X (compareOp .In) (fun x y G Q => match D.inn x (y.cur G) with | some b => Q (.bl b) G | none => False) := by
  refine ⟨_, op_in_str.or ((op_inP hu).or (op_inDict hu)), fun F H G x y dx dy g rx ry Q' h Q k => ?_⟩
  split at h
  · rename_i b e
    exact in_core (neg := false) (r := fun x y H Q => (∃ i j, x = .str i ∧ y = .str j ∧ Q (.bl (!(Builtin.Str.occurrences j i 0 j.length 1).isEmpty)) H) ∨ rInP X.K false x y H Q ∨ rInDict false x y H Q) (fun x y H Q h => .inl h) (fun x y H Q h => .inr (.inl h)) (fun x y H Q h => .inr (.inr h)) g rx ry e h k
  · exact h.elim
end
end DL
end
section
set_option Elab.async false
set_option linter.all false
set_option maxRecDepth 100000
set_option maxHeartbeats 4000000
namespace DL
open PySem PySem.Spec PyProof.Rows L2
theorem atI_rep {K : PySem.W.Frag} {F : Hp} {vs : List V} {ds : List D} {i : Int} {d : D} (r : Reps K F vs ds) (h : atI ds i = some d) : ∃ v, atI vs i = some v ∧ Rep K F v d := by
  unfold atI at h ⊢
  rw [r.length]
  cases e : ixN ds.length i with
  | none => rw [e] at h; cases h
  | some j =>
    rw [e] at h
    exact r.get h
def D.item (x y : D) : Option D := match x with
  | .tup xs => (match y with
    | .int i => atI xs i
    | _ => none)
  | .lst xs => (match y with
    | .int i => atI xs i
    | _ => none)
  | .str z => (match y with
    | .int i => if z.length ≤ sizeLine then (atI z.cps.toList i).map fun c => .str ⟨#[c]⟩ else none
    | _ => none)
  | x => (x.look y).join
def cutD {α : Type} (xs : List α) (lo hi : Option Int) : List α := (xs.drop (HT.sIx xs.length 0 lo)).take (HT.sIx xs.length xs.length hi - HT.sIx xs.length 0 lo)
theorem Reps.cut {K : PySem.W.Frag} {F : Hp} {vs : List V} {ds : List D} (r : Reps K F vs ds) (lo hi : Option Int) : Reps K F (cutV vs lo hi) (cutD ds lo hi) := by
  unfold cutV cutD
  rw [r.length]
  exact (r.drop _).take _
def putFD (f : Str) (d : D) : List (Str × D) → List (Str × D)
  | [] => [(f, d)]
  | p :: r => if p.1 = f then (f, d) :: r else p :: putFD f d r
theorem KR.look {K : PySem.W.Frag} {F : Hp} {f : Str} : ∀ {kds : List (Str × D)} {kvs : List (Str × V)}, KR K F kvs kds → (∀ d, kds.lookup f = some d → ∃ v, kvs.lookup f = some v ∧ Rep K F v d) ∧ (kds.lookup f = none → kvs.lookup f = none)
  | [], kvs, h => by
    obtain rfl := h.unnil
    exact ⟨fun d z => (by cases z), fun _ => rfl⟩
  | (k', d') :: kds, kvs, h => by
    obtain ⟨v, r, rfl, rv, t⟩ := h.uncons
    by_cases e : f = k'
    · subst e
      simp only [List.lookup_cons, beq_self_eq_true]
      exact ⟨fun d z => (by cases z; exact ⟨v, rfl, rv⟩), fun z => (by cases z)⟩
    · have e' : (f == k') = false := by simpa using e
      simp only [List.lookup_cons, e']
      exact KR.look t
theorem KR.putF {K : PySem.W.Frag} {F : Hp} {f : Str} {v : V} {d : D} (rv : Rep K F v d) : ∀ {kds : List (Str × D)} {kvs : List (Str × V)}, KR K F kvs kds → KR K F (L2.putF f v kvs) (putFD f d kds)
  | [], kvs, h => by
    obtain rfl := h.unnil
    exact .cons rv .nil
  | (k', d') :: kds, kvs, h => by
    obtain ⟨v', r, rfl, rv', t⟩ := h.uncons
    unfold L2.putF putFD
    by_cases e : k' = f
    · subst e
      simp only [if_pos]
      exact .cons rv t
    · simp only [if_neg e]
      exact .cons rv' (KR.putF rv t)
theorem cur_obj {K : PySem.W.Frag} {F H : Hp} {G : GH} {v : V} {d : D} {C : Addr} {kds : List (Str × D)} (g : Gok K F H G) (r : Rep K F v d) (p : d.cur G = .obj C kds) : ∃ a dx kvs, v = .ref a ∧ H a = some (.ins C dx kvs) ∧ KR K F kvs kds := by
  cases d with
  | rf a =>
    cases r
    unfold D.cur at p
    cases q : G a with
    | none => simp only [q] at p; cases p
    | some o =>
      cases o with
      | ins C' kd =>
        simp only [q] at p; cases p
        obtain ⟨dx, kvs, e, h1, h2⟩ := (g.at_ a _ q).2
        exact ⟨a, dx, kvs, rfl, e, h1, h2⟩
      | lst xs => simp only [q] at p; cases p
      | dK kd => simp only [q] at p; cases p
      | dT kd => simp only [q] at p; cases p
      | deck k1 k2 k3 n => simp only [q] at p; cases p
      | dcell => simp only [q] at p; cases p
      | lkT o kvs kds => simp only [q] at p; cases p
      | lkK o kvs kds => simp only [q] at p; cases p
      | dN w kds => simp only [q] at p; cases p
      | lkN w o xs kds => simp only [q] at p; cases p
      | tupU o vs ds => simp only [q] at p; cases p
  | obj C' kd =>
    cases p
    cases r with
    | obj h h1 h2 => exact ⟨_, _, _, rfl, g.ex _ _ h, h1, h2⟩
  | _ => cases p
section
variable {X : Cx} {pos : Pos}
def rIxDict : R2 := fun x y H Q => ∃ a v, x = .ref a ∧ DGet H a y (some v) ∧ Q v H
theorem ix_dict (hu : X.A.units + 100 < cLine) : IxR X rIxDict := by
  intro value slice pins s σ H x y v u Q I rx ry h hs
  obtain ⟨a, z, rfl, g, q⟩ := h
  obtain rfl : v = Value.ref a := rx
  exact tail_any (dict_typeIs I g) PySem.F.slot_dict_getitem.lookup (d_getItem (by omega) I g ry fun w' s' I' r' => ⟨z, H, I', r', q⟩) hs
def rItem : DR2 := fun x y G Q => match D.item (x.cur G) y with
  | some d => Q d G
  | none => False
theorem de_ix {a b : Expr} {ta tb : DTE} (hu : X.A.units + 100 < cLine) (ha : DE X a ta) (hb : DE X b tb) (hs : PlainIx b := by intro _ _; rfl) : DE X (.Subscript a b pos) (dOp rItem ta tb) := by
  obtain ⟨t1, p1, r1⟩ := ha.ex
  obtain ⟨t2, p2, r2⟩ := hb.ex
  refine ⟨_, pe_ix ((ix_seq (X := X)).or (ix_dict hu)) p1 p2 hs, dop_of (a := a) (b := b) ?_ r1 r2⟩
  intro F H G x y dx dy g rx ry Q' h Q k
  unfold rItem at h
  split at h
  · rename_i d e
    have fin : ∀ v, Rep X.K F v d → Q v H := fun v r => k F H _ _ G Go.refl g r h
    unfold D.item at e
    split at e
    · rename_i xs ex
      split at e
      · cases ry
        obtain ⟨p, vs, rfl, hp, rs⟩ := cur_tup rx ex
        obtain ⟨v, hv, rv⟩ := atI_rep rs e
        exact .inl (.inr (.inl ⟨p, vs, _, v, rfl, rfl, .inl (.inl (g.ex _ _ hp)), hv, fin v rv⟩))
      · cases e
    · rename_i xs ex
      split at e
      · cases ry
        obtain ⟨p, vs, rfl, hp, rs⟩ := cur_list g rx ex
        obtain ⟨v, hv, rv⟩ := atI_rep rs e
        exact .inl (.inl ⟨p, vs, _, v, rfl, rfl, .inl (.inl hp), hv, fin v rv⟩)
      · cases e
    · rename_i z ex
      split at e
      · cases ry
        split at e
        · rename_i hz
          rename_i i
          cases ec : atI z.cps.toList i with
          | none => rw [ec] at e; cases e
          | some c =>
            rw [ec] at e
            cases e
            exact .inl (.inr (.inr ⟨z, _, c, cur_str rx ex, rfl, hz, ec, fin _ (.str _)⟩))
        · cases e
      · cases e
    · cases el : (dx.cur G).look dy with
      | none => rw [el] at e; cases e
      | some o =>
        rw [el] at e
        have e' : o = some d := e
        obtain ⟨a', o', rfl, dg, h1, _⟩ := look_get g rx ry el
        obtain ⟨z, rfl, rz⟩ := h1 d e'
        exact .inr ⟨a', z, rfl, dg, fin z rz⟩
  · exact h.elim
abbrev DTO := DS → GH → (Option Int → GH → Prop) → Prop
structure DO (X : Cx) (e : Option Expr) (t' : DTO) : Prop where
  ex : ∃ t, PO X e t ∧ ∀ F H σ S G, Ok X.K F H σ S G → ∀ Q', t' S G Q' → ∀ Q : Option Int → Hp → Prop, (∀ F' H' o G', Go F H G F' H' G' → Gok X.K F' H' G' → Q' o G' → Q o H') → t σ H Q
def dNoPart : DTO := fun _ G Q => Q none G
def dPart (ta : DTE) : DTO := fun S G Q => ta S G fun d G1 => match d with
  | .int i => Q (some i) G1
  | _ => False
theorem do_none : DO X none dNoPart := ⟨_, po_none, fun F H σ S G o Q' h Q k => k F H none G Go.refl o.g h⟩
theorem do_some {e : Expr} {ta : DTE} (h : DE X e ta) : DO X (some e) (dPart ta) := by
  obtain ⟨t1, p1, r1⟩ := h.ex
  refine ⟨_, po_some p1, fun F H σ S G o Q' h Q k => ?_⟩
  refine r1 F H σ S G o _ h _ fun F1 H1 v d G1 e1 g1 q1 h1 => ?_
  dsimp only at h1
  split at h1
  · cases q1
    exact ⟨_, rfl, k F1 H1 _ G1 e1 g1 h1⟩
  · exact h1.elim
def rSlice (x : D) (lo hi : Option Int) (G : GH) (Q : DQ) : Prop := match x.cur G with
  | .tup xs => Q (.tup (cutD xs lo hi)) G
  | .lst xs => Q (.lst (cutD xs lo hi)) G
  | .str z => z.length ≤ sizeLine ∧ Q (.str (cutS z lo hi)) G
  | .scr ns => Q (.lst ((cutD ns lo hi).map .int)) G
  | _ => False
def dSlice (ta : DTE) (tl th : DTO) : DTE := fun S G Q => ta S G fun x G1 => tl S G1 fun lo G2 => th S G2 fun hi G3 => rSlice x lo hi G3 Q
theorem Reps.ints {K : PySem.W.Frag} {F : Hp} : ∀ (ns : List Int), Reps K F (ns.map V.int) (ns.map D.int)
  | [] => .nil
  | n :: ns => .cons (.int n) (Reps.ints ns)
theorem de_slice {e : Expr} {lo hi : Option Expr} {ta : DTE} {tl th : DTO} {p2 : Pos} (he : DE X e ta) (hl : DO X lo tl) (hh : DO X hi th) : DE X (.Subscript e (.Slice lo hi none p2) pos) (dSlice ta tl th) := by
  obtain ⟨t1, p1, r1⟩ := he.ex
  obtain ⟨t2, p2', r2⟩ := hl.ex
  obtain ⟨t3, p3, r3⟩ := hh.ex
  refine ⟨_, pe_slice ((sl_tupA (X := X)).or ((sl_list (X := X)).or (sl_str (X := X)))) p1 p2' p3, fun F H σ S G o Q' h Q k => ?_⟩
  refine r1 F H σ S G o _ h _ fun F1 H1 v d G1 e1 g1 q1 h1 => ?_
  refine r2 F1 H1 σ S G1 (o.go e1 g1) _ h1 _ fun F2 H2 lo G2 e2 g2 h2 => ?_
  refine r3 F2 H2 σ S G2 ((o.go e1 g1).go e2 g2) _ h2 _ fun F3 H3 hi G3 e3 g3 h3 => ?_
  have r := (q1.mono e2.ex).mono e3.ex
  have kk := k.mono ((e1.trans e2).trans e3)
  unfold rSlice at h3
  split at h3
  · rename_i xs ex
    obtain ⟨p, vs, rfl, hp, rs⟩ := cur_tup r ex
    refine .inl ⟨p, vs, rfl, .inl (.inl (g3.ex _ _ hp)), fun z => ?_, fun _ p' hp' => ?_⟩
    · have ec : cutD xs lo hi = xs := by
        unfold cutD
        rw [rs.length] at z
        rw [z.1, z.2]
        simp
      rw [ec] at h3
      exact kk F3 H3 _ _ G3 Go.refl g3 (.tup hp rs) h3
    · have gr := Gr.new (u := .tup (cutV vs lo hi)) g3.ex hp'
      exact kk _ _ _ _ G3 gr.go (g3.grow gr) (.tup upd_same ((rs.cut lo hi).mono gr.ff)) h3
  · rename_i xs ex
    obtain ⟨p, vs, rfl, hp, rs⟩ := cur_list g3 r ex
    refine .inr (.inl ⟨p, vs, rfl, .inl (.inl hp), fun p' hp' => ?_⟩)
    have gr := Gr.new (u := .lst (cutV vs lo hi)) g3.ex hp'
    exact kk _ _ _ _ G3 gr.go (g3.grow gr) (.lst upd_same ((rs.cut lo hi).mono gr.ff)) h3
  · rename_i z ex
    exact .inr (.inr ⟨z, cur_str r ex, h3.1, kk F3 H3 _ _ G3 Go.refl g3 (.str _) h3.2⟩)
  · rename_i ns ex
    have hd : d = .scr ns := by
      cases d with
      | rf a =>
        unfold D.cur at ex
        cases q : G3 a with
        | none => simp only [q] at ex; cases ex
        | some o => cases o <;> (simp only [q] at ex; cases ex)
      | _ => exact ex
    subst hd
    cases r with
    | scr hs =>
      refine .inr (.inl ⟨_, ns.map V.int, rfl, g3.ex.sql hs, fun p' hp' => ?_⟩)
      have gr := Gr.new (u := .lst (cutV (ns.map V.int) lo hi)) g3.ex hp'
      have rc : Reps X.K F3 (cutV (ns.map V.int) lo hi) ((cutD ns lo hi).map .int) := by
        have := (Reps.ints (K := X.K) (F := F3) ns).cut lo hi
        have e : cutD (ns.map D.int) lo hi = (cutD ns lo hi).map .int := by
          unfold cutD
          simp [List.map_take, List.map_drop]
        rw [e] at this
        exact this
      exact kk _ _ _ _ G3 gr.go (g3.grow gr) (.lst upd_same (rc.mono gr.ff)) h3
  · exact h3.elim
def dFld (C : Addr) (f : Str) (ta : DTE) : DTE := fun S G Q => ta S G fun d G1 => match d.cur G1 with
  | .obj C' fs => C' = C ∧ (match fs.lookup f with
    | some v => Q v G1
    | none => False)
  | _ => False
theorem de_fld {e : Expr} {f : Str} {C : Addr} {ta : DTE} (c : Cls X.K C) (na : NoAttr X.K C f) (he : DE X e ta) (hb : attributeBase e f X.env (eval e X.env) = eval e X.env := by rfl) : DE X (.Attribute e f pos) (dFld C f ta) := by
  obtain ⟨t1, p1, r1⟩ := he.ex
  refine ⟨_, pe_fld p1 hb, fun F H σ S G o Q' h Q k => ?_⟩
  refine r1 F H σ S G o _ h _ fun F1 H1 v d G1 e1 g1 q1 h1 => ?_
  dsimp only at h1
  split at h1
  · rename_i C' fs ex
    obtain ⟨rfl, h1⟩ := h1
    obtain ⟨a, dx, kvs, rfl, ha, kr⟩ := cur_obj g1 q1 ex
    split at h1
    · rename_i z ez
      obtain ⟨y, hy, ry⟩ := kr.look.1 _ ez
      exact ⟨a, C', dx, kvs, y, rfl, ha, c, na, hy, k F1 H1 _ _ G1 e1 g1 ry h1⟩
    · exact h1.elim
  · exact h1.elim
def dSetFld (C : Addr) (f : Str) (ta tv : DTE) : DTS := fun D' S G => tv S G fun y G1 => ta S G1 fun x G2 => match x with
  | .rf a => (match G2 a with
    | some (.ins C' fs) => C' = C ∧ fs.length < 1000 ∧ D'.nx S (gput G2 a (.ins C (putFD f y fs)))
    | _ => False)
  | _ => False
theorem dp_setFld {e value : Expr} {f : Str} {C : Addr} {ta tv : DTE} {pos' : Pos} (c : Cls X.K C) (na : NoAttr X.K C f) (he : DE X e ta) (hv : DE X value tv) (hs : swapsWith value (some (.Attribute e f pos')) pos.line X.env = pure false := by rfl) :
    DP X (.Assign [.Attribute e f pos'] value pos) (dSetFld C f ta tv) := by
  obtain ⟨t1, p1, r1⟩ := he.ex
  obtain ⟨t2, p2, r2⟩ := hv.ex
  refine ⟨_, ps_fld p1 p2 hs, fun F H σ S G o D' h D0 k => ?_⟩
  refine r2 F H σ S G o _ h _ fun F1 H1 v d G1 e1 g1 q1 h1 => ?_
  refine r1 F1 H1 σ S G1 (o.go e1 g1) _ h1 _ fun F2 H2 u d2 G2 e2 g2 q2 h2 => ?_
  dsimp only at h2
  split at h2
  · rename_i a
    split at h2
    · rename_i C' fs eg
      obtain ⟨rfl, hl, h2⟩ := h2
      cases q2
      obtain ⟨fa, dx, kvs, ha, h3, h4⟩ := g2.at_ a _ eg
      have kr : KR X.K F2 kvs fs := ⟨h3, h4⟩
      have kr2 := kr.putF (f := f) (q1.mono e2.ex)
      refine ⟨a, C', dx, kvs, rfl, ha, c, na, by rw [kr.len]; exact hl, ?_⟩
      have g3 := g2.put (u := .ins C' dx (L2.putF f v kvs)) (o := .ins C' (putFD f d fs)) eg rfl rfl ⟨dx, _, upd_same, kr2.ks, kr2.vs⟩
      exact k.nx F2 _ σ S _ ((e1.trans e2).trans (Go.put eg)) ⟨g3, (o.s.mono e1.ex).mono e2.ex⟩ h2
    · exact h2.elim
  · exact h2.elim
def dSetSub (to ti : DTE) : DTG := fun v S G Q => to S G fun x G1 => ti S G1 fun i G2 => match x with
  | .rf a => (match G2 a with
    | some (.lst xs) => (match i with
      | .int j => (match ixN xs.length j with
        | some n => Q S (gput G2 a (.lst (xs.set n v)))
        | none => False)
      | _ => False)
    | some (.dK kds) => (match i.key with
      | some k => kds.length < sizeLine ∧ Q S (gput G2 a (.dK (putD kds k v)))
      | none => False)
    | some (.dT kds) => (match i with
      | .tup ds => (match D.keys ds with
        | some k => kds.length < sizeLine ∧ Q S (gput G2 a (.dT (putD kds k v)))
        | none => False)
      | _ => False)
    | _ => False)
  | _ => False
def rSetD : V → V → V → Hp → (Hp → Prop) → Prop := fun o i v H Q => ∃ a H', o = .ref a ∧ DPut H a i v H' ∧ Q H'
theorem set_dict (hu : X.A.units + 100 < cLine) : PSet X rSetD := by
  intro pins s σ H o i v ov iv u Q I ro ri rv h
  obtain ⟨a, H', rfl, g, q⟩ := h
  obtain rfl : ov = Value.ref a := ro
  exact d_setItem (by omega) I g ri rv fun s' I' => ⟨H', I', q⟩
theorem PSet.or {r r' : TSet} (h : PSet X r) (h' : PSet X r') : PSet X (fun o i v H Q => r o i v H Q ∨ r' o i v H Q) := by
  intro pins s σ H o i v ov iv u Q I ro ri rv q
  rcases q with q | q
  · exact h pins s σ H o i v ov iv u Q I ro ri rv q
  · exact h' pins s σ H o i v ov iv u Q I ro ri rv q
theorem dg_sub {o i : Expr} {to ti : DTE} (hu : X.A.units + 100 < cLine) (ho : DE X o to) (hi : DE X i ti)
    (ha : ∀ v, assign (.Subscript o i pos) X.env v = (do let ov ← holding [v] (eval o X.env); let iv ← holding [v, ov] (eval i X.env); standAt pos; holding [v, ov, iv] (setItem ov iv v); release [v, ov, iv] []) := by intro _; rfl) : DG X (.Subscript o i pos) (dSetSub to ti) := by
  obtain ⟨t1, p1, r1⟩ := ho.ex
  obtain ⟨t2, p2, r2⟩ := hi.ex
  refine ⟨_, pg_sub p1 p2 (PSet.or set_list (set_dict hu)) ha, fun F H σ S G v d o' r Q' h Q k => ?_⟩
  refine r1 F H σ S G o' _ h _ fun F1 H1 x dx G1 e1 g1 q1 h1 => ?_
  refine r2 F1 H1 σ S G1 (o'.go e1 g1) _ h1 _ fun F2 H2 y dy G2 e2 g2 q2 h2 => ?_
  have rv := (r.mono e1.ex).mono e2.ex
  dsimp only at h2
  split at h2
  · rename_i a
    cases q1
    split at h2
    · rename_i xs eg
      split at h2
      · rename_i j
        cases q2
        split at h2
        · rename_i n en
          obtain ⟨fa, vs, ha, rs⟩ := g2.at_ a _ eg
          refine .inl ⟨a, vs, j, n, rfl, rfl, ha, by rw [rs.length]; exact en, ?_⟩
          have g3 := g2.put (u := .lst (vs.set n v)) (o := .lst (xs.set n d)) eg rfl rfl ⟨_, upd_same, rs.set rv n⟩
          exact k F2 _ σ S _ ((e1.trans e2).trans (Go.put eg)) ⟨g3, (o'.s.mono e1.ex).mono e2.ex⟩ h2
        · exact h2.elim
      · exact h2.elim
    · rename_i kds eg
      split at h2
      · rename_i kk ek
        obtain ⟨hl, h2⟩ := h2
        obtain ⟨fa, kvs, ha, h3, h4⟩ := g2.at_ a _ eg
        have kr : KR X.K F2 kvs kds := ⟨h3, h4⟩
        have kr2 := kr.put (k := kk) rv
        have ey := q2.key ek
        subst ey
        refine .inr ⟨a, _, rfl, DPut.k (k := kk) ha (by rw [kr.len]; exact hl), ?_⟩
        have g3 := g2.put (u := .dK (putK kvs kk v)) (o := .dK (putD kds kk d)) eg rfl rfl ⟨_, upd_same, kr2.ks, kr2.vs⟩
        exact k F2 _ σ S _ ((e1.trans e2).trans (Go.put eg)) ⟨g3, (o'.s.mono e1.ex).mono e2.ex⟩ h2
      · exact h2.elim
    · rename_i kds eg
      split at h2
      · rename_i ds
        split at h2
        · rename_i kk ek
          obtain ⟨hl, h2⟩ := h2
          obtain ⟨fa, kvs, ha, h3, h4⟩ := g2.at_ a _ eg
          have kr : KR X.K F2 kvs kds := ⟨h3, h4⟩
          have kr2 := kr.put (k := kk) rv
          cases q2 with
          | tup hb rs =>
            have eb := rs.keys ek
            subst eb
            refine .inr ⟨a, _, rfl, DPut.t (k := kk) ha (g2.ex _ _ hb) (by rw [kr.len]; exact hl), ?_⟩
            have g3 := g2.put (u := .dT (putK kvs kk v)) (o := .dT (putD kds kk d)) eg rfl rfl ⟨_, upd_same, kr2.ks, kr2.vs⟩
            exact k F2 _ σ S _ ((e1.trans e2).trans (Go.put eg)) ⟨g3, (o'.s.mono e1.ex).mono e2.ex⟩ h2
        · exact h2.elim
      · exact h2.elim
    · exact h2.elim
  · exact h2.elim
def dMeth (C : Addr) (m : Str) (sp : SpD) (ta : DTE) (tr : DTA) : DTE := fun S G Q => ta S G fun d G1 => match d.cur G1 with
  | .obj C' fs => C' = C ∧ fs.lookup m = none ∧ tr S G1 fun ds G2 => sp (d :: ds) G2 Q
  | _ => False
theorem de_meth {pl : Sem Bool} {o e : Expr} {es : List Expr} {C f : Addr} {m : Str} {k : Nat} {fd : FuncData} {ps : List Str} {sp : SpD} {ta : DTE} {tr : DTA} {apos : Pos} (he : DE X o ta) (c : Cls X.K C) (hm : Meth X.K C m f) (Fn : FnG X.prog X.w X.K X.mg X.base CX0 k f fd ps (SpOf X.K sp)) (hA : X.A.guards = some []) (hr : Room k X.A) (hb : Binds X.K fd ps []) (ha : DA X (e :: es) tr)
    (hst : starEach (e :: es) X.env = (false, eval e X.env) :: starEach es X.env := by rfl) (hpl : (backTo pos (starEach es X.env)).any (·.1) = false := by rfl)
    (ht : eval (.Call (.Attribute o m apos) (e :: es) [] pos) X.env = (do let ov ← eval o X.env; standAt apos.atName; let (f, first) ← holding [ov] (getMethod ov m pl); callWith pos f first (backTo pos (starEach (e :: es) X.env)) (backToKw pos (keywordEach [] X.env))) := by rfl) :
    DE X (.Call (.Attribute o m apos) (e :: es) [] pos) (dMeth C m sp ta tr) := by
  obtain ⟨t1, p1, r1⟩ := he.ex
  obtain ⟨t2, p2, r2⟩ := ha.ex
  refine ⟨_, pg_meth p1 c hm Fn hA hr hb .nil pass0 p2 hst hpl ht, fun F H σ S G o Q' h Q k => ?_⟩
  refine r1 F H σ S G o _ h _ fun F1 H1 v d G1 e1 g1 q1 h1 => ?_
  dsimp only at h1
  split at h1
  · rename_i C' fs ex
    obtain ⟨rfl, hl, h1⟩ := h1
    obtain ⟨a, dx, kvs, rfl, ha', kr⟩ := cur_obj g1 q1 ex
    refine ⟨a, dx, kvs, rfl, ha', kr.look.2 hl, ?_⟩
    refine r2 F1 H1 σ S G1 (o.go e1 g1) _ h1 _ fun F2 H2 vs ds G2 e2 g2 q2 h2 => ?_
    rw [List.append_nil]
    exact ⟨F2, G2, d :: ds, Q', g2, .cons (q1.mono e2.ex) q2, h2, k.mono (e1.trans e2)⟩
  · exact h1.elim
def dMake (C : Addr) (sp : SpD) (tr : DTA) : DTE := fun S G Q => tr S G fun ds G1 => ∀ y, G1 y = none → sp (.rf y :: ds) (gput G1 y (.ins C [])) fun d G2 => match d with
  | .non => Q (.rf y) G2
  | _ => False
theorem de_make {e : Expr} {es : List Expr} {C f : Addr} {x : Str} {k : Nat} {fd : FuncData} {ps : List Str} {sp : SpD} {tr : DTA} {p : Pos} (M : Mk X.K C f) (Fn : FnG X.prog X.w X.K X.mg X.base CX0 k f fd ps (SpOf X.K sp)) (hA : X.A.guards = some []) (hr : Room (k + 1) X.A) (hg : Gl X x) (hm : X.mg x = some (.ref C)) (hb : Binds X.K fd ps []) (ha : DA X (e :: es) tr)
    (hdb : (x == ("__debug__" : Str)) = false := by decide) (he : starEach (e :: es) X.env = (false, eval e X.env) :: starEach es X.env := by rfl) (hpl : (backTo pos (starEach es X.env)).any (·.1) = false := by rfl) :
    DE X (.Call (.Name x p) (e :: es) [] pos) (dMake C sp tr) := by
  obtain ⟨t2, p2, r2⟩ := ha.ex
  refine ⟨_, pg_make M Fn hA hr hg hm hb .nil pass0 p2 hdb he hpl, fun F H σ S G o Q' h Q k => ?_⟩
  refine r2 F H σ S G o _ h _ fun F1 H1 vs ds G1 e1 g1 q1 h1 => ?_
  intro y dy ny ndy ne
  rw [List.append_nil]
  have gr := Gr.only (u := .own y) g1.ex ndy
  have g2 := g1.grow gr
  have ny2 : upd H1 dy (.own y) y = none := by rw [upd_ne (fun z => ne z.symm)]; exact ny
  have g3 := g2.alloc (u := .ins C dy []) (o := .ins C []) ny2 rfl ⟨dy, [], upd_same, rfl, .nil⟩
  have go3 : Go F1 H1 G1 F1 _ (gput G1 y (.ins C [])) := (gr.go (G := G1)).trans (Go.alloc (u := .ins C dy []) (o := .ins C []) ny2)
  refine ⟨F1, _, .rf y :: ds, _, g3, .cons (.rf y) q1, h1 y (g1.free ny), ?_⟩
  intro F4 H4 v d G4 e4 g4 q4 h4
  split at h4
  · cases q4
    exact ⟨rfl, k F4 H4 _ _ G4 ((e1.trans go3).trans e4) g4 (.rf y) h4⟩
  · exact h4.elim
end
end DL
end
section
set_option Elab.async false
set_option linter.all false
set_option maxRecDepth 100000
set_option maxHeartbeats 4000000
namespace DL
open PySem PySem.Spec PyProof.Rows L2
section
variable {X : Cx} {pos : Pos} {tg : Expr}
def dNoGuard : GH → Prop := fun _ => True
def diTup (te : DTE) : DTI := fun S G R => te S G fun d G1 => match d with
  | .tup ds => R ds dNoGuard G1
  | _ => False
theorem di_tup {e : Expr} {te : DTE} (h : DE X e te) : DI X tg e (diTup te) := by
  obtain ⟨t, p, r⟩ := h.ex
  refine ⟨_, pi_tup p, fun F H σ S G o R' h R k => ?_⟩
  refine r F H σ S G o _ h _ fun F1 H1 v d G1 e1 g1 q1 h1 => ?_
  dsimp only at h1
  split at h1
  · cases q1 with
    | tup ha rs =>
      rename_i a vs
      refine ⟨a, rfl, ⟨vs, .inl (.inl (g1.ex _ _ ha))⟩, k F1 H1 G1 _ _ _ e1 g1 ⟨fun F2 H2 G2 i d e2 g2 _ hd => ?_, fun F2 H2 G2 e2 g2 _ => ?_⟩ h1⟩
      · have hs : SqT X.K H2 a vs := .inl (.inl (g2.ex _ _ (e2 _ _ ha)))
        obtain ⟨v, hv, rv⟩ := rs.get hd
        refine ⟨⟨vs, v, hs, hv⟩, fun x H3 hy => ?_⟩
        obtain ⟨rfl, hx⟩ := hy
        have := hx vs hs
        rw [hv] at this
        cases this
        exact ⟨F2, Go.refl, g2, rv.mono e2⟩
      · exact ⟨vs, .inl (.inl (g2.ex _ _ (e2 _ _ ha))), by rw [rs.length]; exact Nat.le_refl _⟩
  · exact h1.elim
def diList (te : DTE) : DTI := fun S G R => te S G fun d G1 => match d with
  | .lst ds => R ds dNoGuard G1
  | .rf a => (match G1 a with
    | some (.lst ds) => R ds (fun G => G a = some (.lst ds)) G1
    | _ => False)
  | _ => False
theorem di_list {e : Expr} {te : DTE} (h : DE X e te) : DI X tg e (diList te) := by
  obtain ⟨t, p, r⟩ := h.ex
  refine ⟨_, pi_list p, fun F H σ S G o R' h R k => ?_⟩
  refine r F H σ S G o _ h _ fun F1 H1 v d G1 e1 g1 q1 h1 => ?_
  dsimp only at h1
  split at h1
  · cases q1 with
    | lst ha rs =>
      rename_i a vs
      refine ⟨a, rfl, ⟨vs, .inl (.inl (g1.ex _ _ ha))⟩, k F1 H1 G1 _ _ _ e1 g1 ⟨fun F2 H2 G2 i d e2 g2 _ hd => ?_, fun F2 H2 G2 e2 g2 _ => ?_⟩ h1⟩
      · have hs : SqL X.K H2 a vs := .inl (.inl (g2.ex _ _ (e2 _ _ ha)))
        obtain ⟨v, hv, rv⟩ := rs.get hd
        refine ⟨⟨vs, v, hs, hv⟩, fun x H3 hy => ?_⟩
        obtain ⟨rfl, hx⟩ := hy
        have := hx vs hs
        rw [hv] at this
        cases this
        exact ⟨F2, Go.refl, g2, rv.mono e2⟩
      · exact ⟨vs, .inl (.inl (g2.ex _ _ (e2 _ _ ha))), by rw [rs.length]; exact Nat.le_refl _⟩
  · rename_i a
    split at h1
    · rename_i ds eg
      cases q1
      obtain ⟨fa, vs0, ha0, rs0⟩ := g1.at_ a _ eg
      refine ⟨a, rfl, ⟨vs0, .inl (.inl ha0)⟩, k F1 H1 G1 _ _ _ e1 g1 ⟨fun F2 H2 G2 i d e2 g2 gd hd => ?_, fun F2 H2 G2 e2 g2 gd => ?_⟩ h1⟩
      · obtain ⟨fa2, vs, ha, rs⟩ := g2.at_ a _ gd
        have hs : SqL X.K H2 a vs := .inl (.inl ha)
        obtain ⟨v, hv, rv⟩ := rs.get hd
        refine ⟨⟨vs, v, hs, hv⟩, fun x H3 hy => ?_⟩
        obtain ⟨rfl, hx⟩ := hy
        have := hx vs hs
        rw [hv] at this
        cases this
        exact ⟨F2, Go.refl, g2, rv⟩
      · obtain ⟨fa2, vs, ha, rs⟩ := g2.at_ a _ gd
        exact ⟨vs, .inl (.inl ha), by rw [rs.length]; exact Nat.le_refl _⟩
    · exact h1.elim
  · exact h1.elim
def signs (x : Str) : List D := x.cps.toList.map fun c => .str ⟨#[c]⟩
def diStr (te : DTE) : DTI := fun S G R => te S G fun d G1 => match d with
  | .str x => R (signs x) dNoGuard G1
  | _ => False
theorem di_str {e : Expr} {te : DTE} (h : DE X e te) : DI X tg e (diStr te) := by
  obtain ⟨t, p, r⟩ := h.ex
  refine ⟨_, pi_str p, fun F H σ S G o R' h R k => ?_⟩
  refine r F H σ S G o _ h _ fun F1 H1 v d G1 e1 g1 q1 h1 => ?_
  dsimp only at h1
  split at h1
  · rename_i x
    cases q1
    refine ⟨x, rfl, k F1 H1 G1 _ _ _ e1 g1 ⟨fun F2 H2 G2 i d e2 g2 _ hd => ?_, fun F2 H2 G2 e2 g2 _ => ?_⟩ h1⟩
    · unfold signs at hd
      rw [List.getElem?_map] at hd
      cases ec : x.cps.toList[i]? with
      | none => rw [ec] at hd; cases hd
      | some c =>
        rw [ec] at hd
        cases hd
        have hl : i < x.cps.size := by
          have := (List.getElem?_eq_some_iff.mp ec).1
          simpa using this
        refine ⟨hl, fun y H3 hy => ?_⟩
        obtain ⟨rfl, c', hc', rfl⟩ := hy
        have e2' : x.cps[i]? = some c := by rw [← ec]; simp
        rw [e2'] at hc'
        cases hc'
        exact ⟨F2, Go.refl, g2, .str _⟩
    · show x.cps.size ≤ (signs x).length
      simp [signs]
  · exact h1.elim
def diRange1 (ta : DTA) : DTI := fun S G R => ta S G fun ds G1 => match ds with
  | [.int n] => -(2 ^ 62) ≤ n ∧ n < 2 ^ 62 ∧ R ((List.range n.toNat).map fun i => .int (i : Nat)) dNoGuard G1
  | _ => False
theorem itr_ok {K : PySem.W.Frag} {F : Hp} (lo : Int) (n : Nat) : ItOk K F (Itr lo n) ((List.range n).map fun i => .int (lo + (i : Nat))) dNoGuard := by
  refine ⟨fun F2 H2 G2 i d e2 g2 _ hd => ?_, fun F2 H2 G2 e2 g2 _ => ?_⟩
  · rw [List.getElem?_map] at hd
    cases ec : (List.range n)[i]? with
    | none => rw [ec] at hd; cases hd
    | some c =>
      rw [ec] at hd
      cases hd
      have hl := (List.getElem?_eq_some_iff.mp ec)
      obtain ⟨h1, h2⟩ := hl
      rw [List.length_range] at h1
      rw [List.getElem_range] at h2
      subst h2
      refine ⟨h1, fun y H3 hy => ?_⟩
      obtain ⟨rfl, rfl⟩ := hy
      exact ⟨F2, Go.refl, g2, .int _⟩
  · show n ≤ _
    simp
theorem di_range1 {a : Expr} {ta : DTA} {p : Pos} (hg : Gl X "range") (hm : X.mg "range" = none) (ha : DA X [a] ta) (hs : starEach [a] X.env = [(false, eval a X.env)] := by rfl) : DI X tg (.Call (.Name "range" p) [a] [] pos) (diRange1 ta) := by
  obtain ⟨t, p1, r⟩ := ha.ex
  refine ⟨_, pi_range1 hg hm p1 hs, fun F H σ S G o R' h R k => ?_⟩
  refine r F H σ S G o _ h _ fun F1 H1 vs ds G1 e1 g1 q1 h1 => ?_
  dsimp only at h1
  split at h1
  · rename_i n
    cases q1 with
    | cons a b =>
      cases a; cases b
      obtain ⟨h2, h3, h4⟩ := h1
      refine ⟨n, rfl, h2, h3, k F1 H1 G1 _ _ _ e1 g1 (itr_ok 0 n.toNat) ?_⟩
      have e : ((List.range n.toNat).map fun i => D.int (0 + ((i : Nat) : Int))) = (List.range n.toNat).map fun i => D.int ((i : Nat) : Int) := by
        congr 1
        funext i
        rw [Int.zero_add]
      rw [e]
      exact h4
  · exact h1.elim
def diRange2 (ta : DTA) : DTI := fun S G R => ta S G fun ds G1 => match ds with
  | [.int m, .int n] => (-(2 ^ 62) ≤ m ∧ m < 2 ^ 62 ∧ -(2 ^ 62) ≤ n ∧ n < 2 ^ 62) ∧ R ((List.range (n - m).toNat).map fun i => .int (m + (i : Nat))) dNoGuard G1
  | _ => False
def dCB (r : List D → GH → DQ → Prop) (ta : DTA) : DTE := fun S G Q => ta S G fun ds G1 => r ds G1 Q
theorem de_callB {id : String} {r' : List D → GH → DQ → Prop} {x : Str} {e : Expr} {es : List Expr} {ta : DTA} {p : Pos} (hc : CallD X (.builtin id) r') (hg : Gl X x) (hm : X.mg x = none) (hv : bootBuiltins x = some (.builtin id)) (ha : DA X (e :: es) ta) (hn : x ≠ "__name__" := by decide) (hdb : (x == ("__debug__" : Str)) = false := by decide)
    (he : starEach (e :: es) X.env = (false, eval e X.env) :: starEach es X.env := by rfl) (hpl : (backTo pos (starEach es X.env)).any (·.1) = false := by rfl) : DE X (.Call (.Name x p) (e :: es) [] pos) (dCB r' ta) := by
  obtain ⟨r, hr, rr⟩ := hc.ex
  obtain ⟨t, p1, r1⟩ := ha.ex
  refine ⟨_, pe_callB hr hg hm hv p1 hn hdb he hpl, fun F H σ S G o Q' h Q k => ?_⟩
  refine r1 F H σ S G o _ h _ fun F1 H1 vs ds G1 e1 g1 q1 h1 => ?_
  exact rr F1 H1 G1 vs ds g1 q1 Q' h1 Q (k.mono e1)
theorem de_callTy {T : String} {r' : List D → GH → DQ → Prop} {x : Str} {e : Expr} {es : List Expr} {ta : DTA} {p : Pos} (hc : CallD X (.type T) r') (hg : Gl X x) (hm : X.mg x = none) (hv : bootBuiltins x = some (.type T)) (ha : DA X (e :: es) ta) (hn : x ≠ "__name__" := by decide) (hdb : (x == ("__debug__" : Str)) = false := by decide)
    (he : starEach (e :: es) X.env = (false, eval e X.env) :: starEach es X.env := by rfl) (hpl : (backTo pos (starEach es X.env)).any (·.1) = false := by rfl) : DE X (.Call (.Name x p) (e :: es) [] pos) (dCB r' ta) := by
  obtain ⟨r, hr, rr⟩ := hc.ex
  obtain ⟨t, p1, r1⟩ := ha.ex
  refine ⟨_, pe_callTy hr hg hm hv p1 hn hdb he hpl, fun F H σ S G o Q' h Q k => ?_⟩
  refine r1 F H σ S G o _ h _ fun F1 H1 vs ds G1 e1 g1 q1 h1 => ?_
  exact rr F1 H1 G1 vs ds g1 q1 Q' h1 Q (k.mono e1)
theorem CallR.or {f : Value} {r r' : List V → Hp → VK → Prop} (h : CallR X f r) (h' : CallR X f r') : CallR X f (fun xs H Q => r xs H Q ∨ r' xs H Q) := by
  intro pins s σ H xs us Q I rx q
  rcases q with q | q
  · exact h pins s σ H xs us Q I rx q
  · exact h' pins s σ H xs us Q I rx q
/-- len -/
def D.len : D → Option Nat
  | .tup xs => some xs.length
  | .lst xs => some xs.length
  | .str z => if z.length ≤ sizeLine then some z.length else none
  | .dK kds => some kds.length
  | .dT kds => some kds.length
  | _ => none
def rLenD (ds : List D) (G : GH) (Q : DQ) : Prop := match ds with
  | [d] => (match (d.cur G).len with
    | some n => Q (.int (n : Nat)) G
    | none => False)
  | _ => False
theorem cd_len : CallD X (.builtin "len") rLenD := by
  refine ⟨_, CallR.or call_len (CallR.or call_lenD call_len_dT), fun F H G vs ds g rs Q' h Q k => ?_⟩
  unfold rLenD at h
  split at h
  · rename_i d
    cases rs with
    | cons r b =>
      cases b
      split at h
      · rename_i n en
        have fin : Q (.int (n : Nat)) H := k F H _ _ G Go.refl g (.int _) h
        unfold D.len at en
        split at en
        · rename_i xs ex
          cases en
          obtain ⟨a, vs, rfl, ha, rs⟩ := cur_tup r ex
          exact .inl ⟨_, _, rfl, .inr ⟨vs, .inl (.inl (g.ex _ _ ha)), rs.length.symm⟩, fin⟩
        · rename_i xs ex
          cases en
          obtain ⟨a, vs, rfl, ha, rs⟩ := cur_list g r ex
          exact .inl ⟨_, _, rfl, .inl ⟨vs, .inl (.inl ha), rs.length.symm⟩, fin⟩
        · rename_i z ex
          split at en
          · rename_i hz
            cases en
            have := cur_str r ex
            subst this
            exact .inl ⟨_, _, rfl, ⟨hz, rfl⟩, fin⟩
          · cases en
        · rename_i kds ex
          cases en
          obtain ⟨a, kvs, rfl, ha, kr⟩ := cur_dK g r ex
          exact .inr (.inl ⟨a, kvs, rfl, ha, by rw [kr.len]; exact fin⟩)
        · rename_i kds ex
          cases en
          obtain ⟨a, kvs, rfl, ha, kr⟩ := cur_dT g r ex
          exact .inr (.inr ⟨a, kvs, rfl, ha, by rw [kr.len]; exact fin⟩)
        · cases en
      · exact h.elim
  · exact h.elim
/-- tuple(x) of a list, a tuple -/
def rTupleD (ds : List D) (G : GH) (Q : DQ) : Prop := match ds with
  | [d] => (match d.cur G with
    | .tup xs => Q (.tup xs) G
    | .lst xs => Q (.tup xs) G
    | _ => False)
  | _ => False
theorem cd_tuple : CallD X (.type "tuple") rTupleD := by
  refine ⟨_, call_tuple_of, fun F H G vs ds g rs Q' h Q k => ?_⟩
  unfold rTupleD at h
  split at h
  · rename_i d
    cases rs with
    | cons r b =>
      cases b
      split at h
      · rename_i xs ex
        obtain ⟨a, vs, rfl, ha, rs⟩ := cur_tup r ex
        exact ⟨a, vs, rfl, .inr ⟨.inl (.inl (g.ex _ _ ha)), k F H _ _ G Go.refl g (.tup ha rs) h⟩⟩
      · rename_i xs ex
        obtain ⟨a, vs, rfl, ha, rs⟩ := cur_list g r ex
        refine ⟨a, vs, rfl, .inl ⟨.inl (.inl ha), fun l hl => ?_⟩⟩
        have gr := Gr.new (u := .tup vs) g.ex hl
        exact k _ _ _ _ G gr.go (g.grow gr) (.tup upd_same (rs.mono gr.ff)) h
      · exact h.elim
  · exact h.elim
/-- list(x) of a list, a tuple: frozen -/
def rListD (ds : List D) (G : GH) (Q : DQ) : Prop := match ds with
  | [d] => (match d.cur G with
    | .tup xs => Q (.lst xs) G
    | .lst xs => Q (.lst xs) G
    | _ => False)
  | _ => False
theorem cd_list : CallD X (.type "list") rListD := by
  refine ⟨_, call_list_of, fun F H G vs ds g rs Q' h Q k => ?_⟩
  unfold rListD at h
  split at h
  · rename_i d
    cases rs with
    | cons r b =>
      cases b
      split at h
      · rename_i xs ex
        obtain ⟨a, vs, rfl, ha, rs⟩ := cur_tup r ex
        refine ⟨a, vs, rfl, .inr (.inl (.inl (g.ex _ _ ha))), fun l hl => ?_⟩
        have gr := Gr.new (u := .lst vs) g.ex hl
        exact k _ _ _ _ G gr.go (g.grow gr) (.lst upd_same (rs.mono gr.ff)) h
      · rename_i xs ex
        obtain ⟨a, vs, rfl, ha, rs⟩ := cur_list g r ex
        refine ⟨a, vs, rfl, .inl (.inl (.inl ha)), fun l hl => ?_⟩
        have gr := Gr.new (u := .lst vs) g.ex hl
        exact k _ _ _ _ G gr.go (g.grow gr) (.lst upd_same (rs.mono gr.ff)) h
      · exact h.elim
  · exact h.elim
/-- {}: a dict that will change -/
def dNewK : DTE := fun _ G Q => ∀ p, G p = none → Q (.rf p) (gput G p (.dK []))
def dNewT : DTE := fun _ G Q => ∀ p, G p = none → Q (.rf p) (gput G p (.dT []))
theorem de_newK : DE X (.Dict [] [] pos) dNewK := by
  refine ⟨_, pe_dnewK, fun F H σ S G o Q' h Q k => ?_⟩
  intro p hp
  exact k _ _ _ _ _ (Go.alloc hp) (o.g.alloc (o := .dK []) hp rfl ⟨[], upd_same, rfl, .nil⟩) (.rf p) (h p (o.g.free hp))
/-- sorted(d) of a dict with int keys, fewer than 64 -/
def intKeys : List (Key × D) → Option (List Int)
  | [] => some []
  | (.inl i, _) :: r => (intKeys r).map (i :: ·)
  | (.inr _, _) :: _ => none
theorem intKeys_map : ∀ {kds : List (Key × D)} {ns : List Int}, intKeys kds = some ns → kds.map (·.1) = ns.map Sum.inl
  | [], _, h => by cases h; rfl
  | (.inl i, d) :: r, ns, h => by
    unfold intKeys at h
    cases e : intKeys r with
    | none => rw [e] at h; cases h
    | some m =>
      rw [e] at h
      cases h
      simp [intKeys_map e]
  | (.inr _, _) :: _, _, h => by cases h
end
end DL
end
section
set_option Elab.async false
set_option linter.all false
set_option maxRecDepth 100000
set_option maxHeartbeats 4000000
namespace DL
open PySem PySem.Spec PyProof.Rows L2
def hatE (K : PySem.W.Frag) (t' : DTE) : TE := fun σ H Q => ∃ F S G Q', Ok K F H σ S G ∧ t' S G Q' ∧ KpE K F H G Q' Q
def hatT (K : PySem.W.Frag) (t' : DTT) : TT := fun σ H Q => ∃ F S G Q', Ok K F H σ S G ∧ t' S G Q' ∧ KpT K F H G Q' Q
theorem DE.hat {X : Cx} {e : Expr} {t' : DTE} (h : DE X e t') : PE X e (hatE X.K t') := by
  obtain ⟨t, p, r⟩ := h.ex
  exact ⟨fun pins s σ H Q I ⟨F, S, G, Q', o, h1, k⟩ => p.run pins s σ H Q I (r F H σ S G o Q' h1 Q k)⟩
theorem DT.hat {X : Cx} {e : Expr} {t' : DTT} (h : DT X e t') : PT X e (hatT X.K t') := by
  obtain ⟨t, p, r⟩ := h.ex
  exact ⟨fun pins s σ H Q I ⟨F, S, G, Q', o, h1, k⟩ => p.run pins s σ H Q I (r F H σ S G o Q' h1 Q k)⟩
/-- the tests of a comprehension -/
structure DTs (X : Cx) (ifs : List Expr) (t' : DTT) : Prop where
  pt : PTs X ifs (hatT X.K t')
def dYes : DTT := fun _ G Q => Q true G
theorem dts_nil {X : Cx} : DTs X [] dYes := ⟨⟨fun pins s σ H Q I ⟨F, S, G, Q', o, h1, k⟩ => (pts_nil (X := X)).run pins s σ H Q I (k F H true G Go.refl o.g h1)⟩⟩
theorem dts_one {X : Cx} {c : Expr} {t' : DTT} (h : DT X c t') : DTs X [c] t' := ⟨pts_one h.hat⟩
inductive Pat where
  | nm (i : Nat) | tp (is : List Nat) | tn (i : Nat) (is : List Nat)
def gNames : List Nat → TGs
  | [] => gNil
  | i :: is => gCons (gName i) (gNames is)
def Pat.g (K : PySem.W.Frag) : Pat → TG
  | .nm i => gName i
  | .tp is => gTup K is.length (gNames is)
  | .tn i is => gTup K 2 (gCons (gName i) (gCons (gTup K is.length (gNames is)) gNil))
def Pat.at_ : Pat → List Nat
  | .nm i => [i]
  | .tp is => is
  | .tn i is => i :: is
def setAll : List Nat → List D → DS → Option DS
  | [], [], S => some S
  | i :: is, d :: ds, S => setAll is ds (S.set i (some d))
  | _, _, _ => none
def Pat.put (p : Pat) (d : D) (S : DS) : Option DS := match p with
  | .nm i => some (S.set i (some d))
  | .tp is => (match d with
    | .tup ds => setAll is ds S
    | _ => none)
  | .tn i is => (match d with
    | .tup [x, .tup ds] => setAll is ds (S.set i (some x))
    | _ => none)
def dwipe (S : DS) : List Nat → DS
  | [] => S
  | v :: vs => (dwipe S vs).set v none
theorem wipe_slots {K : PySem.W.Frag} {F : Hp} {σ : L2.St} {S : DS} (h : Slots K F σ S) : ∀ vs : List Nat, Slots K F (wipe σ vs) (dwipe S vs)
  | [] => h
  | v :: vs => (wipe_slots h vs).setN none v
theorem wipe_set {σ : L2.St} {i : Nat} {x : Option V} : ∀ {vs : List Nat}, i ∈ vs → wipe (σ.set i x) vs = wipe σ vs
  | [], h => by simp at h
  | v :: vs, h => by
    unfold wipe
    by_cases e : i ∈ vs
    · rw [wipe_set e]
    · have iv : i = v := by
        rcases List.mem_cons.mp h with h | h
        · exact h
        · exact absurd h e
      subst iv
      have aux : ∀ us : List Nat, i ∉ us → wipe (σ.set i x) us = (wipe σ us).set i x := by
        intro us
        induction us with
        | nil => intro _; rfl
        | cons u us ih =>
          intro hu
          rw [List.mem_cons, not_or] at hu
          unfold wipe
          rw [ih hu.2, List.set_comm _ _ hu.1]
      rw [aux vs e, List.set_set]
theorem wipe_wipe {σ : L2.St} {vs : List Nat} : wipe (wipe σ vs) vs = wipe σ vs := by
  have aux : ∀ us : List Nat, (∀ u ∈ us, u ∈ vs) → wipe (wipe σ us) vs = wipe σ vs := by
    intro us
    induction us with
    | nil => intro _; rfl
    | cons u us ih =>
      intro hu
      show wipe ((wipe σ us).set u none) vs = _
      rw [wipe_set (hu u (by simp)), ih fun w hw => hu w (by simp [hw])]
  exact aux vs fun _ h => h
theorem names_ok {K : PySem.W.Frag} {F H : Hp} {G : GH} {vs0 : List Nat} : ∀ {is : List Nat} {ds : List D} {vs : List V} {σ : L2.St} {S S2 : DS} {Q : L2.St → Hp → Prop}, (∀ i ∈ is, i ∈ vs0) → Ok K F H σ S G → Reps K F vs ds → setAll is ds S = some S2 →
    (∀ σ2, wipe σ2 vs0 = wipe σ vs0 → Ok K F H σ2 S2 G → Q σ2 H) → gNames is vs σ H Q
  | [], [], vs, σ, S, S2, Q, _, o, r, h, k => by
    cases r
    cases h
    exact ⟨rfl, k σ rfl o⟩
  | i :: is, d :: ds, vs, σ, S, S2, Q, hi, o, r, h, k => by
    cases r with
    | cons a b =>
      refine ⟨_, _, rfl, ?_⟩
      show gNames is _ _ H Q
      refine names_ok (S := S.set i (some d)) (fun j hj => hi j (by simp [hj])) ⟨o.g, o.s.set a i⟩ b h fun σ2 e o2 => k σ2 ?_ o2
      rw [e, wipe_set (hi i (by simp))]
  | [], _ :: _, _, _, _, _, _, _, _, _, h, _ => by cases h
  | _ :: _, [], _, _, _, _, _, _, _, _, h, _ => by cases h
theorem setAll_len : ∀ {is : List Nat} {ds : List D} {S S2 : DS}, setAll is ds S = some S2 → ds.length = is.length
  | [], [], _, _, _ => rfl
  | [], _ :: _, _, _, h => by cases h
  | _ :: _, [], _, _, h => by cases h
  | i :: is, d :: ds, S, S2, h => by
    have := setAll_len (is := is) (ds := ds) (S := S.set i (some d)) h
    simp [this]
theorem put_tn {i : Nat} {is : List Nat} {d : D} {S S2 : DS} (h : (Pat.tn i is).put d S = some S2) : ∃ x ds, d = .tup [x, .tup ds] ∧ setAll is ds (S.set i (some x)) = some S2 := by
  unfold Pat.put at h
  simp only at h
  split at h
  · exact ⟨_, _, rfl, h⟩
  · cases h
theorem pat_ok {K : PySem.W.Frag} {F H : Hp} {G : GH} {vs0 : List Nat} {p : Pat} {d : D} {v : V} {σ : L2.St} {S S2 : DS} {Q : L2.St → Hp → Prop} (hp : ∀ i ∈ p.at_, i ∈ vs0) (o : Ok K F H σ S G) (r : Rep K F v d) (h : p.put d S = some S2)
    (k : ∀ σ2, wipe σ2 vs0 = wipe σ vs0 → Ok K F H σ2 S2 G → Q σ2 H) : p.g K v σ H Q := by
  cases p with
  | nm i =>
    cases h
    exact k _ (wipe_set (hp i (by simp [Pat.at_]))) ⟨o.g, o.s.set r i⟩
  | tp is =>
    unfold Pat.put at h
    cases d with
    | tup ds =>
      simp only at h
      cases r with
      | tup ha rs =>
        have hl : ds.length = is.length := by
          clear ha rs o k hp
          induction is generalizing ds S with
          | nil => cases ds with
            | nil => rfl
            | cons a b => cases h
          | cons i is ih => cases ds with
            | nil => cases h
            | cons a b => simpa using ih _ h
        exact ⟨_, _, rfl, .inl (.inl (o.g.ex _ _ ha)), by rw [rs.length]; exact hl, names_ok hp o rs h k⟩
    | _ => cases h
  | tn i is =>
    obtain ⟨x, ds, rfl, h⟩ := put_tn h
    cases r with
    | tup ha rs =>
      cases rs with
      | cons rx rs =>
        cases rs with
        | cons ry rs =>
          cases rs
          cases ry with
          | tup hb ts =>
            have hl : ds.length = is.length := setAll_len h
            refine ⟨_, _, rfl, .inl (.inl (o.g.ex _ _ ha)), rfl, _, _, rfl, ?_⟩
            refine ⟨_, _, rfl, ?_⟩
            refine ⟨_, _, rfl, .inl (.inl (o.g.ex _ _ hb)), by rw [ts.length]; exact hl, ?_⟩
            refine names_ok (S := S.set i (some x)) (fun j hj => hp j (by simp [Pat.at_, hj])) ⟨o.g, o.s.set rx i⟩ ts h fun σ2 e o2 => ⟨rfl, k σ2 ?_ o2⟩
            rw [e, wipe_set (hp i (by simp [Pat.at_]))]
section
variable {X : Cx} {pos : Pos}
/-- [e for p in .. if t] -/
def dLc (wi : DTI) (p : Pat) (tt : DTT) (te : DTE) (vs : List Nat) : DTE := fun S G Q => wi S G fun ds gd G1 => ds.length ≤ sizeLine ∧ ∃ W : Nat → List D → GH → Prop, W 0 [] G1 ∧ (∀ i acc G, W i acc G → gd G) ∧
  (∀ i acc G d, W i acc G → ds[i]? = some d → ∃ S2, p.put d (dwipe S vs) = some S2 ∧ tt S2 G fun b G2 => if b = true then te S2 G2 fun y G3 => W (i + 1) (acc ++ [y]) G3 else W (i + 1) acc G2) ∧
  ∀ acc G, W ds.length acc G → Q (.lst acc) G
/-- the same, the list may change later -/
def dLcM (wi : DTI) (p : Pat) (tt : DTT) (te : DTE) (vs : List Nat) : DTE := fun S G Q => dLc wi p tt te vs S G fun d G' => match d with
  | .lst acc => ∀ a, G' a = none → Q (.rf a) (gput G' a (.lst acc))
  | _ => False
theorem lc_refine {wi : DTI} {p : Pat} {tt : DTT} {te : DTE} {vs : List Nat} {tw : TI} (hp : ∀ i ∈ p.at_, i ∈ vs)
    (r0 : ∀ F H σ S G, Ok X.K F H σ S G → ∀ R', wi S G R' → ∀ R : It → Hp → Prop, (∀ F1 H1 G1 J ds gd, Go F H G F1 H1 G1 → Gok X.K F1 H1 G1 → ItOk X.K F1 J ds gd → R' ds gd G1 → R J H1) → tw σ H R)
    {F H : Hp} {σ : L2.St} {S : DS} {G : GH} (o : Ok X.K F H σ S G) {Q' : List D → GH → Prop} {Q : VK}
    (h : wi S G fun ds gd G1 => ds.length ≤ sizeLine ∧ ∃ W : Nat → List D → GH → Prop, W 0 [] G1 ∧ (∀ i acc G, W i acc G → gd G) ∧
      (∀ i acc G d, W i acc G → ds[i]? = some d → ∃ S2, p.put d (dwipe S vs) = some S2 ∧ tt S2 G fun b G2 => if b = true then te S2 G2 fun y G3 => W (i + 1) (acc ++ [y]) G3 else W (i + 1) acc G2) ∧ ∀ acc G, W ds.length acc G → Q' acc G)
    (k : ∀ F' H' G' D accV acc, H D = none → Go F H G F' H' G' → Gok X.K F' H' G' → H' D = some (.lst accV) → Reps X.K F' accV acc → F' D = none → G' D = none → Q' acc G' → Q (.ref D) H') :
    tLc tw (p.g X.K) (hatT X.K tt) (hatE X.K te) vs σ H Q := by
  refine r0 F H σ S G o _ h _ fun F1 H1 G1 J ds gd e1 g1 it h1 => ?_
  obtain ⟨hz, W, w0, wg, turn, done⟩ := h1
  intro D hD
  have gD : G1 D = none := g1.free hD
  have fD : F1 D = none := g1.ex.nope hD
  have go0 : Go F1 H1 G1 F1 (upd H1 D (.lst [])) G1 := by
    have := (Gr.only (u := .lst []) g1.ex hD).go (G := G1)
    exact this
  have g0 : Gok X.K F1 (upd H1 D (.lst [])) G1 := g1.grow (Gr.only g1.ex hD)
  refine ⟨fun i m H2 => i + m = ds.length ∧ ∃ F2 G2 accV acc, Go F1 H1 G1 F2 H2 G2 ∧ Gok X.K F2 H2 G2 ∧ H2 D = some (.lst accV) ∧ Reps X.K F2 accV acc ∧ F2 D = none ∧ G2 D = none ∧ acc.length ≤ i ∧ W i acc G2,
    ⟨ds.length, Nat.zero_add _, F1, G1, [], [], go0, g0, upd_same, .nil, fD, gD, Nat.le_refl _, w0⟩, ?_⟩
  rintro i m H2 ⟨him, F2, G2, accV, acc, e2, g2, hd2, rs2, fd2, gd2, hl2, w2⟩
  have gg := wg i acc G2 w2
  cases m with
  | zero =>
    have hi : i = ds.length := him
    refine .inl ⟨hi ▸ it.stop F2 H2 G2 e2.ex g2 gg, ?_⟩
    exact k F2 H2 G2 D accV acc (e1.st D hD) (e1.trans e2) g2 hd2 rs2 fd2 gd2 (done acc G2 (hi ▸ w2))
  | succ m =>
    have hlt : i < ds.length := by omega
    have hd : ds[i]? = some ds[i] := List.getElem?_eq_getElem hlt
    obtain ⟨ig, iy⟩ := it.go F2 H2 G2 i _ e2.ex g2 gg hd
    refine .inr ⟨ig, fun H3 => ∃ F3 G3 accV acc, Go F1 H1 G1 F3 H3 G3 ∧ Gok X.K F3 H3 G3 ∧ H3 D = some (.lst accV) ∧ Reps X.K F3 accV acc ∧ F3 D = none ∧ G3 D = none ∧ acc.length ≤ i + 1 ∧ W (i + 1) acc G3,
      fun H3 z => ⟨m, Nat.lt_succ_self m, by omega, z⟩, fun x H3 hy => ?_⟩
    obtain ⟨F3, e3, g3, q3⟩ := iy x H3 hy
    obtain ⟨S2, hS2, body⟩ := turn i acc G2 _ w2 hd
    have o3 : Ok X.K F3 H3 (wipe σ vs) (dwipe S vs) G2 := ⟨g3, wipe_slots (((o.s.mono e1.ex).mono e2.ex).mono e3.ex) vs⟩
    have hd3 : H3 D = some (.lst accV) := (e3.fr D _ hd2 gd2).1
    have fd3 : F3 D = none := e3.no D _ hd2 gd2 fd2 (fun _ z => nomatch z)
    refine pat_ok hp o3 q3 hS2 fun σ2 ew o4 => ⟨by rw [ew, wipe_wipe], ?_⟩
    refine ⟨F3, S2, G2, _, o4, body, fun F5 H5 b G5 e5 g5 h5 => ?_⟩
    have hd5 := e5.fr D _ hd3 gd2
    have fd5 := e5.no D _ hd3 gd2 fd3 (fun _ z => nomatch z)
    cases b with
    | true =>
      dsimp only
      rw [if_pos rfl] at h5 ⊢
      refine ⟨F5, S2, G5, _, o4.go e5 g5, h5, fun F6 H6 y dy G6 e6 g6 r6 h6 => ?_⟩
      have hd6 := e6.fr D _ hd5.1 hd5.2
      have fd6 := e6.no D _ hd5.1 hd5.2 fd5 (fun _ z => nomatch z)
      have r6' := ((rs2.mono e3.ex).mono e5.ex).mono e6.ex
      refine ⟨accV, hd6.1, by rw [rs2.length]; omega, F6, G6, accV ++ [y], acc ++ [dy], ?_, ?_, upd_same, r6'.append (.one r6), fd6, hd6.2, by simp; omega, h6⟩
      · have ea := (((e2.trans e3).trans e5).trans e6)
        refine ⟨ea.ex, fun b u hb gb => ?_, ea.no, fun b z => ea.st b (upd_none z)⟩
        have q : b ≠ D := fun z => by rw [z, hD] at hb; cases hb
        rw [upd_ne q]
        exact ea.fr b u hb gb
      · refine ⟨g6.ex.updR fd6, fun a w ha => ?_, g6.one⟩
        have q : a ≠ D := fun z => by rw [z, hd6.2] at ha; cases ha
        obtain ⟨fa, ma⟩ := g6.at_ a w ha
        refine ⟨fa, ma.move (Ex.refl F6) (fun b u hb hc => ?_) fun c z => z⟩
        have q2 : b ≠ D := fun z => by
          rcases hc with hc | hc
          · exact q (hc ▸ z)
          · rw [z, hd6.2] at hc; cases hc
        rw [upd_ne q2]; exact hb
    | false =>
      dsimp only
      rw [if_neg Bool.false_ne_true] at h5 ⊢
      exact ⟨F5, G5, accV, acc, (e2.trans e3).trans e5, g5, hd5.1, (rs2.mono e3.ex).mono e5.ex, fd5, hd5.2, by omega, h5⟩
/-- freeze what is in no one's hands -/
theorem hold_freeze {K : PySem.W.Frag} {F H : Hp} {G : GH} {D : Addr} {u : HO} (g : Gok K F H G) (hd : H D = some u) (fd : F D = none) (gd : G D = none) : Gok K (upd F D u) H G := by
  refine ⟨fun a w z => ?_, fun a w e => ?_, g.one⟩
  · by_cases q : a = D
    · subst q; rw [upd_same] at z; cases z; exact hd
    · rw [upd_ne q] at z; exact g.ex a w z
  · have q : a ≠ D := fun y => by rw [y, gd] at e; cases e
    obtain ⟨f, m⟩ := g.at_ a w e
    exact ⟨by rw [upd_ne q]; exact f, m.move (Ex.new fd) (fun b w hb _ => hb) fun c z => z⟩
theorem go_hold {F H F' H' : Hp} {G G' : GH} {D : Addr} {u : HO} (h : H D = none) (go : Go F H G F' H' G') (fd : F' D = none) : Go F H G (upd F' D u) H' G' := by
  refine ⟨go.ex.trans (Ex.new fd), go.fr, fun b w hb gb fb t => ?_, go.st⟩
  have q : b ≠ D := fun z => by rw [z, h] at hb; cases hb
  rw [upd_ne q]; exact go.no b w hb gb fb t
theorem de_lc {elt tg iter : Expr} {ifs : List Expr} {scope : Scope} {own : List (Str × Nat)} {wi : DTI} {p : Pat} {tt : DTT} {te : DTE} (hc : X.calm = true) (hN : X.N.Nodup) (hi : DI X tg iter wi) (ok : BlkOk X.N X.env.scope scope own) (hp : ∀ i ∈ p.at_, i ∈ own.map (·.2))
    (hg : ∀ (s : Shared) (H : Hp) (C : Addr) (cl : List (Str × Addr)) (fp : List Addr), PG (X.blk s H scope (compEnvC scope cl C X.env) fp) tg (p.g X.K)) (ht : ∀ (s : Shared) (H : Hp) (C : Addr) (cl : List (Str × Addr)) (fp : List Addr), DTs (X.blk s H scope (compEnvC scope cl C X.env) fp) ifs tt)
    (he : ∀ (s : Shared) (H : Hp) (C : Addr) (cl : List (Str × Addr)) (fp : List Addr), DE (X.blk s H scope (compEnvC scope cl C X.env) fp) elt te) (hs : ∀ x, foldedSetIterable iter X.env x = pure x := by intro _; rfl) :
    DE X (.ListComp elt [⟨tg, iter, ifs, 0⟩] scope pos) (dLc wi p tt te (own.map (·.2))) := by
  obtain ⟨tw, p0, r0⟩ := hi.ex
  refine ⟨_, pe_lc (tt := hatT X.K tt) (te := hatE X.K te) hc hN p0 ok hg (fun s H C cl fp => (ht s H C cl fp).pt) (fun s H C cl fp => (he s H C cl fp).hat) hs, fun F H σ S G o Q' h Q k => ?_⟩
  refine lc_refine hp r0 o (Q' := fun acc G' => Q' (.lst acc) G') h fun F' H' G' D accV acc hD go g hd rs fd gd q => ?_
  exact k _ H' _ _ G' (go_hold hD go fd) (hold_freeze g hd fd gd) (.lst upd_same (rs.mono (Ex.new fd))) q
/-- name = [..] on one line -/
theorem dp_setLc {i : Nat} {y : Str} {py spos : Pos} {elt tg iter : Expr} {ifs : List Expr} {scope : Scope} {own : List (Str × Nat)} {wi : DTI} {p : Pat} {tt : DTT} {te : DTE} (hc : X.calm = true) (hN : X.N.Nodup) (hy : X.N[i]? = some y) (hyl : X.env.scope.names.lookup y = some .local)
    (hsw : swapsWith (.ListComp elt [⟨tg, iter, ifs, 0⟩] scope pos) (some (.Name y py)) spos.line X.env = pure true) (hi : DI X tg iter wi) (ok : BlkOk X.N X.env.scope scope own) (hp : ∀ i ∈ p.at_, i ∈ own.map (·.2))
    (hg : ∀ (s : Shared) (H : Hp) (C : Addr) (cl : List (Str × Addr)) (fp : List Addr), PG (X.blk s H scope (compEnvC scope cl C X.env) fp) tg (p.g X.K)) (ht : ∀ (s : Shared) (H : Hp) (C : Addr) (cl : List (Str × Addr)) (fp : List Addr), DTs (X.blk s H scope (compEnvC scope cl C X.env) fp) ifs tt)
    (he : ∀ (s : Shared) (H : Hp) (C : Addr) (cl : List (Str × Addr)) (fp : List Addr), DE (X.blk s H scope (compEnvC scope cl C X.env) fp) elt te) (hs : ∀ x, foldedSetIterable iter X.env x = pure x := by intro _; rfl) :
    DP X (.Assign [.Name y py] (.ListComp elt [⟨tg, iter, ifs, 0⟩] scope pos) spos) (dAsg (dLc wi p tt te (own.map (·.2))) (dgName i)) := by
  obtain ⟨tw, p0, r0⟩ := hi.ex
  refine ⟨_, ps_setLc (tt := hatT X.K tt) (te := hatE X.K te) hc hN hy hyl hsw p0 ok hg (fun s H C cl fp => (ht s H C cl fp).pt) (fun s H C cl fp => (he s H C cl fp).hat) hs, fun F H σ S G o D' h D0 k => ?_⟩
  refine lc_refine hp r0 o (Q' := fun acc G' => D'.nx (S.set i (some (.lst acc))) G') h fun F' H' G' D accV acc hD go g hd rs fd gd q => ?_
  have go2 := go_hold (u := .lst accV) hD go fd
  exact k.nx _ H' _ _ G' go2 ⟨hold_freeze g hd fd gd, (o.s.mono go2.ex).set (.lst upd_same (rs.mono (Ex.new fd))) i⟩ q
end
end DL
end
section
set_option Elab.async false
set_option linter.all false
set_option maxRecDepth 100000
set_option maxHeartbeats 4000000
namespace DL
open PySem PySem.Spec PyProof.Rows L2
def D.hasTy (T : String) : D → Bool
  | .lst _ => T == "list"
  | .str _ => T == "str"
  | .dK _ => T == "dict"
  | .dT _ => T == "dict"
  | _ => false
section
variable {X : Cx} {pos : Pos}
structure MtD (X : Cx) (id : String) (r' : D → List D → GH → DQ → Prop) : Prop where
  ex : ∃ r, MtR X id r ∧ ∀ F H G x dx vs ds, Gok X.K F H G → Rep X.K F x dx → Reps X.K F vs ds → ∀ Q', r' dx ds G Q' → ∀ Q, KpE X.K F H G Q' Q → r x vs H Q
theorem hasTy_tyV {F H : Hp} {G : GH} {v : V} {d : D} {T : String} (g : Gok X.K F H G) (r : Rep X.K F v d) (h : D.hasTy T (d.cur G) = true) : tyV X.K T v H := by
  cases e : d.cur G with
  | lst xs =>
    rw [e] at h
    obtain ⟨a, vs, rfl, ha, _⟩ := cur_list g r e
    exact .inl ⟨by simpa [D.hasTy] using h, vs, .inl (.inl ha)⟩
  | str z =>
    rw [e] at h
    rw [cur_str r e]
    show T = "str"
    simpa [D.hasTy] using h
  | dK kds =>
    rw [e] at h
    obtain ⟨a, kvs, rfl, ha, _⟩ := cur_dK g r e
    exact .inr (.inr (.inl ⟨by simpa [D.hasTy] using h, .inl ⟨kvs, ha⟩⟩))
  | dT kds =>
    rw [e] at h
    obtain ⟨a, kvs, rfl, ha, _⟩ := cur_dT g r e
    exact .inr (.inr (.inl ⟨by simpa [D.hasTy] using h, .inr ⟨kvs, ha⟩⟩))
  | _ => rw [e] at h; cases h
def dBM (T : String) (r : D → List D → GH → DQ → Prop) (to : DTE) (ta : DTA) : DTE := fun S G Q => to S G fun x G1 => D.hasTy T (x.cur G1) = true ∧ ta S G1 fun ds G2 => r x ds G2 Q
theorem de_bm {T id : String} {name : Str} {o e : Expr} {es : List Expr} {r' : D → List D → GH → DQ → Prop} {to : DTE} {ta : DTA} {apos : Pos} (pa : PlainAttrs T) (slot : Slot T name id) (hty : typeOf (.builtin id) = pure (.type "method_descriptor")) (hm : MtD X id r') (ho : DE X o to) (ha : DA X (e :: es) ta)
    (hbase : attributeBase o name X.env (eval o X.env) = eval o X.env := by rfl)
    (hfew : ((backTo pos (starEach (e :: es) X.env)).all (fun x => !x.1) && (backToKw pos (keywordEach [] X.env)).all (fun x => x.1.isSome) && decide ((e :: es).length + ([] : List Keyword).length + (if ([] : List Keyword).isEmpty then 0 else 1) < 30)) = true := by rfl)
    (hline : (apos.endLine == pos.line) = true := by rfl) (hs : starEach (e :: es) X.env = (false, eval e X.env) :: starEach es X.env := by rfl) (hplain : (backTo pos (starEach es X.env)).any (·.1) = false := by rfl) :
    DE X (.Call (.Attribute o name apos) (e :: es) [] pos) (dBM T r' to ta) := by
  obtain ⟨r, hr, rr⟩ := hm.ex
  obtain ⟨t1, p1, r1⟩ := ho.ex
  obtain ⟨t2, p2, r2⟩ := ha.ex
  refine ⟨_, pe_bm pa slot hty hr p1 p2 hbase hfew hline hs hplain, fun F H σ S G o Q' h Q k => ?_⟩
  refine r1 F H σ S G o _ h _ fun F1 H1 v d G1 e1 g1 q1 h1 => ?_
  refine ⟨hasTy_tyV g1 q1 h1.1, ?_⟩
  refine r2 F1 H1 σ S G1 (o.go e1 g1) _ h1.2 _ fun F2 H2 vs ds G2 e2 g2 q2 h2 => ?_
  exact rr F2 H2 G2 v d vs ds g2 (q1.mono e2.ex) q2 Q' h2 Q (k.mono (e1.trans e2))
def dBM0 (T : String) (r : D → List D → GH → DQ → Prop) (to : DTE) : DTE := fun S G Q => to S G fun x G1 => D.hasTy T (x.cur G1) = true ∧ r x [] G1 Q
theorem de_bm0 {T id : String} {name : Str} {o : Expr} {r' : D → List D → GH → DQ → Prop} {to : DTE} {apos : Pos} (pa : PlainAttrs T) (slot : Slot T name id) (hty : typeOf (.builtin id) = pure (.type "method_descriptor")) (hm : MtD X id r') (ho : DE X o to)
    (hbase : attributeBase o name X.env (eval o X.env) = eval o X.env := by rfl) (hline : (apos.endLine == pos.line) = true := by rfl) :
    DE X (.Call (.Attribute o name apos) [] [] pos) (dBM0 T r' to) := by
  obtain ⟨r, hr, rr⟩ := hm.ex
  obtain ⟨t1, p1, r1⟩ := ho.ex
  refine ⟨_, pe_bm0 pa slot hty hr p1 hbase hline, fun F H σ S G o Q' h Q k => ?_⟩
  refine r1 F H σ S G o _ h _ fun F1 H1 v d G1 e1 g1 q1 h1 => ?_
  exact ⟨hasTy_tyV g1 q1 h1.1, rr F1 H1 G1 v d [] [] g1 q1 .nil Q' h1.2 Q (k.mono e1)⟩
/-- l.append(e) -/
def rAppendD (x : D) (ds : List D) (G : GH) (Q : DQ) : Prop := match x, ds with
  | .rf a, [d] => (match G a with
    | some (.lst xs) => xs.length < sizeLine ∧ Q .non (gput G a (.lst (xs ++ [d])))
    | _ => False)
  | _, _ => False
theorem md_append : MtD X "list.append" rAppendD := by
  refine ⟨_, mt_append, fun F H G x dx vs ds g rx rs Q' h Q k => ?_⟩
  unfold rAppendD at h
  split at h
  · rename_i a d
    split at h
    · rename_i xs eg
      cases rx
      cases rs with
      | cons r b =>
        cases b
        obtain ⟨fa, ws, ha, rw'⟩ := g.at_ a _ eg
        refine ⟨a, ws, _, rfl, rfl, ha, by rw [rw'.length]; exact h.1, ?_⟩
        exact k F _ _ _ _ (Go.put eg) (g.put (o := .lst (xs ++ [d])) eg rfl rfl ⟨_, upd_same, rw'.append (.one r)⟩) .non h.2
    · exact h.elim
  · exact h.elim
/-- l.extend(m) -/
def rExtendD (x : D) (ds : List D) (G : GH) (Q : DQ) : Prop := match x, ds with
  | .rf a, [d] => (match G a, d.cur G with
    | some (.lst xs), .lst ys => xs.length + ys.length ≤ sizeLine ∧ Q .non (gput G a (.lst (xs ++ ys)))
    | _, _ => False)
  | _, _ => False
theorem md_extend : MtD X "list.extend" rExtendD := by
  refine ⟨_, mt_extend, fun F H G x dx vs ds g rx rs Q' h Q k => ?_⟩
  unfold rExtendD at h
  split at h
  · rename_i a d
    split at h
    · rename_i xs ys eg ey
      cases rx
      cases rs with
      | cons r b =>
        cases b
        obtain ⟨fa, ws, ha, rw'⟩ := g.at_ a _ eg
        obtain ⟨b, zs, rfl, hb, rz⟩ := cur_list g r ey
        refine ⟨a, b, ws, zs, rfl, rfl, ha, hb, by rw [rw'.length, rz.length]; exact h.1, ?_⟩
        exact k F _ _ _ _ (Go.put eg) (g.put (o := .lst (xs ++ ys)) eg rfl rfl ⟨_, upd_same, rw'.append rz⟩) .non h.2
    · exact h.elim
  · exact h.elim
/-- l.pop() -/
def rPopD (x : D) (ds : List D) (G : GH) (Q : DQ) : Prop := match x, ds with
  | .rf a, [] => (match G a with
    | some (.lst xs) => (match xs[xs.length - 1]? with
      | some d => Q d (gput G a (.lst xs.dropLast))
      | none => False)
    | _ => False)
  | _, _ => False
theorem Reps.dropLast {K : PySem.W.Frag} {F : Hp} {vs : List V} {ds : List D} (r : Reps K F vs ds) : Reps K F vs.dropLast ds.dropLast := by
  rw [List.dropLast_eq_take, List.dropLast_eq_take, r.length]
  exact r.take _
theorem md_pop : MtD X "list.pop" rPopD := by
  refine ⟨_, mt_pop, fun F H G x dx vs ds g rx rs Q' h Q k => ?_⟩
  unfold rPopD at h
  split at h
  · rename_i a
    split at h
    · rename_i xs eg
      split at h
      · rename_i d ed
        cases rx
        cases rs
        obtain ⟨fa, ws, ha, rw'⟩ := g.at_ a _ eg
        obtain ⟨v, hv, rv⟩ := rw'.get ed
        refine ⟨a, ws, v, rfl, rfl, ha, by rw [rw'.length]; exact hv, ?_⟩
        exact k F _ _ _ _ (Go.put eg) (g.put (o := .lst xs.dropLast) eg rfl rfl ⟨_, upd_same, rw'.dropLast⟩) rv h
      · exact h.elim
    · exact h.elim
  · exact h.elim
/-- sep.join(texts) -/
def texts : List D → Option (List Str)
  | [] => some []
  | .str x :: r => (texts r).map (x :: ·)
  | _ :: _ => none
theorem texts_rep {K : PySem.W.Frag} {F : Hp} : ∀ {ds : List D} {xs : List Str} {vs : List V}, texts ds = some xs → Reps K F vs ds → vs = xs.map V.str
  | [], xs, _, h, .nil => by cases h; rfl
  | .str x :: r, xs, _, h, .cons a b => by
    unfold texts at h
    cases e : texts r with
    | none => rw [e] at h; cases h
    | some m =>
      rw [e] at h
      cases h
      cases a
      simp [texts_rep e b]
  | .non :: _, _, _, h, _ => by cases h
  | .bl _ :: _, _, _, h, _ => by cases h
  | .int _ :: _, _, _, h, _ => by cases h
  | .ty _ :: _, _, _, h, _ => by cases h
  | .tup _ :: _, _, _, h, _ => by cases h
  | .lst _ :: _, _, _, h, _ => by cases h
  | .dK _ :: _, _, _, h, _ => by cases h
  | .dT _ :: _, _, _, h, _ => by cases h
  | .obj _ _ :: _, _, _, h, _ => by cases h
  | .rf _ :: _, _, _, h, _ => by cases h
  | .scr _ :: _, _, _, h, _ => by cases h
def rJoinD (x : D) (ds : List D) (G : GH) (Q : DQ) : Prop := match x, ds with
  | .str a, [d] => (match d.cur G with
    | .lst ys => (match texts ys with
      | some zs => (zs.map (·.length)).sum + zs.length * a.length ≤ 16777216 ∧ Q (.str (Txt.join a zs)) G
      | none => False)
    | .tup ys => (match texts ys with
      | some zs => (zs.map (·.length)).sum + zs.length * a.length ≤ 16777216 ∧ Q (.str (Txt.join a zs)) G
      | none => False)
    | _ => False)
  | _, _ => False
theorem md_join : MtD X "str.join" rJoinD := by
  refine ⟨_, mt_join, fun F H G x dx vs ds g rx rs Q' h Q k => ?_⟩
  unfold rJoinD at h
  split at h
  · rename_i a d
    cases rx
    cases rs with
    | cons r b =>
      cases b
      split at h
      · rename_i ys ey
        split at h
        · rename_i zs ez
          obtain ⟨p, ws, rfl, hp, rw'⟩ := cur_list g r ey
          have := texts_rep ez rw'
          subst this
          exact ⟨a, p, zs, rfl, rfl, .inl (.inl (.inl hp)), h.1, k F H _ _ G Go.refl g (.str _) h.2⟩
        · exact h.elim
      · rename_i ys ey
        split at h
        · rename_i zs ez
          obtain ⟨p, ws, rfl, hp, rw'⟩ := cur_tup r ey
          have := texts_rep ez rw'
          subst this
          exact ⟨a, p, zs, rfl, rfl, .inr (.inl (.inl (g.ex _ _ hp))), h.1, k F H _ _ G Go.refl g (.str _) h.2⟩
        · exact h.elim
      · exact h.elim
  · exact h.elim
def dGet1 (td ty : DTE) : DTE := fun S G Q => td S G fun x G1 => D.hasTy "dict" (x.cur G1) = true ∧ ty S G1 fun y G2 => match (x.cur G2).look y with
  | some o => Q (o.getD .non) G2
  | none => False
def dGet2 (td ty tx : DTE) : DTE := fun S G Q => td S G fun x G1 => D.hasTy "dict" (x.cur G1) = true ∧ ty S G1 fun y G2 => tx S G2 fun z G3 => match (x.cur G3).look y with
  | some o => Q (o.getD z) G3
  | none => False
theorem hasTy_isD {F H : Hp} {G : GH} {v : V} {d : D} (g : Gok X.K F H G) (r : Rep X.K F v d) (h : D.hasTy "dict" (d.cur G) = true) : ∃ a, v = .ref a ∧ IsD H a := by
  cases e : d.cur G with
  | dK kds =>
    obtain ⟨a, kvs, rfl, ha, _⟩ := cur_dK g r e
    exact ⟨a, rfl, .inl ⟨kvs, .inl ha⟩⟩
  | dT kds =>
    obtain ⟨a, kvs, rfl, ha, _⟩ := cur_dT g r e
    exact ⟨a, rfl, .inr ⟨kvs, .inl ha⟩⟩
  | _ => rw [e] at h; simp [D.hasTy] at h
theorem de_get1 {o e : Expr} {td ty : DTE} {apos : Pos} (hu : X.A.units + 100 < cLine) (ho : DE X o td) (he : DE X e ty) (m : M1 X o "get" apos e pos := by exact ⟨rfl, rfl, rfl, rfl⟩) : DE X (.Call (.Attribute o "get" apos) [e] [] pos) (dGet1 td ty) := by
  obtain ⟨t1, p1, r1⟩ := ho.ex
  obtain ⟨t2, p2, r2⟩ := he.ex
  refine ⟨_, pe_dget1 (by omega) p1 p2 m, fun F H σ S G o Q' h Q k => ?_⟩
  refine r1 F H σ S G o _ h _ fun F1 H1 v d G1 e1 g1 q1 h1 => ?_
  obtain ⟨a, rfl, isd⟩ := hasTy_isD g1 q1 h1.1
  refine ⟨a, rfl, isd, r2 F1 H1 σ S G1 (o.go e1 g1) _ h1.2 _ fun F2 H2 u d2 G2 e2 g2 q2 h2 => ?_⟩
  dsimp only at h2
  split at h2
  · rename_i o eo
    obtain ⟨a', o', ea, dg, h3, h4⟩ := look_get g2 (q1.mono e2.ex) q2 eo
    cases ea
    refine ⟨o', dg, ?_⟩
    cases o with
    | none =>
      rw [h4 rfl]
      exact k F2 H2 _ _ G2 (e1.trans e2) g2 .non h2
    | some d3 =>
      obtain ⟨z, rfl, rz⟩ := h3 d3 rfl
      exact k F2 H2 _ _ G2 (e1.trans e2) g2 rz h2
  · exact h2.elim
theorem de_get2 {o e f : Expr} {td ty tx : DTE} {apos : Pos} (hu : X.A.units + 100 < cLine) (ho : DE X o td) (he : DE X e ty) (hf : DE X f tx) (m : M2 X o "get" apos e f pos := by exact ⟨rfl, rfl, rfl, rfl⟩) : DE X (.Call (.Attribute o "get" apos) [e, f] [] pos) (dGet2 td ty tx) := by
  obtain ⟨t1, p1, r1⟩ := ho.ex
  obtain ⟨t2, p2, r2⟩ := he.ex
  obtain ⟨t3, p3, r3⟩ := hf.ex
  refine ⟨_, pe_dget2 (by omega) p1 p2 p3 m, fun F H σ S G o Q' h Q k => ?_⟩
  refine r1 F H σ S G o _ h _ fun F1 H1 v d G1 e1 g1 q1 h1 => ?_
  obtain ⟨a, rfl, isd⟩ := hasTy_isD g1 q1 h1.1
  refine ⟨a, rfl, isd, r2 F1 H1 σ S G1 (o.go e1 g1) _ h1.2 _ fun F2 H2 u d2 G2 e2 g2 q2 h2 => ?_⟩
  refine r3 F2 H2 σ S G2 ((o.go e1 g1).go e2 g2) _ h2 _ fun F3 H3 w d3 G3 e3 g3 q3 h3 => ?_
  dsimp only at h3
  split at h3
  · rename_i o eo
    obtain ⟨a', o', ea, dg, h5, h4⟩ := look_get g3 ((q1.mono e2.ex).mono e3.ex) (q2.mono e3.ex) eo
    cases ea
    refine ⟨o', dg, ?_⟩
    cases o with
    | none =>
      rw [h4 rfl]
      exact k F3 H3 _ _ G3 ((e1.trans e2).trans e3) g3 q3 h3
    | some d4 =>
      obtain ⟨z, rfl, rz⟩ := h5 d4 rfl
      exact k F3 H3 _ _ G3 ((e1.trans e2).trans e3) g3 rz h3
  · exact h3.elim
theorem de_ty {x : Str} {T : String} (hg : Gl X x) (hm : X.mg x = none) (hv : bootBuiltins x = some (.type T)) (hn : x ≠ "__name__" := by decide) (hd : (x == ("__debug__" : Str)) = false := by decide) : DE X (.Name x pos) (dC (.ty T)) :=
  dc_of (pe_bltn (v := .ty T) hg hm hv rfl hn hd) fun _ => .ty T
def D.tyN : D → Option String
  | .non => some "NoneType"
  | .bl _ => some "bool"
  | .int _ => some "int"
  | .str _ => some "str"
  | .tup _ => some "tuple"
  | .lst _ => some "list"
  | .dK _ => some "dict"
  | .dT _ => some "dict"
  | _ => none
theorem tyN_of {F H : Hp} {G : GH} {v : V} {d : D} {n : String} (g : Gok X.K F H G) (r : Rep X.K F v d) (h : (d.cur G).tyN = some n) : TyOf X.K H v (.type n) := by
  cases e : d.cur G with
  | lst xs =>
    rw [e] at h; cases h
    obtain ⟨a, vs, rfl, ha, _⟩ := cur_list g r e
    exact .lst ha
  | tup xs =>
    rw [e] at h; cases h
    obtain ⟨a, vs, rfl, ha, _⟩ := cur_tup r e
    exact .tup (g.ex _ _ ha)
  | dK kds =>
    rw [e] at h; cases h
    obtain ⟨a, kvs, rfl, ha, _⟩ := cur_dK g r e
    exact .dK ha
  | dT kds =>
    rw [e] at h; cases h
    obtain ⟨a, kvs, rfl, ha, _⟩ := cur_dT g r e
    exact .dT ha
  | str z => rw [e] at h; cases h; rw [cur_str r e]; exact .str z
  | int z => rw [e] at h; cases h; rw [cur_int r e]; exact .int z
  | non =>
    rw [e] at h; cases h
    cases d <;> first | (cases r; exact .non) | (exfalso; simp [D.cur] at e; done) | skip
    · rename_i a
      exfalso
      unfold D.cur at e
      cases q : G a with
      | none => simp only [q] at e; cases e
      | some o => cases o <;> (simp only [q] at e; cases e)
  | bl b =>
    rw [e] at h; cases h
    cases d <;> first | (cases e; cases r; exact .bl _) | (exfalso; simp [D.cur] at e; done) | skip
    · rename_i a
      exfalso
      unfold D.cur at e
      cases q : G a with
      | none => simp only [q] at e; cases e
      | some o => cases o <;> (simp only [q] at e; cases e)
  | _ => rw [e] at h; cases h
def rIsiD (ds : List D) (G : GH) (Q : DQ) : Prop := match ds with
  | [d, .ty T] => (match (d.cur G).tyN with
    | some n => (match kitB n T with
      | some b => Q (.bl b) G
      | none => False)
    | none => False)
  | _ => False
theorem cd_isi : CallD X (.builtin "isinstance") rIsiD := by
  refine ⟨_, call_isi, fun F H G vs ds g rs Q' h Q k => ?_⟩
  unfold rIsiD at h
  split at h
  · rename_i d T
    split at h
    · rename_i n en
      split at h
      · rename_i b eb
        cases rs with
        | cons r rest =>
          cases rest with
          | cons r2 rest2 =>
            cases rest2
            cases r2
            exact ⟨_, _, .type n, .type T, b, rfl, .ty T, .base (tyN_of g r en), kit_ty eb, k F H _ _ G Go.refl g (.bl _) h⟩
      · exact h.elim
    · exact h.elim
  · exact h.elim
def bools : List D → Option (List Bool)
  | [] => some []
  | .bl x :: r => (bools r).map (x :: ·)
  | _ :: _ => none
theorem bools_rep {K : PySem.W.Frag} {F : Hp} : ∀ {ds : List D} {xs : List Bool} {vs : List V}, bools ds = some xs → Reps K F vs ds → vs = xs.map V.bl
  | [], xs, _, h, .nil => by cases h; rfl
  | .bl x :: r, xs, _, h, .cons a b => by
    unfold bools at h
    cases e : bools r with
    | none => rw [e] at h; cases h
    | some m =>
      rw [e] at h
      cases h
      cases a
      simp [bools_rep e b]
  | .non :: _, _, _, h, _ => by cases h
  | .str _ :: _, _, _, h, _ => by cases h
  | .int _ :: _, _, _, h, _ => by cases h
  | .ty _ :: _, _, _, h, _ => by cases h
  | .tup _ :: _, _, _, h, _ => by cases h
  | .lst _ :: _, _, _, h, _ => by cases h
  | .dK _ :: _, _, _, h, _ => by cases h
  | .dT _ :: _, _, _, h, _ => by cases h
  | .obj _ _ :: _, _, _, h, _ => by cases h
  | .rf _ :: _, _, _, h, _ => by cases h
  | .scr _ :: _, _, _, h, _ => by cases h
theorem bools_map (bs : List Bool) : bools (bs.map D.bl) = some bs := by
  induction bs with
  | nil => rfl
  | cons b bs ih => simp [bools, ih]
def rAllD (ds : List D) (G : GH) (Q : DQ) : Prop := match ds with
  | [d] => (match d.cur G with
    | .lst ys => (match bools ys with
      | some bs => Q (.bl (bs.all id)) G
      | none => False)
    | _ => False)
  | _ => False
theorem cd_all (hc : X.calm = true) : CallD X (.builtin "all") rAllD := by
  refine ⟨_, cr_all hc, fun F H G vs ds g rs Q' h Q k => ?_⟩
  unfold rAllD at h
  split at h
  · rename_i d
    cases rs with
    | cons r b =>
      cases b
      split at h
      · rename_i ys ey
        split at h
        · rename_i bs eb
          obtain ⟨p, ws, rfl, hp, rw'⟩ := cur_list g r ey
          have := bools_rep eb rw'
          subst this
          exact ⟨p, bs, rfl, .inl (.inl hp), k F H _ _ G Go.refl g (.bl _) h⟩
        · exact h.elim
      · exact h.elim
  · exact h.elim
end
end DL
end
section
set_option Elab.async false
set_option linter.all false
set_option maxRecDepth 100000
set_option maxHeartbeats 4000000
namespace DL
open PySem PySem.Spec PyProof.Rows L2
def D.le (x y : D) : Bool := PySem.W.dataLe false D.py x y
def sortD (ds : List D) : List D := ds.mergeSort D.le
def okS (ds : List D) : Bool := D.pls ds && (ds.all fun x => ds.all fun y => PySem.W.alike x.py y.py) && (ds.all fun x => decide (x.py.depth ≤ 60)) &&
  ((ds.all fun x => match x with | .tup (_ :: _) => true | _ => false) || (ds.all fun x => match x with | .tup _ => false | .non => false | _ => true))
def rSortA (K : PySem.W.Frag) : List V → Hp → VK → Prop := fun vs H Q => ∃ (a : Addr) (bs : List (V × D)), vs = [.ref a] ∧ SqL K H a (bs.map (·.1)) ∧ (∀ b ∈ bs, Dp K H b.1 b.2.py) ∧ okS (bs.map (·.2)) = true ∧
  ∀ p, H p = none → Q (.ref p) (upd H p (.lst ((bs.mergeSort (PySem.W.dataLe false fun b => b.2.py)).map (·.1))))
section
variable {X : Cx} {pos : Pos}
theorem each_of {R : Value → (V × D) → Prop} : ∀ {us : List Value} {bs : List (V × D)}, Vals (bs.map (·.1)) us → (∀ b ∈ bs, ∀ u, RelV b.1 u → R u b) → PySem.W.EachIs R us bs
  | _, [], r, _ => by
    cases r
    exact .nil
  | _, b :: bs, r, h => by
    rw [List.map_cons] at r
    cases r with
    | cons a t => exact .cons (h b (by simp) _ a) (each_of t fun c hc => h c (by simp [hc]))
theorem vals_each : ∀ {us : List Value} {bs : List (V × D)}, PySem.W.EachIs (fun u b => RelV b.1 u) us bs → Vals (bs.map (·.1)) us
  | _, _, .nil => .nil
  | _, _, .cons h t => .cons h (vals_each t)
theorem okS_of {ds : List D} (h : okS ds = true) : D.pls ds = true ∧ PySem.W.AllAlike (ds.map D.py) ∧ (∀ d ∈ ds, d.py.depth ≤ 60) ∧ PySem.W.Sortable (ds.map D.py) := by
  unfold okS at h
  simp only [Bool.and_eq_true, Bool.or_eq_true, List.all_eq_true, decide_eq_true_eq] at h
  obtain ⟨⟨⟨h1, h2⟩, h3⟩, h4⟩ := h
  refine ⟨h1, fun d hd d' hd' => ?_, h3, ?_⟩
  · obtain ⟨x, hx, rfl⟩ := List.mem_map.mp hd
    obtain ⟨y, hy, rfl⟩ := List.mem_map.mp hd'
    exact h2 x hx y hy
  · rcases h4 with h4 | h4
    · refine .inl fun d hd => ?_
      obtain ⟨x, hx, rfl⟩ := List.mem_map.mp hd
      have := h4 x hx
      split at this
      · exact ⟨_, _, rfl⟩
      · cases this
    · refine .inr fun d hd => ?_
      obtain ⟨x, hx, rfl⟩ := List.mem_map.mp hd
      have := h4 x hx
      have hp : x.pl = true := by
        rw [D.pls_all, List.all_eq_true] at h1
        exact h1 x hx
      cases x <;> first | (simp at this; done) | (simp [D.pl] at hp; done) | exact ⟨by simp [D.py], fun xs => by simp [D.py]⟩
theorem cr_sortA (hu : X.A.units + 100 < cLine) : CallR X (.builtin "sorted") (rSortA X.K) := by
  intro pins s σ H vs us Q I r h
  obtain ⟨a, bs, rfl, hs, hd, hok, q⟩ := h
  obtain ⟨its, rv, hl, hz⟩ := I.list hs
  rw [Vals.ref1 r]
  obtain ⟨o1, o2, o3, o4⟩ := okS_of hok
  have hz' : bs.length ≤ sizeLine := by simpa using hz
  have em : (bs.map fun b => b.2.py) = (bs.map (·.2)).map D.py := by simp
  refine PySem.W.sorted_data (R := fun u b => RelV b.1 u) (enc := fun b : V × D => b.2.py) (bs := bs) hl.isList (each_of rv fun b _ u ru => ru) (each_of rv fun b hb u ru => ?_) (by rw [em]; exact o2) (by rw [em]; exact o4) hz' (fun b hb => ?_) fun out hlen ho => ?_
  · exact Dp.reads I _ _ _ (hd b hb) ru
  · have := o3 b.2 (List.mem_map.mpr ⟨b, hb, rfl⟩)
    show X.A.units + 2 + b.2.py.depth < cLine
    omega
  · obtain ⟨ep, he'⟩ := PyProof.Rows.sortedAll_at s.heap its out.toArray
    have hlen' : ((bs.mergeSort (PySem.W.dataLe false fun b => b.2.py)).map (·.1)).length ≤ sizeLine := by
      rw [List.length_map, List.length_mergeSort]
      exact hz'
    exact ⟨.ref _, upd H (s.heap.objs.size + 1) (.lst ((bs.mergeSort (PySem.W.dataLe false fun b => b.2.py)).map (·.1))), I.laid (t' := s.toks) (fun _ _ => PyProof.Rows.sortedAll_old) (Nat.le_succ _) ⟨hlen', out, ep, vals_each ho, he'⟩, rfl, q _ (I.hok.fresh (Nat.le_succ _))⟩
theorem zip_fst : ∀ {K : PySem.W.Frag} {F : Hp} {vs : List V} {ds : List D}, Reps K F vs ds → (vs.zip ds).map (·.1) = vs ∧ (vs.zip ds).map (·.2) = ds
  | _, _, _, _, .nil => ⟨rfl, rfl⟩
  | _, _, _, _, .cons a b => by
    obtain ⟨h1, h2⟩ := zip_fst b
    simp [h1, h2]
theorem zip_rep : ∀ {K : PySem.W.Frag} {F : Hp} {vs : List V} {ds : List D}, Reps K F vs ds → ∀ b ∈ vs.zip ds, Rep K F b.1 b.2
  | _, _, _, _, .nil, b, h => by simp at h
  | _, _, _, _, .cons (v := v) (d := d) a t, b, h => by
    rw [List.zip_cons_cons, List.mem_cons] at h
    rcases h with rfl | h
    · exact a
    · exact zip_rep t b h
theorem Reps.of_zip {K : PySem.W.Frag} {F : Hp} : ∀ (bs : List (V × D)), (∀ b ∈ bs, Rep K F b.1 b.2) → Reps K F (bs.map (·.1)) (bs.map (·.2))
  | [], _ => .nil
  | b :: bs, h => .cons (h b (by simp)) (Reps.of_zip bs fun c hc => h c (by simp [hc]))
/-- sorted(l): a new list; of a dict with int keys -/
def rSortD (ds : List D) (G : GH) (Q : DQ) : Prop := match ds with
  | [d] => (match d.cur G with
    | .lst xs => okS xs = true ∧ Q (.lst (sortD xs)) G
    | .dK kds => (match intKeys kds with
      | some ns => ns.length < 100000 ∧ Q (.lst ((ns.mergeSort (· ≤ ·)).map .int)) G
      | none => False)
    | _ => False)
  | _ => False
theorem isort_uniq {ns ms : List Int} (p : ms.Perm ns) (s : ms.Pairwise (· ≤ ·)) : ms = ns.mergeSort (· ≤ ·) := by
  have h2 : (ns.mergeSort (· ≤ ·)).Pairwise (fun a b : Int => (decide (a ≤ b)) = true) := List.pairwise_mergeSort (le := fun a b : Int => decide (a ≤ b)) (by intro a b c; simp; omega) (by intro a b; simp; omega) ns
  refine List.Perm.eq_of_pairwise (le := fun a b : Int => a ≤ b) (fun a b _ _ h1 h2 => Int.le_antisymm h1 h2) s (h2.imp fun h => of_decide_eq_true h) (p.trans (List.mergeSort_perm ns _).symm)
/-- sorted(d) of a dict whose keys are ints, however many -/
theorem cr_sortKeys (hc : X.calm = true) : CallR X (.builtin "sorted") (fun vs H Q => ∃ (a : Addr) (kvs : List (Key × V)) (ns : List Int), vs = [.ref a] ∧ Rd H a (.dK kvs) ∧ kvs.map (·.1) = ns.map Sum.inl ∧ ns.length < 100000 ∧
    ∀ (ms : List Int) (p : Addr), ms.Perm ns → ms.Pairwise (· ≤ ·) → H p = none → Q (.ref p) (upd H p (.lst (ms.map V.int)))) := by
  intro pins s σ H vs us Q I r h
  obtain ⟨a, kvs, ns, rfl, hd, hk, hz, q⟩ := h
  rw [Vals.ref1 r]
  obtain ⟨z, lo, ws, rel, dd⟩ := dk_rd I.hok hd
  obtain ⟨ep, hat⟩ := dd.dictAt
  have wk : ws.map (·.1) = ns.map Sum.inl := rel.keys.symm.trans hk
  have wl : ws.length = ns.length := by simpa using congrArg List.length wk
  have big : 100000 < sizeLine := by rw [sizeLine_eq]; omega
  refine Calls.call_function_entry PyProof.Rows.kind_sorted PyProof.Rows.plain_sorted PyProof.Rows.entry_sorted (PyProof.Rows.args_sorted1 _) ?_
  unfold Builtin.«sorted»
  refine wpAny_bind (m := checkCount "sorted" 1 1 _) (wpAny_pure ?_)
  refine wpAny_bind (PySem.W.kdu_collect (A := X.A.in1) (PySem.W.kdl_dict (knd := mixKind X.prog X.w) (kvs := ws) (ep := ep) lo) (I.ok.hd hc) hat (by omega) fun h' tk acc hs hacc => ?_)
  have al : acc.toList.length = ns.length := by rw [Array.length_toList, hacc.1, wl]
  have its : IntsAre acc.toList ns := L2.ints_each al fun j v e => by
    obtain ⟨k, x, e1, e2⟩ := hacc.2 j v (by rw [← Array.getElem?_toList]; exact e)
    have e3 : (ns.map (Sum.inl (β := Str)))[j]? = some k := by rw [← wk, List.getElem?_map, e1]; rfl
    obtain ⟨n, e4, rfl⟩ : ∃ n, ns[j]? = some n ∧ Sum.inl n = k := by
      rw [List.getElem?_map] at e3
      cases e4 : ns[j]? with
      | none => rw [e4] at e3; cases e3
      | some n => rw [e4] at e3; exact ⟨n, rfl, by simpa using e3⟩
    rcases keyIs_shape (show keyIs (Sum.inl n) v = true from e2) with ⟨i, t, ek, ev⟩ | ⟨_, _, ek, _⟩
    · cases ek
      exact ⟨n, t, e4, ev⟩
    · cases ek
  have I1 : Inv X pins σ H { s with heap := h', toks := tk } := I.kept hs
  refine wpAny_bind (wpAny_newList ?_ (by rw [al]; omega))
  have atL : (h'.push (seqObj "list" acc.toList.toArray 0)).get? h'.objs.size = some (seqObj "list" acc.toList.toArray 0) := Heap.get?_push_size _ rfl
  show wpAny _ _ _ _ _ { s with heap := h'.push (seqObj "list" acc.toList.toArray 0), toks := tk }
  refine wpAny_bind (wpAny_holding (wpAny_call_entry PyProof.Rows.slot_list_sort ⟨_, atL, rfl⟩ PyProof.Rows.entry_list_sort
    (PyProof.Rows.list_sort_treeAny (s := { s with heap := h'.push (seqObj "list" acc.toList.toArray 0), toks := tk }) atL its (by rw [al]; omega) fun out ms g1 g2 g3 => ⟨_, rfl, ?_⟩) (PyProof.Rows.args_list_sort _)))
  obtain ⟨e', he'⟩ := PyProof.Rows.sortedHeap_at (vs := acc.toList) (out := out) atL
  refine wpAny_pure ⟨_, rfl, .ref h'.objs.size, upd H h'.objs.size (.lst (ms.map V.int)), I1.laid (t' := tk) (fun b u e => ?_) (Nat.le_refl _)
    (show ObjOk X.prog X.w _ _ _ (.lst (ms.map V.int)) from ⟨by rw [List.length_map, g2.length_eq]; omega, out.toList, e', vals_of_ints g1, by rw [Array.toArray_toList]; exact he'⟩), rfl, q ms _ g2 g3 (I1.hok.fresh (Nat.le_refl _))⟩
  have hb : b < h'.objs.size := Heap.lt_size e
  rw [PyProof.Rows.sortedHeap_old (Nat.ne_of_lt hb) (by rw [size_push']; exact Nat.lt_succ_of_lt hb)]
  exact Heap.get?_push_of_some _ e
theorem cd_sorted (hu : X.A.units + 100 < cLine) (hc : X.calm = true) : CallD X (.builtin "sorted") rSortD := by
  refine ⟨_, CallR.or (cr_sortA hu) (cr_sortKeys hc), fun F H G vs ds g rs Q' h Q k => ?_⟩
  unfold rSortD at h
  split at h
  · rename_i d
    cases rs with
    | cons r b =>
      cases b
      split at h
      · rename_i xs ex
        obtain ⟨a, ws, rfl, ha, rw'⟩ := cur_list g r ex
        obtain ⟨z1, z2⟩ := zip_fst rw'
        obtain ⟨o1, o2, o3, o4⟩ := okS_of h.1
        refine .inl ⟨a, ws.zip xs, rfl, by rw [z1]; exact .inl (.inl ha), fun b hb => ?_, by rw [z2]; exact h.1, fun p hp => ?_⟩
        · have hm : b.2 ∈ xs := by rw [← z2]; exact List.mem_map.mpr ⟨b, hb, rfl⟩
          have hp : b.2.pl = true := by
            rw [D.pls_all, List.all_eq_true] at o1
            exact o1 _ hm
          exact Dp.mono' g.ex _ (Rep.dp _ (zip_rep rw' b hb) hp)
        · have em : ((ws.zip xs).mergeSort (PySem.W.dataLe false fun b => b.2.py)).map (·.2) = sortD xs := by
            unfold sortD
            have h3 := PySem.W.sort_maps (r := PySem.W.dataLe false fun b : V × D => b.2.py) (s := D.le) Prod.snd (l := ws.zip xs) (fun a _ b _ => rfl)
            rw [h3, z2]
          have rr : Reps X.K F (((ws.zip xs).mergeSort (PySem.W.dataLe false fun b => b.2.py)).map (·.1)) (sortD xs) := by
            rw [← em]
            exact Reps.of_zip _ fun b hb => zip_rep rw' b ((List.mergeSort_perm _ _).mem_iff.mp hb)
          have gr := Gr.new (u := .lst (((ws.zip xs).mergeSort (PySem.W.dataLe false fun b => b.2.py)).map (·.1))) g.ex hp
          exact k _ _ _ _ G gr.go (g.grow gr) (.lst upd_same (rr.mono gr.ff)) h.2
      · rename_i kds ex
        split at h
        · rename_i ns en
          obtain ⟨a, kvs, rfl, ha, kr⟩ := cur_dK g r ex
          refine .inr ⟨a, kvs, ns, rfl, .inl ha, by rw [kr.ks, intKeys_map en], h.1, fun ys p hp hs hn => ?_⟩
          have e := isort_uniq hp hs
          subst e
          have gr := Gr.new (u := .lst ((ns.mergeSort (· ≤ ·)).map V.int)) g.ex hn
          exact k _ _ _ _ G gr.go (g.grow gr) (.lst upd_same (Reps.ints _)) h.2
        · exact h.elim
      · exact h.elim
  · exact h.elim
def dChain (r r' : DR2) (ta tb tc : DTE) : DTE := fun S G Q => ta S G fun x G1 => tb S G1 fun y G2 => r x y G2 fun z G3 => match z with
  | .bl k => if k = true then tc S G3 fun w G4 => r' y w G4 Q else Q (.bl false) G3
  | _ => False
theorem chain_core {op op' : CmpOp} {r r' : DR2} {a b c : Expr} {ta tb tc : DTE} (ho : OpD X (compareOp op) r) (ho' : OpD X (compareOp op') r') (ha : DE X a ta) (hb : DE X b tb) (hc : DE X c tc) :
    ∃ (q q' : R2) (t1 t2 t3 : TE), OpR X (compareOp op) q ∧ OpR X (compareOp op') q' ∧ PE X a t1 ∧ PE X b t2 ∧ PE X c t3 ∧ ∀ F H σ S G, Ok X.K F H σ S G → ∀ Q', dChain r r' ta tb tc S G Q' → ∀ Q, KpE X.K F H G Q' Q → tChain q q' t1 t2 t3 σ H Q := by
  obtain ⟨q, hq, rq⟩ := ho.ex
  obtain ⟨q', hq', rq'⟩ := ho'.ex
  obtain ⟨t1, p1, r1⟩ := ha.ex
  obtain ⟨t2, p2, r2⟩ := hb.ex
  obtain ⟨t3, p3, r3⟩ := hc.ex
  refine ⟨q, q', t1, t2, t3, hq, hq', p1, p2, p3, fun F H σ S G o Q' h Q k => ?_⟩
  refine r1 F H σ S G o _ h _ fun F1 H1 v d G1 e1 g1 q1 h1 => ?_
  refine r2 F1 H1 σ S G1 (o.go e1 g1) _ h1 _ fun F2 H2 u d2 G2 e2 g2 q2 h2 => ?_
  refine rq F2 H2 G2 v u d d2 g2 (q1.mono e2.ex) q2 _ h2 _ fun F3 H3 z d3 G3 e3 g3 q3 h3 => ?_
  dsimp only at h3
  split at h3
  · rename_i kb
    cases q3
    refine ⟨kb, rfl, ?_⟩
    cases kb with
    | true =>
      rw [if_pos rfl] at h3 ⊢
      refine r3 F3 H3 σ S G3 (((o.go e1 g1).go e2 g2).go e3 g3) _ h3 _ fun F4 H4 w d4 G4 e4 g4 q4 h4 => ?_
      exact rq' F4 H4 G4 u w d2 d4 g4 ((q2.mono e3.ex).mono e4.ex) q4 Q' h4 Q (k.mono (((e1.trans e2).trans e3).trans e4))
    | false =>
      rw [if_neg Bool.false_ne_true] at h3 ⊢
      exact k F3 H3 _ _ G3 ((e1.trans e2).trans e3) g3 (.bl _) h3
  · exact h3.elim
theorem dt_chain {op op' : CmpOp} {r r' : DR2} {a b c : Expr} {ta tb tc : DTE} (ho : OpD X (compareOp op) r) (ho' : OpD X (compareOp op') r') (ha : DE X a ta) (hb : DE X b tb) (hc : DE X c tc) (hm : lastMarks [op, op'] [b, c] = false := by with_unfolding_all rfl) : DT X (.Compare a [op, op'] [b, c] pos) (dTest (dChain r r' ta tb tc)) := by
  obtain ⟨q, q', t1, t2, t3, hq, hq', p1, p2, p3, rr⟩ := chain_core ho ho' ha hb hc
  refine ⟨_, pt_chain hq hq' p1 p2 p3 hm, fun F H σ S G o Q' h Q k => ?_⟩
  refine rr F H σ S G o _ h _ fun F1 H1 v d G1 e1 g1 q1 h1 => ?_
  dsimp only at h1
  split at h1
  · cases q1
    exact ⟨_, rfl, k F1 H1 _ G1 e1 g1 h1⟩
  · exact h1.elim
theorem de_chain {op op' : CmpOp} {r r' : DR2} {a b c : Expr} {ta tb tc : DTE} (ho : OpD X (compareOp op) r) (ho' : OpD X (compareOp op') r') (ha : DE X a ta) (hb : DE X b tb) (hc : DE X c tc) (hm : lastMarks [op, op'] [b, c] = false := by with_unfolding_all rfl) : DE X (.Compare a [op, op'] [b, c] pos) (dChain r r' ta tb tc) := by
  obtain ⟨q, q', t1, t2, t3, hq, hq', p1, p2, p3, rr⟩ := chain_core ho ho' ha hb hc
  exact ⟨_, pe_chain hq hq' p1 p2 p3 hm, rr⟩
def dPar (i j : Nat) (ta : DTA) : DTS := fun D' S G => ta S G fun ds G1 => match ds with
  | [x, y] => D'.nx ((S.set i (some x)).set j (some y)) G1
  | _ => False
end
end DL
end
section
set_option Elab.async false
set_option linter.all false
set_option maxRecDepth 100000
set_option maxHeartbeats 4000000
namespace DL
open PySem PySem.Spec PyProof.Rows L2
def ItE (xs : List V) (ok : Hp → Prop) : It :=
  ⟨fun i H => ok H ∧ i < xs.length, fun i H v H' => ∃ T x, v = .ref T ∧ H T = none ∧ H' = upd H T (.tup [.int (i : Nat), x]) ∧ xs[i]? = some x, fun i H => ok H ∧ i = xs.length⟩
theorem turn_enumOf {P : Program} {w : World} {K : PySem.W.Frag} {elts : List Expr} {kk : Nat} {tpos : Pos} {xs : List V} {ok : Hp → Prop} {e it : Addr} {Si : Nat → Heap → Prop}
    (live : ∀ i h, Si i h → ∃ o, h.get? it = some o ∧ ∀ v, o.data ≠ .cell v) (keep : ∀ i h h', Si i h → (∀ o, h.get? it = some o → h'.get? it = some o) → Si i h')
    (dr : ∀ (X : Cx) (pins : List (Addr × Obj)) (σ : L2.St) (H : Hp) (s : Shared), X.prog = P → X.w = w → X.K = K → X.A.handled = none → Inv X pins σ H s → ok H → ∃ (fp : List Addr) (Pv : Nat → Value → Prop) (St : Nat → Heap → Prop), it ∈ fp ∧ (∀ b ∈ fp, b ≠ it → ∃ u, H b = some u) ∧ Draws P w X.A.in1 it fp xs.length Pv St ∧
      (∀ i, Si i s.heap → St i s.heap) ∧ (∀ i h, St i h → Si i h) ∧ ∀ i u x, Pv i u → xs[i]? = some x → RelV x u) :
    Turn P w K (.Tuple elts kk tpos) (ItE xs ok) [e, it] e (fun i h => (∃ old, IsEnum h e it ((i : Nat) : Int) old) ∧ Si i h ∧ e ≠ it) where
  mem := by simp
  obj := by
    intro i h st b hb
    obtain ⟨⟨old, he⟩, hs, _⟩ := st
    have q : b = e ∨ b = it := by simpa using hb
    rcases q with q | q
    · subst q; exact ⟨_, he, fun v z => nomatch z⟩
    · subst q; exact live i h hs
  keep := by
    intro i h h' st k
    obtain ⟨⟨old, he⟩, hs, ne⟩ := st
    exact ⟨⟨old, k e (by simp) _ he⟩, keep i h h' hs fun o z => k it (by simp) o z, ne⟩
  item := by
    intro X hP hw hK hc i pins s σ H E I hf st hg
    obtain ⟨⟨old, he⟩, hs, ne⟩ := st
    obtain ⟨hok, hi⟩ := hg
    obtain ⟨fp, Pv, St, m0, mt, Dr, s1, s2, rel⟩ := dr X pins σ H s hP hw hK (I.ok.hd hc) I hok
    subst hP hw hK
    have el : e < s.heap.objs.size := Heap.lt_size he
    have il : it < s.heap.objs.size := by
      obtain ⟨o, z, _⟩ := live i _ hs
      exact Heap.lt_size z
    have ef : e ∉ fp := by
      intro z
      obtain ⟨u, hu⟩ := mt e z ne
      rw [(hf e (by simp)).1] at hu
      cases hu
    refine wpAny_pyNext_enum_itemC Dr he (s1 i hs) hi ne ef ?_
    intro x h' tk px ho hst hT hsz hk
    refine ⟨_, rfl, wpAny_letOwnedTupleGo_enum (s := { s with heap := h', toks := tk + 1 }) ho ?_⟩
    intro h'' he' sb
    have hx : xs[i]? = some xs[i] := List.getElem?_eq_getElem hi
    have rx := rel i x _ px hx
    have hT2 := (sb.2 _ (Nat.ne_of_gt el)).trans hT
    have nw : ObjOk X.prog X.w (upd H s.heap.objs.size (.tup [.int (i : Nat), xs[i]])) h'' s.heap.objs.size (.tup [.int (i : Nat), xs[i]]) :=
      ⟨(by decide : 2 ≤ sizeLine), [.int i tk, x], .cons ⟨_, rfl⟩ (.cons rx .nil), ⟨_, hT2, rfl, _, rfl⟩⟩
    have J : Inv X pins σ (upd H s.heap.objs.size (.tup [.int (i : Nat), xs[i]])) { s with heap := h'', toks := tk + 1 } := by
      refine I.turnedNew (ch := [e, it]) ?_ hf (Nat.le_refl _) nw
      intro b ob hb q
      have b1 : b ≠ e := fun z => hb (by simp [z])
      have b2 : b ≠ it := fun z => hb (by simp [z])
      exact (sb.2 b b1).trans (hk b ob b1 b2 q)
    refine ⟨.ref s.heap.objs.size, _, J, rfl, ⟨_, _, rfl, I.hok.fresh (Nat.le_refl _), rfl, hx⟩, ⟨⟨x, ?_⟩, ?_, ne⟩, ?_⟩
    · have z : ((i + 1 : Nat) : Int) = (i : Int) + 1 := by omega
      rw [z]; exact he'
    · exact keep _ _ _ (s2 _ _ hst) fun o q => (sb.2 it (Ne.symm ne)).trans q
    · intro b hb
      have q : b = e ∨ b = it := by simpa using hb
      have lt : b < s.heap.objs.size := by rcases q with q | q <;> (rw [q]; assumption)
      rw [upd_ne (Nat.ne_of_lt lt)]
      exact (hf b hb).1
  done := by
    intro X hP hw hK hc i pins s σ H E I hf st hg
    obtain ⟨⟨old, he⟩, hs, ne⟩ := st
    obtain ⟨hok, hi⟩ := hg
    obtain ⟨fp, Pv, St, m0, mt, Dr, s1, s2, rel⟩ := dr X pins σ H s hP hw hK (I.ok.hd hc) I hok
    subst hP hw hK
    subst hi
    refine wpAny_pyNext_enum_endD Dr he (s1 _ hs) ?_
    intro h' eb
    refine ⟨rfl, I.turnedL (t' := s.toks) (ch := [e, it]) ?_ hf⟩
    intro b o hb q
    exact eb b o (fun z => hb (by simp [z])) q
  self := fun A i s Q E st h => let ⟨⟨_, he⟩, _⟩ := st; wpAny_pyIter_enum he h
set_option maxHeartbeats 4000000 in
theorem meets_enumB {v : Value} {o : Obj} {Hh : Heap → Prop} (B : Begins v o Hh) :
    Meets (Builtin.«enumerate.__new__» ⟨[.type "enumerate", v], []⟩) (fun _ R s => Hh s.heap ∧
      R (.ok (.ret (.ref (s.heap.push o).objs.size))) { s with heap := (s.heap.push o).push { cls := .type "enumerate", data := .fields #[.none, .bool false, .ref s.heap.objs.size, rawInt 0, .none, .none] } }) := by
  refine Meets.of_wp fun prog w A R s h => ?_
  obtain ⟨hp, g, d, tk, os⟩ := s
  obtain ⟨h1, h⟩ := h
  have hsub := PySem.sub_enumerate
  have q1 : ∀ {A' : Around} {E : Value → Shared → Prop} {Q : Value → Shared → Prop}, Q (.ref hp.objs.size) ⟨hp.push o, g, d, tk, os⟩ → wpAny (model prog w) A' (pyIter v) Q E ⟨hp, g, d, tk, os⟩ := by
    intro A' E Q q
    exact B.iter prog w _ _ ⟨hp, g, d, tk, os⟩ _ h1 q
  wp_walk using q1
  refine wpAny_stack_any fun st => wpAny_pure ?_
  split
  · rename_i c _ _ _ _ _
    cases (c == Value.type "enumerate") <;> (wp_walk using q1; exact ⟨_, rfl, h⟩)
  · wp_walk using q1
    exact ⟨_, rfl, h⟩
theorem call_enumB {prog : Program} {w : World} {A : Around} {E : Value → Shared → Prop} {s : Shared} {v : Value} {o : Obj} {Hh : Heap → Prop} {Q : Value → Shared → Prop} (B : Begins v o Hh) (h1 : Hh s.heap)
    (h : ∀ h', IsEnum h' (s.heap.objs.size + 1) s.heap.objs.size 0 .none → h'.get? s.heap.objs.size = some o → h'.objs.size = s.heap.objs.size + 2 → (∀ b o, s.heap.get? b = some o → h'.get? b = some o) → Q (.ref (s.heap.objs.size + 1)) { s with heap := h' }) :
    wpAny (model prog w) A (call (.type "enumerate") [v]) Q E s := by
  refine callType_new F.called_enumerate (by decide) (F.typeCall_enumerate_1 _) (F.newCall_enumerate_1 _) (fun obj => F.args_object_init_2 obj _) F.entry_enumerate_new (meets_enumB B) ⟨h1, ?_⟩
  have z1 : (s.heap.push o).objs.size = s.heap.objs.size + 1 := Heap.size_push ..
  show _ ∧ _
  rw [z1]
  have he : IsEnum ((s.heap.push o).push { cls := .type "enumerate", data := .fields #[.none, .bool false, .ref s.heap.objs.size, rawInt 0, .none, .none] }) (s.heap.objs.size + 1) s.heap.objs.size 0 .none := by
    have z2 := Heap.get?_push_size (s.heap.push o) (o := { cls := .type "enumerate", data := .fields #[.none, .bool false, .ref s.heap.objs.size, rawInt 0, .none, .none] }) rfl
    rw [z1] at z2
    exact z2
  refine ⟨⟨_, he, rfl⟩, h _ he (Heap.get?_push_of_some _ (Heap.get?_push_size _ B.free)) (by rw [Heap.size_push, z1]) ?_⟩
  intro b ob x
  exact Heap.get?_push_of_some _ (Heap.get?_push_of_some _ x)
def iEnumT (K : PySem.W.Frag) (ta : TA) : TI := fun σ H R => ta σ H fun vs H1 => ∃ a xs, vs = [.ref a] ∧ H1 a = some (.tup xs) ∧ R (ItE xs fun H => H a = some (.tup xs)) H1
theorem fresh_fp {X : Cx} {pins : List (Addr × Obj)} {σ : L2.St} {H : Hp} {s : Shared} (I : Inv X pins σ H s) {l : List Addr} (h : ∀ b ∈ l, s.heap.objs.size ≤ b) : ∀ b ∈ l, FpOk X pins H b := fun b hb => I.fpOk (h b hb) (I.hok.fresh (h b hb))
theorem vals_getD {xs : List V} {us : List Value} (r : Vals xs us) {i : Nat} {u : Value} {x : V} (hu : us[i]? = some u) (hx : xs[i]? = some x) : RelV x u := by
  obtain ⟨w, hw, rw'⟩ := r.get hx
  rw [hu] at hw
  cases hw
  exact rw'
theorem pi_enumT {X : Cx} {e : Expr} {ta : TA} {p pos tpos : Pos} {elts : List Expr} {kk : Nat} (hg : Gl X "enumerate") (hm : X.mg "enumerate" = none) (ha : PA X [e] ta) (hs : starEach [e] X.env = [(false, eval e X.env)] := by rfl) :
    PI X (.Tuple elts kk tpos) (.Call (.Name "enumerate" p) [e] [] pos) (iEnumT X.K ta) := by
  constructor
  intro pins s σ H R I h
  refine Call_ (ld_blt I hg hm boot_enumerate (PyProof.Rows.callWith_type1 (thn (ha.run pos pins s σ H _ I h) ?_) hs rfl))
  rintro us s1 ⟨vs, H1, I1, r1, a, xs, rfl, hq, q⟩
  cases r1 with
  | cons r rr =>
    cases rr
    cases r
    obtain ⟨its, rv, tu, hz⟩ := I1.tuple (xs := xs) (a := a) (.inl (.inl hq))
    have hl := rv.length
    refine call_enumB (begins_tuple a its.toArray) tu ?_
    intro h' he hit hsz hk
    refine wpAny_pyIter_enum he ?_
    have J : Inv X pins σ H1 { s1 with heap := h' } := I1.kept (t' := s1.toks) hk
    refine ⟨s1.heap.objs.size + 1, [s1.heap.objs.size + 1, s1.heap.objs.size], _, _, H1, rfl, J, turn_enumOf (Si := fun i h => h.IsTupleIter s1.heap.objs.size a i) ?_ ?_ ?_, ⟨⟨.none, he⟩, ⟨_, hit, rfl, rfl⟩, Nat.succ_ne_self _⟩, ?_, q⟩
    · rintro i h ⟨o, z, c, d⟩
      exact ⟨o, z, fun v y => by rw [d] at y; cases y⟩
    · rintro i h h' ⟨o, z, c⟩ k
      exact ⟨o, k o z, c⟩
    · intro X2 pins2 σ2 H2 s2 hP hw hK hh I2 hok
      have hne : a ≠ s1.heap.objs.size := by
        intro z
        have := I1.hok.fresh (Nat.le_refl s1.heap.objs.size)
        rw [← z, hq] at this
        cases this
      obtain ⟨its2, rv2, tu2, hz2⟩ := I2.tuple (xs := xs) (a := a) (.inl (.inl hok))
      have hl2 := rv2.length
      refine ⟨[s1.heap.objs.size, a], fun i v => its2.toArray[i]? = some v, fun i h => h.IsTupleIter s1.heap.objs.size a i ∧ h.IsTuple a its2.toArray, by simp, fun b hb hb2 => ?_, ?_, fun i z => ⟨z, tu2⟩, fun i h z => z.1, fun i u x pu hx => ?_⟩
      · have : b = a := by
          have q : b = s1.heap.objs.size ∨ b = a := by simpa using hb
          rcases q with q | q
          · exact absurd q hb2
          · exact q
        subst this
        exact ⟨_, hok⟩
      · have := Draws.tuple (prog := X.prog) (w := X.w) (A := X2.A.in1) hh s1.heap.objs.size a hne its2.toArray
        have ez : its2.toArray.size = xs.length := by rw [hl2]; simp
        rw [ez] at this
        exact this
      · refine vals_getD rv2 ?_ hx
        simpa using pu
    · refine fresh_fp I1 fun b hb => ?_
      have q : b = s1.heap.objs.size + 1 ∨ b = s1.heap.objs.size := by simpa using hb
      rcases q with q | q
      · rw [q]; exact Nat.le_add_right _ _
      · rw [q]; exact Nat.le_refl _
section
variable {X : Cx} {pos : Pos}
/-- for i, x in enumerate(t), t a tuple -/
def diEnumT (ta : DTA) : DTI := fun S G R => ta S G fun ds G1 => match ds with
  | [.tup xs] => R (xs.mapIdx fun i x => .tup [.int (i : Nat), x]) dNoGuard G1
  | _ => False
theorem di_enumT {e : Expr} {ta : DTA} {p tpos : Pos} {elts : List Expr} {kk : Nat} (hg : Gl X "enumerate") (hm : X.mg "enumerate" = none) (ha : DA X [e] ta) (hs : starEach [e] X.env = [(false, eval e X.env)] := by rfl) :
    DI X (.Tuple elts kk tpos) (.Call (.Name "enumerate" p) [e] [] pos) (diEnumT ta) := by
  obtain ⟨t, p1, r⟩ := ha.ex
  refine ⟨_, pi_enumT hg hm p1 hs, fun F H σ S G o R' h R k => ?_⟩
  refine r F H σ S G o _ h _ fun F1 H1 vs ds G1 e1 g1 q1 h1 => ?_
  dsimp only at h1
  split at h1
  · rename_i xs
    cases q1 with
    | cons q rest =>
      cases rest
      cases q with
      | tup hq rs =>
        rename_i a ws
        refine ⟨a, ws, rfl, g1.ex _ _ hq, k F1 H1 G1 _ _ _ e1 g1 ⟨fun F2 H2 G2 i d e2 g2 _ hd => ?_, fun F2 H2 G2 e2 g2 _ => ?_⟩ h1⟩
        · rw [List.getElem?_mapIdx] at hd
          cases ex : xs[i]? with
          | none => rw [ex] at hd; cases hd
          | some x =>
            rw [ex] at hd
            cases hd
            have hi : i < ws.length := by
              rw [rs.length]
              exact (List.getElem?_eq_some_iff.mp ex).1
            refine ⟨⟨g2.ex _ _ (e2 _ _ hq), hi⟩, fun y H3 hy => ?_⟩
            obtain ⟨T, z, rfl, hT, rfl, hz⟩ := hy
            obtain ⟨x', hx', rx'⟩ := rs.get' hz
            rw [ex] at hx'
            cases hx'
            have gr := Gr.new (u := .tup [.int (i : Nat), z]) g2.ex hT
            exact ⟨_, gr.go, g2.grow gr, .tup upd_same (.cons (.int _) (.cons ((rx'.mono e2).mono gr.ff) .nil))⟩
        · refine ⟨g2.ex _ _ (e2 _ _ hq), ?_⟩
          rw [List.length_mapIdx, rs.length]
  · exact h1.elim
end
end DL
end
section
set_option Elab.async false
set_option linter.all false
set_option maxRecDepth 100000
set_option maxHeartbeats 4000000
namespace DL
open PySem PySem.Spec PyProof.Rows L2
def sgn (c : Nat) : Str := ⟨#[c]⟩
def ItZ (x y : Str) : It :=
  ⟨fun i _ => i < min x.cps.size y.cps.size, fun i H v H' => ∃ T a b, v = .ref T ∧ H T = none ∧ H' = upd H T (.tup [.str (sgn a), .str (sgn b)]) ∧ x.cps[i]? = some a ∧ y.cps[i]? = some b, fun i _ => i = min x.cps.size y.cps.size⟩
theorem turn_zipS {P : Program} {w : World} {K : PySem.W.Frag} {elts : List Expr} {kk : Nat} {tpos : Pos} {x y : Str} {t1 t2 : Tok} {z TI TO i1 i2 : Addr} (Sp : ZipSep2 z TI TO i1 i2 [i1] [i2]) :
    Turn P w K (.Tuple elts kk tpos) (ItZ x y) [z, TI, TO, i1, i2] z (fun i h => IsZip h z TI TO .none ∧ IsTupOf2 h TI (.ref i1) (.ref i2) ∧ (∃ a b, IsTupOf2 h TO a b) ∧ h.IsStrIter i1 (strIterType x) x t1 i ∧ h.IsStrIter i2 (strIterType y) y t2 i) where
  mem := by simp
  obj := by
    rintro i h ⟨hz, hTI, ⟨a, b, hTO⟩, ⟨o1, z1, _, d1⟩, ⟨o2, z2, _, d2⟩⟩ c hc
    have q : c = z ∨ c = TI ∨ c = TO ∨ c = i1 ∨ c = i2 := by simpa using hc
    rcases q with q | q | q | q | q <;> subst q
    · exact ⟨_, hz, fun v y => nomatch y⟩
    · exact ⟨_, hTI, fun v y => nomatch y⟩
    · exact ⟨_, hTO, fun v y => nomatch y⟩
    · exact ⟨o1, z1, fun v y => by rw [d1] at y; cases y⟩
    · exact ⟨o2, z2, fun v y => by rw [d2] at y; cases y⟩
  keep := by
    rintro i h h' ⟨hz, hTI, ⟨a, b, hTO⟩, ⟨o1, z1, r1⟩, ⟨o2, z2, r2⟩⟩ k
    exact ⟨k z (by simp) _ hz, k TI (by simp) _ hTI, ⟨a, b, k TO (by simp) _ hTO⟩, ⟨o1, k i1 (by simp) _ z1, r1⟩, ⟨o2, k i2 (by simp) _ z2, r2⟩⟩
  item := by
    intro X hP hw hK hc i pins s σ H E I hf st hg
    subst hP hw hK
    obtain ⟨hz, hTI, ⟨a0, b0, hTO⟩, s1, s2⟩ := st
    have hg' : i < min x.cps.size y.cps.size := hg
    have g1 : i < x.cps.size := by omega
    have g2 : i < y.cps.size := by omega
    have hh := I.ok.hd hc
    have zl : z < s.heap.objs.size := Heap.lt_size hz
    refine wpAny_pyNext_zipD2_item Sp (Draws.text (A := X.A.in1) hh i1 x t1) (Draws.text (A := X.A.in1) hh i2 y t2) hz hTI hTO s1 s2 g1 g2 ?_
    rintro u1 u2 h' tk ⟨c1, k1, e1, rfl⟩ ⟨c2, k2, e2, rfl⟩ hz' hTO' s1' s2' hT hsz hk
    refine ⟨_, rfl, wpAny_letOwnedTupleGo_zip (s := { s with heap := h', toks := tk }) hz' ?_⟩
    intro h'' hz'' sb
    have hT2 := (sb.2 _ (Nat.ne_of_gt zl)).trans hT
    have nw : ObjOk X.prog X.w (upd H s.heap.objs.size (.tup [.str (sgn c1), .str (sgn c2)])) h'' s.heap.objs.size (.tup [.str (sgn c1), .str (sgn c2)]) :=
      ⟨(by decide : 2 ≤ sizeLine), [.str (sgn c1) k1, .str (sgn c2) k2], .cons ⟨_, rfl⟩ (.cons ⟨_, rfl⟩ .nil), ⟨_, hT2, rfl, _, rfl⟩⟩
    have J : Inv X pins σ (upd H s.heap.objs.size (.tup [.str (sgn c1), .str (sgn c2)])) { s with heap := h'', toks := tk } := by
      refine I.turnedNew (ch := [z, TI, TO, i1, i2]) ?_ hf (Nat.le_refl _) nw
      intro c o hb q
      have b1 : c ≠ z := fun w => hb (by simp [w])
      have b3 : c ≠ TO := fun w => hb (by simp [w])
      have b4 : c ≠ i1 := fun w => hb (by simp [w])
      have b5 : c ≠ i2 := fun w => hb (by simp [w])
      exact (sb.2 c b1).trans (hk c o b1 b3 b4 b5 q)
    refine ⟨.ref s.heap.objs.size, _, J, rfl, ⟨_, c1, c2, rfl, I.hok.fresh (Nat.le_refl _), rfl, e1, e2⟩, ⟨hz'', ?_, ⟨.str (sgn c1) k1, .str (sgn c2) k2, ?_⟩, ?_, ?_⟩, ?_⟩
    · exact (sb.2 _ Sp.TIz).trans (hk _ _ Sp.TIz Sp.TITO Sp.TIi1 Sp.TIi2 hTI)
    · exact (sb.2 _ Sp.TOz).trans hTO'
    · obtain ⟨o, q, r⟩ := s1'
      exact ⟨o, (sb.2 _ (Ne.symm Sp.zi1)).trans q, r⟩
    · obtain ⟨o, q, r⟩ := s2'
      exact ⟨o, (sb.2 _ (Ne.symm Sp.zi2)).trans q, r⟩
    · intro c hcm
      have lt : c < s.heap.objs.size := by
        have q : c = z ∨ c = TI ∨ c = TO ∨ c = i1 ∨ c = i2 := by simpa using hcm
        rcases q with q | q | q | q | q
        · rw [q]; exact zl
        · rw [q]; exact Heap.lt_size hTI
        · rw [q]; exact Heap.lt_size hTO
        · rw [q]; obtain ⟨_, w, _⟩ := s1; exact Heap.lt_size w
        · rw [q]; obtain ⟨_, w, _⟩ := s2; exact Heap.lt_size w
      rw [upd_ne (Nat.ne_of_lt lt)]
      exact (hf c hcm).1
  done := by
    intro X hP hw hK hc i pins s σ H E I hf st hg
    subst hP hw hK
    obtain ⟨hz, hTI, ⟨a0, b0, hTO⟩, s1, s2⟩ := st
    have hg' : i = min x.cps.size y.cps.size := hg
    have hh := I.ok.hd hc
    refine wpAny_pyNext_zipD2_end Sp (Draws.text (A := X.A.in1) hh i1 x t1) (Draws.text (A := X.A.in1) hh i2 y t2) hz hTI hTO s1 s2 (by omega) (by omega) (by omega) ?_
    intro h' tk hk
    refine ⟨rfl, I.turnedL (t' := tk) (ch := [z, TI, TO, i1, i2]) ?_ hf⟩
    intro c o hb q
    exact hk c o (fun w => hb (by simp [w])) (fun w => hb (by simp [w])) (fun w => hb (by simp [w])) (fun w => hb (by simp [w])) q
  self := fun A i s Q E st h => wpAny_pyIter_zip st.1 h
def iZipS (ta : TA) : TI := fun σ H R => ta σ H fun vs H1 => ∃ x y, vs = [.str x, .str y] ∧ R (ItZ x y) H1
theorem pi_zipS {X : Cx} {e e2 : Expr} {ta : TA} {p pos tpos : Pos} {elts : List Expr} {kk : Nat} (hg : Gl X "zip") (hm : X.mg "zip" = none) (ha : PA X [e, e2] ta)
    (hs : starEach [e, e2] X.env = (false, eval e X.env) :: starEach [e2] X.env := by rfl) (hpl : (backTo pos (starEach [e2] X.env)).any (·.1) = false := by rfl) :
    PI X (.Tuple elts kk tpos) (.Call (.Name "zip" p) [e, e2] [] pos) (iZipS ta) := by
  constructor
  intro pins s σ H R I h
  refine Call_ (ld_blt I hg hm PyProof.Rows.boot_zip (PyProof.Rows.callWith_type1 (thn (ha.run pos pins s σ H _ I h) ?_) hs hpl))
  rintro us s1 ⟨vs, H1, I1, r1, x, y, rfl, q⟩
  cases r1 with
  | cons r rr =>
    cases rr with
    | cons r' rr =>
      cases rr
      obtain ⟨t1, rfl⟩ := r
      obtain ⟨t2, rfl⟩ := r'
      refine zip_begins2 (begins_text x t1) (begins_text y t2) trivial trivial ?_
      intro h' hz hTI hTO h1 h2 hsz hk
      refine wpAny_pyIter_zip hz ?_
      have J : Inv X pins σ H1 { s1 with heap := h' } := I1.kept (t' := s1.toks) hk
      have sep : ZipSep2 (s1.heap.objs.size + 4) (s1.heap.objs.size + 2) (s1.heap.objs.size + 3) s1.heap.objs.size (s1.heap.objs.size + 1) [s1.heap.objs.size] [s1.heap.objs.size + 1] := zip_sep2 (N := s1.heap.objs.size) (fp1 := []) (fp2 := []) (by simp) (by simp)
      refine ⟨s1.heap.objs.size + 4, [s1.heap.objs.size + 4, s1.heap.objs.size + 2, s1.heap.objs.size + 3, s1.heap.objs.size, s1.heap.objs.size + 1], _, _, H1, rfl, J, turn_zipS (x := x) (y := y) (t1 := t1) (t2 := t2) sep, ⟨hz, hTI, ⟨_, _, hTO⟩, ⟨_, h1, rfl, rfl⟩, ⟨_, h2, rfl, rfl⟩⟩, ?_, q⟩
      refine fresh_fp I1 fun b hb => ?_
      have z : b = s1.heap.objs.size + 4 ∨ b = s1.heap.objs.size + 2 ∨ b = s1.heap.objs.size + 3 ∨ b = s1.heap.objs.size ∨ b = s1.heap.objs.size + 1 := by simpa using hb
      rcases z with z | z | z | z | z
      · rw [z]; exact Nat.le_add_right _ _
      · rw [z]; exact Nat.le_add_right _ _
      · rw [z]; exact Nat.le_add_right _ _
      · rw [z]; exact Nat.le_refl _
      · rw [z]; exact Nat.le_add_right _ _
section
variable {X : Cx} {pos : Pos}
def diZipS (ta : DTA) : DTI := fun S G R => ta S G fun ds G1 => match ds with
  | [.str x, .str y] => R (List.zipWith (fun a b => .tup [.str (sgn a), .str (sgn b)]) x.cps.toList y.cps.toList) dNoGuard G1
  | _ => False
theorem di_zipS {e e2 : Expr} {ta : DTA} {p tpos : Pos} {elts : List Expr} {kk : Nat} (hg : Gl X "zip") (hm : X.mg "zip" = none) (ha : DA X [e, e2] ta)
    (hs : starEach [e, e2] X.env = (false, eval e X.env) :: starEach [e2] X.env := by rfl) (hpl : (backTo pos (starEach [e2] X.env)).any (·.1) = false := by rfl) : DI X (.Tuple elts kk tpos) (.Call (.Name "zip" p) [e, e2] [] pos) (diZipS ta) := by
  obtain ⟨t, p1, r⟩ := ha.ex
  refine ⟨_, pi_zipS hg hm p1 hs hpl, fun F H σ S G o R' h R k => ?_⟩
  refine r F H σ S G o _ h _ fun F1 H1 vs ds G1 e1 g1 q1 h1 => ?_
  dsimp only at h1
  split at h1
  · rename_i x y
    cases q1 with
    | cons a b =>
      cases a
      cases b with
      | cons c d =>
        cases c; cases d
        refine ⟨x, y, rfl, k F1 H1 G1 _ _ _ e1 g1 ⟨fun F2 H2 G2 i d e2 g2 _ hd => ?_, fun F2 H2 G2 e2 g2 _ => ?_⟩ h1⟩
        · rw [List.getElem?_zipWith] at hd
          cases ea : x.cps.toList[i]? with
          | none => simp [ea] at hd
          | some a =>
            cases eb : y.cps.toList[i]? with
            | none => simp [ea, eb] at hd
            | some b =>
              simp only [ea, eb] at hd
              cases hd
              have la := (List.getElem?_eq_some_iff.mp ea).1
              have lb := (List.getElem?_eq_some_iff.mp eb).1
              rw [Array.length_toList] at la lb
              refine ⟨by show i < min _ _; omega, fun v H3 hy => ?_⟩
              obtain ⟨T, a', b', rfl, hT, rfl, ha', hb'⟩ := hy
              have za : x.cps[i]? = some a := by rw [← ea]; simp
              have zb : y.cps[i]? = some b := by rw [← eb]; simp
              rw [za] at ha'; rw [zb] at hb'
              cases ha'; cases hb'
              have gr := Gr.new (u := .tup [.str (sgn a), .str (sgn b)]) g2.ex hT
              exact ⟨_, gr.go, g2.grow gr, .tup upd_same (.cons (.str _) (.cons (.str _) .nil))⟩
        · show _ = min _ _
          simp
  · exact h1.elim
/-- zip of two tuples -/
def diZipT (ta : DTA) : DTI := fun S G R => ta S G fun ds G1 => match ds with
  | [.tup xs, .tup ys] => R (List.zipWith (fun a b => .tup [a, b]) xs ys) dNoGuard G1
  | _ => False
theorem di_zipT {e e2 : Expr} {ta : DTA} {p tpos : Pos} {elts : List Expr} {kk : Nat} (hg : Gl X "zip") (hm : X.mg "zip" = none) (ha : DA X [e, e2] ta)
    (hs : starEach [e, e2] X.env = (false, eval e X.env) :: starEach [e2] X.env := by rfl) (hpl : (backTo pos (starEach [e2] X.env)).any (·.1) = false := by rfl) : DI X (.Tuple elts kk tpos) (.Call (.Name "zip" p) [e, e2] [] pos) (diZipT ta) := by
  obtain ⟨t, p1, r⟩ := ha.ex
  refine ⟨_, RZ.pi_zipA hg hm p1 hs hpl, fun F H σ S G o R' h R k => ?_⟩
  refine r F H σ S G o _ h _ fun F1 H1 vs ds G1 e1 g1 q1 h1 => ?_
  dsimp only at h1
  split at h1
  · rename_i xs ys
    cases q1 with
    | cons a b =>
      cases b with
      | cons c d =>
        cases d
        cases a with
        | tup ha ra =>
          cases c with
          | tup hb rb =>
            rename_i pa va pb vb
            refine ⟨pa, pb, va, vb, rfl, .inr ⟨.inl (.inl (g1.ex _ _ ha)), .inl (.inl (g1.ex _ _ hb)), k F1 H1 G1 _ _ _ e1 g1 ⟨fun F2 H2 G2 i d e2 g2 _ hd => ?_, fun F2 H2 G2 e2 g2 _ => ?_⟩ h1⟩⟩
            · have sa : SqT X.K H2 pa va := .inl (.inl (g2.ex _ _ (e2 _ _ ha)))
              have sb : SqT X.K H2 pb vb := .inl (.inl (g2.ex _ _ (e2 _ _ hb)))
              rw [List.getElem?_zipWith] at hd
              cases ea : xs[i]? with
              | none => simp [ea] at hd
              | some a =>
                cases eb : ys[i]? with
                | none => simp [ea, eb] at hd
                | some b =>
                  simp only [ea, eb] at hd
                  cases hd
                  obtain ⟨u, hu, ru⟩ := ra.get ea
                  obtain ⟨w, hw, rw'⟩ := rb.get eb
                  refine ⟨⟨va, vb, u, w, sa, sb, hu, hw⟩, fun v H3 hy => ?_⟩
                  obtain ⟨T, u', w', rfl, hT, rfl, h3, h4⟩ := hy
                  have z1 := h3 va sa
                  have z2 := h4 vb sb
                  rw [hu] at z1; rw [hw] at z2
                  cases z1; cases z2
                  have gr := Gr.new (u := .tup [u, w]) g2.ex hT
                  exact ⟨_, gr.go, g2.grow gr, .tup upd_same (.cons ((ru.mono e2).mono gr.ff) (.cons ((rw'.mono e2).mono gr.ff) .nil))⟩
            · refine ⟨va, vb, .inl (.inl (g2.ex _ _ (e2 _ _ ha))), .inl (.inl (g2.ex _ _ (e2 _ _ hb))), ?_⟩
              rw [ra.length, rb.length, List.length_zipWith]
              omega
  · exact h1.elim
end
end DL
end
section
set_option Elab.async false
set_option linter.all false
set_option maxRecDepth 100000
set_option maxHeartbeats 4000000
namespace DL
open PySem PySem.Spec PyProof.Rows L2
section
variable {X : Cx} {pos : Pos}
theorem dp_par {i j : Nat} {x y : Str} {a b : Expr} {ta : DTA} {px py pt : Pos} {kt k2 pt2} (hc : X.calm = true) (hN : X.N.Nodup) (hi : X.N[i]? = some x := by rfl) (hj : X.N[j]? = some y := by rfl) (hij : i ≠ j := by decide)
    (hx : X.env.scope.names.lookup x = some .local := by rfl) (hy : X.env.scope.names.lookup y = some .local := by rfl) (ha : DA X [a, b] ta)
    (hw : swappedStores [.Tuple [.Name x px, .Name y py] kt pt] (.Tuple [a, b] k2 pt2) X.env = pure (some [x, y]) := by rfl)
    (hs : swapsWithSole [.Tuple [.Name x px, .Name y py] kt pt] (.Tuple [a, b] k2 pt2) pos.line X.env = pure false := by rfl) :
    DP X (.Assign [.Tuple [.Name x px, .Name y py] kt pt] (.Tuple [a, b] k2 pt2) pos) (dPar i j ta) := by
  obtain ⟨t, p, r⟩ := ha.ex
  refine ⟨_, ps_par hc hN hi hj hij hx hy p hw hs, fun F H σ S G o D' h D0 k => ?_⟩
  refine r F H σ S G o _ h _ fun F1 H1 vs ds G1 e1 g1 q1 h1 => ?_
  dsimp only at h1
  split at h1
  · cases q1 with
    | cons a1 b1 =>
      cases b1 with
      | cons a2 b2 =>
        cases b2
        exact ⟨_, _, rfl, k.nx F1 H1 _ _ G1 e1 ⟨g1, (((o.s.mono e1.ex).set a1 i).set a2 j)⟩ h1⟩
  · exact h1.elim
def dPar3 (i j l : Nat) (ta : DTA) : DTS := fun D' S G => ta S G fun ds G1 => match ds with
  | [x, y, z] => D'.nx (((S.set i (some x)).set j (some y)).set l (some z)) G1
  | _ => False
/-- x += e, whole numbers -/
def dAug (i : Nat) (te : DTE) (f : Int → Int → Int) : DTS := fun D' S G => match S[i]? with
  | some (some (.int a)) => te S G fun d G1 => (match d with
    | .int b => D'.nx (S.set i (some (.int (f a b)))) G1
    | _ => False)
  | _ => False
def dRevL (te : DTE) : DTE := fun S G Q => te S G fun d G1 => match d.cur G1 with
  | .lst xs => Q (.lst xs.reverse) G1
  | _ => False
def dRevLM (te : DTE) : DTE := fun S G Q => te S G fun d G1 => match d.cur G1 with
  | .lst xs => ∀ p, G1 p = none → Q (.rf p) (gput G1 p (.lst xs.reverse))
  | _ => False
theorem de_revLM {e : Expr} {te : DTE} {k : Nat} {p1 p2 p3 : Pos} (he : DE X e te) : DE X (.Subscript e (.Slice none none (some (.UnaryOp .USub (.Constant (.int 1) k p1) p2)) p3) pos) (dRevLM te) := by
  obtain ⟨t, p, r⟩ := he.ex
  refine ⟨_, pe_revL p, fun F H σ S G o Q' h Q kk => ?_⟩
  refine r F H σ S G o _ h _ fun F1 H1 v d G1 e1 g1 q1 h1 => ?_
  dsimp only at h1
  split at h1
  · rename_i xs ex
    obtain ⟨a, vs, rfl, ha, rs⟩ := cur_list g1 q1 ex
    refine ⟨a, vs, rfl, .inl (.inl ha), fun p hp => ?_⟩
    exact kk _ _ _ _ _ (e1.trans (Go.alloc hp)) (g1.alloc (o := .lst xs.reverse) hp rfl ⟨_, upd_same, rs.reverse⟩) (.rf p) (h1 p (g1.free hp))
  · exact h1.elim
abbrev DTP := DS → GH → (List (D × D) → GH → Prop) → Prop
inductive RepP (K : PySem.W.Frag) (F : Hp) : List (V × V) → List (D × D) → Prop
  | nil : RepP K F [] []
  | cons {a b : V} {c d : D} {ps : List (V × V)} {qs : List (D × D)} : Rep K F a c → Rep K F b d → RepP K F ps qs → RepP K F ((a, b) :: ps) ((c, d) :: qs)
theorem RepP.mono {K : PySem.W.Frag} {F F' : Hp} (e : Ex F F') : ∀ {ps : List (V × V)} {qs : List (D × D)}, RepP K F ps qs → RepP K F' ps qs
  | _, _, .nil => .nil
  | _, _, .cons a b t => .cons (a.mono e) (b.mono e) (RepP.mono e t)
structure DPp (X : Cx) (pos : Pos) (keys : List (Option Expr)) (values : List Expr) (t' : DTP) : Prop where
  ex : ∃ trs, PPs X pos keys values trs ∧ ∀ F H σ S G, Ok X.K F H σ S G → ∀ Q', t' S G Q' → ∀ Q : List (V × V) → Hp → Prop, (∀ F' H' ps qs G', Go F H G F' H' G' → Gok X.K F' H' G' → RepP X.K F' ps qs → Q' qs G' → Q ps H') → tPairs trs σ H Q
def dpNil : DTP := fun _ G Q => Q [] G
def dpCons (tk tv : DTE) (tr : DTP) : DTP := fun S G Q => tk S G fun k G1 => tv S G1 fun v G2 => tr S G2 fun qs G3 => Q ((k, v) :: qs) G3
theorem dpp_nil : DPp X pos [] [] dpNil := ⟨_, pps_nil, fun F H σ S G o Q' h Q k => k F H [] [] G Go.refl o.g .nil h⟩
theorem dpp_cons {k v : Expr} {ks : List (Option Expr)} {vs : List Expr} {tk tv : DTE} {tr : DTP} (hk : DE X k tk) (hv : DE X v tv) (hr : DPp X pos ks vs tr) : DPp X pos (some k :: ks) (v :: vs) (dpCons tk tv tr) := by
  obtain ⟨t1, p1, r1⟩ := hk.ex
  obtain ⟨t2, p2, r2⟩ := hv.ex
  obtain ⟨t3, p3, r3⟩ := hr.ex
  refine ⟨_, pps_cons p1 p2 p3, fun F H σ S G o Q' h Q kk => ?_⟩
  refine r1 F H σ S G o _ h _ fun F1 H1 v1 d1 G1 e1 g1 q1 h1 => ?_
  refine r2 F1 H1 σ S G1 (o.go e1 g1) _ h1 _ fun F2 H2 v2 d2 G2 e2 g2 q2 h2 => ?_
  refine r3 F2 H2 σ S G2 ((o.go e1 g1).go e2 g2) _ h2 _ fun F3 H3 ps qs G3 e3 g3 q3 h3 => ?_
  exact kk F3 H3 _ _ G3 ((e1.trans e2).trans e3) g3 (.cons ((q1.mono e2.ex).mono e3.ex) (q2.mono e3.ex) q3) h3
def keyed : List (D × D) → Option (List (Key × D))
  | [] => some []
  | (k, v) :: r => match k.key, keyed r with
    | some k, some r => some ((k, v) :: r)
    | _, _ => none
theorem keyed_rep {K : PySem.W.Frag} {F : Hp} : ∀ {ps : List (V × V)} {qs : List (D × D)} {kds : List (Key × D)}, RepP K F ps qs → keyed qs = some kds → ∃ kvs : List (Key × V), ps = kvs.map (fun kv => (kV kv.1, kv.2)) ∧ KR K F kvs kds
  | _, _, _, .nil, h => by cases h; exact ⟨[], rfl, .nil⟩
  | _, _, kds, .cons (c := c) (d := d) (qs := qs) a b t, h => by
    unfold keyed at h
    cases e1 : c.key with
    | none => simp [e1] at h
    | some k =>
      cases e2 : keyed qs with
      | none => simp [e1, e2] at h
      | some r =>
        simp only [e1, e2] at h
        cases h
        obtain ⟨kvs, rfl, kr⟩ := keyed_rep t e2
        have := a.key e1
        subst this
        exact ⟨(k, _) :: kvs, rfl, .cons b kr⟩
def mergeD (kds more : List (Key × D)) : List (Key × D) := more.foldl (fun acc kv => putD acc kv.1 kv.2) kds
theorem KR.merge {K : PySem.W.Frag} {F : Hp} : ∀ {more : List (Key × D)} {mv : List (Key × V)} {kds : List (Key × D)} {kvs : List (Key × V)}, KR K F mv more → KR K F kvs kds → KR K F (mergeK kvs mv) (mergeD kds more)
  | [], mv, kds, kvs, h, r => by
    obtain rfl := h.unnil
    exact r
  | (k, d) :: more, mv, kds, kvs, h, r => by
    obtain ⟨v, mv', rfl, rv, t⟩ := h.uncons
    show KR K F (mergeK (putK kvs k v) mv') (mergeD (putD kds k d) more)
    exact KR.merge t (r.put rv)
def dDisp (tp : DTP) : DTE := fun S G Q => tp S G fun qs G1 => match keyed qs with
  | some kds => kds.length ≤ 15 ∧ Q (.dK (mergeD [] kds)) G1
  | none => False
theorem disp_core {keys : List (Option Expr)} {values : List Expr} {tp : DTP} (h : DPp X pos keys values tp) (hall : keys.all (·.isSome) = true) (hl : keys.length = values.length) (h0 : keys ≠ []) (h15 : keys.length ≤ 15) :
    ∃ t, PE X (.Dict keys values pos) t ∧ ∀ F H σ S G, Ok X.K F H σ S G → ∀ Q' : List (Key × D) → GH → Prop, (tp S G fun qs G1 => match keyed qs with | some kds => kds.length ≤ 15 ∧ Q' (mergeD [] kds) G1 | none => False) → ∀ Q : VK,
      (∀ F' H' G' p kvs kds, H p = none → Go F H G F' H' G' → Gok X.K F' H' G' → F' p = none → G' p = none → KR X.K F' kvs kds → Q' kds G' → H' p = some (.dK []) → Q (.ref p) (upd H' p (.dK kvs))) → t σ H Q := by
  obtain ⟨trs, p1, r⟩ := h.ex
  refine ⟨_, pe_disp p1 hall hl h0 h15, fun F H σ S G o Q' h Q k => ?_⟩
  intro p hp
  have gp : G p = none := o.g.free hp
  have fp : F p = none := o.g.ex.nope hp
  have gr : Gr F H F (upd H p (.dK [])) := Gr.only o.g.ex hp
  refine r F _ σ S G ⟨o.g.grow gr, o.s⟩ _ h _ fun F1 H1 ps qs G1 e1 g1 q1 h1 => ?_
  split at h1
  · rename_i kds ek
    obtain ⟨kvs, rfl, kr⟩ := keyed_rep q1 ek
    have fr := e1.fr p _ upd_same gp
    refine ⟨fr.1, kvs, rfl, by rw [kr.len]; exact h1.1, ?_⟩
    exact k F1 H1 G1 p _ _ hp ((gr.go (G := G)).trans e1) g1 (e1.no p _ upd_same gp fp (fun _ z => nomatch z)) fr.2 (KR.merge kr .nil) h1.2 fr.1
  · exact h1.elim
def dDispM (tp : DTP) : DTE := fun S G Q => tp S G fun qs G1 => match keyed qs with
  | some kds => kds.length ≤ 15 ∧ ∀ p, G1 p = none → Q (.rf p) (gput G1 p (.dK (mergeD [] kds)))
  | none => False
theorem de_dispM {keys : List (Option Expr)} {values : List Expr} {tp : DTP} (h : DPp X pos keys values tp) (hall : keys.all (·.isSome) = true := by rfl) (hl : keys.length = values.length := by rfl) (h0 : keys ≠ [] := by intro z; cases z) (h15 : keys.length ≤ 15 := by decide) : DE X (.Dict keys values pos) (dDispM tp) := by
  obtain ⟨t, p1, r⟩ := disp_core h hall hl h0 h15
  refine ⟨t, p1, fun F H σ S G o Q' h Q k => ?_⟩
  refine r F H σ S G o (fun kds G' => ∀ p, G' p = none → Q' (.rf p) (gput G' p (.dK kds))) h Q fun F' H' G' p kvs kds hp go g fp gp kr q hd => ?_
  have g2 : Gok X.K F' (upd H' p (.dK kvs)) (gput G' p (.dK kds)) := by
    refine ⟨g.ex.updR fp, fun a w e => ?_, fun a b k1 k2 k3 n j1 j2 j3 m e1 e2 => ?_⟩
    · by_cases nq : a = p
      · subst nq
        rw [gput_same] at e; cases e
        exact ⟨fp, _, upd_same, kr.ks, kr.vs⟩
      · rw [gput_ne nq] at e
        obtain ⟨f, m⟩ := g.at_ a w e
        refine ⟨f, m.move (Ex.refl F') (fun b u hb hc => ?_) fun c z => ?_⟩
        · have n2 : b ≠ p := fun z => by
            rcases hc with hc | hc
            · exact nq (hc ▸ z)
            · rw [z, gp] at hc; cases hc
          rw [upd_ne n2]; exact hb
        · have n2 : c ≠ p := fun y => by rw [y, gp] at z; cases z
          rw [gput_ne n2]; exact z
    · have ha : a ≠ p := fun y => by rw [y, gput_same] at e1; cases e1
      have hb : b ≠ p := fun y => by rw [y, gput_same] at e2; cases e2
      rw [gput_ne ha] at e1; rw [gput_ne hb] at e2
      exact g.one a b k1 k2 k3 n j1 j2 j3 m e1 e2
  have go2 : Go F H G F' (upd H' p (.dK kvs)) (gput G' p (.dK kds)) := by
    refine ⟨go.ex, fun b u hb gb => ?_, go.no, fun b z => go.st b (upd_none z)⟩
    have n2 : b ≠ p := fun z => by rw [z, hp] at hb; cases hb
    rw [upd_ne n2, gput_ne n2]; exact go.fr b u hb gb
  exact k _ _ _ _ _ go2 g2 (.rf p) (q p gp)
def D.shown (d : D) : Str := d.py.shown
structure Cal (P : Program) (w : World) (K : PySem.W.Frag) (mg : Str → Option Value) (base : Heap) (x : Str) (k : Nat) (ps : List Str) (sp : SpD) : Prop where
  ex : ∃ f fd, FnG P w K mg base CX0 k f fd ps (SpOf K sp) ∧ mg x = some (.ref f) ∧ PySem.W.keepIn K (.ref f) = true ∧ Binds K fd ps []
theorem de_cal {x : Str} {k : Nat} {ps : List Str} {sp : SpD} {p : Pos} {e : Expr} {es : List Expr} {ta : DTA} (c : Cal X.prog X.w X.K X.mg X.base x k ps sp) (hA : X.A.guards = some []) (hr : Room k X.A) (ha : DA X (e :: es) ta) (hg : Gl X x := by rfl) (hdb : (x == ("__debug__" : Str)) = false := by decide)
    (he : starEach (e :: es) X.env = (false, eval e X.env) :: starEach es X.env := by rfl) (hpl : (backTo pos (starEach es X.env)).any (·.1) = false := by rfl) : DE X (.Call (.Name x p) (e :: es) [] pos) (dCall sp ta) := by
  obtain ⟨f, fd, Fn, hm, hk, hb⟩ := c.ex
  exact de_call Fn hA hr hg hm hk hb ha hdb he hpl
end
structure Def (K : PySem.W.Frag) (mg : Str → Option Value) (x : Str) (st : Stmt) : Prop where
  ex : ∃ f fd, Fun K x x st f fd ∧ mg x = some (.ref f)
theorem cal_mk {P : Program} {w : World} {K : PySem.W.Frag} {mg : Str → Option Value} {base : Heap} {x : Str} {st : Stmt} {N ps : List Str} {k : Nat} {sp : SpD} (d : Def K mg x st) (sc : FnScope N ps (defScope st)) (len : ∀ ds G Q, sp ds G Q → ds.length = ps.length)
    (bi : ∀ (kV doc pm : Value) (an : Option Addr) (cdv ct : Value) (us : List Value), us.length = ps.length → bindArgs (PySem.W.fnOf x x (defArgs st) (defBody st) (defScope st) .none kV doc pm an cdv ct) ⟨us, []⟩ = pure (ps.zip us))
    (hb : ∀ (f : Addr) (cdv : Value) (A : Around) (outer : List Env) (s : Shared) (H : Hp) (E : XK), A.guards = some [] → Room k (A.deeper (envOfC x (defScope st) s.heap.objs.size f cdv)) →
      ∃ t', DPs (cxOf CX0 P w K mg base N x (defScope st) f cdv A outer s H E).nox (defBody st) t' ∧ ∀ ds G Q, sp ds G Q → t' (fin Q) (dstart N ds) G) : Cal P w K mg base x (k + 1) ps sp := by
  obtain ⟨f, fd, Fu, hm⟩ := d.ex
  exact ⟨f, fd, fn_mk Fu sc len (hb f), hm, Fu.kp, Fu.binds bi⟩
end DL
end
section
set_option Elab.async false
set_option linter.all false
set_option maxRecDepth 100000
namespace DL
open PySem PySem.Spec PyProof.Rows L2
/-- the loop of a for over what is known -/
def ForB (ds : List D) (gd : GH → Prop) (g : DTG) (tb : DTS) (D' : DEnds) (S : DS) (G1 : GH) : Prop := ∃ W : Nat → DS → GH → Prop, W 0 S G1 ∧ (∀ i S G, W i S G → gd G) ∧
  (∀ i S G d, W i S G → ds[i]? = some d → g d S G fun S2 G2 => tb { D' with nx := W (i + 1), ct := W (i + 1), bk := D'.nx } S2 G2) ∧ (∀ S G, W ds.length S G → D'.nx S G)
def WhB (c : DTT) (tb : DTS) (D' : DEnds) (S : DS) (G : GH) : Prop := ∃ W : Nat → DS → GH → Prop, (∃ m, W m S G) ∧ ∀ m S G, W m S G →
  c S G fun b G1 => if b = true then tb { D' with nx := fun S' G' => ∃ m', m' < m ∧ W m' S' G', ct := fun S' G' => ∃ m', m' < m ∧ W m' S' G', bk := D'.nx } S G1 else D'.nx S G1
def LcB (ds : List D) (gd : GH → Prop) (p : Pat) (tt : DTT) (te : DTE) (vs : List Nat) (S : DS) (G1 : GH) (Q : DQ) : Prop := ds.length ≤ sizeLine ∧ ∃ W : Nat → List D → GH → Prop, W 0 [] G1 ∧ (∀ i acc G, W i acc G → gd G) ∧
  (∀ i acc G d, W i acc G → ds[i]? = some d → ∃ S2, p.put d (dwipe S vs) = some S2 ∧ tt S2 G fun b G2 => if b = true then te S2 G2 fun y G3 => W (i + 1) (acc ++ [y]) G3 else W (i + 1) acc G2) ∧
  ∀ acc G, W ds.length acc G → Q (.lst acc) G
theorem x_var (i : Nat) (S : DS) (G : GH) (Q : DQ) : dVar i S G Q = (match S[i]? with | some (some d) => Q d G | _ => False) := rfl
theorem x_C (d : D) (S : DS) (G : GH) (Q : DQ) : dC d S G Q = Q d G := rfl
theorem x_nil (S : DS) (G : GH) (Q : List D → GH → Prop) : dNil S G Q = Q [] G := rfl
theorem x_cons (ta : DTE) (tr : DTA) (S : DS) (G : GH) (Q : List D → GH → Prop) : dCons ta tr S G Q = (ta S G fun d G1 => tr S G1 fun ds G2 => Q (d :: ds) G2) := rfl
theorem x_tup (ta : DTA) (S : DS) (G : GH) (Q : DQ) : dTup ta S G Q = (ta S G fun ds G1 => ds.length ≤ sizeLine ∧ Q (.tup ds) G1) := rfl
theorem x_lst (ta : DTA) (S : DS) (G : GH) (Q : DQ) : dLst ta S G Q = (ta S G fun ds G1 => ds.length ≤ sizeLine ∧ Q (.lst ds) G1) := rfl
theorem x_lstM (ta : DTA) (S : DS) (G : GH) (Q : DQ) : dLstM ta S G Q = (ta S G fun ds G1 => ds.length ≤ sizeLine ∧ ∀ p, G1 p = none → Q (.rf p) (gput G1 p (.lst ds))) := rfl
theorem x_op (r : DR2) (ta tb : DTE) (S : DS) (G : GH) (Q : DQ) : dOp r ta tb S G Q = (ta S G fun x G1 => tb S G1 fun y G2 => r x y G2 Q) := rfl
theorem x_un (r : DR1) (ta : DTE) (S : DS) (G : GH) (Q : DQ) : dUn r ta S G Q = (ta S G fun x G1 => r x G1 Q) := rfl
theorem x_test (ta : DTE) (S : DS) (G : GH) (Q : Bool → GH → Prop) : dTest ta S G Q = (ta S G fun d G1 => match d with | .bl b => Q b G1 | _ => False) := rfl
theorem x_not (t : DTT) (S : DS) (G : GH) (Q : Bool → GH → Prop) : dNot t S G Q = (t S G fun b G1 => Q (!b) G1) := rfl
theorem x_and (t u : DTT) (S : DS) (G : GH) (Q : Bool → GH → Prop) : dAnd t u S G Q = (t S G fun b G1 => if b = true then u S G1 Q else Q false G1) := rfl
theorem x_or (t u : DTT) (S : DS) (G : GH) (Q : Bool → GH → Prop) : dOr t u S G Q = (t S G fun b G1 => if b = true then Q true G1 else u S G1 Q) := rfl
theorem x_if (t : DTT) (ta tb : DTE) (S : DS) (G : GH) (Q : DQ) : dIf t ta tb S G Q = (t S G fun b G1 => if b = true then ta S G1 Q else tb S G1 Q) := rfl
theorem x_andV (ta tb : DTE) (S : DS) (G : GH) (Q : DQ) : dAndV ta tb S G Q = (ta S G fun d G1 => match d with | .bl b => if b = true then tb S G1 Q else Q (.bl false) G1 | _ => False) := rfl
theorem x_orV (ta tb : DTE) (S : DS) (G : GH) (Q : DQ) : dOrV ta tb S G Q = (ta S G fun d G1 => match d with | .bl b => if b = true then Q (.bl true) G1 else tb S G1 Q | _ => False) := rfl
theorem x_notV (ta : DTE) (S : DS) (G : GH) (Q : DQ) : dNotV ta S G Q = (ta S G fun d G1 => match d with | .bl b => Q (.bl (!b)) G1 | _ => False) := rfl
theorem x_gname (i : Nat) (d : D) (S : DS) (G : GH) (Q : DS → GH → Prop) : dgName i d S G Q = Q (S.set i (some d)) G := rfl
theorem x_gtup (n : Nat) (u : DTGs) (ds : List D) (S : DS) (G : GH) (Q : DS → GH → Prop) : dgTup n u (.tup ds) S G Q = (ds.length = n ∧ u ds S G Q) := rfl
theorem x_gnil (S : DS) (G : GH) (Q : DS → GH → Prop) : dgNil [] S G Q = Q S G := rfl
theorem x_gcons (t : DTG) (u : DTGs) (d : D) (ds : List D) (S : DS) (G : GH) (Q : DS → GH → Prop) : dgCons t u (d :: ds) S G Q = (t d S G fun S1 G1 => u ds S1 G1 Q) := rfl
theorem x_next (D' : DEnds) (S : DS) (G : GH) : dNext D' S G = D'.nx S G := rfl
theorem x_seq (t u : DTS) (D' : DEnds) (S : DS) (G : GH) : dSeq t u D' S G = t { D' with nx := u D' } S G := rfl
theorem x_asg (te : DTE) (g : DTG) (D' : DEnds) (S : DS) (G : GH) : dAsg te g D' S G = (te S G fun d G1 => g d S G1 D'.nx) := rfl
theorem x_drop (te : DTE) (D' : DEnds) (S : DS) (G : GH) : dDrop te D' S G = (te S G fun _ G1 => D'.nx S G1) := rfl
theorem x_ret (te : DTE) (D' : DEnds) (S : DS) (G : GH) : dRet te D' S G = te S G D'.rt := rfl
theorem x_retN (D' : DEnds) (S : DS) (G : GH) : dRetN D' S G = D'.rt .non G := rfl
theorem x_ifS (c : DTT) (t u : DTS) (D' : DEnds) (S : DS) (G : GH) : dIfS c t u D' S G = (c S G fun b G1 => if b = true then t D' S G1 else u D' S G1) := rfl
theorem x_never (D' : DEnds) (S : DS) (G : GH) : dNever D' S G = False := rfl
theorem x_break (D' : DEnds) (S : DS) (G : GH) : dBreak D' S G = D'.bk S G := rfl
theorem x_cont (D' : DEnds) (S : DS) (G : GH) : dCont D' S G = D'.ct S G := rfl
theorem x_call (sp : SpD) (ta : DTA) (S : DS) (G : GH) (Q : DQ) : dCall sp ta S G Q = (ta S G fun ds G1 => sp ds G1 Q) := rfl
theorem x_cb (r : List D → GH → DQ → Prop) (ta : DTA) (S : DS) (G : GH) (Q : DQ) : dCB r ta S G Q = (ta S G fun ds G1 => r ds G1 Q) := rfl
theorem x_bm (T : String) (r : D → List D → GH → DQ → Prop) (to : DTE) (ta : DTA) (S : DS) (G : GH) (Q : DQ) : dBM T r to ta S G Q = (to S G fun x G1 => D.hasTy T (x.cur G1) = true ∧ ta S G1 fun ds G2 => r x ds G2 Q) := rfl
theorem x_bm0 (T : String) (r : D → List D → GH → DQ → Prop) (to : DTE) (S : DS) (G : GH) (Q : DQ) : dBM0 T r to S G Q = (to S G fun x G1 => D.hasTy T (x.cur G1) = true ∧ r x [] G1 Q) := rfl
theorem x_nopart (S : DS) (G : GH) (Q : Option Int → GH → Prop) : dNoPart S G Q = Q none G := rfl
theorem x_part (ta : DTE) (S : DS) (G : GH) (Q : Option Int → GH → Prop) : dPart ta S G Q = (ta S G fun d G1 => match d with | .int i => Q (some i) G1 | _ => False) := rfl
theorem x_slice (ta : DTE) (tl th : DTO) (S : DS) (G : GH) (Q : DQ) : dSlice ta tl th S G Q = (ta S G fun x G1 => tl S G1 fun lo G2 => th S G2 fun hi G3 => rSlice x lo hi G3 Q) := rfl
theorem x_newK (S : DS) (G : GH) (Q : DQ) : dNewK S G Q = (∀ p, G p = none → Q (.rf p) (gput G p (.dK []))) := rfl
theorem x_newT (S : DS) (G : GH) (Q : DQ) : dNewT S G Q = (∀ p, G p = none → Q (.rf p) (gput G p (.dT []))) := rfl
theorem x_yes (S : DS) (G : GH) (Q : Bool → GH → Prop) : dYes S G Q = Q true G := rfl
theorem x_pnil (S : DS) (G : GH) (Q : List (D × D) → GH → Prop) : dpNil S G Q = Q [] G := rfl
theorem x_pcons (tk tv : DTE) (tr : DTP) (S : DS) (G : GH) (Q : List (D × D) → GH → Prop) : dpCons tk tv tr S G Q = (tk S G fun k G1 => tv S G1 fun v G2 => tr S G2 fun qs G3 => Q ((k, v) :: qs) G3) := rfl
theorem x_dCold (ta : DTE) (S : DS) (G : GH) (Q : DQ) : dCold ta S G Q = (ta S G fun d G1 => match d with
  | .rf a => (match G1 a with
    | some o => (match o.cold with
      | some d => Q d (gdel G1 a)
      | none => False)
    | none => False)
  | d => Q d G1) := rfl
theorem x_dFld (C : Addr) (f : Str) (ta : DTE) (S : DS) (G : GH) (Q : DQ) : dFld C f ta S G Q = (ta S G fun d G1 => match d.cur G1 with
  | .obj C' fs => C' = C ∧ (match fs.lookup f with
    | some v => Q v G1
    | none => False)
  | _ => False) := rfl
theorem x_dSetFld (C : Addr) (f : Str) (ta tv : DTE) (D' : DEnds) (S : DS) (G : GH) : dSetFld C f ta tv D' S G = (tv S G fun y G1 => ta S G1 fun x G2 => match x with
  | .rf a => (match G2 a with
    | some (.ins C' fs) => C' = C ∧ fs.length < 1000 ∧ D'.nx S (gput G2 a (.ins C (putFD f y fs)))
    | _ => False)
  | _ => False) := rfl
theorem x_dSetSub (to ti : DTE) (v : D) (S : DS) (G : GH) (Q : DS → GH → Prop) : dSetSub to ti v S G Q = (to S G fun x G1 => ti S G1 fun i G2 => match x with
  | .rf a => (match G2 a with
    | some (.lst xs) => (match i with
      | .int j => (match ixN xs.length j with
        | some n => Q S (gput G2 a (.lst (xs.set n v)))
        | none => False)
      | _ => False)
    | some (.dK kds) => (match i.key with
      | some k => kds.length < sizeLine ∧ Q S (gput G2 a (.dK (putD kds k v)))
      | none => False)
    | some (.dT kds) => (match i with
      | .tup ds => (match D.keys ds with
        | some k => kds.length < sizeLine ∧ Q S (gput G2 a (.dT (putD kds k v)))
        | none => False)
      | _ => False)
    | _ => False)
  | _ => False) := rfl
theorem x_dMeth (C : Addr) (m : Str) (sp : SpD) (ta : DTE) (tr : DTA) (S : DS) (G : GH) (Q : DQ) : dMeth C m sp ta tr S G Q = (ta S G fun d G1 => match d.cur G1 with
  | .obj C' fs => C' = C ∧ fs.lookup m = none ∧ tr S G1 fun ds G2 => sp (d :: ds) G2 Q
  | _ => False) := rfl
theorem x_dMake (C : Addr) (sp : SpD) (tr : DTA) (S : DS) (G : GH) (Q : DQ) : dMake C sp tr S G Q = (tr S G fun ds G1 => ∀ y, G1 y = none → sp (.rf y :: ds) (gput G1 y (.ins C [])) fun d G2 => match d with
  | .non => Q (.rf y) G2
  | _ => False) := rfl
theorem x_diTup (te : DTE) (S : DS) (G : GH) (R : List D → (GH → Prop) → GH → Prop) : diTup te S G R = (te S G fun d G1 => match d with
  | .tup ds => R ds dNoGuard G1
  | _ => False) := rfl
theorem x_diList (te : DTE) (S : DS) (G : GH) (R : List D → (GH → Prop) → GH → Prop) : diList te S G R = (te S G fun d G1 => match d with
  | .lst ds => R ds dNoGuard G1
  | .rf a => (match G1 a with
    | some (.lst ds) => R ds (fun G => G a = some (.lst ds)) G1
    | _ => False)
  | _ => False) := rfl
theorem x_diStr (te : DTE) (S : DS) (G : GH) (R : List D → (GH → Prop) → GH → Prop) : diStr te S G R = (te S G fun d G1 => match d with
  | .str x => R (signs x) dNoGuard G1
  | _ => False) := rfl
theorem x_diRange1 (ta : DTA) (S : DS) (G : GH) (R : List D → (GH → Prop) → GH → Prop) : diRange1 ta S G R = (ta S G fun ds G1 => match ds with
  | [.int n] => -(2 ^ 62) ≤ n ∧ n < 2 ^ 62 ∧ R ((List.range n.toNat).map fun i => .int (i : Nat)) dNoGuard G1
  | _ => False) := rfl
theorem x_diRange2 (ta : DTA) (S : DS) (G : GH) (R : List D → (GH → Prop) → GH → Prop) : diRange2 ta S G R = (ta S G fun ds G1 => match ds with
  | [.int m, .int n] => (-(2 ^ 62) ≤ m ∧ m < 2 ^ 62 ∧ -(2 ^ 62) ≤ n ∧ n < 2 ^ 62) ∧ R ((List.range (n - m).toNat).map fun i => .int (m + (i : Nat))) dNoGuard G1
  | _ => False) := rfl
theorem x_dLcM (wi : DTI) (p : Pat) (tt : DTT) (te : DTE) (vs : List Nat) (S : DS) (G : GH) (Q : DQ) : dLcM wi p tt te vs S G Q = (dLc wi p tt te vs S G fun d G' => match d with
  | .lst acc => ∀ a, G' a = none → Q (.rf a) (gput G' a (.lst acc))
  | _ => False) := rfl
theorem x_dGet1 (td ty : DTE) (S : DS) (G : GH) (Q : DQ) : dGet1 td ty S G Q = (td S G fun x G1 => D.hasTy "dict" (x.cur G1) = true ∧ ty S G1 fun y G2 => match (x.cur G2).look y with
  | some o => Q (o.getD .non) G2
  | none => False) := rfl
theorem x_dGet2 (td ty tx : DTE) (S : DS) (G : GH) (Q : DQ) : dGet2 td ty tx S G Q = (td S G fun x G1 => D.hasTy "dict" (x.cur G1) = true ∧ ty S G1 fun y G2 => tx S G2 fun z G3 => match (x.cur G3).look y with
  | some o => Q (o.getD z) G3
  | none => False) := rfl
theorem x_diEnumT (ta : DTA) (S : DS) (G : GH) (R : List D → (GH → Prop) → GH → Prop) : diEnumT ta S G R = (ta S G fun ds G1 => match ds with
  | [.tup xs] => R (xs.mapIdx fun i x => .tup [.int (i : Nat), x]) dNoGuard G1
  | _ => False) := rfl
theorem x_diZipS (ta : DTA) (S : DS) (G : GH) (R : List D → (GH → Prop) → GH → Prop) : diZipS ta S G R = (ta S G fun ds G1 => match ds with
  | [.str x, .str y] => R (List.zipWith (fun a b => .tup [.str (sgn a), .str (sgn b)]) x.cps.toList y.cps.toList) dNoGuard G1
  | _ => False) := rfl
theorem x_diZipT (ta : DTA) (S : DS) (G : GH) (R : List D → (GH → Prop) → GH → Prop) : diZipT ta S G R = (ta S G fun ds G1 => match ds with
  | [.tup xs, .tup ys] => R (List.zipWith (fun a b => .tup [a, b]) xs ys) dNoGuard G1
  | _ => False) := rfl
theorem x_dPar (i j : Nat) (ta : DTA) (D' : DEnds) (S : DS) (G : GH) : dPar i j ta D' S G = (ta S G fun ds G1 => match ds with
  | [x, y] => D'.nx ((S.set i (some x)).set j (some y)) G1
  | _ => False) := rfl
theorem x_dPar3 (i j l : Nat) (ta : DTA) (D' : DEnds) (S : DS) (G : GH) : dPar3 i j l ta D' S G = (ta S G fun ds G1 => match ds with
  | [x, y, z] => D'.nx (((S.set i (some x)).set j (some y)).set l (some z)) G1
  | _ => False) := rfl
theorem x_dAug (i : Nat) (te : DTE) (f : Int → Int → Int) (D' : DEnds) (S : DS) (G : GH) : dAug i te f D' S G = (match S[i]? with
  | some (some (.int a)) => te S G fun d G1 => (match d with
    | .int b => D'.nx (S.set i (some (.int (f a b)))) G1
    | _ => False)
  | _ => False) := rfl
theorem x_dRevL (te : DTE) (S : DS) (G : GH) (Q : DQ) : dRevL te S G Q = (te S G fun d G1 => match d.cur G1 with
  | .lst xs => Q (.lst xs.reverse) G1
  | _ => False) := rfl
theorem x_dRevLM (te : DTE) (S : DS) (G : GH) (Q : DQ) : dRevLM te S G Q = (te S G fun d G1 => match d.cur G1 with
  | .lst xs => ∀ p, G1 p = none → Q (.rf p) (gput G1 p (.lst xs.reverse))
  | _ => False) := rfl
theorem x_dDisp (tp : DTP) (S : DS) (G : GH) (Q : DQ) : dDisp tp S G Q = (tp S G fun qs G1 => match keyed qs with
  | some kds => kds.length ≤ 15 ∧ Q (.dK (mergeD [] kds)) G1
  | none => False) := rfl
theorem x_dDispM (tp : DTP) (S : DS) (G : GH) (Q : DQ) : dDispM tp S G Q = (tp S G fun qs G1 => match keyed qs with
  | some kds => kds.length ≤ 15 ∧ ∀ p, G1 p = none → Q (.rf p) (gput G1 p (.dK (mergeD [] kds)))
  | none => False) := rfl
theorem x_dChain (r r' : DR2) (ta tb tc : DTE) (S : DS) (G : GH) (Q : DQ) : dChain r r' ta tb tc S G Q = (ta S G fun x G1 => tb S G1 fun y G2 => r x y G2 fun z G3 => match z with
  | .bl k => if k = true then tc S G3 fun w G4 => r' y w G4 Q else Q (.bl false) G3
  | _ => False) := rfl
theorem x_for (wi : DTI) (g : DTG) (tb : DTS) (D' : DEnds) (S : DS) (G : GH) : dFor wi g tb D' S G = (wi S G fun ds gd G1 => ForB ds gd g tb D' S G1) := rfl
theorem x_while (c : DTT) (tb : DTS) (D' : DEnds) (S : DS) (G : GH) : dWhile c tb D' S G = WhB c tb D' S G := rfl
theorem x_lc (wi : DTI) (p : Pat) (tt : DTT) (te : DTE) (vs : List Nat) (S : DS) (G : GH) (Q : DQ) : dLc wi p tt te vs S G Q = (wi S G fun ds gd G1 => LcB ds gd p tt te vs S G1 Q) := rfl
theorem x_curK (G : GH) (a : Addr) : D.cur G (.rf a) = (match G a with
    | some (.lst xs) => .lst xs
    | some (.dK kds) => .dK kds
    | some (.dT kds) => .dT kds
    | some (.ins C kds) => .obj C kds
    | _ => .rf a) := rfl
theorem x_cur_non (G : GH)  : D.cur G (.non ) = .non  := rfl
theorem x_cur_bl (G : GH) (b : Bool) : D.cur G (.bl b) = .bl b := rfl
theorem x_cur_int (G : GH) (i : Int) : D.cur G (.int i) = .int i := rfl
theorem x_cur_str (G : GH) (x : Str) : D.cur G (.str x) = .str x := rfl
theorem x_ty_str (T : String) (x : Str) : D.hasTy T (.str x) = (T == "str") := rfl
theorem x_cur_ty (G : GH) (n : String) : D.cur G (.ty n) = .ty n := rfl
theorem x_cur_tup (G : GH) (xs : List D) : D.cur G (.tup xs) = .tup xs := rfl
theorem x_cur_lst (G : GH) (xs : List D) : D.cur G (.lst xs) = .lst xs := rfl
theorem x_ty_lst (T : String) (xs : List D) : D.hasTy T (.lst xs) = (T == "list") := rfl
theorem x_cur_dK (G : GH) (kvs : List (Key × D)) : D.cur G (.dK kvs) = .dK kvs := rfl
theorem x_ty_dK (T : String) (kvs : List (Key × D)) : D.hasTy T (.dK kvs) = (T == "dict") := rfl
theorem x_cur_dT (G : GH) (kvs : List (List Key × D)) : D.cur G (.dT kvs) = .dT kvs := rfl
theorem x_ty_dT (T : String) (kvs : List (List Key × D)) : D.hasTy T (.dT kvs) = (T == "dict") := rfl
theorem x_cur_obj (G : GH) (C : Addr) (fs : List (Str × D)) : D.cur G (.obj C fs) = .obj C fs := rfl
theorem x_cur_scr (G : GH) (ns : List Int) : D.cur G (.scr ns) = .scr ns := rfl
theorem x_item (x y : D) (G : GH) (Q : DQ) : rItem x y G Q = (match D.item (x.cur G) y with | some d => Q d G | none => False) := rfl
theorem x_int (C : Int → Int → Prop) (f : Int → Int → Int) (i j : Int) (G : GH) (Q : DQ) : rIntD C f (.int i) (.int j) G Q = (C i j ∧ Q (.int (f i j)) G) := rfl
theorem x_neg (i : Int) (G : GH) (Q : DQ) : rNegD (.int i) G Q = Q (.int (-i)) G := rfl
theorem dxs : (((((((∀ (i : Nat) (S : DS) (G : GH) (Q : DQ), dVar i S G Q = (match S[i]? with | some (some d) => Q d G | _ => False)) ∧
 (∀ (d : D) (S : DS) (G : GH) (Q : DQ), dC d S G Q = Q d G)) ∧
 ((∀ (S : DS) (G : GH) (Q : List D → GH → Prop), dNil S G Q = Q [] G) ∧
 ((∀ (ta : DTE) (tr : DTA) (S : DS) (G : GH) (Q : List D → GH → Prop), dCons ta tr S G Q = (ta S G fun d G1 => tr S G1 fun ds G2 => Q (d :: ds) G2)) ∧
 (∀ (ta : DTA) (S : DS) (G : GH) (Q : DQ), dTup ta S G Q = (ta S G fun ds G1 => ds.length ≤ sizeLine ∧ Q (.tup ds) G1))))) ∧
 (((∀ (ta : DTA) (S : DS) (G : GH) (Q : DQ), dLst ta S G Q = (ta S G fun ds G1 => ds.length ≤ sizeLine ∧ Q (.lst ds) G1)) ∧
 ((∀ (ta : DTA) (S : DS) (G : GH) (Q : DQ), dLstM ta S G Q = (ta S G fun ds G1 => ds.length ≤ sizeLine ∧ ∀ p, G1 p = none → Q (.rf p) (gput G1 p (.lst ds)))) ∧
 (∀ (r : DR2) (ta tb : DTE) (S : DS) (G : GH) (Q : DQ), dOp r ta tb S G Q = (ta S G fun x G1 => tb S G1 fun y G2 => r x y G2 Q)))) ∧
 ((∀ (r : DR1) (ta : DTE) (S : DS) (G : GH) (Q : DQ), dUn r ta S G Q = (ta S G fun x G1 => r x G1 Q)) ∧
 ((∀ (ta : DTE) (S : DS) (G : GH) (Q : Bool → GH → Prop), dTest ta S G Q = (ta S G fun d G1 => match d with | .bl b => Q b G1 | _ => False)) ∧
 (∀ (t : DTT) (S : DS) (G : GH) (Q : Bool → GH → Prop), dNot t S G Q = (t S G fun b G1 => Q (!b) G1)))))) ∧
 ((((∀ (t u : DTT) (S : DS) (G : GH) (Q : Bool → GH → Prop), dAnd t u S G Q = (t S G fun b G1 => if b = true then u S G1 Q else Q false G1)) ∧
 (∀ (t u : DTT) (S : DS) (G : GH) (Q : Bool → GH → Prop), dOr t u S G Q = (t S G fun b G1 => if b = true then Q true G1 else u S G1 Q))) ∧
 ((∀ (t : DTT) (ta tb : DTE) (S : DS) (G : GH) (Q : DQ), dIf t ta tb S G Q = (t S G fun b G1 => if b = true then ta S G1 Q else tb S G1 Q)) ∧
 ((∀ (ta tb : DTE) (S : DS) (G : GH) (Q : DQ), dAndV ta tb S G Q = (ta S G fun d G1 => match d with | .bl b => if b = true then tb S G1 Q else Q (.bl false) G1 | _ => False)) ∧
 (∀ (ta tb : DTE) (S : DS) (G : GH) (Q : DQ), dOrV ta tb S G Q = (ta S G fun d G1 => match d with | .bl b => if b = true then Q (.bl true) G1 else tb S G1 Q | _ => False))))) ∧
 (((∀ (ta : DTE) (S : DS) (G : GH) (Q : DQ), dNotV ta S G Q = (ta S G fun d G1 => match d with | .bl b => Q (.bl (!b)) G1 | _ => False)) ∧
 ((∀ (i : Nat) (d : D) (S : DS) (G : GH) (Q : DS → GH → Prop), dgName i d S G Q = Q (S.set i (some d)) G) ∧
 (∀ (n : Nat) (u : DTGs) (ds : List D) (S : DS) (G : GH) (Q : DS → GH → Prop), dgTup n u (.tup ds) S G Q = (ds.length = n ∧ u ds S G Q)))) ∧
 ((∀ (S : DS) (G : GH) (Q : DS → GH → Prop), dgNil [] S G Q = Q S G) ∧
 ((∀ (t : DTG) (u : DTGs) (d : D) (ds : List D) (S : DS) (G : GH) (Q : DS → GH → Prop), dgCons t u (d :: ds) S G Q = (t d S G fun S1 G1 => u ds S1 G1 Q)) ∧
 (∀ (D' : DEnds) (S : DS) (G : GH), dNext D' S G = D'.nx S G)))))) ∧
 (((((∀ (t u : DTS) (D' : DEnds) (S : DS) (G : GH), dSeq t u D' S G = t { D' with nx := u D' } S G) ∧
 (∀ (te : DTE) (g : DTG) (D' : DEnds) (S : DS) (G : GH), dAsg te g D' S G = (te S G fun d G1 => g d S G1 D'.nx))) ∧
 ((∀ (te : DTE) (D' : DEnds) (S : DS) (G : GH), dDrop te D' S G = (te S G fun _ G1 => D'.nx S G1)) ∧
 ((∀ (te : DTE) (D' : DEnds) (S : DS) (G : GH), dRet te D' S G = te S G D'.rt) ∧
 (∀ (D' : DEnds) (S : DS) (G : GH), dRetN D' S G = D'.rt .non G)))) ∧
 (((∀ (c : DTT) (t u : DTS) (D' : DEnds) (S : DS) (G : GH), dIfS c t u D' S G = (c S G fun b G1 => if b = true then t D' S G1 else u D' S G1)) ∧
 ((∀ (D' : DEnds) (S : DS) (G : GH), dNever D' S G = False) ∧
 (∀ (D' : DEnds) (S : DS) (G : GH), dBreak D' S G = D'.bk S G))) ∧
 ((∀ (D' : DEnds) (S : DS) (G : GH), dCont D' S G = D'.ct S G) ∧
 ((∀ (sp : SpD) (ta : DTA) (S : DS) (G : GH) (Q : DQ), dCall sp ta S G Q = (ta S G fun ds G1 => sp ds G1 Q)) ∧
 (∀ (r : List D → GH → DQ → Prop) (ta : DTA) (S : DS) (G : GH) (Q : DQ), dCB r ta S G Q = (ta S G fun ds G1 => r ds G1 Q)))))) ∧
 ((((∀ (T : String) (r : D → List D → GH → DQ → Prop) (to : DTE) (ta : DTA) (S : DS) (G : GH) (Q : DQ), dBM T r to ta S G Q = (to S G fun x G1 => D.hasTy T (x.cur G1) = true ∧ ta S G1 fun ds G2 => r x ds G2 Q)) ∧
 ((∀ (T : String) (r : D → List D → GH → DQ → Prop) (to : DTE) (S : DS) (G : GH) (Q : DQ), dBM0 T r to S G Q = (to S G fun x G1 => D.hasTy T (x.cur G1) = true ∧ r x [] G1 Q)) ∧
 (∀ (S : DS) (G : GH) (Q : Option Int → GH → Prop), dNoPart S G Q = Q none G))) ∧
 ((∀ (ta : DTE) (S : DS) (G : GH) (Q : Option Int → GH → Prop), dPart ta S G Q = (ta S G fun d G1 => match d with | .int i => Q (some i) G1 | _ => False)) ∧
 ((∀ (ta : DTE) (tl th : DTO) (S : DS) (G : GH) (Q : DQ), dSlice ta tl th S G Q = (ta S G fun x G1 => tl S G1 fun lo G2 => th S G2 fun hi G3 => rSlice x lo hi G3 Q)) ∧
 (∀ (S : DS) (G : GH) (Q : DQ), dNewK S G Q = (∀ p, G p = none → Q (.rf p) (gput G p (.dK []))))))) ∧
 (((∀ (S : DS) (G : GH) (Q : DQ), dNewT S G Q = (∀ p, G p = none → Q (.rf p) (gput G p (.dT [])))) ∧
 ((∀ (S : DS) (G : GH) (Q : Bool → GH → Prop), dYes S G Q = Q true G) ∧
 (∀ (S : DS) (G : GH) (Q : List (D × D) → GH → Prop), dpNil S G Q = Q [] G))) ∧
 ((∀ (tk tv : DTE) (tr : DTP) (S : DS) (G : GH) (Q : List (D × D) → GH → Prop), dpCons tk tv tr S G Q = (tk S G fun k G1 => tv S G1 fun v G2 => tr S G2 fun qs G3 => Q ((k, v) :: qs) G3)) ∧
 ((∀ (ta : DTE) (S : DS) (G : GH) (Q : DQ), dCold ta S G Q = (ta S G fun d G1 => match d with
  | .rf a => (match G1 a with
    | some o => (match o.cold with
      | some d => Q d (gdel G1 a)
      | none => False)
    | none => False)
  | d => Q d G1)) ∧
 (∀ (C : Addr) (f : Str) (ta : DTE) (S : DS) (G : GH) (Q : DQ), dFld C f ta S G Q = (ta S G fun d G1 => match d.cur G1 with
  | .obj C' fs => C' = C ∧ (match fs.lookup f with
    | some v => Q v G1
    | none => False)
  | _ => False)))))))) ∧
 ((((((∀ (C : Addr) (f : Str) (ta tv : DTE) (D' : DEnds) (S : DS) (G : GH), dSetFld C f ta tv D' S G = (tv S G fun y G1 => ta S G1 fun x G2 => match x with
  | .rf a => (match G2 a with
    | some (.ins C' fs) => C' = C ∧ fs.length < 1000 ∧ D'.nx S (gput G2 a (.ins C (putFD f y fs)))
    | _ => False)
  | _ => False)) ∧
 (∀ (to ti : DTE) (v : D) (S : DS) (G : GH) (Q : DS → GH → Prop), dSetSub to ti v S G Q = (to S G fun x G1 => ti S G1 fun i G2 => match x with
  | .rf a => (match G2 a with
    | some (.lst xs) => (match i with
      | .int j => (match ixN xs.length j with
        | some n => Q S (gput G2 a (.lst (xs.set n v)))
        | none => False)
      | _ => False)
    | some (.dK kds) => (match i.key with
      | some k => kds.length < sizeLine ∧ Q S (gput G2 a (.dK (putD kds k v)))
      | none => False)
    | some (.dT kds) => (match i with
      | .tup ds => (match D.keys ds with
        | some k => kds.length < sizeLine ∧ Q S (gput G2 a (.dT (putD kds k v)))
        | none => False)
      | _ => False)
    | _ => False)
  | _ => False))) ∧
 ((∀ (C : Addr) (m : Str) (sp : SpD) (ta : DTE) (tr : DTA) (S : DS) (G : GH) (Q : DQ), dMeth C m sp ta tr S G Q = (ta S G fun d G1 => match d.cur G1 with
  | .obj C' fs => C' = C ∧ fs.lookup m = none ∧ tr S G1 fun ds G2 => sp (d :: ds) G2 Q
  | _ => False)) ∧
 ((∀ (C : Addr) (sp : SpD) (tr : DTA) (S : DS) (G : GH) (Q : DQ), dMake C sp tr S G Q = (tr S G fun ds G1 => ∀ y, G1 y = none → sp (.rf y :: ds) (gput G1 y (.ins C [])) fun d G2 => match d with
  | .non => Q (.rf y) G2
  | _ => False)) ∧
 (∀ (te : DTE) (S : DS) (G : GH) (R : List D → (GH → Prop) → GH → Prop), diTup te S G R = (te S G fun d G1 => match d with
  | .tup ds => R ds dNoGuard G1
  | _ => False))))) ∧
 (((∀ (te : DTE) (S : DS) (G : GH) (R : List D → (GH → Prop) → GH → Prop), diList te S G R = (te S G fun d G1 => match d with
  | .lst ds => R ds dNoGuard G1
  | .rf a => (match G1 a with
    | some (.lst ds) => R ds (fun G => G a = some (.lst ds)) G1
    | _ => False)
  | _ => False)) ∧
 ((∀ (te : DTE) (S : DS) (G : GH) (R : List D → (GH → Prop) → GH → Prop), diStr te S G R = (te S G fun d G1 => match d with
  | .str x => R (signs x) dNoGuard G1
  | _ => False)) ∧
 (∀ (ta : DTA) (S : DS) (G : GH) (R : List D → (GH → Prop) → GH → Prop), diRange1 ta S G R = (ta S G fun ds G1 => match ds with
  | [.int n] => -(2 ^ 62) ≤ n ∧ n < 2 ^ 62 ∧ R ((List.range n.toNat).map fun i => .int (i : Nat)) dNoGuard G1
  | _ => False)))) ∧
 ((∀ (ta : DTA) (S : DS) (G : GH) (R : List D → (GH → Prop) → GH → Prop), diRange2 ta S G R = (ta S G fun ds G1 => match ds with
  | [.int m, .int n] => (-(2 ^ 62) ≤ m ∧ m < 2 ^ 62 ∧ -(2 ^ 62) ≤ n ∧ n < 2 ^ 62) ∧ R ((List.range (n - m).toNat).map fun i => .int (m + (i : Nat))) dNoGuard G1
  | _ => False)) ∧
 ((∀ (wi : DTI) (p : Pat) (tt : DTT) (te : DTE) (vs : List Nat) (S : DS) (G : GH) (Q : DQ), dLcM wi p tt te vs S G Q = (dLc wi p tt te vs S G fun d G' => match d with
  | .lst acc => ∀ a, G' a = none → Q (.rf a) (gput G' a (.lst acc))
  | _ => False)) ∧
 (∀ (td ty : DTE) (S : DS) (G : GH) (Q : DQ), dGet1 td ty S G Q = (td S G fun x G1 => D.hasTy "dict" (x.cur G1) = true ∧ ty S G1 fun y G2 => match (x.cur G2).look y with
  | some o => Q (o.getD .non) G2
  | none => False)))))) ∧
 ((((∀ (td ty tx : DTE) (S : DS) (G : GH) (Q : DQ), dGet2 td ty tx S G Q = (td S G fun x G1 => D.hasTy "dict" (x.cur G1) = true ∧ ty S G1 fun y G2 => tx S G2 fun z G3 => match (x.cur G3).look y with
  | some o => Q (o.getD z) G3
  | none => False)) ∧
 (∀ (ta : DTA) (S : DS) (G : GH) (R : List D → (GH → Prop) → GH → Prop), diEnumT ta S G R = (ta S G fun ds G1 => match ds with
  | [.tup xs] => R (xs.mapIdx fun i x => .tup [.int (i : Nat), x]) dNoGuard G1
  | _ => False))) ∧
 ((∀ (ta : DTA) (S : DS) (G : GH) (R : List D → (GH → Prop) → GH → Prop), diZipS ta S G R = (ta S G fun ds G1 => match ds with
  | [.str x, .str y] => R (List.zipWith (fun a b => .tup [.str (sgn a), .str (sgn b)]) x.cps.toList y.cps.toList) dNoGuard G1
  | _ => False)) ∧
 ((∀ (ta : DTA) (S : DS) (G : GH) (R : List D → (GH → Prop) → GH → Prop), diZipT ta S G R = (ta S G fun ds G1 => match ds with
  | [.tup xs, .tup ys] => R (List.zipWith (fun a b => .tup [a, b]) xs ys) dNoGuard G1
  | _ => False)) ∧
 (∀ (i j : Nat) (ta : DTA) (D' : DEnds) (S : DS) (G : GH), dPar i j ta D' S G = (ta S G fun ds G1 => match ds with
  | [x, y] => D'.nx ((S.set i (some x)).set j (some y)) G1
  | _ => False))))) ∧
 (((∀ (i j l : Nat) (ta : DTA) (D' : DEnds) (S : DS) (G : GH), dPar3 i j l ta D' S G = (ta S G fun ds G1 => match ds with
  | [x, y, z] => D'.nx (((S.set i (some x)).set j (some y)).set l (some z)) G1
  | _ => False)) ∧
 ((∀ (i : Nat) (te : DTE) (f : Int → Int → Int) (D' : DEnds) (S : DS) (G : GH), dAug i te f D' S G = (match S[i]? with
  | some (some (.int a)) => te S G fun d G1 => (match d with
    | .int b => D'.nx (S.set i (some (.int (f a b)))) G1
    | _ => False)
  | _ => False)) ∧
 (∀ (te : DTE) (S : DS) (G : GH) (Q : DQ), dRevL te S G Q = (te S G fun d G1 => match d.cur G1 with
  | .lst xs => Q (.lst xs.reverse) G1
  | _ => False)))) ∧
 ((∀ (te : DTE) (S : DS) (G : GH) (Q : DQ), dRevLM te S G Q = (te S G fun d G1 => match d.cur G1 with
  | .lst xs => ∀ p, G1 p = none → Q (.rf p) (gput G1 p (.lst xs.reverse))
  | _ => False)) ∧
 ((∀ (tp : DTP) (S : DS) (G : GH) (Q : DQ), dDisp tp S G Q = (tp S G fun qs G1 => match keyed qs with
  | some kds => kds.length ≤ 15 ∧ Q (.dK (mergeD [] kds)) G1
  | none => False)) ∧
 (∀ (tp : DTP) (S : DS) (G : GH) (Q : DQ), dDispM tp S G Q = (tp S G fun qs G1 => match keyed qs with
  | some kds => kds.length ≤ 15 ∧ ∀ p, G1 p = none → Q (.rf p) (gput G1 p (.dK (mergeD [] kds)))
  | none => False))))))) ∧
 (((((∀ (r r' : DR2) (ta tb tc : DTE) (S : DS) (G : GH) (Q : DQ), dChain r r' ta tb tc S G Q = (ta S G fun x G1 => tb S G1 fun y G2 => r x y G2 fun z G3 => match z with
  | .bl k => if k = true then tc S G3 fun w G4 => r' y w G4 Q else Q (.bl false) G3
  | _ => False)) ∧
 (∀ (wi : DTI) (g : DTG) (tb : DTS) (D' : DEnds) (S : DS) (G : GH), dFor wi g tb D' S G = (wi S G fun ds gd G1 => ForB ds gd g tb D' S G1))) ∧
 ((∀ (c : DTT) (tb : DTS) (D' : DEnds) (S : DS) (G : GH), dWhile c tb D' S G = WhB c tb D' S G) ∧
 ((∀ (wi : DTI) (p : Pat) (tt : DTT) (te : DTE) (vs : List Nat) (S : DS) (G : GH) (Q : DQ), dLc wi p tt te vs S G Q = (wi S G fun ds gd G1 => LcB ds gd p tt te vs S G1 Q)) ∧
 (∀ (G : GH) (a : Addr), D.cur G (.rf a) = (match G a with
    | some (.lst xs) => .lst xs
    | some (.dK kds) => .dK kds
    | some (.dT kds) => .dT kds
    | some (.ins C kds) => .obj C kds
    | _ => .rf a))))) ∧
 (((∀ (G : GH), D.cur G (.non ) = .non) ∧
 ((∀ (G : GH) (b : Bool), D.cur G (.bl b) = .bl b) ∧
 (∀ (G : GH) (i : Int), D.cur G (.int i) = .int i))) ∧
 ((∀ (G : GH) (x : Str), D.cur G (.str x) = .str x) ∧
 ((∀ (G : GH) (n : String), D.cur G (.ty n) = .ty n) ∧
 (∀ (G : GH) (xs : List D), D.cur G (.tup xs) = .tup xs))))) ∧
 ((((∀ (G : GH) (xs : List D), D.cur G (.lst xs) = .lst xs) ∧
 ((∀ (G : GH) (kvs : List (Key × D)), D.cur G (.dK kvs) = .dK kvs) ∧
 (∀ (G : GH) (kvs : List (List Key × D)), D.cur G (.dT kvs) = .dT kvs))) ∧
 ((∀ (G : GH) (C : Addr) (fs : List (Str × D)), D.cur G (.obj C fs) = .obj C fs) ∧
 ((∀ (G : GH) (ns : List Int), D.cur G (.scr ns) = .scr ns) ∧
 (∀ (T : String) (xs : List D), D.hasTy T (.lst xs) = (T == "list"))))) ∧
 (((∀ (T : String) (x : Str), D.hasTy T (.str x) = (T == "str")) ∧
 ((∀ (T : String) (kvs : List (Key × D)), D.hasTy T (.dK kvs) = (T == "dict")) ∧
 (∀ (T : String) (kvs : List (List Key × D)), D.hasTy T (.dT kvs) = (T == "dict")))) ∧
 ((∀ (x y : D) (G : GH) (Q : DQ), rItem x y G Q = (match D.item (x.cur G) y with | some d => Q d G | none => False)) ∧
 ((∀ (C : Int → Int → Prop) (f : Int → Int → Int) (i j : Int) (G : GH) (Q : DQ), rIntD C f (.int i) (.int j) G Q = (C i j ∧ Q (.int (f i j)) G)) ∧
 (∀ (i : Int) (G : GH) (Q : DQ), rNegD (.int i) G Q = Q (.int (-i)) G)))))))) :=
 ⟨⟨⟨⟨⟨⟨@x_var, @x_C⟩, ⟨@x_nil, ⟨@x_cons, @x_tup⟩⟩⟩, ⟨⟨@x_lst, ⟨@x_lstM, @x_op⟩⟩, ⟨@x_un, ⟨@x_test, @x_not⟩⟩⟩⟩, ⟨⟨⟨@x_and, @x_or⟩, ⟨@x_if, ⟨@x_andV, @x_orV⟩⟩⟩, ⟨⟨@x_notV, ⟨@x_gname, @x_gtup⟩⟩, ⟨@x_gnil, ⟨@x_gcons, @x_next⟩⟩⟩⟩⟩, ⟨⟨⟨⟨@x_seq, @x_asg⟩, ⟨@x_drop, ⟨@x_ret, @x_retN⟩⟩⟩, ⟨⟨@x_ifS, ⟨@x_never, @x_break⟩⟩, ⟨@x_cont, ⟨@x_call, @x_cb⟩⟩⟩⟩, ⟨⟨⟨@x_bm, ⟨@x_bm0, @x_nopart⟩⟩, ⟨@x_part, ⟨@x_slice, @x_newK⟩⟩⟩, ⟨⟨@x_newT, ⟨@x_yes, @x_pnil⟩⟩, ⟨@x_pcons, ⟨@x_dCold, @x_dFld⟩⟩⟩⟩⟩⟩, ⟨⟨⟨⟨⟨@x_dSetFld, @x_dSetSub⟩, ⟨@x_dMeth, ⟨@x_dMake, @x_diTup⟩⟩⟩, ⟨⟨@x_diList, ⟨@x_diStr, @x_diRange1⟩⟩, ⟨@x_diRange2, ⟨@x_dLcM, @x_dGet1⟩⟩⟩⟩, ⟨⟨⟨@x_dGet2, @x_diEnumT⟩, ⟨@x_diZipS, ⟨@x_diZipT, @x_dPar⟩⟩⟩, ⟨⟨@x_dPar3, ⟨@x_dAug, @x_dRevL⟩⟩, ⟨@x_dRevLM, ⟨@x_dDisp, @x_dDispM⟩⟩⟩⟩⟩, ⟨⟨⟨⟨@x_dChain, @x_for⟩, ⟨@x_while, ⟨@x_lc, @x_curK⟩⟩⟩, ⟨⟨@x_cur_non, ⟨@x_cur_bl, @x_cur_int⟩⟩, ⟨@x_cur_str, ⟨@x_cur_ty, @x_cur_tup⟩⟩⟩⟩, ⟨⟨⟨@x_cur_lst, ⟨@x_cur_dK, @x_cur_dT⟩⟩, ⟨@x_cur_obj, ⟨@x_cur_scr, @x_ty_lst⟩⟩⟩, ⟨⟨@x_ty_str, ⟨@x_ty_dK, @x_ty_dT⟩⟩, ⟨@x_item, ⟨@x_int, @x_neg⟩⟩⟩⟩⟩⟩⟩
theorem gs {α : Type} (a : α) (l : List α) : (a :: l)[0]? = some a := rfl
theorem dl : (∀ (G : GH) (a : Addr) (o : MO), gput G a o a = some o) ∧ (∀ (α : Type) (a : α) (l : List α), (a :: l)[0]? = some a) ∧ (∀ (α : Type) (a : α) (l : List α) (i : Nat), (a :: l)[i + 1]? = l[i]?) ∧
  (∀ (α : Type) (a b : α) (l : List α), (a :: l).set 0 b = b :: l) ∧ (∀ (α : Type) (a b : α) (l : List α) (i : Nat), (a :: l).set (i + 1) b = a :: l.set i b) ∧ (∀ (α : Type) (a : α) (l : List α), (a :: l).length = l.length + 1) ∧ (∀ (α : Type), ([] : List α).length = 0) :=
  ⟨fun _ _ _ => gput_same, fun _ _ _ => rfl, fun _ _ _ _ => rfl, fun _ _ _ _ => rfl, fun _ _ _ _ _ => rfl, fun _ _ _ => rfl, fun _ => rfl⟩
end DL
end
section
set_option Elab.async false
set_option linter.all false
set_option maxRecDepth 100000
namespace DL
open PySem PySem.Spec PyProof.Rows L2
theorem okE_str (a b : Str) : okE (.str a) (.str b) = true := rfl
theorem eqv_str (a b : Str) : D.eqv (.str a) (.str b) = (a == b) := by simp [D.eqv, D.py, PyData.eqv]
theorem okE_int (a b : Int) : okE (.int a) (.int b) = true := rfl
theorem eqv_int (a b : Int) : D.eqv (.int a) (.int b) = (a == b) := by simp [D.eqv, D.py, PyData.eqv]
theorem okL_int (a b : Int) : okL (.int a) (.int b) = true := rfl
theorem okL_str (a b : Str) : okL (.str a) (.str b) = true := rfl
theorem lt_int (a b : Int) : D.lt (.int a) (.int b) = decide (a < b) := PySem.W.dataLt_int a b
theorem lt_str (a b : Str) : D.lt (.str a) (.str b) = decide (a.cps.toList < b.cps.toList) := PySem.W.dataLt_str a b
mutual
def D.si : D → Bool
  | .non | .int _ | .str _ => true
  | .tup xs | .lst xs => D.sis xs
  | _ => false
def D.sis : List D → Bool
  | [] => true
  | x :: xs => D.si x && D.sis xs
end
mutual
theorem D.si_pl : ∀ d : D, d.si = true → d.pl = true
  | .non, _ => rfl
  | .int _, _ => rfl
  | .str _, _ => rfl
  | .tup xs, h => D.sis_pls xs h
  | .lst xs, h => D.sis_pls xs h
  | .bl _, h => by cases h
  | .ty _, h => by cases h
  | .dK _, h => by cases h
  | .dT _, h => by cases h
  | .obj _ _, h => by cases h
  | .rf _, h => by cases h
  | .scr _, h => by cases h
theorem D.sis_pls : ∀ xs : List D, D.sis xs = true → D.pls xs = true
  | [], _ => rfl
  | x :: xs, h => by
    simp only [D.sis, Bool.and_eq_true] at h
    simp only [D.pls, Bool.and_eq_true]
    exact ⟨D.si_pl x h.1, D.sis_pls xs h.2⟩
end
mutual
theorem D.si_eqv : ∀ x y : D, x.si = true → y.si = true → (D.eqv x y = true ↔ x = y)
  | .non, y, _, h => by cases y <;> first | (cases h; done) | simp [D.eqv, D.py, PyData.eqv]
  | .int _, y, _, h => by cases y <;> first | (cases h; done) | simp [D.eqv, D.py, PyData.eqv]
  | .str _, y, _, h => by cases y <;> first | (cases h; done) | simp [D.eqv, D.py, PyData.eqv]
  | .tup xs, .tup ys, hx, hy => by
    have := D.sis_eqv xs ys hx hy
    simp only [D.eqv, D.py, PyData.eqv, D.tup.injEq]
    exact this
  | .lst xs, .lst ys, hx, hy => by
    have := D.sis_eqv xs ys hx hy
    simp only [D.eqv, D.py, PyData.eqv, D.lst.injEq]
    exact this
  | .tup xs, .non, _, _ => by simp [D.eqv, D.py, PyData.eqv]
  | .tup xs, .int _, _, _ => by simp [D.eqv, D.py, PyData.eqv]
  | .tup xs, .str _, _, _ => by simp [D.eqv, D.py, PyData.eqv]
  | .tup xs, .lst _, _, _ => by simp [D.eqv, D.py, PyData.eqv]
  | .lst xs, .non, _, _ => by simp [D.eqv, D.py, PyData.eqv]
  | .lst xs, .int _, _, _ => by simp [D.eqv, D.py, PyData.eqv]
  | .lst xs, .str _, _, _ => by simp [D.eqv, D.py, PyData.eqv]
  | .lst xs, .tup _, _, _ => by simp [D.eqv, D.py, PyData.eqv]
  | .tup _, .bl _, _, h => by cases h
  | .tup _, .ty _, _, h => by cases h
  | .tup _, .dK _, _, h => by cases h
  | .tup _, .dT _, _, h => by cases h
  | .tup _, .obj _ _, _, h => by cases h
  | .tup _, .rf _, _, h => by cases h
  | .tup _, .scr _, _, h => by cases h
  | .lst _, .bl _, _, h => by cases h
  | .lst _, .ty _, _, h => by cases h
  | .lst _, .dK _, _, h => by cases h
  | .lst _, .dT _, _, h => by cases h
  | .lst _, .obj _ _, _, h => by cases h
  | .lst _, .rf _, _, h => by cases h
  | .lst _, .scr _, _, h => by cases h
  | .bl _, _, h, _ => by cases h
  | .ty _, _, h, _ => by cases h
  | .dK _, _, h, _ => by cases h
  | .dT _, _, h, _ => by cases h
  | .obj _ _, _, h, _ => by cases h
  | .rf _, _, h, _ => by cases h
  | .scr _, _, h, _ => by cases h
theorem D.sis_eqv : ∀ xs ys : List D, D.sis xs = true → D.sis ys = true → (PyData.eqvAll (D.pys xs) (D.pys ys) = true ↔ xs = ys)
  | [], [], _, _ => by simp [D.pys, PyData.eqvAll]
  | [], _ :: _, _, _ => by simp [D.pys, PyData.eqvAll]
  | _ :: _, [], _, _ => by simp [D.pys, PyData.eqvAll]
  | x :: xs, y :: ys, hx, hy => by
    simp only [D.sis, Bool.and_eq_true] at hx hy
    have h1 := D.si_eqv x y hx.1 hy.1
    have h2 := D.sis_eqv xs ys hx.2 hy.2
    simp only [D.eqv] at h1
    simp only [D.pys, PyData.eqvAll, Bool.and_eq_true, h1, h2, List.cons.injEq]
end
mutual
def D.dp : D → Nat
  | .tup xs | .lst xs => D.dps xs + 1
  | _ => 0
def D.dps : List D → Nat
  | [] => 0
  | x :: xs => max (D.dp x) (D.dps xs)
end
mutual
theorem D.dp_ok : ∀ d : D, d.py.depth ≤ d.dp
  | .non => by simp [D.py, PyData.depth]
  | .bl _ => by simp [D.py, PyData.depth]
  | .int _ => by simp [D.py, PyData.depth]
  | .str _ => by simp [D.py, PyData.depth]
  | .tup xs => by have := D.dps_ok xs; simp only [D.py, PyData.depth, D.dp]; omega
  | .lst xs => by have := D.dps_ok xs; simp only [D.py, PyData.depth, D.dp]; omega
  | .ty _ => by simp [D.py, PyData.depth]
  | .dK _ => by simp [D.py, PyData.depth]
  | .dT _ => by simp [D.py, PyData.depth]
  | .obj _ _ => by simp [D.py, PyData.depth]
  | .rf _ => by simp [D.py, PyData.depth]
  | .scr _ => by simp [D.py, PyData.depth]
theorem D.dps_ok : ∀ xs : List D, PyData.depthAll (D.pys xs) ≤ D.dps xs
  | [] => by simp [D.pys, PyData.depthAll]
  | x :: xs => by have := D.dp_ok x; have := D.dps_ok xs; simp only [D.pys, PyData.depthAll, D.dps]; omega
end
theorem dps_le {xs : List D} {n : Nat} (h : ∀ x ∈ xs, x.dp ≤ n) : D.dps xs ≤ n := by
  induction xs with
  | nil => simp [D.dps]
  | cons x xs ih =>
    have h1 := h x (by simp)
    have h2 := ih fun y hy => h y (by simp [hy])
    simp only [D.dps]; omega
theorem sis_all {xs : List D} : D.sis xs = true ↔ ∀ x ∈ xs, x.si = true := by
  induction xs with
  | nil => simp [D.sis]
  | cons x xs ih => simp [D.sis, ih]
theorem okE_si {x y : D} (hx : x.si = true) (hy : y.si = true) (hd : x.dp ≤ 60) : okE x y = true := by
  have := D.dp_ok x
  simp only [okE, Bool.and_eq_true, decide_eq_true_eq]
  exact ⟨⟨D.si_pl x hx, D.si_pl y hy⟩, by omega⟩
theorem eqv_si {x y : D} (hx : x.si = true) (hy : y.si = true) : D.eqv x y = true ↔ x = y := D.si_eqv x y hx hy
end DL
end
section
set_option Elab.async false
set_option linter.all false
set_option maxRecDepth 100000
set_option maxHeartbeats 4000000
namespace DL
open PySem PySem.Spec PyProof.Rows L2
abbrev eSet (w : World) : Obj := { cls := .type "set", dict := none, data := .set #[] 0 (.fresh 0 0 (!w.params.followText "set-order")) }
section
variable {P : Program} {w : World} {A : Around} {E : Value → Shared → Prop} {s : Shared}
theorem call_set_lstI {l : Addr} {its : Array Value} (ns : List Int) {Q : Value → Shared → Prop} (zh : A.handled = none) (zl : s.heap.IsList l its) (zit : IntsAre its.toList ns) (zb : ns.length + 1 < scanBound)
    (h : ∀ (h' : Heap) (tk1 c : Nat), SetR w h' s.heap.objs.size (fun j => decide (j ∈ ns)) c → c ≤ ns.length → (∀ b o, s.heap.get? b = some o → h'.get? b = some o) → Q (.ref s.heap.objs.size) { s with heap := h', toks := tk1 }) : wpAny (model P w) A (call (.type "set") [.ref l]) Q E s := by
  have zsz : its.size = ns.length := by
    have q := IntsAre.length zit
    rw [Array.length_toList] at q
    exact q
  obtain ⟨c, tl, zmro⟩ := F.called_set.mro
  have zmade := F.called_set.made
  have zsub := F.called_set.sub
  (refine wpAny_call (codeAny_of_tree ?_))
  (show wpAny _ _ (callAny (.type "set") _) _ _ _)
  (refine wpAny_pure ⟨Code.quiet_builtin _ (by decide +kernel), codeAny_builtin F.entry_type_call ?_⟩)
  (rw [Around.under_plain (weight_type_call_type "set" [.ref l] []) rfl])
  have z1 := F.called_set.notType
  have z2 := F.called_set.canCreate
  have zct := F.typeCall_set_1 (.ref l)
  (repeat (any_goals (first | assumption | wp_step)))
  refine codeAny_mono (code_set_led1 (.ref l) (E := E) (Q₁ := fun ob s1 => ob = .ref s.heap.objs.size ∧ s1 = { s with heap := s.heap.push (eSet w) }) ⟨rfl, rfl⟩) fun r s1 zr => ?_
  cases r with
  | error e => exact zr
  | ok fl1 =>
    cases fl1 with
    | ret ob =>
      obtain ⟨rfl, rfl⟩ := zr
      have zS : (s.heap.push (eSet w)).get? s.heap.objs.size = some (eSet w) := Heap.get?_push_size _ rfl
      have zT : Shared.TypeIs { s with heap := s.heap.push (eSet w) } (.ref s.heap.objs.size) "set" := ⟨_, zS, rfl⟩
      have zli := F.called_set.init.lookup
      have zbi := F.called_set.init.bind (.ref s.heap.objs.size)
      (repeat (any_goals (first | assumption | wp_step)))
      refine codeAny_mono (codeAny_call_builtin (R := wants (fun r s2 => r = .none ∧ ∃ h' tk1 c, s2 = { s with heap := h', toks := tk1 } ∧ SetR w h' s.heap.objs.size (fun j => decide (j ∈ ns)) c ∧ c ≤ ns.length ∧
          (∀ b o, s.heap.get? b = some o → h'.get? b = some o)) E) F.called_set.init.plain F.entry_set_init (check_set_init_1 zT ?_)) fun r2 s2 zr2 => ?_
      · obtain ⟨zo, zol, zcl, zn, zdl⟩ := zl
        obtain ⟨zc1, zc2, zc3, zc4⟩ := zo
        simp only at zcl zdl
        subst zcl; subst zdl
        have zol' : (s.heap.push (eSet w)).get? l = some { cls := .type "list", dict := zc2, data := .seq its zn, slots := zc4 } := Heap.get?_push_of_some _ zol
        have zs1 := F.sub_list_set
        have zs2 := F.sub_list_frozenset
        have zne : (Value.type "list" == Value.type "dict") = false := by decide
        have zl1 : (s.heap.push (eSet w)).IsList l its := ⟨_, zol', rfl, zn, rfl⟩
        (unfold Builtin.«set.__init__» noKeywords Builtin.Frozenset.updateFrom)
        generalize zPI : pyIter = ZI
        wp_walk
        subst zPI
        refine wpAny_pyIter_list zl1 ?_
        (refine wpAny_bind (wpAny_runValue ?_))
        have zlS : l < s.heap.objs.size := Heap.lt_size zol
        have zh3 : A.in1.in1.in1.handled = none := by simp [zh]
        have zz1 : (s.heap.push (eSet w)).objs.size = s.heap.objs.size + 1 := Heap.size_push ..
        have zneI : l ≠ (s.heap.push (eSet w)).objs.size := by
          rw [Heap.size_push]; exact Nat.ne_of_lt (Nat.lt_succ_of_lt zlS)
        have zSf : s.heap.objs.size ∉ [(s.heap.push (eSet w)).objs.size, l] := by
          (rw [Heap.size_push]; simp only [List.mem_cons, List.mem_singleton, List.not_mem_nil, or_false, not_or])
          exact ⟨Nat.ne_of_lt (Nat.lt_succ_self _), Nat.ne_of_gt zlS⟩
        have zval : ∀ (i : Nat) (v : Value), its[i]? = some v → ∃ k t, ns[i]? = some k ∧ v = .int k t := fun i v zv => by
          have zi : i < ns.length := by rw [← zsz]; exact (Array.getElem?_eq_some_iff.mp zv).1
          obtain ⟨t, e⟩ := PyProof.Rows.IntsAre.int_at zit i v (by rw [Array.getElem?_toList]; exact zv)
          refine ⟨ns[i], t, List.getElem?_eq_getElem zi, ?_⟩
          rw [e, List.getD_eq_getElem?_getD, List.getElem?_eq_getElem zi] <;> rfl
        refine set_update_ints ((Walks.list zh3 _ l zneI its).toS) s.heap.objs.size
          zSf ns zsz zb zval (its.size - 0) 0 _ (by omega) (Nat.zero_le _)
          ⟨⟨_, Heap.get?_push_size _ rfl, rfl, rfl⟩, (zl1.push _)⟩ ?hS0 ?hR
        case hS0 =>
          have zget : ((s.heap.push (eSet w)).push { cls := .type "list_iterator", data := .fields #[.ref l, .int 0 0] }).get? s.heap.objs.size
              = some (eSet w) := Heap.get?_push_of_some _ zS
          exact ⟨0, Nat.le_refl 0, setR_new_at zget⟩
        case hR =>
          intro s' c' zm zc' zS'
          obtain ⟨h', q2, q3, q4, q5⟩ := s'
          have y1 : q2 = s.gens := zm.gens
          have y2 : q3 = s.drawn := zm.drawn
          have y3 : q5 = s.os := zm.os
          subst y1; subst y2; subst y3
          show wpAny _ _ _ _ _ _
          refine wpAny_pure ?_
          (show wpAny _ _ (ret Value.none) _ _ _)
          rw [zsz] at zc'
          refine wpAny_pure ⟨rfl, h', q4, c', rfl, zS', zc', fun b o e => ?_⟩
          have y4 : b < s.heap.objs.size := Heap.lt_size e
          have y5 : b ≠ s.heap.objs.size := Nat.ne_of_lt y4
          have y6 : b ≠ (s.heap.push (eSet w)).objs.size := by
            rw [Heap.size_push]; exact Nat.ne_of_lt (Nat.lt_succ_of_lt y4)
          exact zm.heap b o (by simp only [List.mem_cons, List.mem_singleton, List.not_mem_nil, or_false, not_or]; exact ⟨y5, y6⟩) (Heap.get?_push_of_some _ (Heap.get?_push_of_some _ e))
      · cases r2 with
        | error e => exact zr2
        | ok fl2 =>
          cases fl2 with
          | ret r =>
            obtain ⟨rfl, h', tk1, c', rfl, zS', zc', zk'⟩ := zr2
            (repeat (any_goals (first | assumption | wp_step)))
            exact h _ _ _ zS' zc' zk'
          | _ => exact zr2.elim
    | _ => exact zr.elim
end
/-- set(l), l a list of ints -/
def rSetL (w : World) (K : PySem.W.Frag) : List V → Hp → VK → Prop := fun vs H Q => ∃ (a : Addr) (ns : List Int), vs = [.ref a] ∧ SqL K H a (ns.map V.int) ∧ ns.length ≤ 1000 ∧
  ∀ p c, H p = none → c ≤ ns.length → Q (.ref p) (upd H p (SetO w p (fun j => decide (j ∈ ns)) c))
section
variable {X : Cx} {pos : Pos}
theorem cr_setL (hc : X.calm = true) : CallR X (.type "set") (rSetL X.w X.K) := by
  intro pins s σ H vs us Q I r h
  obtain ⟨a, ns, rfl, ha, hl, q⟩ := h
  rw [Vals.ref1 r]
  obtain ⟨its, rv, pl, hz⟩ := I.list ha
  refine call_set_lstI ns (I.ok.hd hc) pl.isList (by simpa using ints_of_vals rv) (by unfold scanBound; omega) fun h' tk c R hcn k => ?_
  exact ⟨.ref _, _, I.laid (t' := tk) k (Nat.le_refl _) (setO_new R), rfl, q _ c (I.hok.fresh (Nat.le_refl _)) hcn⟩
end
end DL
end
section
set_option Elab.async false
set_option linter.all false
set_option maxRecDepth 100000
set_option maxHeartbeats 4000000
namespace DL
open PySem PySem.Spec PyProof.Rows L2
section
variable {α : Type} [DecidableEq α]
/-- each at its first time -/
def addF (ks : List α) (t : α) : List α := if t ∈ ks then ks else ks ++ [t]
def firstsF (ts : List α) : List α := ts.foldl addF []
theorem addF_nodup {ks : List α} {t : α} (h : ks.Nodup) : (addF ks t).Nodup := by
  unfold addF
  split
  · exact h
  · rename_i ht
    rw [List.nodup_append]
    refine ⟨h, by simp, fun a ha b hb => ?_⟩
    simp at hb
    subst hb
    exact fun e => ht (e ▸ ha)
theorem addF_mem {ks : List α} {t k : α} : k ∈ addF ks t ↔ k ∈ ks ∨ k = t := by
  unfold addF
  split
  · rename_i h
    exact ⟨.inl, fun q => q.elim id fun e => e ▸ h⟩
  · simp
theorem foldl_addF_nodup : ∀ (ts ks : List α), ks.Nodup → (ts.foldl addF ks).Nodup
  | [], _, h => h
  | t :: ts, _, h => foldl_addF_nodup ts _ (addF_nodup h)
theorem foldl_addF_mem {k : α} : ∀ (ts ks : List α), k ∈ ts.foldl addF ks ↔ k ∈ ks ∨ k ∈ ts
  | [], ks => by simp
  | t :: ts, ks => by
    rw [List.foldl_cons, foldl_addF_mem ts, addF_mem, List.mem_cons, or_assoc]
theorem firstsF_nodup (ts : List α) : (firstsF ts).Nodup := foldl_addF_nodup ts [] List.nodup_nil
theorem firstsF_mem {ts : List α} {k : α} : k ∈ firstsF ts ↔ k ∈ ts := by
  unfold firstsF
  rw [foldl_addF_mem]
  simp
end
section
variable {X : Cx} {pos : Pos}
def intsD : List D → Option (List Int)
  | [] => some []
  | .int n :: r => (intsD r).map (n :: ·)
  | _ :: _ => none
theorem intsD_rep {K : PySem.W.Frag} {F : Hp} : ∀ {ds : List D} {ns : List Int} {vs : List V}, intsD ds = some ns → Reps K F vs ds → vs = ns.map V.int
  | [], ns, _, h, .nil => by cases h; rfl
  | .int n :: r, ns, _, h, .cons a b => by
    unfold intsD at h
    cases e : intsD r with
    | none => rw [e] at h; cases h
    | some m =>
      rw [e] at h
      cases h
      rw [intsD_rep e b]
      cases a
      rfl
theorem intsD_map (ns : List Int) : intsD (ns.map D.int) = some ns := by
  induction ns with
  | nil => rfl
  | cons n ns ih => simp [intsD, ih]
/-- each once, in order -/
def isort1 (ns : List Int) : List Int := (firstsF ns).mergeSort (· ≤ ·)
theorem isort1_uniq {ns ms : List Int} (s : ms.Pairwise (· < ·)) (h : ∀ k, k ∈ ms ↔ k ∈ ns) : ms = isort1 ns := by
  have nd : ms.Nodup := s.imp fun h => by omega
  have pm : ms.Perm (firstsF ns) := (List.perm_ext_iff_of_nodup nd (firstsF_nodup ns)).mpr fun k => by rw [h k, firstsF_mem]
  exact isort_uniq pm (s.imp fun h => by omega)
def dSortSet (te : DTE) : DTE := fun S G Q => te S G fun d G1 => match d.cur G1 with
  | .lst xs => (match intsD xs with
    | some ns => ns.length < 64 ∧ Q (.lst ((isort1 ns).map .int)) G1
    | none => False)
  | _ => False
theorem de_sortSet {e : Expr} {te : DTE} {p q p2 : Pos} (hc : X.calm = true) (hg : Gl X "sorted") (hm : X.mg "sorted" = none) (hg2 : Gl X "set") (hm2 : X.mg "set" = none) (ha : DE X e te)
    (na : starEach [e] X.env = (false, eval e X.env) :: starEach [] X.env := by rfl)
    (nb : starEach [.Call (.Name "set" p2) [e] [] q] X.env = (false, eval (.Call (.Name "set" p2) [e] [] q) X.env) :: starEach [] X.env := by rfl) : DE X (.Call (.Name "sorted" p) [.Call (.Name "set" p2) [e] [] q] [] pos) (dSortSet te) := by
  obtain ⟨t, p1, r1⟩ := ha.ex
  have ps := pe_callTy (pos := q) (p := p2) (cr_setL hc) hg2 hm2 PyProof.Rows.boot_set (pa_cons p1 pa_nil na) (by decide) (by decide) na (by rfl)
  have pp := pe_callB (pos := pos) (p := p) (cr_sortedSet hc) hg hm PyProof.Rows.boot_sorted (pa_cons ps pa_nil nb) (by decide) (by decide) nb (by rfl)
  refine ⟨_, pp, fun F H σ S G o Q' h Q k => ?_⟩
  refine r1 F H σ S G o _ h _ fun F1 H1 v d G1 e1 g1 q1 h1 => ?_
  dsimp only at h1
  split at h1
  · rename_i xs ex
    split at h1
    · rename_i ns en
      obtain ⟨a, vs, rfl, ha, rs⟩ := cur_list g1 q1 ex
      rw [intsD_rep en rs] at ha
      refine ⟨a, ns, rfl, .inl (.inl ha), by omega, fun z c hz hcn => ?_⟩
      refine ⟨z, _, c, rfl, upd_same, by omega, fun ms z2 hs hk hl hz2 => ?_⟩
      have em : ms = isort1 ns := isort1_uniq hs fun j => by rw [hk j]; simp
      subst em
      have gr1 : Gr F1 H1 F1 (upd H1 z (SetO X.w z (fun j => decide (j ∈ ns)) c)) := ⟨Ex.refl _, g1.ex.trans (Ex.new hz), Ex.new hz, fun _ _ _ w => w⟩
      have g2 := g1.grow gr1
      have gr2 := Gr.new (u := .lst ((isort1 ns).map V.int)) g2.ex hz2
      exact k _ _ _ _ G1 (e1.trans (gr1.go.trans gr2.go)) (g2.grow gr2) (.lst upd_same (Reps.ints _)) h1.2
    · exact h1.elim
  · exact h1.elim
end
end DL
end
section
set_option Elab.async false
set_option linter.all false
set_option maxRecDepth 100000
set_option maxHeartbeats 4000000
namespace DL
open PySem PySem.Spec PyProof.Rows L2
def tkey (e : Int × Value) : Str := match e.2 with | .str k _ => k | _ => ""
def TGood (w : World) (e : Int × Value) : Prop := ∃ k tk, e.2 = Value.str k tk ∧ e.1 = hashStr w k
/-- the set of texts at a: ks its members in some order; the table rises and can be walked -/
def SetS (w : World) (h : Heap) (a : Addr) (ks : List Str) : Prop :=
  ∃ o es ep t, h.get? a = some o ∧ o.ExactSet ∧ o.data = .set es ep t ∧ (∀ e ∈ es.toList, TGood w e) ∧ (es.toList.map tkey).Perm ks ∧ ks.Nodup ∧
    es.size < scanBound ∧ t.fits es.size = true ∧ Ris t.place.toList ∧ (w.params.followText "set-order" = true ∨ t.led = true)
section
variable {P : Program} {w : World} {h h' : Heap} {a : Addr} {ks : List Str}
theorem SetS.keep (R : SetS w h a ks) (k : ∀ o, h.get? a = some o → h'.get? a = some o) : SetS w h' a ks := by
  obtain ⟨o, es, ep, t, q, r⟩ := R
  exact ⟨o, es, ep, t, k o q, r⟩
end
end DL
end
section
set_option Elab.async false
set_option linter.all false
set_option maxRecDepth 100000
set_option maxHeartbeats 4000000
namespace DL
open PySem PySem.Spec PyProof.Rows L2
section
variable {X : Cx} {pos : Pos}
def dDispT (tk tv : DTE) : DTE := fun S G Q => tk S G fun k G1 => tv S G1 fun v G2 => match k with
  | .tup ds => (match D.keys ds with
    | some ks => ∀ p, G2 p = none → Q (.rf p) (gput G2 p (.dT [(ks, v)]))
    | none => False)
  | _ => False
/-- int(n) -/
def rIntC (ds : List D) (G : GH) (Q : DQ) : Prop := match ds with
  | [.int i] => Q (.int i) G
  | [.bl b] => Q (.int (if b then 1 else 0)) G
  | _ => False
theorem cd_int : CallD X (.type "int") rIntC := by
  refine ⟨_, call_int1, fun F H G vs ds g rs Q' h Q k => ?_⟩
  unfold rIntC at h
  split at h
  · rename_i i
    cases rs with
    | cons r b =>
      cases b
      cases r
      exact .inl ⟨i, rfl, k _ _ _ _ G Go.refl g (.int i) h⟩
  · rename_i b0
    cases rs with
    | cons r b =>
      cases b
      cases r
      exact .inr ⟨b0, rfl, k _ _ _ _ G Go.refl g (.int _) h⟩
  · exact h.elim
end
end DL
end
section
set_option Elab.async false
set_option linter.all false
set_option maxRecDepth 100000
set_option maxHeartbeats 4000000
namespace DL
open PySem PySem.Spec PyProof.Rows L2
/-- the arguments in the order of the parameters -/
def perm {α : Type} (z : α) (js : List Nat) (us ws : List α) : List α := js.map fun j => (us ++ ws)[j]?.getD z
section
variable {X : Cx} {pos kpos : Pos} {nm : Option Str}
def dCallK (sp : SpD) (n m : Nat) (js : List Nat) (ta tk : DTA) : DTE := fun S G Q => ta S G fun ds G1 => tk S G1 fun zs G2 => (ds.length = n ∧ zs.length = m) ∧ sp (perm .non js ds zs) G2 Q
end
end DL
end
section
set_option Elab.async false
set_option linter.all false
set_option maxRecDepth 100000
set_option maxHeartbeats 4000000
namespace DL
open PySem PySem.Spec PyProof.Rows L2
def keyD : Key → D
  | .inl n => .int n
  | .inr x => .str x
def ktD (ks : List Key) : D := .tup (ks.map keyD)
theorem keyD_rep {K : PySem.W.Frag} {F : Hp} (k : Key) : Rep K F (kV k) (keyD k) := by
  cases k with
  | inl n => exact .int n
  | inr x => exact .str x
section
variable {X : Cx} {pos : Pos} {tg : Expr}
def diKeysT (te : DTE) : DTI := fun S G R => te S G fun d G1 => match d with
  | .rf p => (match G1 p with
    | some (.lkT o kvs kds) => R (kds.map fun kv => ktD kv.1) (fun G => G p = some (.lkT o kvs kds)) G1
    | _ => False)
  | _ => False
end
end DL
end
section
set_option Elab.async false
set_option linter.all false
set_option maxRecDepth 100000
set_option maxHeartbeats 4000000
namespace DL
open PySem PySem.Spec PyProof.Rows L2
structure PT where
  p : Addr
  k : List Key
  b : Addr
  v : V
def mergeT (kvs : List (List Key × V)) (es : List PT) : List (List Key × V) := es.foldl (fun acc e => putK acc e.k e.v) kvs
section
variable {X : Cx} {pos : Pos}
theorem pts_of {pins : List (Addr × Obj)} {σ : L2.St} {H : Hp} {s : Shared} (I : Inv X pins σ H s) : ∀ {es : List PT}, (∀ e ∈ es, H e.p = some (.tup [.ref e.b, e.v])) →
    ∃ ws : List (PT × Value), ws.map (·.1) = es ∧ ∀ x ∈ ws, IsTup s.heap x.1.p #[.ref x.1.b, x.2] ∧ RelV x.1.v x.2
  | [], _ => ⟨[], rfl, fun x hx => by simp at hx⟩
  | e :: es, h => by
    obtain ⟨ws, hw, hx⟩ := pts_of I (es := es) fun y hy => h y (by simp [hy])
    obtain ⟨its, rv, ht, _⟩ := I.tuple (.inl (.inl (h e (by simp))))
    obtain ⟨u, y, ei, ru, ry⟩ := vals2 rv
    subst ei
    cases (show u = Value.ref e.b from ru)
    refine ⟨(e, y) :: ws, by simp [hw], fun x hm => ?_⟩
    rcases List.mem_cons.mp hm with rfl | hm
    · exact ⟨ht, ry⟩
    · exact hx x hm
theorem KT_all {H : Hp} : ∀ {ws : List (PT × Value)} {kvs : List (List Key × V)} {xs : List (List Key × Addr × Value)}, KT H kvs xs → (∀ x ∈ ws, H x.1.b = some (.tup (x.1.k.map kV)) ∧ RelV x.1.v x.2) →
    KT H (mergeT kvs (ws.map (·.1))) (storedAllH xs (ws.map fun x => (x.1.k, x.1.b, x.2)))
  | [], kvs, xs, r, _ => r
  | w :: ws, kvs, xs, r, h => by
    obtain ⟨h1, h2⟩ := h w (by simp)
    exact KT_all (ws := ws) (r.put w.1.k h1 h2) fun x hx => h x (by simp [hx])
theorem mergeT_len : ∀ (es : List PT) (kvs : List (List Key × V)), (mergeT kvs es).length ≤ kvs.length + es.length
  | [], kvs => by simp [mergeT]
  | e :: es, kvs => by
    have h1 := mergeT_len es (putK kvs e.k e.v)
    have h2 := length_putK kvs e.k e.v
    have : mergeT kvs (e :: es) = mergeT (putK kvs e.k e.v) es := rfl
    rw [this, List.length_cons]
    omega
theorem cr_dictT (hc : X.calm = true) (hu : X.A.units + 100 < cLine) : CallR X (.type "dict") (fun xs H Q => ∃ (a : Addr) (es : List PT), xs = [.ref a] ∧ SqL X.K H a (es.map fun e => V.ref e.p) ∧ (∀ e ∈ es, H e.p = some (.tup [.ref e.b, e.v])) ∧ (∀ e ∈ es, H e.b = some (.tup (e.k.map kV))) ∧
    ∀ p, H p = none → Q (.ref p) (upd H p (.dT (mergeT [] es)))) := by
  intro pins s σ H xs us Q I r q
  obtain ⟨a, es, ex, hq, hp, hb, q⟩ := q
  subst ex
  obtain ⟨u, eu, rx⟩ := vals1 r
  subst eu
  cases rx
  obtain ⟨its, rv, pl, hz⟩ := I.list hq
  have ei := refs_at (ps := es.map (·.p)) (by rw [List.map_map]; exact rv)
  subst ei
  rw [List.length_map] at hz
  obtain ⟨ws, hw, hx⟩ := pts_of I hp
  subst hw
  obtain ⟨o, n, ho, hcl, hd, hdat⟩ := pl
  have hitems : PairItems s.heap (((ws.map (·.1)).map (·.p)).map Value.ref).toArray (fun j => ((ws.map fun x => x.1.p)[j]?).getD 0) (ws.map fun x => (Value.ref x.1.b, x.2)) := by
    refine ⟨by simp, fun j k v hj => ?_⟩
    rw [List.getElem?_map] at hj
    cases e : ws[j]? with
    | none => rw [e] at hj; cases hj
    | some x =>
      rw [e] at hj; cases hj
      refine ⟨by simp [e], .inl ?_⟩
      have hh := (hx x (List.mem_of_getElem? e)).1
      have e' : ((ws.map fun x => x.1.p)[j]?).getD 0 = x.1.p := by simp [e]
      show s.heap.IsTuple (((ws.map fun x => x.1.p)[j]?).getD 0) _
      rw [e']
      exact hh
  refine call_dict_pairsH (knd := tupleKind (mixKind X.prog X.w)) (ps := ws.map fun x => (x.1.k, x.1.b, x.2)) (PairArg.list a _ _ _) (I.ok.hd hc) (by show X.A.in1.in1.units < cLine; simp; omega) ⟨⟨o, n, ho, hcl, hd, hdat⟩, hitems⟩ ⟨by simp, fun i key v hr => ?_⟩ (fun h' hk x hxm => ?_) (by simpa using hz) fun h' tk hd' k => ?_
  · rw [PairRel, List.getElem?_map] at hr
    cases e : ws[i]? with
    | none => rw [e] at hr; cases hr
    | some x => rw [e] at hr; cases hr; exact ⟨x.1.k, x.1.b, by simp [e], rfl⟩
  · obtain ⟨y, hy, rfl⟩ := List.mem_map.mp hxm
    have hby := hb y.1 (List.mem_map.mpr ⟨y, hy, rfl⟩)
    obtain ⟨oo, items, n2, h1, h2, h3, h4⟩ := key_of I.hok hby
    have hlt := Heap.lt_size h1
    exact ⟨oo, items, n2, hk _ _ (Nat.ne_of_lt hlt) (by simp) h1, h2, h3, h4⟩
  · have hm : (s.heap.objs.size == sysModules) = false := beq_eq_false_iff_ne.mpr (Nat.ne_of_gt I.big)
    have hn := I.hok.fresh (Nat.le_refl s.heap.objs.size)
    have hlen : (mergeT [] (ws.map (·.1))).length ≤ sizeLine := by
      have := mergeT_len (ws.map (·.1)) []
      simp at this hz
      simp
      omega
    obtain ⟨q', es', ep, hq', h2, h3, h4, _, h5⟩ := hd'
    have kt : KT H (mergeT [] (ws.map (·.1))) (storedAllH [] (ws.map fun x => (x.1.k, x.1.b, x.2))) := KT_all .nil fun x hxm => ⟨hb x.1 (List.mem_map.mpr ⟨x, hxm, rfl⟩), (hx x hxm).2⟩
    refine ⟨.ref s.heap.objs.size, upd H s.heap.objs.size (.dT (mergeT [] (ws.map (·.1)))), I.laid (t' := tk) (fun b ob e => k b ob (by simp) e) (Nat.le_refl _) ⟨hlen, hm, _, kt.keeps fun c ys ec => ?_, q', es', ep, hq', h2, h3, h4, h5⟩, rfl, q _ hn⟩
    rw [upd_ne (ne_of_none ec hn)]
    exact ec
/-- pairs with tuple keys -/
def prsT : List D → Option (List (List Key × D))
  | [] => some []
  | .tup [.tup ks, v] :: r => (match D.keys ks, prsT r with
    | some k, some m => some ((k, v) :: m)
    | _, _ => none)
  | _ :: _ => none
def mergeDT (kds more : List (List Key × D)) : List (List Key × D) := more.foldl (fun acc kv => putD acc kv.1 kv.2) kds
theorem prsT_rep {K : PySem.W.Frag} {F : Hp} : ∀ {xs : List D} {ms : List (List Key × D)} {vs : List V}, prsT xs = some ms → Reps K F vs xs →
    ∃ es : List PT, vs = es.map (fun e => V.ref e.p) ∧ (∀ e ∈ es, F e.p = some (.tup [.ref e.b, e.v])) ∧ (∀ e ∈ es, F e.b = some (.tup (e.k.map kV))) ∧ es.map (·.k) = ms.map (·.1) ∧ Reps K F (es.map (·.v)) (ms.map (·.2))
  | [], ms, _, h, .nil => by
    cases h
    exact ⟨[], rfl, fun e he => by simp at he, fun e he => by simp at he, rfl, .nil⟩
  | x :: r, ms, _, h, .cons a b => by
    unfold prsT at h
    split at h
    · rename_i h1; cases h1
    · rename_i ks v r' h1
      cases h1
      split at h
      · rename_i k m ek em
        cases h
        obtain ⟨es, h2, h3, h4, h5, h6⟩ := prsT_rep em b
        cases a with
        | tup ha rs =>
          rename_i p ws
          cases rs with
          | cons r1 r2 =>
            cases r2 with
            | cons r3 r4 =>
              cases r4
              cases r1 with
              | tup hb rk =>
                rename_i bb wk
                have hk := rk.keys ek
                subst hk
                rename_i vv
                refine ⟨⟨p, k, bb, _⟩ :: es, by rw [h2]; rfl, fun e he => ?_, fun e he => ?_, by simp [h5], .cons r3 h6⟩
                · rcases List.mem_cons.mp he with rfl | he
                  · exact ha
                  · exact h3 e he
                · rcases List.mem_cons.mp he with rfl | he
                  · exact hb
                  · exact h4 e he
      · cases h
    · cases h
theorem KR_mergeT {K : PySem.W.Frag} {F : Hp} : ∀ {es : List PT} {ms : List (List Key × D)} {kvs : List (List Key × V)} {kds : List (List Key × D)}, es.map (·.k) = ms.map (·.1) → Reps K F (es.map (·.v)) (ms.map (·.2)) → KR K F kvs kds → KR K F (mergeT kvs es) (mergeDT kds ms)
  | [], [], kvs, kds, _, _, r => r
  | e :: es, m :: ms, kvs, kds, h, rs, r => by
    simp only [List.map_cons, List.cons.injEq] at h
    cases rs with
    | cons a b =>
      have : mergeT kvs (e :: es) = mergeT (putK kvs e.k e.v) es := rfl
      rw [this]
      show KR K F _ (mergeDT (putD kds m.1 m.2) ms)
      refine KR_mergeT h.2 b ?_
      rw [h.1]
      exact r.put a
  | [], _ :: _, _, _, h, _, _ => by simp at h
  | _ :: _, [], _, _, h, _, _ => by simp at h
def rDictT (ds : List D) (G : GH) (Q : DQ) : Prop := match ds with
  | [d] => (match d.cur G with
    | .lst xs => (match prsT xs with
      | some ms => Q (.dT (mergeDT [] ms)) G
      | none => False)
    | _ => False)
  | _ => False
theorem cd_dictT (hc : X.calm = true) (hu : X.A.units + 100 < cLine) : CallD X (.type "dict") rDictT := by
  refine ⟨_, cr_dictT hc hu, fun F H G vs ds g rs Q' h Q k => ?_⟩
  unfold rDictT at h
  split at h
  · rename_i d
    cases rs with
    | cons r b =>
      cases b
      split at h
      · rename_i xs ex
        split at h
        · rename_i ms em
          obtain ⟨a, ws, rfl, ha, rw'⟩ := cur_list g r ex
          obtain ⟨es, rfl, h3, h4, h5, h6⟩ := prsT_rep em rw'
          refine ⟨a, es, rfl, .inl (.inl ha), fun e he => g.ex _ _ (h3 e he), fun e he => g.ex _ _ (h4 e he), fun p hp => ?_⟩
          have gr := Gr.new (u := .dT (mergeT [] es)) g.ex hp
          have kr : KR X.K F (mergeT [] es) (mergeDT [] ms) := KR_mergeT h5 h6 ⟨rfl, .nil⟩
          have kr2 := kr.mono gr.ff
          exact k _ _ _ _ G gr.go (g.grow gr) (.dT upd_same kr2.ks kr2.vs) h
        · exact h.elim
      · exact h.elim
  · exact h.elim
end
end DL
end
section
set_option Elab.async false
set_option linter.all false
set_option maxRecDepth 100000
set_option maxHeartbeats 4000000
namespace DL
open PySem PySem.Spec PyProof.Rows L2
/-- what is known of the heap by G is known by some G' x, too -/
def Cv (G : GH) {α : Type} (P : α → Prop) (G' : α → GH) : Prop := ∀ K F H, Gok K F H G → ∃ x, P x ∧ Gok K F H (G' x) ∧ ∀ b, G b = none → G' x b = none
def Cv1 (G G' : GH) : Prop := ∀ K F H, Gok K F H G → Gok K F H G' ∧ ∀ b, G b = none → G' b = none
theorem go_view {F H : Hp} {G G' : GH} (h : ∀ b, G b = none → G' b = none) : Go F H G F H G' := ⟨Ex.refl F, fun b u e g => ⟨e, h b g⟩, fun _ _ _ _ f _ => f, fun _ z => z⟩
section
variable {X : Cx} {pos : Pos}
def dIn (t : DTS) : DTS := fun D' S G => ∃ (α : Type) (P : α → Prop) (G' : α → GH), Cv G P G' ∧ ∀ x, P x → t D' S (G' x)
theorem dps_in {body : List Stmt} {t' : DTS} (h : DPs X body t') : DPs X body (dIn t') := by
  obtain ⟨t, p, r⟩ := h.ex
  refine ⟨t, p, fun F H σ S G o D' h D0 k => ?_⟩
  obtain ⟨α, P, G', cv, h⟩ := h
  obtain ⟨x, px, g, fr⟩ := cv X.K F H o.g
  exact r F H σ S (G' x) ⟨g, o.s⟩ D' (h x px) D0 (k.mono (go_view fr))
def outE (D' : DEnds) : DEnds := { nx := fun S G => ∃ G2, Cv1 G G2 ∧ D'.nx S G2, rt := fun d G => ∃ G2, Cv1 G G2 ∧ D'.rt d G2, bk := fun S G => ∃ G2, Cv1 G G2 ∧ D'.bk S G2, ct := fun S G => ∃ G2, Cv1 G G2 ∧ D'.ct S G2 }
def dOut (t : DTS) : DTS := fun D' S G => t (outE D') S G
theorem dps_out {body : List Stmt} {t' : DTS} (h : DPs X body t') : DPs X body (dOut t') := by
  obtain ⟨t, p, r⟩ := h.ex
  refine ⟨t, p, fun F H σ S G o D' h D0 k => r F H σ S G o (outE D') h D0 ⟨?_, ?_, ?_, ?_⟩⟩
  · rintro F1 H1 σ1 S1 G1 e1 o1 ⟨G2, cv, q⟩
    obtain ⟨g, fr⟩ := cv X.K F1 H1 o1.g
    exact k.nx F1 H1 σ1 S1 G2 (e1.trans (go_view fr)) ⟨g, o1.s⟩ q
  · rintro F1 H1 v d G1 e1 g1 r1 ⟨G2, cv, q⟩
    obtain ⟨g, fr⟩ := cv X.K F1 H1 g1
    exact k.rt F1 H1 v d G2 (e1.trans (go_view fr)) g r1 q
  · rintro F1 H1 σ1 S1 G1 e1 o1 ⟨G2, cv, q⟩
    obtain ⟨g, fr⟩ := cv X.K F1 H1 o1.g
    exact k.bk F1 H1 σ1 S1 G2 (e1.trans (go_view fr)) ⟨g, o1.s⟩ q
  · rintro F1 H1 σ1 S1 G1 e1 o1 ⟨G2, cv, q⟩
    obtain ⟨g, fr⟩ := cv X.K F1 H1 o1.g
    exact k.ct F1 H1 σ1 S1 G2 (e1.trans (go_view fr)) ⟨g, o1.s⟩ q
end
/-- what may stand in an open deck -/
structure Deck where
  c : Addr
  g : Int
  t : Int
  ns : List Int
def Deck.ok (x : Deck) (n : Nat) : Prop := 0 ≤ x.t ∧ x.t + n ≤ 1099511627776 ∧ 0 ≤ x.g ∧ x.g < 4294967296 ∧ x.ns.length ≤ 63
def openG (G : GH) (p : Addr) (k1 k2 k3 : Str) (x : Deck) : GH := gput (gput G x.c (.lst (x.ns.map .int))) p (.dK [(.inr k1, .rf x.c), (.inr k2, .int x.g), (.inr k3, .int x.t)])
theorem MRep.other {K : PySem.W.Frag} {F H : Hp} {G G' : GH} {a : Addr} {o : MO} (h : MRep K F H G a o) (nd : ∀ k1 k2 k3 n, o ≠ .deck k1 k2 k3 n) : MRep K F H G' a o := by
  cases o with
  | deck k1 k2 k3 n => exact absurd rfl (nd k1 k2 k3 n)
  | _ => exact h
theorem ints_vs {K : PySem.W.Frag} {F : Hp} {ns : List Int} {vs : List V} (r : Reps K F vs (ns.map .int)) : vs = ns.map V.int := by
  induction ns generalizing vs with
  | nil => cases r; rfl
  | cons n ns ih => cases r with
    | cons a b => cases a; rw [ih b]; rfl
theorem deck_open {G : GH} {p : Addr} {k1 k2 k3 : Str} {n : Nat} (h : G p = some (.deck k1 k2 k3 n)) : Cv G (fun x : Deck => x.ok n ∧ G x.c = some .dcell ∧ x.c ≠ p ∧ ∀ a, a ≠ p → ∀ j1 j2 j3 m, G a ≠ some (.deck j1 j2 j3 m)) (openG G p k1 k2 k3) := by
  intro K F H g
  obtain ⟨fp, c, g0, t, ns, hp, hc, gc, h1, h2, h3, h4, h5⟩ := g.at_ p _ h
  have ne : c ≠ p := fun z => by rw [z, h] at gc; cases gc
  refine ⟨⟨c, g0, t, ns⟩, ⟨⟨h1, h2, h3, h4, h5⟩, gc, ne, fun a na j1 j2 j3 m z => na (g.one a p _ _ _ _ _ _ _ _ z h)⟩, ⟨g.ex, fun a o e => ?_, fun a b j1 j2 j3 m i1 i2 i3 m2 e1 e2 => ?_⟩, fun b hb => ?_⟩
  · unfold openG at e
    by_cases q : a = p
    · subst q
      rw [gput_same] at e; cases e
      exact ⟨fp, _, hp, rfl, .cons (.rf c) (.cons (.int _) (.cons (.int _) .nil))⟩
    · rw [gput_ne q] at e
      by_cases q2 : a = c
      · subst q2
        rw [gput_same] at e; cases e
        exact ⟨(g.at_ a _ gc).1, _, hc, Reps.ints ns⟩
      · rw [gput_ne q2] at e
        obtain ⟨f, m⟩ := g.at_ a o e
        refine ⟨f, m.other fun j1 j2 j3 m z => ?_⟩
        subst z
        exact q (g.one a p _ _ _ _ _ _ _ _ e h)
  · have n1 : ∀ a j1 j2 j3 m, openG G p k1 k2 k3 ⟨c, g0, t, ns⟩ a ≠ some (.deck j1 j2 j3 m) := fun a j1 j2 j3 m z => by
      unfold openG at z
      by_cases q : a = p
      · subst q; rw [gput_same] at z; cases z
      · rw [gput_ne q] at z
        by_cases q2 : a = c
        · subst q2; rw [gput_same] at z; cases z
        · rw [gput_ne q2] at z
          exact q (g.one a p _ _ _ _ _ _ _ _ z h)
    exact absurd e1 (n1 a j1 j2 j3 m)
  · have q : b ≠ p := fun z => by rw [z, h] at hb; cases hb
    have q2 : b ≠ c := fun z => by rw [z, gc] at hb; cases hb
    unfold openG
    rw [gput_ne q, gput_ne q2]; exact hb
def NoDeck (G : GH) : Prop := ∀ a k1 k2 k3 n, G a ≠ some (.deck k1 k2 k3 n)
/-- shut: budget n -/
def shutG (G : GH) (p c : Addr) (k1 k2 k3 : Str) (n : Nat) : GH := gput (gput G c .dcell) p (.deck k1 k2 k3 n)
theorem deck_shut {G : GH} {p : Addr} {k1 k2 k3 : Str} {n : Nat} {x : Deck} (nd : NoDeck G) (hp : G p = some (.dK [(.inr k1, .rf x.c), (.inr k2, .int x.g), (.inr k3, .int x.t)])) (hc : G x.c = some (.lst (x.ns.map .int))) (ok : x.ok n) : Cv1 G (shutG G p x.c k1 k2 k3 n) := by
  intro K F H g
  obtain ⟨fp, kvs, e1, e2, e3⟩ := g.at_ p _ hp
  obtain ⟨fc, vs, f1, f2⟩ := g.at_ x.c _ hc
  have ne : x.c ≠ p := fun z => by rw [z, hp] at hc; cases hc
  have ev := ints_vs f2
  subst ev
  have ek : kvs = [(.inr k1, .ref x.c), (.inr k2, .int x.g), (.inr k3, .int x.t)] := by
    match kvs, e2, e3 with
    | [(a1, b1), (a2, b2), (a3, b3)], e2, e3 =>
      simp only [List.map_cons, List.map_nil, List.cons.injEq, and_true] at e2
      obtain ⟨rfl, rfl, rfl⟩ := e2
      cases e3 with
      | cons r1 r2 => cases r2 with
        | cons r3 r4 => cases r4 with
          | cons r5 r6 => cases r1; cases r3; cases r5; rfl
  subst ek
  obtain ⟨o1, o2, o3, o4, o5⟩ := ok
  refine ⟨⟨g.ex, fun a o e => ?_, fun a b j1 j2 j3 m i1 i2 i3 m2 z1 z2 => ?_⟩, fun b hb => ?_⟩
  · unfold shutG at e
    by_cases q : a = p
    · subst q
      rw [gput_same] at e; cases e
      refine ⟨fp, x.c, x.g, x.t, x.ns, e1, f1, ?_, o1, o2, o3, o4, o5⟩
      unfold shutG
      rw [gput_ne ne, gput_same]
    · rw [gput_ne q] at e
      by_cases q2 : a = x.c
      · subst q2
        rw [gput_same] at e; cases e
        exact ⟨fc, _, f1⟩
      · rw [gput_ne q2] at e
        obtain ⟨f, m⟩ := g.at_ a o e
        exact ⟨f, m.other fun j1 j2 j3 m z => nd a j1 j2 j3 m (z ▸ e)⟩
  · have n1 : ∀ a j1 j2 j3 m, shutG G p x.c k1 k2 k3 n a = some (.deck j1 j2 j3 m) → a = p := fun a j1 j2 j3 m z => by
      unfold shutG at z
      by_cases q : a = p
      · exact q
      · rw [gput_ne q] at z
        by_cases q2 : a = x.c
        · subst q2; rw [gput_same] at z; cases z
        · rw [gput_ne q2] at z; exact absurd z (nd a j1 j2 j3 m)
    rw [n1 _ _ _ _ _ z1, n1 _ _ _ _ _ z2]
  · have q : b ≠ p := fun z => by rw [z, hp] at hb; cases hb
    have q2 : b ≠ x.c := fun z => by rw [z, hc] at hb; cases hb
    unfold shutG
    rw [gput_ne q, gput_ne q2]; exact hb
/-- one draw taken -/
theorem shut_open {G : GH} {p c : Addr} {k1 k2 k3 : Str} {m n : Nat} {o1 o2 : MO} (h : G p = some (.deck k1 k2 k3 m)) (hc : G c = some .dcell) (ne : c ≠ p) : shutG (gput (gput G c o1) p o2) p c k1 k2 k3 n = gput G p (.deck k1 k2 k3 n) := by
  funext b
  unfold shutG
  by_cases q : b = p
  · subst q; rw [gput_same, gput_same]
  · rw [gput_ne q, gput_ne q]
    by_cases q2 : b = c
    · subst q2; rw [gput_same, hc]
    · rw [gput_ne q2, gput_ne q, gput_ne q2]
theorem open_nodeck {G : GH} {p : Addr} {k1 k2 k3 : Str} {x : Deck} (nd : ∀ a, a ≠ p → ∀ j1 j2 j3 m, G a ≠ some (.deck j1 j2 j3 m)) : NoDeck (openG G p k1 k2 k3 x) := by
  intro a j1 j2 j3 m z
  unfold openG at z
  by_cases q : a = p
  · subst q; rw [gput_same] at z; cases z
  · rw [gput_ne q] at z
    by_cases q2 : a = x.c
    · subst q2; rw [gput_same] at z; cases z
    · rw [gput_ne q2] at z; exact nd a q j1 j2 j3 m z
theorem deck_close {G : GH} {p : Addr} {k1 k2 k3 : Str} {m n : Nat} {x : Deck} (h : G p = some (.deck k1 k2 k3 m)) (gc : G x.c = some .dcell) (ne : x.c ≠ p) (nd : ∀ a, a ≠ p → ∀ j1 j2 j3 m, G a ≠ some (.deck j1 j2 j3 m)) (ok : x.ok n) :
    Cv1 (openG G p k1 k2 k3 x) (gput G p (.deck k1 k2 k3 n)) := by
  have := deck_shut (G := openG G p k1 k2 k3 x) (p := p) (k1 := k1) (k2 := k2) (k3 := k3) (n := n) (x := x) (open_nodeck nd) gput_same (by unfold openG; rw [gput_ne ne, gput_same]) ok
  unfold openG at this
  rw [shut_open h gc ne] at this
  exact this
end DL
end
section
set_option Elab.async false
set_option linter.all false
set_option maxRecDepth 100000
namespace DL
open PySem PySem.Spec PyProof.Rows L2
theorem dx2 : (∀ (tk tv : DTE) (S : DS) (G : GH) (Q : DQ), dDispT tk tv S G Q = (tk S G fun k G1 => tv S G1 fun v G2 => match k with
    | .tup ds => (match D.keys ds with
      | some ks => ∀ p, G2 p = none → Q (.rf p) (gput G2 p (.dT [(ks, v)]))
      | none => False)
    | _ => False)) ∧
  (∀ (te : DTE) (S : DS) (G : GH) (Q : DQ), dSortSet te S G Q = (te S G fun d G1 => match d.cur G1 with
    | .lst xs => (match intsD xs with
      | some ns => ns.length < 64 ∧ Q (.lst ((isort1 ns).map .int)) G1
      | none => False)
    | _ => False)) ∧
  (∀ (sp : SpD) (n m : Nat) (js : List Nat) (ta tk : DTA) (S : DS) (G : GH) (Q : DQ), dCallK sp n m js ta tk S G Q = (ta S G fun ds G1 => tk S G1 fun zs G2 => (ds.length = n ∧ zs.length = m) ∧ sp (perm .non js ds zs) G2 Q)) ∧
  (∀ (t : DTS) (D' : DEnds) (S : DS) (G : GH), dOut t D' S G = t (outE D') S G) ∧
  (∀ (te : DTE) (S : DS) (G : GH) (R : List D → (GH → Prop) → GH → Prop), diKeysT te S G R = (te S G fun d G1 => match d with
    | .rf p => (match G1 p with
      | some (.lkT o kvs kds) => R (kds.map fun kv => ktD kv.1) (fun G => G p = some (.lkT o kvs kds)) G1
      | _ => False)
    | _ => False)) := ⟨fun _ _ _ _ _ => rfl, fun _ _ _ _ => rfl, fun _ _ _ _ _ _ _ _ _ => rfl, fun _ _ _ _ => rfl, fun _ _ _ _ => rfl⟩
theorem gput_comm {G : GH} {a b : Addr} {o o' : MO} (h : a ≠ b) : gput (gput G a o) b o' = gput (gput G b o') a o := by
  funext c
  by_cases q : c = a
  · subst q; rw [gput_ne h, gput_same, gput_same]
  · rw [gput_ne q]
    by_cases q2 : c = b
    · subst q2; rw [gput_same, gput_same]
    · rw [gput_ne q2, gput_ne q2, gput_ne q]
/-- a thing changed under another -/
theorem gput_under {G : GH} {a b : Addr} {o o' o2 : MO} (h : a ≠ b) : gput (gput (gput G a o) b o') a o2 = gput (gput G a o2) b o' := by
  rw [gput_comm h, gput_gput, ← gput_comm h]
theorem item_lst (xs : List D) (n : Int) : D.item (.lst xs) (.int n) = atI xs n := rfl
structure Mak (P : Program) (w : World) (K : PySem.W.Frag) (mg : Str → Option Value) (base : Heap) (x : Str) (C : Addr) (k : Nat) (ps : List Str) (sp : SpD) : Prop where
  ex : ∃ f fd, Mk K C f ∧ FnG P w K mg base CX0 k f fd ps (SpOf K sp) ∧ mg x = some (.ref C) ∧ Binds K fd ps []
theorem de_mak {X : Cx} {pos : Pos} {x : Str} {C : Addr} {k : Nat} {ps : List Str} {sp : SpD} {p : Pos} {e : Expr} {es : List Expr} {ta : DTA} (c : Mak X.prog X.w X.K X.mg X.base x C k ps sp) (hA : X.A.guards = some []) (hr : Room (k + 1) X.A) (ha : DA X (e :: es) ta) (hg : Gl X x := by rfl) (hdb : (x == ("__debug__" : Str)) = false := by decide)
    (he : starEach (e :: es) X.env = (false, eval e X.env) :: starEach es X.env := by rfl) (hpl : (backTo pos (starEach es X.env)).any (·.1) = false := by rfl) : DE X (.Call (.Name x p) (e :: es) [] pos) (dCold (dMake C sp ta)) := by
  obtain ⟨f, fd, M, Fn, hm, hb⟩ := c.ex
  exact de_cold (de_make M Fn hA hr hg hm hb ha hdb he hpl)
/-- the __init__ of the class at C -/
structure DefI (K : PySem.W.Frag) (C : Addr) (qual : Str) (st : Stmt) : Prop where
  ex : ∃ f fd, Fun K "__init__" qual st f fd ∧ Mk K C f
theorem mak_mk {P : Program} {w : World} {K : PySem.W.Frag} {mg : Str → Option Value} {base : Heap} {x qual : Str} {C : Addr} {st : Stmt} {N ps : List Str} {k : Nat} {sp : SpD} (d : DefI K C qual st) (hm : mg x = some (.ref C)) (sc : FnScope N ps (defScope st)) (len : ∀ ds G Q, sp ds G Q → ds.length = ps.length)
    (bi : ∀ (kV doc pm : Value) (an : Option Addr) (cdv ct : Value) (us : List Value), us.length = ps.length → bindArgs (PySem.W.fnOf "__init__" qual (defArgs st) (defBody st) (defScope st) .none kV doc pm an cdv ct) ⟨us, []⟩ = pure (ps.zip us))
    (hb : ∀ (f : Addr) (cdv : Value) (A : Around) (outer : List Env) (s : Shared) (H : Hp) (E : XK), A.guards = some [] → Room k (A.deeper (envOfC qual (defScope st) s.heap.objs.size f cdv)) →
      ∃ t', DPs (cxOf CX0 P w K mg base N qual (defScope st) f cdv A outer s H E).nox (defBody st) t' ∧ ∀ ds G Q, sp ds G Q → t' (fin Q) (dstart N ds) G) : Mak P w K mg base x C (k + 1) ps sp := by
  obtain ⟨f, fd, Fu, M⟩ := d.ex
  exact ⟨f, fd, M, fn_mk Fu sc len (hb f), hm, Fu.binds bi⟩
theorem dx3 : (∀ (x : Str) (G : GH) (Q : DQ), rIsiD [.str x, .ty "str"] G Q = Q (.bl true) G) ∧ (∀ (x : Int) (G : GH) (Q : DQ), rIsiD [.int x, .ty "int"] G Q = Q (.bl true) G) ∧ (∀ (x : Int) (G : GH) (Q : DQ), rIsiD [.int x, .ty "bool"] G Q = Q (.bl false) G) ∧
  (∀ (xs : List D) (G : GH) (Q : DQ), rIsiD [.tup xs, .ty "tuple"] G Q = Q (.bl true) G) ∧
  (∀ (xs : List D) (G : GH) (Q : DQ), rTupleD [.lst xs] G Q = Q (.tup xs) G) ∧ (∀ (xs : List D) (G : GH) (Q : DQ), rTupleD [.tup xs] G Q = Q (.tup xs) G) ∧
  (∀ (xs : List D) (G : GH) (Q : DQ), rLenD [.lst xs] G Q = Q (.int (xs.length : Nat)) G) ∧ (∀ (xs : List D) (G : GH) (Q : DQ), rLenD [.tup xs] G Q = Q (.int (xs.length : Nat)) G) ∧
  (∀ (i : Int) (G : GH) (Q : DQ), rIntC [.int i] G Q = Q (.int i) G) ∧
  (∀ (x : Str) (lo hi : Option Int) (G : GH) (Q : DQ), rSlice (.str x) lo hi G Q = (x.length ≤ sizeLine ∧ Q (.str (cutS x lo hi)) G)) ∧
  (∀ (xs : List D) (lo hi : Option Int) (G : GH) (Q : DQ), rSlice (.tup xs) lo hi G Q = Q (.tup (DL.cutD xs lo hi)) G) ∧
  (∀ (xs : List D) (lo hi : Option Int) (G : GH) (Q : DQ), rSlice (.lst xs) lo hi G Q = Q (.lst (DL.cutD xs lo hi)) G) ∧
  (∀ (ns : List Int) (lo hi : Option Int) (G : GH) (Q : DQ), rSlice (.scr ns) lo hi G Q = Q (.lst ((DL.cutD ns lo hi).map .int)) G) ∧
  (∀ (i j : Int) (G : GH) (Q : DQ), rAddD (.int i) (.int j) G Q = Q (.int (i + j)) G) ∧
  (∀ (a b : Str) (G : GH) (Q : DQ), rAddD (.str a) (.str b) G Q = (a.length + b.length ≤ sizeLine ∧ Q (.str (a ++ b)) G)) ∧
  (∀ (a b : List D) (G : GH) (Q : DQ), rAddD (.tup a) (.tup b) G Q = (a.length + b.length ≤ sizeLine ∧ Q (.tup (a ++ b)) G)) ∧
  (∀ (i j : Int) (G : GH) (Q : DQ), rMulD (.int i) (.int j) G Q = (CMul i j ∧ Q (.int (i * j)) G)) ∧
  (∀ (b : Bool), (!(!b)) = b) ∧ (∀ (x y : D), okE x y = true ∧ True ↔ okE x y = true) :=
  ⟨fun _ _ _ => rfl, fun _ _ _ => rfl, fun _ _ _ => rfl, fun _ _ _ => rfl, fun _ _ _ => rfl, fun _ _ _ => rfl, fun _ _ _ => rfl, fun _ _ _ => rfl, fun _ _ _ => rfl, fun _ _ _ _ _ => rfl, fun _ _ _ _ _ => rfl, fun _ _ _ _ _ => rfl, fun _ _ _ _ _ => rfl, fun _ _ _ _ => rfl, fun _ _ _ _ => rfl, fun _ _ _ _ => rfl, fun _ _ _ _ => rfl, fun b => by cases b <;> rfl, fun _ _ => by simp⟩
theorem len_str {x : Str} (h : x.length ≤ sizeLine) (G : GH) (Q : DQ) : rLenD [.str x] G Q = Q (.int (x.length : Nat)) G := by
  simp [rLenD, D.cur, D.len, h]
theorem all_map {α : Type} (f : α → Bool) (l : List α) (G : GH) (Q : DQ) : rAllD [.lst (l.map fun x => .bl (f x))] G Q = Q (.bl (l.all f)) G := by
  have e : bools (l.map fun x => D.bl (f x)) = some (l.map f) := by
    rw [← bools_map, List.map_map]; rfl
  show (match bools (l.map fun x => D.bl (f x)) with | some bs => Q (.bl (bs.all id)) G | none => False) = _
  rw [e]
  simp [List.all_map]
theorem inn_str (x z : Str) : D.inn (.str x) (.str z) = some (strIn x z) := rfl
theorem lc_someA {α : Type} {ds : List D} {gd : GH → Prop} {p : Pat} {tt : DTT} {te : DTE} {vs : List Nat} {S : DS} {G : GH} {Q : DQ} (l : List α) (g : α → D) (b : α → Bool) (f : α → D) (e0 : ds = l.map g) (hz : l.length ≤ sizeLine) (hg : gd G)
    (h : ∀ a ∈ l, ∃ S2, p.put (g a) (dwipe S vs) = some S2 ∧ (∀ Q : Bool → GH → Prop, Q (b a) G → tt S2 G Q) ∧ (b a = true → ∀ Q : DQ, Q (f a) G → te S2 G Q)) (q : Q (.lst ((l.filter b).map f)) G) : LcB ds gd p tt te vs S G Q := by
  subst e0
  refine ⟨by simpa using hz, fun i acc G' => G' = G ∧ acc = ((l.take i).filter b).map f, ⟨rfl, by simp⟩, fun _ _ _ z => z.1 ▸ hg, ?_, ?_⟩
  · rintro i acc G' d ⟨rfl, rfl⟩ hd
    rw [List.getElem?_map] at hd
    cases ei : l[i]? with
    | none => rw [ei] at hd; cases hd
    | some a =>
      rw [ei] at hd
      cases hd
      obtain ⟨S2, h1, h2, h3⟩ := h a (List.mem_of_getElem? ei)
      have e : l.take (i + 1) = l.take i ++ [a] := by rw [List.take_add_one, ei]; rfl
      refine ⟨S2, h1, h2 _ ?_⟩
      cases hb : b a with
      | true =>
        rw [if_pos rfl]
        refine h3 hb _ ⟨rfl, ?_⟩
        rw [e, List.filter_append, List.map_append]
        simp [hb]
      | false =>
        rw [if_neg Bool.false_ne_true]
        refine ⟨rfl, ?_⟩
        rw [e, List.filter_append, List.map_append]
        simp [hb]
  · rintro acc G' ⟨rfl, rfl⟩
    rw [List.length_map, List.take_length]
    exact q
theorem lc_mapA {α : Type} {ds : List D} {gd : GH → Prop} {p : Pat} {te : DTE} {vs : List Nat} {S : DS} {G : GH} {Q : DQ} (l : List α) (g : α → D) (f : α → D) (e0 : ds = l.map g) (hz : l.length ≤ sizeLine) (hg : gd G)
    (h : ∀ a ∈ l, ∃ S2, p.put (g a) (dwipe S vs) = some S2 ∧ ∀ Q : DQ, Q (f a) G → te S2 G Q) (q : Q (.lst (l.map f)) G) : LcB ds gd p dYes te vs S G Q := by
  refine lc_someA l g (fun _ => true) f e0 hz hg (fun a ha => ?_) (by rw [show l.filter (fun _ => true) = l from List.filter_eq_self.mpr fun _ _ => rfl]; exact q)
  obtain ⟨S2, h1, h2⟩ := h a ha
  exact ⟨S2, h1, fun Q z => z, fun _ => h2⟩
theorem zip_map {α β γ : Type} (f : α → β → γ) : ∀ (l : List α) (m : List β), List.zipWith f l m = (l.zip m).map fun p => f p.1 p.2
  | [], _ => by simp
  | _ :: _, [] => by simp
  | a :: l, b :: m => by simp [zip_map f l m]
end DL
end
section
set_option Elab.async false
set_option linter.all false
set_option maxRecDepth 100000
set_option maxHeartbeats 4000000
namespace DL
open PySem PySem.Spec PyProof.Rows L2
end DL
end
section
set_option Elab.async false
set_option linter.all false
set_option maxRecDepth 100000
set_option maxHeartbeats 4000000
namespace DL
open PySem PySem.Spec PyProof.Rows L2
end DL
end
section
set_option Elab.async false
set_option linter.all false
set_option maxRecDepth 100000
set_option maxHeartbeats 4000000
namespace DL
open PySem PySem.Spec PyProof.Rows L2
section
variable {X : Cx} {pos : Pos}
def prsK : List D → Option (List (Key × D))
  | [] => some []
  | .tup [k, v] :: r => (match k.key, prsK r with
    | some k, some m => some ((k, v) :: m)
    | _, _ => none)
  | _ :: _ => none
theorem prsK_rep {K : PySem.W.Frag} {F : Hp} : ∀ {xs : List D} {ms : List (Key × D)} {vs : List V}, prsK xs = some ms → Reps K F vs xs →
    ∃ (ps : List Addr) (kvs : List (Key × V)), vs = ps.map V.ref ∧ Paired (fun p kv => F p = some (.tup [kV kv.1, kv.2])) ps kvs ∧ KR K F kvs ms
  | [], ms, _, h, .nil => by cases h; exact ⟨[], [], rfl, .nil, KR.nil⟩
  | x :: r, ms, _, h, .cons a b => by
    unfold prsK at h
    split at h
    · rename_i h1; cases h1
    · rename_i kd v r' h1
      cases h1
      split at h
      · rename_i k m ek em
        cases h
        obtain ⟨ps, kvs, h2, h3, h4⟩ := prsK_rep em b
        cases a with
        | tup ha rs =>
          rename_i p ws
          cases rs with
          | cons r1 r2 =>
            cases r2 with
            | cons r3 r4 =>
              cases r4
              rename_i v1 v2
              have hk : v1 = kV k := r1.key ek
              subst hk
              exact ⟨p :: ps, (k, v2) :: kvs, by rw [h2]; rfl, .cons ha h3, h4.cons r3⟩
      · cases h
    · cases h
def rDictK (ds : List D) (G : GH) (Q : DQ) : Prop := match ds with
  | [d] => (match d.cur G with
    | .lst xs => (match prsK xs with
      | some ms => Q (.dK (mergeD [] ms)) G
      | none => False)
    | _ => False)
  | _ => False
theorem cd_dictK (hc : X.calm = true) : CallD X (.type "dict") rDictK := by
  refine ⟨_, call_dictP hc, fun F H G vs ds g rs Q' h Q k => ?_⟩
  unfold rDictK at h
  split at h
  · rename_i d
    cases rs with
    | cons r b =>
      cases b
      split at h
      · rename_i xs ex
        split at h
        · rename_i ms em
          obtain ⟨a, ws, rfl, ha, rw'⟩ := cur_list g r ex
          obtain ⟨ps, kvs, rfl, h3, h4⟩ := prsK_rep em rw'
          refine ⟨a, ps, kvs, rfl, .inl (.inl ha), L2.Paired.mapP h3 (fun _ _ z => .inl (.inl (g.ex _ _ z))), fun p hp => ?_⟩
          have gr := Gr.new (u := .dK (mergeK [] kvs)) g.ex hp
          have kr : KR X.K F (mergeK [] kvs) (mergeD [] ms) := KR.merge h4 KR.nil
          have kr2 := kr.mono gr.ff
          exact k _ _ _ _ G gr.go (g.grow gr) (.dK upd_same kr2.ks kr2.vs) h
        · exact h.elim
      · exact h.elim
  · exact h.elim
structure CalM (P : Program) (w : World) (K : PySem.W.Frag) (mg : Str → Option Value) (base : Heap) (C : Addr) (m : Str) (k : Nat) (ps : List Str) (sp : SpD) : Prop where
  ex : ∃ f fd, Meth K C m f ∧ FnG P w K mg base CX0 k f fd ps (SpOf K sp) ∧ Binds K fd ps []
theorem de_calM {pl : Sem Bool} {o e : Expr} {es : List Expr} {C : Addr} {m : Str} {k : Nat} {ps : List Str} {sp : SpD} {ta : DTE} {tr : DTA} {apos : Pos} (cl : Cls X.K C) (c : CalM X.prog X.w X.K X.mg X.base C m k ps sp) (hA : X.A.guards = some []) (hr : Room k X.A) (he : DE X o ta) (ha : DA X (e :: es) tr)
    (hst : starEach (e :: es) X.env = (false, eval e X.env) :: starEach es X.env := by rfl) (hpl : (backTo pos (starEach es X.env)).any (·.1) = false := by rfl)
    (ht : eval (.Call (.Attribute o m apos) (e :: es) [] pos) X.env = (do let ov ← eval o X.env; standAt apos.atName; let (f, first) ← holding [ov] (getMethod ov m pl); callWith pos f first (backTo pos (starEach (e :: es) X.env)) (backToKw pos (keywordEach [] X.env))) := by rfl) :
    DE X (.Call (.Attribute o m apos) (e :: es) [] pos) (dMeth C m sp ta tr) := by
  obtain ⟨f, fd, hm, Fn, hb⟩ := c.ex
  exact de_meth he cl hm Fn hA hr hb ha hst hpl ht
theorem de_calM0 {pl : Sem Bool} {o : Expr} {C : Addr} {m : Str} {k : Nat} {ps : List Str} {sp : SpD} {ta : DTE} {apos : Pos} (cl : Cls X.K C) (c : CalM X.prog X.w X.K X.mg X.base C m k ps sp) (hA : X.A.guards = some []) (hr : Room k X.A) (he : DE X o ta)
    (ht : eval (.Call (.Attribute o m apos) [] [] pos) X.env = (do let ov ← eval o X.env; standAt apos.atName; let (f, first) ← holding [ov] (getMethod ov m pl); callWith pos f first (backTo pos (starEach [] X.env)) (backToKw pos (keywordEach [] X.env))) := by rfl) :
    DE X (.Call (.Attribute o m apos) [] [] pos) (dMeth C m sp ta dNil) := by
  obtain ⟨f, fd, hm, Fn, hb⟩ := c.ex
  obtain ⟨t1, p1, r1⟩ := he.ex
  refine ⟨_, pg_meth0 p1 cl hm Fn hA hr hb .nil pass0 ht, fun F H σ S G o Q' h Q k => ?_⟩
  refine r1 F H σ S G o _ h _ fun F1 H1 v d G1 e1 g1 q1 h1 => ?_
  dsimp only at h1
  split at h1
  · rename_i C' fs ex
    obtain ⟨rfl, hl, h1⟩ := h1
    obtain ⟨a, dx, kvs, rfl, ha', kr⟩ := cur_obj g1 q1 ex
    refine ⟨a, dx, kvs, rfl, ha', kr.look.2 hl, ?_⟩
    exact ⟨F1, G1, [d], Q', g1, .cons q1 .nil, h1, k.mono e1⟩
  · exact h1.elim
structure DefM (K : PySem.W.Frag) (C : Addr) (m qual : Str) (st : Stmt) : Prop where
  ex : ∃ f fd, Fun K m qual st f fd ∧ Meth K C m f
theorem calM_mk {P : Program} {w : World} {K : PySem.W.Frag} {mg : Str → Option Value} {base : Heap} {m qual : Str} {C : Addr} {st : Stmt} {N ps : List Str} {k : Nat} {sp : SpD} (d : DefM K C m qual st) (sc : FnScope N ps (defScope st)) (len : ∀ ds G Q, sp ds G Q → ds.length = ps.length)
    (bi : ∀ (kV doc pm : Value) (an : Option Addr) (cdv ct : Value) (us : List Value), us.length = ps.length → bindArgs (PySem.W.fnOf m qual (defArgs st) (defBody st) (defScope st) .none kV doc pm an cdv ct) ⟨us, []⟩ = pure (ps.zip us))
    (hb : ∀ (f : Addr) (cdv : Value) (A : Around) (outer : List Env) (s : Shared) (H : Hp) (E : XK), A.guards = some [] → Room k (A.deeper (envOfC qual (defScope st) s.heap.objs.size f cdv)) →
      ∃ t', DPs (cxOf CX0 P w K mg base N qual (defScope st) f cdv A outer s H E).nox (defBody st) t' ∧ ∀ ds G Q, sp ds G Q → t' (fin Q) (dstart N ds) G) : CalM P w K mg base C m (k + 1) ps sp := by
  obtain ⟨f, fd, Fu, M⟩ := d.ex
  exact ⟨f, fd, M, fn_mk Fu sc len (hb f), Fu.binds bi⟩
def rEqO (C : Addr) (sp : SpD) : DR2 := fun x y G Q => match x.cur G, y.cur G with
  | .obj C1 _, .obj C2 _ => C1 = C ∧ C2 = C ∧ sp [x, y] G fun d G' => match d with
    | .bl b => Q (.bl b) G'
    | _ => False
  | _, _ => False
def vEqO (X : Cx) (C : Addr) (sp : SpD) : R2 := fun x y H Q => ∃ a b dx dy fs gs, x = .ref a ∧ y = .ref b ∧ H a = some (.ins C dx fs) ∧ H b = some (.ins C dy gs) ∧ SpOf X.K sp [.ref a, .ref b] H (fun v H' => (∃ b, v = .bl b) ∧ Q v H') (fun _ _ _ => False)
theorem op_eqO {C : Addr} {k : Nat} {ps : List Str} {sp : SpD} (c : CalM X.prog X.w X.K X.mg X.base C "__eq__" k ps sp) (hA : X.A.guards = some []) (hr : Room k X.A) : OpR X (compareOp .Eq) (vEqO X C sp) := by
  obtain ⟨f, fd, M, Fn, hb⟩ := c.ex
  intro pins s σ H x y v u Q I rx ry hq
  obtain ⟨a, b, dx, dy, fs, gs, rfl, rfl, ha, hb', q⟩ := hq
  cases rx
  cases ry
  show wpAny (model X.prog X.w) X.A (richCompare .Eq (.ref a) (.ref b)) (EP X pins σ Q) X.xe s
  obtain ⟨mA, J, _⟩ := ins_get I.hok ha
  obtain ⟨mB, J', _⟩ := ins_get I.hok hb'
  obtain ⟨od, J, _⟩ := J.look
  obtain ⟨od', J', _⟩ := J'.look
  obtain ⟨m, hF⟩ := I.fr
  refine PySem.W.cmp_K (op := .Eq) (tb := .ref C) hr.units0 hF I.ok.mod.kin J J'.type (by simp [PySem.W.notFirst]) M.at_ M.fn ?_
  have r2 : Vals [V.ref a, V.ref b] [Value.ref a, Value.ref b] := .cons rfl (.cons rfl .nil)
  refine wpAny_mono (goes_fn (us := [.ref a, .ref b]) Fn hA hr [] (fun s2 i l => by simpa using hb s2 [.ref a, .ref b] i (by simpa using l)) pass0 I r2 q) (fun w s' z => ?_) fun _ _ z => z
  obtain ⟨v', H', I', rv, ⟨b0, rfl⟩, q'⟩ := z
  cases rv
  exact ⟨.bl b0, H', I', rfl, q'⟩
theorem od_eqO {C : Addr} {k : Nat} {ps : List Str} {sp : SpD} (c : CalM X.prog X.w X.K X.mg X.base C "__eq__" k ps sp) (hA : X.A.guards = some []) (hr : Room k X.A) : OpD X (compareOp .Eq) (rEqO C sp) := by
  refine ⟨_, op_eqO c hA hr, fun F H G x y dx dy g rx ry Q' h Q k => ?_⟩
  unfold rEqO at h
  split at h
  · rename_i C1 fs1 C2 fs2 e1 e2
    obtain ⟨rfl, rfl, h⟩ := h
    obtain ⟨a, d1, k1, rfl, ha, _⟩ := cur_obj g rx e1
    obtain ⟨b, d2, k2, rfl, hb, _⟩ := cur_obj g ry e2
    refine ⟨a, b, d1, d2, k1, k2, rfl, rfl, ha, hb, F, G, [dx, dy], _, g, .cons rx (.cons ry .nil), h, ?_⟩
    intro F' H' v d G' e1 g1 r1 h1
    split at h1
    · cases r1
      exact ⟨⟨_, rfl⟩, k F' H' _ _ G' e1 g1 (.bl _) h1⟩
    · exact h1.elim
  · exact h.elim
def rIsC (C : Addr) (ds : List D) (G : GH) (Q : DQ) : Prop := match ds with
  | [d, .rf C'] => C' = C ∧ (match d.cur G with
    | .obj C1 _ => C1 = C ∧ Q (.bl true) G
    | _ => False)
  | _ => False
theorem cd_isC {C : Addr} (c : C8.InsC X.K C) : CallD X (.builtin "isinstance") (rIsC C) := by
  refine ⟨_, C8.call_isC c, fun F H G vs ds g rs Q' h Q k => ?_⟩
  unfold rIsC at h
  split at h
  · rename_i d C'
    obtain ⟨rfl, h⟩ := h
    split at h
    · rename_i C1 fs e1
      obtain ⟨rfl, h⟩ := h
      cases rs with
      | cons r1 rt =>
        cases rt with
        | cons r2 rt2 =>
          cases rt2
          cases r2
          obtain ⟨a, dx, kvs, rfl, ha, _⟩ := cur_obj g r1 e1
          exact ⟨a, dx, kvs, rfl, ha, k F H _ _ G Go.refl g (.bl _) h⟩
    · exact h.elim
  · exact h.elim
/-- the name of the own class -/
theorem de_cls {x : Str} {C : Addr} (hg : Gl X x) (hm : X.mg x = some (.ref C)) (hd : (x == ("__debug__" : Str)) = false := by decide) : DE X (.Name x pos) (dC (.rf C)) :=
  dc_of (pe_glob (v := .ref C) hg hm rfl hd) fun _ => .rf C
end
end DL
end
section
set_option Elab.async false
set_option linter.all false
set_option maxRecDepth 100000
set_option maxHeartbeats 4000000
namespace DL
open PySem PySem.Spec PyProof.Rows L2
end DL
end
section
set_option Elab.async false
set_option linter.all false
set_option maxRecDepth 100000
set_option maxHeartbeats 4000000
namespace DL
open PySem PySem.Spec PyProof.Rows L2
structure Fine (d : D) (n w : Nat) : Prop where
  pl : d.pl = true
  sh : d.py.showable = true
  dp : d.py.depth ≤ n
  ls : d.py.leavesShort 13 = true
  bk : d.py.bulk ≤ w
theorem Fine.mono {d : D} {n w n' w' : Nat} (h : Fine d n w) (h1 : n ≤ n') (h2 : w ≤ w') : Fine d n' w' := ⟨h.pl, h.sh, Nat.le_trans h.dp h1, h.ls, Nat.le_trans h.bk h2⟩
theorem Fine.len {d : D} {n w : Nat} (h : Fine d n w) (hw : w ≤ 1000000) : (D.shown d).length ≤ sizeLine := PyData.shown_fits_bulk (B := 13) (by decide) (by decide) h.ls (Nat.le_trans h.bk (Nat.le_trans hw (by decide)))
end DL
end
section
set_option Elab.async false
set_option linter.all false
set_option maxRecDepth 100000
set_option maxHeartbeats 4000000
namespace DL
open PySem PySem.Spec PyProof.Rows L2
abbrev AlE : Type := He.AlD × Bool
def obsE (fa : List He.Fa) (fn : List He.DefD) (ex : PySem.W.Frag → Bool) (K : PySem.W.Frag) : AlE := (He.obsD fa fn K, ex K)
def insB (K : PySem.W.Frag) (C : Addr) : Bool := He.eqO (PySem.W.findIn K (.ref C) "__class__") (some (some (.builtin "object.__class__"))) && (He.eqO (PySem.W.specialIn K (.builtin "object.__class__") "__get__") (some (some (.builtin "getset_descriptor.__get__"))) &&
  (decide (PySem.W.takesIn K (.builtin "object.__class__") = some true) && (decide (PySem.W.mroIn K C (.type "object") = some true) && decide (PySem.W.kitOne K (.ref C) (.ref C) = some true))))
theorem insB_ok {K : PySem.W.Frag} {C : Addr} (c : Cls K C) (h : insB K C = true) : C8.InsC K C := by
  unfold insB at h
  simp only [Bool.and_eq_true, decide_eq_true_eq] at h
  exact ⟨c, He.eqO_ok h.1, He.eqO_ok h.2.1, h.2.2.1, h.2.2.2.1, h.2.2.2.2⟩
end DL
end
section
set_option Elab.async false
set_option linter.all false
set_option maxRecDepth 100000
set_option maxHeartbeats 4000000
namespace DL
open PySem PySem.Spec PyProof.Rows L2
section
variable {X : Cx} {pos : Pos}
structure NeO (K : PySem.W.Frag) (C : Addr) : Prop where
  ne : PySem.W.findIn K (.ref C) "__ne__" = some (some (.builtin "object.__ne__"))
  hm : PySem.W.mroIn K C (.type "object") = some true
  sf : PySem.W.selfFirst K C = true
def neB (K : PySem.W.Frag) (C : Addr) : Bool := He.eqO (PySem.W.findIn K (.ref C) "__ne__") (some (some (.builtin "object.__ne__"))) && (decide (PySem.W.mroIn K C (.type "object") = some true) && PySem.W.selfFirst K C)
theorem neB_ok {K : PySem.W.Frag} {C : Addr} (h : neB K C = true) : NeO K C := by
  unfold neB at h
  simp only [Bool.and_eq_true, decide_eq_true_eq] at h
  exact ⟨He.eqO_ok h.1, h.2.1, h.2.2⟩
end
end DL
end
section
set_option Elab.async false
set_option linter.all false
set_option maxRecDepth 100000
set_option maxHeartbeats 4000000
namespace DL
open PySem PySem.Spec PyProof.Rows L2
end DL
end
section
set_option Elab.async false
set_option linter.all false
set_option maxRecDepth 100000
set_option maxHeartbeats 4000000
namespace DL
open PySem PySem.Spec PyProof.Rows L2
end DL
end
section
set_option Elab.async false
set_option linter.all false
set_option maxRecDepth 100000
set_option maxHeartbeats 4000000
namespace DL
open PySem PySem.Spec PyProof.Rows L2
mutual
/-- a value that is a key -/
inductive NkV (H : Hp) : V → NestedKey → Prop
  | non : NkV H .non .none
  | int (i : Int) : NkV H (.int i) (.num i)
  | str (x : Str) : NkV H (.str x) (.text x)
  | tup {a : Addr} {vs : List V} {ks : List NestedKey} : H a = some (.tup vs) → NksV H vs ks → NkV H (.ref a) (.tup ks)
inductive NksV (H : Hp) : List V → List NestedKey → Prop
  | nil : NksV H [] []
  | cons {v : V} {vs : List V} {k : NestedKey} {ks : List NestedKey} : NkV H v k → NksV H vs ks → NksV H (v :: vs) (k :: ks)
end
mutual
theorem Rep.nk {K : PySem.W.Frag} {F H : Hp} (e : Ex F H) : ∀ {v : V} {d : D} {k : NestedKey}, Rep K F v d → d.nkey = some k → NkV H v k
  | _, _, _, .non, h => by cases h; exact .non
  | _, _, _, .bl b, h => by cases h
  | _, _, _, .int i, h => by cases h; exact .int i
  | _, _, _, .str x, h => by cases h; exact .str x
  | _, _, _, .ty n, h => by cases h
  | _, _, _, .tup (ds := ds) q r, h => by
    simp only [D.nkey] at h
    obtain ⟨ks, hk, rfl⟩ := Option.map_eq_some_iff.mp h
    exact .tup (e _ _ q) (Reps.nk e r hk)
  | _, _, _, .lst q r, h => by cases h
  | _, _, _, .dK q l r, h => by cases h
  | _, _, _, .dT q l r, h => by cases h
  | _, _, _, .obj q l r, h => by cases h
  | _, _, _, .rf a, h => by cases h
  | _, _, _, .scr q, h => by cases h
theorem Reps.nk {K : PySem.W.Frag} {F H : Hp} (e : Ex F H) : ∀ {vs : List V} {ds : List D} {ks : List NestedKey}, Reps K F vs ds → D.nkeys ds = some ks → NksV H vs ks
  | _, _, _, .nil, h => by cases h; exact .nil
  | _, _, _, .cons (d := d) (ds := ds) r t, h => by
    simp only [D.nkeys] at h
    split at h
    · rename_i k ks h1 h2
      cases h
      exact .cons (Rep.nk e r h1) (Reps.nk e t h2)
    · cases h
end
mutual
theorem NkV.is {P : Program} {w : World} {H : Hp} {h : Heap} (ok : HOk P w H h) : ∀ {v : V} {k : NestedKey} {u : Value}, NkV H v k → RelV v u → NestedIs h k u
  | _, _, _, .non, r => by cases r; exact .none
  | _, _, _, .int i, r => by obtain ⟨t, rfl⟩ := r; exact .int i t
  | _, _, _, .str x, r => by obtain ⟨t, rfl⟩ := r; exact .text x t
  | _, _, _, .tup q t, r => by
    cases r
    obtain ⟨_, its, rs, o, h1, h2, n, h3⟩ := (show ObjOk P w H h _ (.tup _) from ok _ _ q)
    exact .tup h1 h2 h3 (by simpa using NksV.is ok t rs)
theorem NksV.is {P : Program} {w : World} {H : Hp} {h : Heap} (ok : HOk P w H h) : ∀ {vs : List V} {ks : List NestedKey} {us : List Value}, NksV H vs ks → Vals vs us → NestedAll h ks us
  | _, _, _, .nil, r => by cases r; exact .nil
  | _, _, _, .cons a t, r => by
    cases r with
    | cons r1 r2 => exact .cons (NkV.is ok a r1) (NksV.is ok t r2)
end
/-- the dict stands there -/
def NAt (w : World) (H : Hp) (a : Addr) (xs : List (NestedKey × Addr × Value)) : Prop :=
  H a = some (.ext (RawN w a xs)) ∧ xs.length ≤ sizeLine ∧ ∀ x ∈ xs, NkV H (.ref x.2.1) x.1 ∧ x.1.depth ≤ 8
theorem NAt.dict {P : Program} {w : World} {H : Hp} {h : Heap} {a : Addr} {xs : List (NestedKey × Addr × Value)} (n : NAt w H a xs) (ok : HOk P w H h) : (a == sysModules) = false ∧ h.DictOfH (nestedKind P w) a xs := by
  obtain ⟨e, _, hk⟩ := n
  obtain ⟨⟨hs, o, es, ep, h1, h2, h3, h4, h5⟩, _⟩ := (show ObjOk P w H h a (.ext (RawN w a xs)) from ok _ _ e)
  exact ⟨hs, o, es, ep, h1, h2, h3, h4, fun x hx => ⟨NkV.is ok (hk x hx).1 rfl, (hk x hx).2⟩, h5⟩
theorem KN.keys {K : PySem.W.Frag} {F H : Hp} (e : Ex F H) : ∀ {kds : List (NestedKey × D)} {xs : List (NestedKey × Addr × Value)}, KN K F kds xs → ∀ x ∈ xs, NkV H (.ref x.2.1) x.1 ∧ x.1.depth ≤ 8
  | _, _, .nil, x, hx => by cases hx
  | _, _, .cons (a := p) (b := q) h t, x, hx => by
    rcases List.mem_cons.mp hx with rfl | hx
    · obtain ⟨z1, ⟨d, z2, zd, z3⟩, _⟩ := h
      rw [← z1]
      exact ⟨Rep.nk e z3 z2, zd⟩
    · exact KN.keys e t x hx
theorem KN.val {K : PySem.W.Frag} {F : Hp} (k : NestedKey) : ∀ {kds : List (NestedKey × D)} {xs : List (NestedKey × Addr × Value)}, KN K F kds xs → (valD kds k = none ∧ atKey xs k = none) ∨ ∃ d p v, valD kds k = some d ∧ atKey xs k = some p ∧ RelV v p.2 ∧ Rep K F v d
  | _, _, .nil => .inl ⟨rfl, rfl⟩
  | _, _, .cons (a := p) (b := q) h t => by
    obtain ⟨z1, _, v, z4, z5⟩ := h
    by_cases e : p.1 = k
    · refine .inr ⟨p.2, q.2, v, ?_, ?_, z4, z5⟩
      · simp [valD, List.find?_cons, e]
      · simp [atKey, List.find?_cons, ← z1, e]
    · have e2 : ¬ q.1 = k := fun z => e (z1.trans z)
      rcases KN.val k t with ⟨h1, h2⟩ | ⟨d, p', v', h1, h2, h3, h4⟩
      · refine .inl ⟨?_, ?_⟩
        · simpa [valD, List.find?_cons, e] using h1
        · simpa [atKey, List.find?_cons, e2] using h2
      · refine .inr ⟨d, p', v', ?_, ?_, h3, h4⟩
        · simpa [valD, List.find?_cons, e] using h1
        · simpa [atKey, List.find?_cons, e2] using h2
theorem KN.len {K : PySem.W.Frag} {F : Hp} {kds : List (NestedKey × D)} {xs : List (NestedKey × Addr × Value)} (h : KN K F kds xs) : kds.length = xs.length := Paired.length h
theorem any_val {kds : List (NestedKey × D)} {k : NestedKey} : (kds.any fun kv => decide (kv.1 = k)) = (valD kds k).isSome := by
  unfold valD
  induction kds with
  | nil => rfl
  | cons a l ih =>
    by_cases e : a.1 = k
    · simp [List.find?_cons, e]
    · simp only [List.any_cons, e, decide_false, Bool.false_or, List.find?_cons]
      exact ih
theorem KN.put {K : PySem.W.Frag} {F : Hp} {kds : List (NestedKey × D)} {xs : List (NestedKey × Addr × Value)} (h : KN K F kds xs) {k : NestedKey} {b : Addr} {r : Value} {dk d : D} {v : V} (hk : dk.nkey = some k) (hd : k.depth ≤ 8) (rk : Rep K F (.ref b) dk) (rv : RelV v r) (rd : Rep K F v d) :
    KN K F (putD kds k d) (storedH xs k b r) := by
  have ev := KN.val k h
  unfold putD storedH
  rw [any_val]
  rcases ev with ⟨h1, h2⟩ | ⟨d', p', v', h1, h2, _⟩
  · rw [h1, h2]
    rw [if_neg (by simp), if_neg (by simp)]
    exact Paired.snoc h ⟨rfl, ⟨dk, hk, hd, rk⟩, v, rv, rd⟩
  · rw [h1, h2, if_pos (show (some d').isSome = true from rfl), if_pos (show (some p').isSome = true from rfl)]
    clear h1 h2
    induction h with
    | nil => exact .nil
    | @cons p q ps qs hq t ih =>
      refine .cons ?_ ih
      obtain ⟨z1, z2, v2, z4, z5⟩ := hq
      unfold putAt
      dsimp only
      by_cases e : p.1 = k
      · rw [if_pos e, if_pos (by rw [← z1]; exact e)]
        exact ⟨z1, z2, v, rv, rd⟩
      · rw [if_neg e, if_neg (by rw [← z1]; exact e)]
        exact ⟨z1, z2, v2, z4, z5⟩
end DL
end
section
set_option Elab.async false
set_option linter.all false
set_option maxRecDepth 100000
set_option maxHeartbeats 4000000
namespace DL
open PySem PySem.Spec PyProof.Rows L2
section
variable {X : Cx} {pos : Pos}
open PySem.Builtin in
theorem len_fn {prog : Program} {w : World} {A : Around} {E : Value → Shared → Prop} {s : Shared} {K : PySem.W.Frag} {x C f : Addr} {ox : Obj} {od : Option Obj} {Q : Value → Shared → Prop} (kin : K.In s.heap) (I : PySem.W.InstAt s.heap x ox C od)
    (hs : PySem.W.findIn K (.ref C) "__len__" = some (some (.ref f))) (hf : PySem.W.isFn K (.ref f) = true)
    (h : wpAny (model prog w) A.in1 (call (.ref f) [.ref x]) (fun r s' => ∃ n u, r = .int n u ∧ 0 ≤ n ∧ n < 2 ^ 63 ∧ Q (.int n s'.toks) { s' with toks := s'.toks + 1 }) E s) : wpAny (model prog w) A (call (.builtin "len") [.ref x]) Q E s := by
  refine Calls.call_function_entry kind_len plain_len entry_len (args_len1 _) ?_
  unfold Builtin.«len»
  refine wpAny_bind (m := oneArg "len" _) (wpAny_pure ?_)
  refine wpAny_bind (m := callSpecial? (.ref x) (Str.ofString "__len__")) (PySem.W.special_fn kin I hs (beq_iff_eq.mp hf) (wpAny_mono h (fun r s' hr => ?_) fun _ _ y => y))
  obtain ⟨n, u, rfl, h0, h1, hq⟩ := hr
  refine wpAny_bind (wpAny_holding (wpAny_pure ?_))
  refine wpAny_bind (wpAny_letGo ?_)
  show wpAny _ _ (if n < 0 then _ else _) _ _ _
  rw [if_neg (by omega)]
  show wpAny _ _ (if n ≥ 2 ^ 63 then _ else _) _ _ _
  rw [if_neg (by omega)]
  exact wpAny_bind (wpAny_mkInt (wpAny_pure ⟨_, rfl, hq⟩))
theorem goes_i1 {CX : CXT} {k : Nat} {f : Addr} {fd : FuncData} {ps : List Str} {sp : Sp} {E : XK} {pins : List (Addr × Obj)} {σ : L2.St} {H : Hp} {s : Shared} {Q : VK} {us ws : List Value} {zs : List V} (F : FnG X.prog X.w X.K X.mg X.base CX k f fd ps sp) (hA : X.A.guards = some []) (hr : Room (k + 1) X.A)
    (bd : ∀ s : Shared, X.K.In s.heap → ws.length = ps.length → BindsTo s fd ⟨us, []⟩ (ps.zip ws)) (hx : Passes CX X E)
    (I : Inv X pins σ H s) (r : Vals zs ws) (h : sp zs H Q E) : wpAny (model X.prog X.w) X.A.in1 (call (.ref f) us) (EP X pins σ Q) X.xe s := by
  have many : ws.length = ps.length := r.length ▸ F.many zs H Q E h
  refine wpAny_call (codeAny_mono (F.goes X.A.in1 X.stack s H ⟨us, []⟩ ws zs Q E (by first | exact hA | simpa [Around.in1] using hA) hr.in1 I.env0.in1 (bd s I.kIn many) r h) ?_)
  intro res s' z
  match res, z with
  | .error er, z => exact hx pins σ H s er s' I z
  | .ok (.ret u), z => exact I.after z
  | .ok .next, z => exact z.elim
  | .ok .brk, z => exact z.elim
  | .ok .cont, z => exact z.elim
def rLenO (C : Addr) (sp : SpD) (ds : List D) (G : GH) (Q : DQ) : Prop := match ds with
  | [x] => (match x.cur G with
    | .obj C1 _ => C1 = C ∧ sp [x] G fun d G' => match d with
      | .int n => 0 ≤ n ∧ n < 2 ^ 63 ∧ Q (.int n) G'
      | _ => False
    | _ => False)
  | _ => False
def vLenO (X : Cx) (C : Addr) (sp : SpD) : List V → Hp → VK → Prop := fun xs H Q => ∃ a dx fs, xs = [.ref a] ∧ H a = some (.ins C dx fs) ∧ SpOf X.K sp [.ref a] H (fun v H' => ∃ n, v = .int n ∧ 0 ≤ n ∧ n < 2 ^ 63 ∧ Q v H') (fun _ _ _ => False)
theorem cr_lenO {C : Addr} {k : Nat} {ps : List Str} {sp : SpD} (c : CalM X.prog X.w X.K X.mg X.base C "__len__" k ps sp) (hA : X.A.guards = some []) (hr : Room (k + 1) X.A) : CallR X (.builtin "len") (vLenO X C sp) := by
  obtain ⟨f, fd, M, Fn, hb⟩ := c.ex
  intro pins s σ H xs us Q I r hq
  obtain ⟨a, dx, fs, rfl, ha, q⟩ := hq
  rw [Vals.ref1 r]
  obtain ⟨mA, J, _⟩ := ins_get I.hok ha
  obtain ⟨od, J, _⟩ := J.look
  refine len_fn I.kIn J M.at_ M.fn ?_
  have r2 : Vals [V.ref a] [Value.ref a] := .cons rfl .nil
  refine wpAny_mono (goes_i1 (us := [.ref a]) Fn hA hr (fun s2 i l => by simpa using hb s2 [.ref a] i (by simpa using l)) pass0 I r2 q) (fun w s' z => ?_) fun _ _ z => z
  obtain ⟨v', H', I', rv, n, rfl, h0, h1, q'⟩ := z
  obtain ⟨t, rfl⟩ := rv
  exact ⟨n, t, rfl, h0, h1, .int n, H', I'.tok _, ⟨_, rfl⟩, q'⟩
theorem cd_lenO {C : Addr} {k : Nat} {ps : List Str} {sp : SpD} (c : CalM X.prog X.w X.K X.mg X.base C "__len__" k ps sp) (hA : X.A.guards = some []) (hr : Room (k + 1) X.A) : CallD X (.builtin "len") (rLenO C sp) := by
  refine ⟨_, cr_lenO c hA hr, fun F H G vs ds g rs Q' h Q k => ?_⟩
  unfold rLenO at h
  split at h
  · rename_i x
    split at h
    · rename_i C1 fs e1
      obtain ⟨rfl, h⟩ := h
      cases rs with
      | cons r1 rt =>
        cases rt
        obtain ⟨a, d1, k1, rfl, ha, _⟩ := cur_obj g r1 e1
        refine ⟨a, d1, k1, rfl, ha, F, G, [x], _, g, .cons r1 .nil, h, ?_⟩
        intro F' H' v d G' e1 g1 r1 h1
        split at h1
        · cases r1
          exact ⟨_, rfl, h1.1, h1.2.1, k F' H' _ _ G' e1 g1 (.int _) h1.2.2⟩
        · exact h1.elim
    · exact h.elim
  · exact h.elim
end
end DL
end
section
set_option Elab.async false
set_option linter.all false
set_option maxRecDepth 100000
set_option maxHeartbeats 4000000
namespace DL
open PySem PySem.Spec PyProof.Rows L2
set_option maxRecDepth 8000 in
theorem ext_tup (l : Addr) (items : Array Value) (n : Nat) (b : Addr) (items2 : Array Value) (n2 : Nat) (dd : Option Addr) (sl : Array (Option Value)) (hs0 : ¬(!items.isEmpty && Builtin.List.listTooLong (items.size + items2.size)) = true) (hs1 : items.size ≤ sizeLine) (hs2 : items.size + items2.size ≤ sizeLine + 1 := by seq_fits) :
    Meets (Builtin.«list.extend» ⟨[.ref l, .ref b], []⟩) (fun _ R s => s.heap.get? l = some { cls := .type "list", dict := none, data := .seq items n, slots := #[] } ∧ s.heap.get? b = some { cls := .type "tuple", dict := dd, data := .seq items2 n2, slots := sl } ∧ R (.ok (.ret Value.none)) { s with heap := s.heap.update l (Obj.mapSeq fun x => x ++ items2), toks := s.toks }) :=
  .of_wp fun prog w A R s h => by
    obtain ⟨hp, g, d, tk, os⟩ := s; obtain ⟨hl, hb, h⟩ := h; have f1 := AutoSeq1.idx_int; have f2 := AutoSeq1.sub_tuple_tuple; have f3 := AutoSeq1.sub_list_list; have f4 := AutoSeq1.sub_tuple_list; have f5 := AutoSeq1.sub_list_tuple;
    have hz' : (items ++ items2).size ≤ sizeLine + 1 := by rw [Array.size_append]; exact hs2
    wp_walk using (wpAny_updateSeq hl rfl (hz := hs1) (_hz' := hz')), AutoSeq1.wpAny_loadPart' hl, AutoSeq1.wpAny_loadPart' hb; exact ⟨_, rfl, h⟩
section
variable {X : Cx}
def vExtT : V → List V → Hp → VK → Prop := fun x vs H Q => ∃ l b xs zs, x = .ref l ∧ vs = [.ref b] ∧ H l = some (.lst xs) ∧ H b = some (.tup zs) ∧ xs.length + zs.length ≤ sizeLine ∧ Q .non (upd H l (.lst (xs ++ zs)))
theorem mt_extT : MtM X "list.extend" vExtT := by
  intro pins s σ H x vs v us Q I rx rv h
  obtain ⟨l, b, xs, zs, rfl, rfl, hH, hB, hz, q⟩ := h
  cases rx
  obtain ⟨u, rfl, ru⟩ := rv.one
  cases ru
  obtain ⟨z, its, n, r, hl, e⟩ := I.lstM hH
  obtain ⟨z2, its2, r2, o2, e2, hc, n2, hd⟩ := (show ObjOk X.prog X.w H s.heap b (.tup zs) from I.hok _ _ hB)
  have hl2 := r2.length
  obtain ⟨cls, dd, dt, sl⟩ := o2
  simp only at hc hd
  subst hc hd
  have hsz : its.toArray.size + its2.toArray.size ≤ sizeLine := by rw [List.size_toArray, List.size_toArray]; omega
  have hlong : ¬ (!its.toArray.isEmpty && Builtin.List.listTooLong (its.toArray.size + its2.toArray.size)) = true := by
    rw [notLongL hsz, Bool.and_false]
    exact Bool.false_ne_true
  refine call_meets F.slot_list_extend ⟨_, e, rfl⟩ F.entry_list_extend (F.args_list_extend_2 _ _)
    (ext_tup l its.toArray n b its2.toArray n2 dd sl hlong (by rw [List.size_toArray]; omega) (by omega)) ⟨e, e2, ?_⟩
  refine ⟨.non, _, I.lset (its' := its ++ its2) hH e (by simp) (r.append r2) ?_, rfl, q⟩
  rw [List.length_append]
  omega
/-- l.extend(t), t a tuple -/
def rExtT (x : D) (ds : List D) (G : GH) (Q : DQ) : Prop := match x, ds with
  | .rf a, [.tup ys] => (match G a with
    | some (.lst xs) => xs.length + ys.length ≤ sizeLine ∧ Q .non (gput G a (.lst (xs ++ ys)))
    | _ => False)
  | _, _ => False
theorem md_extT : MtD X "list.extend" rExtT := by
  refine ⟨_, mt_extT, fun F H G x dx vs ds g rx rs Q' h Q k => ?_⟩
  unfold rExtT at h
  split at h
  · rename_i a ys
    split at h
    · rename_i xs eg
      cases rx
      cases rs with
      | cons r b =>
        cases b
        cases r with
        | tup hb rz =>
          obtain ⟨fa, ws, ha, rw'⟩ := g.at_ a _ eg
          refine ⟨a, _, ws, _, rfl, rfl, ha, g.ex _ _ hb, by rw [rw'.length, rz.length]; exact h.1, ?_⟩
          exact k F _ _ _ _ (Go.put eg) (g.put (o := .lst (xs ++ ys)) eg rfl rfl ⟨_, upd_same, rw'.append rz⟩) .non h.2
    · exact h.elim
  · exact h.elim
end
end DL
end
section
set_option Elab.async false
set_option linter.all false
set_option maxRecDepth 100000
set_option maxHeartbeats 4000000
namespace DL
open PySem PySem.Spec PyProof.Rows L2
end DL
end
section
set_option Elab.async false
set_option linter.all false
set_option maxRecDepth 100000
set_option maxHeartbeats 4000000
namespace DL
open PySem PySem.Spec PyProof.Rows L2
end DL
end
section
set_option Elab.async false
set_option linter.all false
set_option maxRecDepth 100000
set_option maxHeartbeats 4000000
namespace DL
open PySem PySem.Spec PyProof.Rows L2 HT
end DL
end
section
set_option Elab.async false
set_option linter.all false
set_option maxRecDepth 100000
set_option maxHeartbeats 4000000
namespace DL
open PySem PySem.Spec PyProof.Rows L2
mutual
def D.pyR : D → PyData
  | .non => .none
  | .bl b => .bool b
  | .int i => .int i
  | .str x => .str x
  | .tup xs => .tuple (D.pysR xs)
  | .lst xs => .list (D.pysR xs)
  | .dK _ => .dict []
  | _ => .none
def D.pysR : List D → List PyData
  | [] => []
  | x :: xs => D.pyR x :: D.pysR xs
end
mutual
def D.plR : D → Bool
  | .non | .bl _ | .int _ | .str _ => true
  | .tup xs | .lst xs => D.plsR xs
  | .dK kds => kds.isEmpty
  | _ => false
def D.plsR : List D → Bool
  | [] => true
  | x :: xs => D.plR x && D.plsR xs
end
/-- the place of the modules is in the written part -/
def SysM (K : PySem.W.Frag) : Prop := ∃ o, K.lookup sysModules = some o
section
variable {X : Cx} {pins : List (Addr × Obj)} {σ : L2.St} {F H : Hp} {s : Shared}
theorem sysM_free (I : Inv X pins σ H s) (h : SysM X.K) : H sysModules = none := by
  obtain ⟨o, e⟩ := h
  exact (I.bs _ o (I.ok.mod.kin _ _ e)).2
mutual
theorem Rep.readsR (I : Inv X pins σ H s) (e : Ex F H) (hs : H sysModules = none) : ∀ (d : D) (v : V) (u : Value), Rep X.K F v d → d.plR = true → RelV v u → ∃ as, Reads s.heap u d.pyR as ∧ sysModules ∉ as
  | .non, _, _, h, _, r => by cases h; cases r; exact ⟨_, Reads.none, by simp⟩
  | .bl b, _, _, h, _, r => by cases h; cases r; exact ⟨_, Reads.bool b, by simp⟩
  | .int i, _, _, h, _, r => by cases h; obtain ⟨t, rfl⟩ := r; exact ⟨_, Reads.int i t, by simp⟩
  | .str x, _, _, h, _, r => by cases h; obtain ⟨t, rfl⟩ := r; exact ⟨_, Reads.str x t, by simp⟩
  | .tup xs, _, _, h, p, r => by
    cases h with
    | tup ha rs =>
      cases r
      obtain ⟨its, rv, ⟨o, ho, hc, n, hd⟩, _⟩ := I.tuple (.inl (.inl (e _ _ ha)))
      obtain ⟨as, hr, hn⟩ := Reps.readsR I e hs xs _ its rs p rv
      exact ⟨_, Reads.tuple ho hc hd hr, hn⟩
  | .lst xs, _, _, h, p, r => by
    cases h with
    | lst ha rs =>
      cases r
      obtain ⟨its, rv, ⟨o, n, ho, hc, _, hd⟩, _⟩ := I.list (.inl (.inl (e _ _ ha)))
      obtain ⟨as, hr, hn⟩ := Reps.readsR I e hs xs _ its rs p rv
      refine ⟨_, Reads.list ho hc hd hr, ?_⟩
      rw [List.mem_cons, not_or]
      exact ⟨fun z => (by rw [← z] at ha; rw [e _ _ ha] at hs; cases hs), hn⟩
  | .dK kds, _, _, h, p, r => by
    cases h with
    | dK ha hk rs =>
      cases r
      have : kds = [] := List.isEmpty_iff.mp p
      subst this
      rename_i a kvs
      have : kvs = [] := by simpa using hk
      subst this
      obtain ⟨hz, hs0, vs, kv, hdo⟩ := I.hok a _ (e _ _ ha)
      cases kv
      have rd : Reads s.heap (.ref a) (.dict []) [a] := PyProof.V.reads_dictOf (enc := fun k : Key => match k with | .inl i => PyData.int i | .inr x => PyData.str x) (bs := []) (D := []) (fun k key h => by
        have r := relV_key (show keyIs k key = true from h)
        cases k with
        | inl i => obtain ⟨t, rfl⟩ := r; exact .int i t
        | inr x => obtain ⟨t, rfl⟩ := r; exact .str x t) hdo .nil
      refine ⟨_, rd, ?_⟩
      rw [List.mem_singleton]
      exact fun z => by rw [← z] at ha; rw [e _ _ ha] at hs; cases hs
  | .ty _, _, _, _, p, _ => by cases p
  | .dT _, _, _, _, p, _ => by cases p
  | .obj _ _, _, _, _, p, _ => by cases p
  | .rf _, _, _, _, p, _ => by cases p
  | .scr _, _, _, _, p, _ => by cases p
theorem Reps.readsR (I : Inv X pins σ H s) (e : Ex F H) (hs : H sysModules = none) : ∀ (ds : List D) (vs : List V) (us : List Value), Reps X.K F vs ds → D.plsR ds = true → Vals vs us → ∃ as, ReadsAll s.heap us (D.pysR ds) as ∧ sysModules ∉ as
  | [], _, _, h, _, r => by
    cases h
    cases r
    exact ⟨_, ReadsAll.nil, by simp⟩
  | d :: ds, _, _, h, p, r => by
    have p' : d.plR = true ∧ D.plsR ds = true := by simpa [D.plsR] using p
    cases h with
    | cons h1 h2 =>
      cases r with
      | cons r1 r2 =>
        obtain ⟨as, q1, n1⟩ := Rep.readsR I e hs d _ _ h1 p'.1 r1
        obtain ⟨bs, q2, n2⟩ := Reps.readsR I e hs ds _ _ h2 p'.2 r2
        refine ⟨_, ReadsAll.cons q1 q2, ?_⟩
        rw [List.mem_append, not_or]
        exact ⟨n1, n2⟩
end
end
section
variable {X : Cx} {pos : Pos}
def rReprG (ds : List D) (G : GH) (Q : DQ) : Prop := match ds with
  | [d] => d.plR = true ∧ d.pyR.showable = true ∧ d.pyR.depth ≤ 60 ∧ d.pyR.shown.length ≤ sizeLine ∧ Q (.str d.pyR.shown) G
  | _ => False
theorem cr_reprG (hu : X.A.units + 100 < cLine) (hA : X.A.guards = some []) (hm : SysM X.K) : CallR X (.builtin "repr") (fun vs H Q => ∃ F v d, vs = [v] ∧ Ex F H ∧ Rep X.K F v d ∧ d.plR = true ∧ d.pyR.showable = true ∧ d.pyR.depth ≤ 60 ∧ d.pyR.shown.length ≤ sizeLine ∧ Q (.str d.pyR.shown) H) := by
  intro pins s σ H vs us Q I r h
  obtain ⟨F, v, d, rfl, ex, hd, hp, hs, hde, hz, q⟩ := h
  cases r with
  | cons r rr =>
    cases rr
    obtain ⟨as, rd, hn⟩ := Rep.readsR I ex (sysM_free I hm) d _ _ hd hp r
    revert rd hs hde hz q
    generalize d.pyR = py
    intro hs hde hz q rd
    have gen : ∀ {a : Addr}, Reads s.heap (.ref a) py as → wpAny (model X.prog X.w) X.A (call (.builtin "repr") [.ref a]) (EP X pins σ Q) X.xe s := fun rd => by
      refine repr_of_reads' (h₀ := s.heap) rd hs (fun _ => hn) hA (by omega) (fun _ _ z => z) (fun h' u tk hk => ?_) hz
      exact ⟨.str _, H, I.kept (t' := tk) hk, ⟨_, rfl⟩, q⟩
    cases rd with
    | none => exact P.repr_of_none ⟨.str _, H, I.tok _, ⟨_, rfl⟩, q⟩
    | bool b => exact P.repr_of_bool ⟨.str _, H, I.tok _, ⟨_, rfl⟩, by cases b <;> exact q⟩
    | int i t => exact P.repr_of_int (of_decide_eq_true hs) ⟨.str _, H, I.tok _, ⟨_, rfl⟩, q⟩
    | str x t => exact P.repr_of_str ⟨.str _, H, I.tok _, ⟨_, rfl⟩, q⟩ hz
    | list h1 h2 h3 h4 => exact gen (.list h1 h2 h3 h4)
    | tuple h1 h2 h3 h4 => exact gen (.tuple h1 h2 h3 h4)
    | dict h1 h2 h3 h4 h5 => exact gen (.dict h1 h2 h3 h4 h5)
theorem cd_reprG (hu : X.A.units + 100 < cLine) (hA : X.A.guards = some []) (hm : SysM X.K) : CallD X (.builtin "repr") rReprG := by
  refine ⟨_, cr_reprG hu hA hm, fun F H G vs ds g rs Q' h Q k => ?_⟩
  unfold rReprG at h
  split at h
  · rename_i d
    cases rs with
    | cons r b =>
      cases b
      obtain ⟨h1, h2, h3, h4, h5⟩ := h
      exact ⟨F, _, d, rfl, g.ex, r, h1, h2, h3, h4, k F H _ _ G Go.refl g (.str _) h5⟩
  · exact h.elim
end
def sysB (K : PySem.W.Frag) : Bool := (K.lookup sysModules).isSome
theorem sysB_ok {K : PySem.W.Frag} (h : sysB K = true) : SysM K := Option.isSome_iff_exists.mp h
end DL
end
section
set_option Elab.async false
set_option linter.all false
set_option maxRecDepth 100000
set_option maxHeartbeats 4000000
namespace DL
open PySem PySem.Spec PyProof.Rows L2
end DL
end
section
set_option Elab.async false
set_option linter.all false
set_option maxRecDepth 100000
set_option maxHeartbeats 4000000
namespace DL
open PySem PySem.Spec PyProof.Rows L2
section
variable {X : Cx} {pos : Pos}
theorem Reps.repN {K : PySem.W.Frag} {F : Hp} {vs : List V} {ds : List D} (r : Reps K F vs ds) : ∀ n : Nat, Reps K F (List.replicate n vs).flatten (List.replicate n ds).flatten
  | 0 => .nil
  | n + 1 => by
    rw [List.replicate_succ, List.replicate_succ, List.flatten_cons, List.flatten_cons]
    exact r.append (Reps.repN r n)
end
end DL
end
section
set_option Elab.async false
set_option linter.all false
set_option maxRecDepth 100000
set_option maxHeartbeats 4000000
namespace DL
open PySem PySem.Spec PyProof.Rows L2 ClX
end DL
end
section
set_option Elab.async false
set_option linter.all false
set_option maxRecDepth 100000
set_option maxHeartbeats 4000000
namespace DL
open PySem PySem.Spec PyProof.Rows L2 ClX
def fnA (K : PySem.W.Frag) (a : Addr) : He.FnW := match K.lookup a with
  | some ⟨_, _, .func fd, _⟩ => some (fd.name, fd.qualname, fd.params, fd.body, fd.scope, fd.globals, fd.closure, fd.builtins)
  | _ => none
def okA (K : PySem.W.Frag) (a : Addr) (d : He.DefD) : Bool := PySem.W.keepIn K (.ref a) && (match K.lookup a with
  | some ⟨_, _, .func fd, _⟩ => PySem.W.codeIn K fd.code d.qual && (He.dflB K fd.defaults (d.dvs K) && He.kwdB K fd.kwdefaults (d.kws K))
  | _ => false)
theorem funA {K : PySem.W.Frag} {a : Addr} {d : He.DefD} (e : fnA K a = d.val) (c : okA K a d = true) : ∃ fd, FunD K d.name d.qual d.params d.body d.scope (d.dvs K) (d.kws K) a fd := by
  obtain ⟨kp, c2⟩ := He.ba c
  unfold fnA at e
  cases q : K.lookup a with
  | none =>
    rw [q] at c2
    cases c2
  | some o =>
    obtain ⟨oc, od, dt, osl⟩ := o
    rw [q] at c2 e
    cases dt with
    | func fd =>
      obtain ⟨n1, n2, n3, n4, n5, n6, n7, n8, n9, n10, n11, n12, n13, n14, n15⟩ := fd
      have e2 : (some (n1, n2, n3, n4, n5, n6, n7, n15) : He.FnW) = some (d.name, d.qual, d.params, .stmts d.body, d.scope, mainGlobals, [], builtinsNs) := e
      simp only [Option.some.injEq, Prod.mk.injEq] at e2
      obtain ⟨h1, h2, h3, h4, h5, h6, h7, h8⟩ := e2
      subst h1 h2 h3 h4 h5 h6 h7 h8
      have c3 : (PySem.W.codeIn K n13 d.qual && (He.dflB K n8 (d.dvs K) && He.kwdB K n9 (d.kws K))) = true := c2
      obtain ⟨k1, k2⟩ := He.ba c3
      obtain ⟨k3, k4⟩ := He.ba k2
      exact ⟨_, ⟨oc, od, n8, n9, n10, n11, n12, n13, n14, osl, rfl, q, k1, He.dflB_ok k3, He.kwdB_ok k4⟩, kp⟩
    | _ => cases c2
end DL
end
section
set_option Elab.async false
set_option linter.all false
set_option maxRecDepth 100000
set_option maxHeartbeats 4000000
namespace DL
open PySem PySem.Spec PyProof.Rows L2
section
variable {X : Cx} {pos : Pos}
def rBinO (C : Addr) (sp : SpD) : DR2 := fun x y G Q => match x.cur G, y.cur G with
  | .obj C1 _, .obj C2 _ => C1 = C ∧ C2 = C ∧ sp [x, y] G fun d G' => match d.cur G' with
    | .obj _ _ => Q d G'
    | _ => False
  | _, _ => False
def vBinO (X : Cx) (C : Addr) (sp : SpD) : R2 := fun x y H Q => ∃ a b dx dy fs gs, x = .ref a ∧ y = .ref b ∧ H a = some (.ins C dx fs) ∧ H b = some (.ins C dy gs) ∧ SpOf X.K sp [.ref a, .ref b] H (fun v H' => (∃ c, v = .ref c) ∧ Q v H') (fun _ _ _ => False)
theorem op_binO {C : Addr} {m : Str} {k : Nat} {ps : List Str} {sp : SpD} {op : Operator} (n : NeO X.K C) (c : CalM X.prog X.w X.K X.mg X.base C m k ps sp) (hop : PySem.dunder op.info.2 = m) (hA : X.A.guards = some []) (hr : Room k X.A) : OpR X (binaryOp op) (vBinO X C sp) := by
  obtain ⟨f, fd, M, Fn, hb⟩ := c.ex
  intro pins s σ H x y v u Q I rx ry hq
  obtain ⟨a, b, dx, dy, fs, gs, rfl, rfl, ha, hb', q⟩ := hq
  cases rx
  cases ry
  obtain ⟨mA, J, _⟩ := ins_get I.hok ha
  obtain ⟨mB, J', _⟩ := ins_get I.hok hb'
  obtain ⟨od, J, _⟩ := J.look
  obtain ⟨od', J', _⟩ := J'.look
  obtain ⟨m', hF⟩ := I.fr
  refine PySem.W.binop_K hF I.ok.mod.kin J J'.type n.sf (hop ▸ M.at_) M.fn ?_
  have r2 : Vals [V.ref a, V.ref b] [Value.ref a, Value.ref b] := .cons rfl (.cons rfl .nil)
  refine wpAny_mono (goes_fn (us := [.ref a, .ref b]) Fn hA hr [] (fun s2 i l => by simpa using hb s2 [.ref a, .ref b] i (by simpa using l)) pass0 I r2 q) (fun w s' z => ?_) fun _ _ z => z
  obtain ⟨v', H', I', rv, ⟨b0, rfl⟩, q'⟩ := z
  cases rv
  exact ⟨.ref b0, H', I', rfl, q'⟩
theorem od_binO {C : Addr} {m : Str} {k : Nat} {ps : List Str} {sp : SpD} {op : Operator} (n : NeO X.K C) (c : CalM X.prog X.w X.K X.mg X.base C m k ps sp) (hop : PySem.dunder op.info.2 = m) (hA : X.A.guards = some []) (hr : Room k X.A) : OpD X (binaryOp op) (rBinO C sp) := by
  refine ⟨_, op_binO n c hop hA hr, fun F H G x y dx dy g rx ry Q' h Q k => ?_⟩
  unfold rBinO at h
  split at h
  · rename_i C1 fs1 C2 fs2 e1 e2
    obtain ⟨rfl, rfl, h⟩ := h
    obtain ⟨a, d1, k1, rfl, ha, _⟩ := cur_obj g rx e1
    obtain ⟨b, d2, k2, rfl, hb, _⟩ := cur_obj g ry e2
    refine ⟨a, b, d1, d2, k1, k2, rfl, rfl, ha, hb, F, G, [dx, dy], _, g, .cons rx (.cons ry .nil), h, ?_⟩
    intro F' H' v d G' e1 g1 r1 h1
    split at h1
    · rename_i C3 fs3 e3
      obtain ⟨c, d3, k3, rfl, hc, _⟩ := cur_obj g1 r1 e3
      exact ⟨⟨_, rfl⟩, k F' H' _ _ G' e1 g1 r1 h1⟩
    · exact h1.elim
  · exact h.elim
end
end DL
end
section
set_option Elab.async false
set_option linter.all false
set_option maxRecDepth 100000
set_option maxHeartbeats 4000000
namespace DL
open PySem PySem.Spec PyProof.Rows L2 PySem.Calls
abbrev exTl : List Value := [.type "Exception", .type "BaseException", .type "object"]
/-- what the written part says of the error at C and of its __init__ -/
structure XCls (K : PySem.W.Frag) (fl : Str) (C : Addr) (qual : Str) (params : Arguments) (body : List Stmt) (scope : Scope) (fI cc cda : Addr) (dV kV doc pm ct : Value) (an : Option Addr) : Prop where
  q : PySem.W.excInitIn K C exTl "Exception.__new__" = true
  kC : PySem.W.keepIn K (.ref C) = true
  iI : PySem.W.findIn K (.ref C) "__init__" = some (some (.ref fI))
  fn : ∃ oc od osl, K.lookup fI = some ⟨oc, od, .func (PySem.W.fnX "__init__" qual params body scope [("__class__", cc)] dV kV doc pm an (.ref cda) ct), osl⟩
  tI : PySem.W.typeIn K (.ref fI) = some (.type "function")
  ce : ∃ cl cld csl, K.lookup cc = some ⟨cl, cld, .cell (some (.ref C)), csl⟩
  co : ∃ ccl cdd ccs vs file tf, K.lookup cda = some ⟨ccl, cdd, .fields vs, ccs⟩ ∧ vs[2]? = some (.str file tf) ∧ (fl == file) = true
  cd : PySem.W.codeIn K (.ref cda) qual = true
  xB : PySem.W.subIn K (.ref C) (.type "BaseException") = some true
  xT : PySem.W.typeIn K (.ref C) = some (.type "type")
  xE : PySem.W.subIn K (.ref C) (.type "Exception") = some true
  xC : PySem.W.mroIn K C (.ref C) = some true
  su : PySem.W.nsIn K mainGlobals "super" = some none
  op : PySem.W.nsIn K cStatics "thirdparty.any" = some none
  al : PySem.W.ks_superIn K C C "__init__" = some (some (.builtin "Exception.__init__"))
/-- how super().__init__("text") is read, at its places in the text -/
def SupT (msg : Str) (j : Nat) (p0 p1 p2 p3 p4 : Pos) : Prop := ∀ env : Env, ∃ pl : Sem Bool, eval (.Call (.Attribute (.Call (.Name "super" p0) [] [] p1) "__init__" p2) [.Constant (.str msg) j p3] [] p4) env = (do
  let ov ← attributeBase (.Call (.Name "super" p0) [] [] p1) "__init__" env (eval (.Call (.Name "super" p0) [] [] p1) env)
  standAt p2.atName
  let (f, first) ← holding [ov] (getMethod ov "__init__" pl)
  callWith p4 f first (backTo p4 (starEach [.Constant (.str msg) j p3] env)) [])
section
variable {P : Program} {w : World} {K : PySem.W.Frag} {fl : Str} {C : Addr} {qual : Str} {params : Arguments} {body : List Stmt} {scope : Scope} {fI cc cda : Addr} {dV kV doc pm ct : Value} {an : Option Addr}
/-- the first statement of such an __init__ -/
theorem super_step {A : Around} {E : Value → Shared → Prop} {h base : Heap} {g : Array GenState} {d : Drawn} {t : Nat} {os : OsState} {mg m : Str → Option Value} {L e t0 : Addr} {ar : Arg} {msg : Str} {j : Nat} {p0 p1 p2 p3 p4 p5 : Pos} {bd rest : List Stmt} {Q : Flow → Shared → Prop}
    (T : XCls K fl C qual params body scope fI cc cda dV kV doc pm ct an) (X : K.In h) (M : Mod K mg base) (kb : ∀ b o, base.get? b = some o → h.get? b = some o) (hmg : mg "super" = none)
    (hL : h.Ns L m) (hv : m ar.arg = some (.ref e)) (he : h.get? e = some (HandSPX.excO C t0))
    (hp : (params.posonlyargs ++ params.args).head? = some ar) (hk : scope.kind = .function) (hks : scope.names.lookup ("super" : Str) = some .globalImplicit) (hkc : scope.names.lookup ("__class__" : Str) = some .free) (hka : scope.names.lookup ar.arg = some .local)
    (ht : SupT msg j p0 p1 p2 p3 p4) (hfile : P.main.file = fl) (htop : (P.main.scope.names.lookup ("super" : Str)).isSome = false)
    (hq : ∀ h' t' t1, (∀ b o, b ≠ e → h.get? b = some o → h'.get? b = some o) → h'.get? e = some (HandSPX.excO C t1) →
      PySem.wpAt (model P w) A (.func bd (PySem.W.ksEnv qual scope L fI (.ref cda) cc)) (execs rest (PySem.W.ksEnv qual scope L fI (.ref cda) cc)) Q E ⟨h', g, d, t', os⟩) :
    PySem.wpAt (model P w) A (.func bd (PySem.W.ksEnv qual scope L fI (.ref cda) cc)) (execs (.Expr (.Call (.Attribute (.Call (.Name "super" p0) [] [] p1) "__init__" p2) [.Constant (.str msg) j p3] [] p4) p5 :: rest) (PySem.W.ksEnv qual scope L fI (.ref cda) cc)) Q E ⟨h, g, d, t, os⟩ := by
  obtain ⟨oc, od, osl, lk⟩ := T.fn
  obtain ⟨cl, cld, csl, hcell⟩ := T.ce
  obtain ⟨ccl, cdd, ccs, vs, file, tf, hcode, hvs, hf⟩ := T.co
  obtain ⟨nm, N, qn, bs, bm, hdct, sn, sub, ab, col, dd, k0, k1, k2, k3, k5, hC, hT⟩ := PySem.W.excInit_of X T.q
  have I : PySem.W.InstAt h e (HandSPX.excO C t0) C none := ⟨he, rfl, rfl, trivial⟩
  obtain ⟨mb, b1, b2⟩ := M.blt
  obtain ⟨cdC, hcC⟩ : ∃ cd, PySem.W.clsIn K C = some cd := by
    cases hc : PySem.W.clsIn K C with
    | none =>
      have := T.al
      unfold PySem.W.ks_superIn at this
      rw [hc] at this
      cases this
    | some cd => exact ⟨cd, rfl⟩
  obtain ⟨oD, hD1, hD2⟩ : ∃ oD, h.get? C = some oD ∧ oD.data = .cls cdC := by
    have hcC' := hcC
    unfold PySem.W.clsIn at hcC'
    split at hcC'
    · rename_i c d cd' sl ho
      cases hcC'
      exact ⟨_, X _ _ ho, rfl⟩
    · cases hcC'
  have hne : e ≠ C := PySem.W.ks_ne X I hcC
  have hLe : L ≠ e := fun z => by
    obtain ⟨oL, es, ep, h1, h2, _⟩ := hL
    rw [z, he] at h1
    have z2 := Option.some.inj h1
    subst z2
    cases h2
  obtain ⟨pl, htq⟩ := ht (PySem.W.ksEnv qual scope L fI (.ref cda) cc)
  refine PySem.ks_wpAt_execs_cons (PySem.ks_wpAt_Expr_any (PySem.ks_wpAt_MethodCall (pl := pl) ?_ htq) (by show (scope.kind == .module && _) = false; rw [hk]; rfl))
  refine PySem.ks_wpAt_super_base (env := PySem.W.ksEnv qual scope L fI (.ref cda) cc) hks hkc rfl rfl (X _ _ lk) rfl hp rfl (X _ _ hcode) rfl hvs (by rw [hfile]; exact hf) htop ?_
  refine PySem.W.ks_loadName_global hk hks (loadGlobal_builtin (env := PySem.W.ksEnv qual scope L fI (.ref cda) cc) (M.glob.keeps kb) hmg (b1.keeps kb) ((b2 "super" (by decide)).trans (show bootBuiltins "super" = some (.type "super") from Boot.«super»)) ⟨rfl, ?_⟩)
  refine wpAny_loadName_free hk hkc rfl ⟨_, X _ _ hcell, rfl⟩ ?_
  refine wpAny_loadName_local hk hka hL hv ?_
  refine PySem.ks_wpAny_isType_cls hD1 hD2 ⟨rfl, ?_⟩
  refine PySem.ks_wpAny_call_super hD1 hD2 he rfl (fun c z => nomatch z) (PySem.W.looks_mroIn X T.xC) (fun h1 e1 kk1 => ?_)
  have X1 : K.In h1 := X.keeps kk1
  have hmro : PySem.W.Looks (model P w) h1 (mroOf (.ref C)) cdC.mro := fun A Q E s k q => wpAny_bind ((PySem.W.looks_clsIn X1 hcC) A _ E s k (wpAny_pure q))
  have hin : PySem.W.Looks (model P w) h1 (isInstance (.ref e) (.type "Exception")) true := (PySem.W.InstAt.type (M := model P w) (show PySem.W.InstAt h1 e (HandSPX.excO C t0) C none from ⟨kk1 _ _ he, rfl, rfl, trivial⟩)).andThen (PySem.W.looks_subIn X1 T.xE)
  have hal : PySem.W.alongIn K "__init__" ((cdC.mro.dropWhile (· != .ref C)).drop 1) = some (some (.builtin "Exception.__init__")) := by
    have := T.al
    unfold PySem.W.ks_superIn at this
    rw [hcC] at this
    exact this
  refine PySem.ESX.getMethod_super e1 (PySem.W.looks_opaque X1 T.op) hmro rfl X1 hal hne rfl hin ?_
  refine PySem.ESX.callWith_bound (x := e) ?_
  refine spliced_more (Constant_str (spliced_none ?_))
  have kk2 : ∀ b o, h.get? b = some o → (h1.push (PySem.ESX.bw e)).get? b = some o := fun b o z => Heap.get?_push_of_some _ (kk1 b o z)
  refine ⟨Heap.get?_push_at rfl rfl, ?_⟩
  refine PySem.ESX.call_bw (kk2 _ _ hC) (kk2 _ _ he) (Heap.get?_push_at rfl rfl) (by show 1 ≤ sizeLine; rw [sizeLine_eq]; omega) (fun h' t1 kk3 e3 => ?_)
  exact hq h' _ t1 (fun b o hb z => kk3 b o hb (kk2 b o z)) e3
/-- such an __init__ without a store -/
theorem init_runs {A : Around} {R : Result → Shared → Prop} {h base : Heap} {g : Array GenState} {d : Drawn} {t : Nat} {os : OsState} {mg : Str → Option Value} {e t0 : Addr} {ar : Arg} {msg : Str} {j : Nat} {p0 p1 p2 p3 p4 p5 : Pos} {us : List Value} {binds : List (Str × Value)}
    (T : XCls K fl C qual params body scope fI cc cda dV kV doc pm ct an) (hbody : body = [.Expr (.Call (.Attribute (.Call (.Name "super" p0) [] [] p1) "__init__" p2) [.Constant (.str msg) j p3] [] p4) p5]) (X : K.In h) (M : Mod K mg base) (kb : ∀ b o, base.get? b = some o → h.get? b = some o) (hmg : mg "super" = none)
    (he : h.get? e = some (HandSPX.excO C t0)) (hd : A.depth < recursionLimit)
    (hb : ∀ (s : Shared) (oc : Value), BindsTo s (PySem.W.fnX "__init__" qual params body scope [("__class__", cc)] dV kV doc pm an (.ref cda) ct) ⟨.ref e :: us, []⟩ binds) (hloc : ∀ y ∈ binds, scope.names.lookup y.1 = some .local) (hself : binds.reverse.lookup ar.arg = some (.ref e))
    (hp : (params.posonlyargs ++ params.args).head? = some ar) (hk : scope.kind = .function) (hks : scope.names.lookup ("super" : Str) = some .globalImplicit) (hkc : scope.names.lookup ("__class__" : Str) = some .free) (hka : scope.names.lookup ar.arg = some .local)
    (hcell : ∀ x ∈ scope.names, x.2 ≠ .cell) (hco : scope.isCoroutine = false) (hgen : scope.isGenerator = false)
    (ht : SupT msg j p0 p1 p2 p3 p4) (hfile : P.main.file = fl) (htop : (P.main.scope.names.lookup ("super" : Str)).isSome = false)
    (hq : ∀ h' t' t1, (∀ b o, b ≠ e → h.get? b = some o → h'.get? b = some o) → h'.get? e = some (HandSPX.excO C t1) → R (.ok (.ret .none)) ⟨h', g, d, t', os⟩) :
    codeAny (model P w) A (.call (.ref fI) ⟨.ref e :: us, []⟩) R ⟨h, g, d, t, os⟩ := by
  obtain ⟨oc, od, osl, lk⟩ := T.fn
  have nl : h.NoLimit := M.nolimit.keeps kb
  refine PySem.ks_codeAny_call_defAt (fd := PySem.W.fnX "__init__" qual params body scope [("__class__", cc)] dV kV doc pm an (.ref cda) ct) (body := body) (binds := binds) hd (X _ _ lk) rfl nl (PySem.W.codeRec_of X T.cd) rfl (hb _ .none) hcell hloc (fun h1 hns kk => ?_) hco hgen hk
  show PySem.wpAt _ _ _ (execs body (PySem.W.ksEnv qual scope h.objs.size fI (.ref cda) cc)) _ _ _
  rw [hbody]
  refine super_step T (X.keeps kk) M (fun b o z => kk b o (kb b o z)) hmg hns hself (kk _ _ he) hp hk hks hkc hka ht hfile htop fun h' t' t1 k2 e2 => ?_
  refine wpAt_of_wpAny (wpAny_execs_nil ?_)
  exact hq h' t' t1 (fun b o hne z => k2 b o hne (kk b o z)) e2
end
/-- where E() is made -/
theorem pmk_sup0 {X : Cx} {fl : Str} {C : Addr} {qual x : Str} {params : Arguments} {body : List Stmt} {scope : Scope} {fI cc cda : Addr} {dV kV doc pm ct : Value} {an : Option Addr} {ar : Arg} {msg : Str} {j k : Nat} {p p0 p1 p2 p3 p4 p5 pos : Pos}
    (T : XCls X.K fl C qual params body scope fI cc cda dV kV doc pm ct an) (hbody : body = [.Expr (.Call (.Attribute (.Call (.Name "super" p0) [] [] p1) "__init__" p2) [.Constant (.str msg) j p3] [] p4) p5])
    (hb : ∀ (s : Shared) (oc : Value) (e : Addr), BindsTo s (PySem.W.fnX "__init__" qual params body scope [("__class__", cc)] dV kV doc pm an (.ref cda) ct) ⟨[.ref e], []⟩ [(ar.arg, .ref e)])
    (hp : (params.posonlyargs ++ params.args).head? = some ar) (hk : scope.kind = .function) (hks : scope.names.lookup ("super" : Str) = some .globalImplicit) (hkc : scope.names.lookup ("__class__" : Str) = some .free) (hka : scope.names.lookup ar.arg = some .local)
    (hcell : ∀ x ∈ scope.names, x.2 ≠ .cell) (hco : scope.isCoroutine = false) (hgen : scope.isGenerator = false)
    (ht : SupT msg j p0 p1 p2 p3 p4) (hfile : X.prog.main.file = fl) (htop : (X.prog.main.scope.names.lookup ("super" : Str)).isSome = false)
    (hr : Room (k + 1) X.A) (hg : Gl X x) (hm : X.mg x = some (.ref C)) (hmg : X.mg "super" = none) (hdb : (x == ("__debug__" : Str)) = false) :
    PMk X (.Call (.Name x p) [] [] pos) (fun _ H Q => Q (.ref C) none H) := by
  intro pins s σ H Q I h
  obtain ⟨nm, N, qn, bs, bm, hdct, sn, sub, ab, col, dd, k0, k1, k2, k3, k5, hC, hT⟩ := PySem.W.excInit_of I.kIn T.q
  refine wpAny_Call_Name_kw (ld_glob I hg hm ?_ hdb)
  refine PySem.W.callWith_K0 I.kIn T.kC ?_
  obtain ⟨hp0, g, dr, tk, os⟩ := s
  have hsz : hp0.objs.size ≤ hp0.objs.size + 1 := Nat.le_succ _
  have hn : H (hp0.objs.size + 1) = none := I.hok.fresh hsz
  have kk : ∀ b o, hp0.get? b = some o → ((hp0.push (PySem.W.kdv_tup [])).push (PySem.HandSPX.excO C hp0.objs.size)).get? b = some o := fun b o e => Heap.get?_push_of_some _ (Heap.get?_push_of_some _ e)
  have hget : ((hp0.push (PySem.W.kdv_tup [])).push (PySem.HandSPX.excO C hp0.objs.size)).get? (hp0.objs.size + 1) = some (PySem.HandSPX.excO C hp0.objs.size) := by heap_get
  refine wpAny_call (PySem.HandSPX.call_own F.excBase_Exception hT hC (PySem.W.looks_findIn I.kIn T.iI) (fun self => PySem.W.bind_fn I.kIn self T.tI) (by show 0 ≤ sizeLine; exact Nat.zero_le _)
    (init_runs (us := []) (binds := [(ar.arg, .ref (hp0.objs.size + 1))]) T hbody (I.kIn.keeps kk) I.ok.mod (fun b o z => kk b o (I.bk b o z)) hmg hget (hr.make C [] []).depth (fun s oc => hb s oc _) (fun y hy => ?_) (by simp) hp hk hks hkc hka hcell hco hgen ht hfile htop fun h' t' t1 k3 e3 => ?_))
  · rw [List.mem_singleton] at hy
    rw [hy]; exact hka
  · refine ⟨rfl, ?_⟩
    have up : ∀ b o, hp0.get? b = some o → h'.get? b = some o := fun b o z => k3 b o (Nat.ne_of_lt (Nat.lt_of_lt_of_le (Heap.lt_size z) hsz)) (kk b o z)
    exact ⟨hp0.objs.size + 1, _, _, ⟨hp0, g, dr, tk, os⟩, H, .ref C, none, rfl, I, up, Heap.get?_none_of_le hsz, e3, ⟨rfl, rfl⟩, rfl, rfl, hn, rfl, I.bare, raises_own T.xB T.xT, h⟩
end DL
end
section
set_option Elab.async false
set_option linter.all false
set_option maxRecDepth 100000
set_option maxHeartbeats 4000000
namespace DL
open PySem PySem.Spec PyProof.Rows L2
abbrev XFs := List (Str × D)
abbrev DXQ := Addr → XFs → GH → Prop
/-- an error: its class, its attributes -/
def XRep (K : PySem.W.Frag) (F H : Hp) (G : GH) (cls : Value) (d : Option Addr) (C : Addr) (fs : XFs) : Prop :=
  cls = .ref C ∧ ((d = none ∧ fs = []) ∨ ∃ dx vs, d = some dx ∧ H dx = some (.xd vs) ∧ G dx = none ∧ fs ≠ [] ∧ vs.map (·.1) = fs.map (·.1) ∧ Reps K F (vs.map (·.2)) (fs.map (·.2)))
def KpX (K : PySem.W.Frag) (F H : Hp) (G : GH) (σ : L2.St) (E' : DXQ) (W : WX) : Prop := ∀ F' H' G' cls d C fs, Go F H G F' H' G' → Gok K F' H' G' → XRep K F' H' G' cls d C fs → E' C fs G' → W cls d σ H'
def KpXS (K : PySem.W.Frag) (F H : Hp) (G : GH) (E' : DS → DXQ) (W : WX) : Prop := ∀ F' H' σ S G' cls d C fs, Go F H G F' H' G' → Ok K F' H' σ S G' → XRep K F' H' G' cls d C fs → E' S C fs G' → W cls d σ H'
def KpXE (K : PySem.W.Frag) (F H : Hp) (G : GH) (E' : DXQ) (E : XK) : Prop := ∀ F' H' G' cls d C fs, Go F H G F' H' G' → Gok K F' H' G' → XRep K F' H' G' cls d C fs → E' C fs G' → E cls d H'
section
variable {K : PySem.W.Frag} {F H F1 H1 : Hp} {G G1 : GH}
theorem XRep.sub {cls : Value} {d : Option Addr} {C : Addr} {fs : XFs} {G0 : GH} (s : Sub G0 G) (h : XRep K F H G cls d C fs) : XRep K F H G0 cls d C fs := by
  refine ⟨h.1, h.2.imp id ?_⟩
  rintro ⟨dx, vs, h1, h2, h3, h4⟩
  refine ⟨dx, vs, h1, h2, ?_, h4⟩
  cases q : G0 dx with
  | none => rfl
  | some o => rw [s.le dx o q] at h3; cases h3
theorem KpX.mono {σ : L2.St} {E' : DXQ} {W : WX} (e : Go F H G F1 H1 G1) (h : KpX K F H G σ E' W) : KpX K F1 H1 G1 σ E' W := fun F' H' G' cls d C fs a b c q => h F' H' G' cls d C fs (e.trans a) b c q
theorem KpXS.mono {E' : DS → DXQ} {W : WX} (e : Go F H G F1 H1 G1) (h : KpXS K F H G E' W) : KpXS K F1 H1 G1 E' W := fun F' H' σ S G' cls d C fs a b c q => h F' H' σ S G' cls d C fs (e.trans a) b c q
theorem KpXS.at_ {σ : L2.St} {S : DS} {E' : DS → DXQ} {W : WX} (s : Slots K F σ S) (h : KpXS K F H G E' W) : KpX K F H G σ (E' S) W := fun F' H' G' cls d C fs a b c q => h F' H' σ S G' cls d C fs a ⟨b, s.mono a.ex⟩ c q
end
abbrev DTEX := DS → GH → DQ → DXQ → Prop
abbrev DTSX := DEnds → (DS → DXQ) → DS → GH → Prop
structure DEX (X : Cx) (e : Expr) (t' : DTEX) : Prop where
  ex : ∀ W, Takes X W → ∃ t, PE X e t ∧ ∀ F H σ S G, Ok X.K F H σ S G → ∀ Q' E', t' S G Q' E' → ∀ Q, KpE X.K F H G Q' Q → KpX X.K F H G σ E' W → t σ H Q
structure DPX (X : Cx) (st : Stmt) (t' : DTSX) : Prop where
  ex : ∀ W, Takes X W → ∃ t, PS X st t ∧ ∀ F H σ S G, Ok X.K F H σ S G → ∀ D' E', t' D' E' S G → ∀ D0, KpS X.K F H G D' D0 → KpXS X.K F H G E' W → t D0 σ H
structure DPsX (X : Cx) (st : List Stmt) (t' : DTSX) : Prop where
  ex : ∀ W, Takes X W → ∃ t, PSs X st t ∧ ∀ F H σ S G, Ok X.K F H σ S G → ∀ D' E', t' D' E' S G → ∀ D0, KpS X.K F H G D' D0 → KpXS X.K F H G E' W → t D0 σ H
def xE (t : DTE) : DTEX := fun S G Q _ => t S G Q
def xS (t : DTS) : DTSX := fun D' _ S G => t D' S G
section
variable {X : Cx} {pos : Pos}
theorem dpsx_of {st : List Stmt} {t : DTS} (h : DPs X st t) : DPsX X st (xS t) := ⟨fun W _ => by
  obtain ⟨t1, p1, r1⟩ := h.ex
  exact ⟨t1, p1, fun F H σ S G o D' E' h D0 k _ => r1 F H σ S G o D' h D0 k⟩⟩
def dSeqX (t u : DTSX) : DTSX := fun D' E' S G => t { D' with nx := u D' E' } E' S G
theorem dpsx_cons {st : Stmt} {rest : List Stmt} {t u : DTSX} (h1 : DPX X st t) (h2 : DPsX X rest u) : DPsX X (st :: rest) (dSeqX t u) := ⟨fun W tk => by
  obtain ⟨t1, p1, r1⟩ := h1.ex W tk
  obtain ⟨t2, p2, r2⟩ := h2.ex W tk
  refine ⟨_, pss_cons p1 p2, fun F H σ S G o D' E' h D0 k kx => ?_⟩
  exact r1 F H σ S G o _ E' h _ ⟨fun F1 H1 σ1 S1 G1 e1 o1 h1 => r2 F1 H1 σ1 S1 G1 o1 _ E' h1 _ (k.mono e1) (kx.mono e1), k.rt, k.bk, k.ct⟩ kx⟩
theorem dpsx_one {st : Stmt} {t : DTSX} (h1 : DPX X st t) : DPsX X [st] t := ⟨fun W tk => by
  obtain ⟨t1, p1, r1⟩ := h1.ex W tk
  exact ⟨_, pss_one p1, r1⟩⟩
theorem dpx_asg {tg e : Expr} {te : DTEX} {g : DTG} (he : DEX X e te) (hg : DG X tg g) (hs : swapsWithSole [tg] e pos.line X.env = pure false := by rfl) (hw : swappedStores [tg] e X.env = pure none := by rfl)
    (h1 : (assignEach [tg] X.env).map (·.2) = [assign tg X.env] := by rfl) : DPX X (.Assign [tg] e pos) (fun D' E' S G => te S G (fun d G1 => g d S G1 D'.nx) (E' S)) := ⟨fun W tk => by
  obtain ⟨t1, p1, r1⟩ := he.ex W tk
  obtain ⟨t2, p2, r2⟩ := hg.ex
  refine ⟨_, ps_asg p1 p2 hs hw h1, fun F H σ S G o D' E' h D0 k kx => ?_⟩
  refine r1 F H σ S G o _ _ h _ (fun F1 H1 v d G1 e1 g1 q1 h1 => ?_) (kx.at_ o.s)
  exact r2 F1 H1 σ S G1 v d (o.go e1 g1) q1 _ h1 _ (k.nx.mono e1)⟩
theorem dpx_if {c : Expr} {a b : List Stmt} {tc : DTT} {t u : DTSX} (hc : DT X c tc) (ha : DPsX X a t) (hb : DPsX X b u) : DPX X (.If c a b pos) (fun D' E' S G => tc S G fun b G1 => if b = true then t D' E' S G1 else u D' E' S G1) := ⟨fun W tk => by
  obtain ⟨t0, p0, r0⟩ := hc.ex
  obtain ⟨t1, p1, r1⟩ := ha.ex W tk
  obtain ⟨t2, p2, r2⟩ := hb.ex W tk
  refine ⟨_, ps_if p0 p1 p2, fun F H σ S G o D' E' h D0 k kx => ?_⟩
  refine r0 F H σ S G o _ h _ fun F1 H1 b G1 e1 g1 h1 => ?_
  cases b with
  | true =>
    rw [if_pos rfl] at h1 ⊢
    exact r1 F1 H1 σ S G1 (o.go e1 g1) D' E' h1 D0 (k.mono e1) (kx.mono e1)
  | false =>
    rw [if_neg Bool.false_ne_true] at h1 ⊢
    exact r2 F1 H1 σ S G1 (o.go e1 g1) D' E' h1 D0 (k.mono e1) (kx.mono e1)⟩
abbrev SpX := List D → GH → DQ → DXQ → Prop
def SpOfX (K : PySem.W.Frag) (sp : SpX) : Sp := fun vs H Q E => ∃ F G ds Q' E', Gok K F H G ∧ Reps K F vs ds ∧ sp ds G Q' E' ∧ KpE K F H G Q' Q ∧ KpXE K F H G E' E
def finX (E' : DXQ) : DS → DXQ := fun _ C fs G => ∃ G0, Sub G0 G ∧ E' C fs G0
theorem fnX_mk {P : Program} {w : World} {K : PySem.W.Frag} {mg : Str → Option Value} {base : Heap} {x qual : Str} {st : Stmt} {f : Addr} {fd : FuncData} {N ps : List Str} {k : Nat} {sp : SpX} (Fu : Fun K x qual st f fd) (sc : FnScope N ps (defScope st))
    (len : ∀ ds G Q E, sp ds G Q E → ds.length = ps.length)
    (hb : ∀ (cdv : Value) (A : Around) (outer : List Env) (s : Shared) (H : Hp) (E : XK), A.guards = some [] → Room k (A.deeper (envOfC qual (defScope st) s.heap.objs.size f cdv)) →
      ∃ t', DPsX (cxOf (L2.CX P w) P w K mg base N qual (defScope st) f cdv A outer s H E) (defBody st) t' ∧ ∀ ds G Q E', sp ds G Q E' → t' (fin Q) (finX E') (dstart N ds) G) : FnG P w K mg base (L2.CX P w) (k + 1) f fd ps (SpOfX K sp) := by
  obtain ⟨oc, od, kV, doc, pm, an, cdv, ct, osl, rfl, lk, hcd⟩ := Fu.ex
  refine fng_of lk hcd sc (fun vs H Q E h => ?_) (fun A outer s H vs Q E hg hr h => ?_)
  · obtain ⟨F, G, ds, Q', E', g, r, h, _⟩ := h
    rw [r.length]
    exact len ds G Q' E' h
  · obtain ⟨F, G, ds, Q', E', g, r, h, kk, kx⟩ := h
    obtain ⟨t', d, rd⟩ := hb cdv A outer s H E hg hr
    obtain ⟨t, p, rf⟩ := d.ex (fun cls d _ H' => E cls d H') (takes_of rfl rfl rfl rfl)
    refine ⟨t, p, rf F H _ _ G ⟨g, r.start⟩ _ _ (rd ds G Q' E' h) _ ⟨fun F1 H1 σ1 S1 G1 e1 o1 h1 => ?_, fun F1 H1 v d G1 e1 g1 r1 h1 => ?_, fun _ _ _ _ _ _ _ z => z.elim, fun _ _ _ _ _ _ _ z => z.elim⟩ ?_⟩
    · obtain ⟨G0, sb, h1⟩ := h1
      exact kk F1 H1 _ _ G0 (e1.sub sb) (o1.g.sub sb) .non h1
    · obtain ⟨G0, sb, h1⟩ := h1
      exact kk F1 H1 v d G0 (e1.sub sb) (g1.sub sb) r1 h1
    · intro F1 H1 σ1 S1 G1 cls d C fs e1 o1 xr h1
      obtain ⟨G0, sb, h1⟩ := h1
      exact kx F1 H1 G0 cls d C fs (e1.sub sb) (o1.g.sub sb) (xr.sub sb) h1
section
variable {k : Nat} {f C : Addr} {fd : FuncData} {ps : List Str} {sp0 : Sp} {x m : Str} {p apos : Pos} {e o : Expr} {es : List Expr} {t : TA} {ta : TE} {W : WX}
theorem goes_fnS {pins : List (Addr × Obj)} {σ : L2.St} {H : Hp} {s : Shared} {Q : VK} {us ws : List Value} {zs : List V} (F : FnG X.prog X.w X.K X.mg X.base (L2.CX X.prog X.w) k f fd ps sp0) (hA : X.A.guards = some []) (hr : Room k X.A)
    (bd : ∀ s : Shared, X.K.In s.heap → ws.length = ps.length → BindsTo s fd ⟨us, []⟩ (ps.zip ws)) (tk : Takes X W)
    (I : Inv X pins σ H s) (r : Vals zs ws) (h : sp0 zs H Q (WE W σ)) : wpAny (model X.prog X.w) X.A (call (.ref f) us []) (EP X pins σ Q) X.xe s := by
  have many : ws.length = ps.length := r.length ▸ F.many zs H Q _ h
  refine wpAny_call (codeAny_mono (F.goes X.A X.stack s H ⟨us, []⟩ ws zs Q (WE W σ) hA hr I.env0 (bd s I.kIn many) r h) ?_)
  intro res s' z
  match res, z with
  | .error er, z => exact passAt tk σ pins H s er s' I z
  | .ok (.ret u), z => exact I.after z
  | .ok .next, z => exact z.elim
  | .ok .brk, z => exact z.elim
  | .ok .cont, z => exact z.elim
end
structure CalMX (P : Program) (w : World) (K : PySem.W.Frag) (mg : Str → Option Value) (base : Heap) (C : Addr) (m : Str) (k : Nat) (ps : List Str) (sp : SpX) : Prop where
  ex : ∃ f fd, Meth K C m f ∧ FnG P w K mg base (L2.CX P w) k f fd ps (SpOfX K sp) ∧ Binds K fd ps []
theorem calMX_mk {P : Program} {w : World} {K : PySem.W.Frag} {mg : Str → Option Value} {base : Heap} {m qual : Str} {C : Addr} {st : Stmt} {N ps : List Str} {k : Nat} {sp : SpX} (d : DefM K C m qual st) (sc : FnScope N ps (defScope st)) (len : ∀ ds G Q E, sp ds G Q E → ds.length = ps.length)
    (bi : ∀ (kV doc pm : Value) (an : Option Addr) (cdv ct : Value) (us : List Value), us.length = ps.length → bindArgs (PySem.W.fnOf m qual (defArgs st) (defBody st) (defScope st) .none kV doc pm an cdv ct) ⟨us, []⟩ = pure (ps.zip us))
    (hb : ∀ (f : Addr) (cdv : Value) (A : Around) (outer : List Env) (s : Shared) (H : Hp) (E : XK), A.guards = some [] → Room k (A.deeper (envOfC qual (defScope st) s.heap.objs.size f cdv)) →
      ∃ t', DPsX (cxOf (L2.CX P w) P w K mg base N qual (defScope st) f cdv A outer s H E) (defBody st) t' ∧ ∀ ds G Q E', sp ds G Q E' → t' (fin Q) (finX E') (dstart N ds) G) : CalMX P w K mg base C m (k + 1) ps sp := by
  obtain ⟨f, fd, Fu, M⟩ := d.ex
  exact ⟨f, fd, M, fnX_mk Fu sc len (hb f), Fu.binds bi⟩
/-- raise E() -/
theorem dpx_raise0 {e : Expr} {C : Addr} (hc : X.calm = true) (hk : PMk X e (fun _ H Q => Q (.ref C) none H)) : DPX X (.Raise (some e) none pos) (fun _ E' S G => E' S C [] G) := ⟨fun W tk => by
  refine ⟨_, ps_raise hc tk hk, fun F H σ S G o D' E' h D0 k kx => ?_⟩
  exact kx F H σ S G _ _ C [] Go.refl o ⟨rfl, .inl ⟨rfl, rfl⟩⟩ h⟩
end
end DL
namespace DL
open PySem PySem.Spec PyProof.Rows L2
end DL
end
section
set_option Elab.async false
set_option linter.all false
set_option maxRecDepth 100000
set_option maxHeartbeats 4000000
namespace DL
open PySem PySem.Spec PyProof.Rows L2
/-- in a suite: what is known of the error stands beside the state -/
structure DEE (X : Cx) (xr : Hp → Hp → GH → Prop) (e : Expr) (t' : DTE) : Prop where
  ex : ∃ t, PE X e t ∧ ∀ F H σ S G, Ok X.K F H σ S G → xr F H G → ∀ Q', t' S G Q' → ∀ Q, KpE X.K F H G Q' Q → t σ H Q
structure DPsE (X : Cx) (xr : Hp → Hp → GH → Prop) (st : List Stmt) (t' : DTS) : Prop where
  ex : ∃ t, PSs X st t ∧ ∀ F H σ S G, Ok X.K F H σ S G → xr F H G → ∀ D', t' D' S G → ∀ D0, KpS X.K F H G D' D0 → t D0 σ H
section
variable {X : Cx} {xr : Hp → Hp → GH → Prop} {pos : Pos}
theorem dpse_asg {tg e : Expr} {te : DTE} {g : DTG} (he : DEE X xr e te) (hg : DG X tg g) (hs : swapsWithSole [tg] e pos.line X.env = pure false := by rfl) (hw : swappedStores [tg] e X.env = pure none := by rfl)
    (h1 : (assignEach [tg] X.env).map (·.2) = [assign tg X.env] := by rfl) : DPsE X xr [.Assign [tg] e pos] (dAsg te g) := by
  obtain ⟨t1, p1, r1⟩ := he.ex
  obtain ⟨t2, p2, r2⟩ := hg.ex
  refine ⟨_, pss_one (ps_asg p1 p2 hs hw h1), fun F H σ S G o x D' h D0 k => ?_⟩
  refine r1 F H σ S G o x _ h _ fun F1 H1 v d G1 e1 g1 q1 h1 => ?_
  exact r2 F1 H1 σ S G1 v d (o.go e1 g1) q1 _ h1 _ (k.nx.mono e1)
def dTryAs (K : PySem.W.Frag) (C : Addr) (i : Nat) (tb : DTSX) (ts : Addr → XFs → Addr → DTS) : DTS := fun D' S G => tb D' (fun S1 C1 fs G1 => PySem.W.exmOne K (.ref C1) (.ref C) = some true ∧
  ∀ a, ts C1 fs a { nx := fun S2 G2 => D'.nx (S2.set i none) G2, rt := D'.rt, bk := fun S2 G2 => D'.bk (S2.set i none) G2, ct := fun S2 G2 => D'.ct (S2.set i none) G2 } (S1.set i (some (.rf a))) G1) S G
theorem dp_try_as {x n : Str} {C : Addr} {i : Nat} {body suite : List Stmt} {b₀ : Stmt} {np pos' : Pos} {tb : DTSX} {ts : Addr → XFs → Addr → DTS} (hx : ∀ e s, X.xe e s ↔ False) (hs : X.stack = X.env :: X.outer) (hf : X.env.frame = some X.env.locals) (hN : X.N.Nodup) (hi : X.N[i]? = some n) (hln : X.env.kindOf n = some .local)
    (hg : Gl X x) (hm : X.mg x = some (.ref C)) (hdb : (x == ("__debug__" : Str)) = false)
    (hb : ∀ (pn : List (Addr × Obj)) (xe : Value → Shared → Prop), DPsX (X.tr pn xe) body tb)
    (hsu : ∀ (a : Addr) (oe : Obj) (d : Option Addr) (pn : List (Addr × Obj)) (C1 : Addr) (fs : XFs), Zc (.ref C1) d oe → (∃ vs, oe.data = .fields vs) → DPsE (X.suite a ((a, oe) :: pn)) (fun F H G => XRep X.K F H G (.ref C1) d C1 fs) (b₀ :: suite) (ts C1 fs a)) :
    DP X (.Try body [.ExceptHandler (some (.Name x np)) (some n) (b₀ :: suite) pos'] [] [] pos) (dTryAs X.K C i tb ts) := by
  have tk : Takes X (fun _ _ _ _ => False) := fun u s' ⟨_, _, _, _, _, _, _, _, _, _, _, _, _, _, _, _, z⟩ => z.elim
  refine ⟨_, ps_try_as (c := .ref C) (i := i) (tb := fun W D σ H => ∀ pn xe, Takes (X.tr pn xe) W → PassesOwn (model X.prog X.w) X.A X.env xe → ∃ t, PSs (X.tr pn xe) body t ∧ t D σ H)
    (ts := fun a cls d D σ H => ∀ oe pn, Zc cls d oe → (∃ vs, oe.data = .fields vs) → ∃ t, PSs (X.suite a ((a, oe) :: pn)) (b₀ :: suite) t ∧ t D σ H) (Wout := fun _ _ _ _ => False) hs hf hN hi hln ⟨hg, hdb, .inl hm⟩ tk
    (fun W pn xe tkw pw => ⟨fun pins s σ H D I h => ?_⟩) (fun a oe cls d pn hz hv => ⟨fun pins s σ H D I h => ?_⟩), fun F H σ S G o D' h D0 k => ?_⟩
  · obtain ⟨t, p, q⟩ := h pn xe tkw pw
    exact p.run pins s σ H D I q
  · obtain ⟨t, p, q⟩ := h oe pn hz hv
    exact p.run pins s σ H D I q
  · intro pn xe tkw pw
    obtain ⟨t, p, r⟩ := (hb pn xe).ex _ tkw
    refine ⟨t, p, r F H σ S G o D' _ h D0 k ?_⟩
    intro F1 H1 σ1 S1 G1 cls d C1 fs e1 o1 xr hE
    obtain ⟨hb1, hE⟩ := hE
    have hc := xr.1
    subst hc
    refine ⟨true, hb1, fun _ a na => ?_, fun z => by cases z⟩
    intro oe pn2 hz hv
    obtain ⟨t2, p2, r2⟩ := (hsu a oe d pn2 C1 fs hz hv).ex
    refine ⟨t2, p2, r2 F1 H1 _ (S1.set i (some (.rf a))) G1 ⟨o1.g, o1.s.set (.rf a) i⟩ xr _ (hE a) _ ⟨?_, k.rt.mono e1, ?_, ?_⟩⟩
    · exact fun F2 H2 σ2 S2 G2 e2 o2 h2 => k.nx F2 H2 _ _ G2 (e1.trans e2) ⟨o2.g, o2.s.setN none i⟩ h2
    · exact fun F2 H2 σ2 S2 G2 e2 o2 h2 => k.bk F2 H2 _ _ G2 (e1.trans e2) ⟨o2.g, o2.s.setN none i⟩ h2
    · exact fun F2 H2 σ2 S2 G2 e2 o2 h2 => k.ct F2 H2 _ _ G2 (e1.trans e2) ⟨o2.g, o2.s.setN none i⟩ h2
def dIsE (C1 D a CE : Addr) (fs : XFs) (b : Bool) (ta : DTA) : DTE := fun S G Q => ta S G fun ds G1 => ds = [.rf a, .rf CE] ∧ C1 = D ∧ fs = [] ∧ Q (.bl b) G1
theorem dee_isE {a D CE : Addr} {oe : Obj} {d : Option Addr} {pn : List (Addr × Obj)} {C1 : Addr} {fs : XFs} {b : Bool} {p : Pos} {e : Expr} {es : List Expr} {ta : DTA} (T : ExcC X.K D) (hk : PySem.W.kitOne X.K (.ref D) (.ref CE) = some b) (hz : Zc (.ref C1) d oe) (hf : ∃ vs, oe.data = .fields vs)
    (hg : Gl X "isinstance") (hm : X.mg "isinstance" = none) (ha : DA (X.suite a ((a, oe) :: pn)) (e :: es) ta)
    (he : starEach (e :: es) X.env = (false, eval e X.env) :: starEach es X.env := by rfl) (hpl : (backTo pos (starEach es X.env)).any (·.1) = false := by rfl) :
    DEE (X.suite a ((a, oe) :: pn)) (fun F H G => XRep X.K F H G (.ref C1) d C1 fs) (.Call (.Name "isinstance" p) (e :: es) [] pos) (dIsE C1 D a CE fs b ta) := by
  obtain ⟨t1, p1, r1⟩ := ha.ex
  by_cases hD : C1 = D ∧ d = none
  · obtain ⟨rfl, rfl⟩ := hD
    refine ⟨_, pe_callB (call_isE T hz hf) hg hm Boot.«isinstance» p1 (by decide) (by decide) he hpl, fun F H σ S G o x Q' h Q k => ?_⟩
    refine r1 F H σ S G o _ h _ fun F1 H1 vs ds G1 e1 g1 q1 h1 => ?_
    obtain ⟨rfl, _, _, h1⟩ := h1
    cases q1 with
    | cons qa qr =>
      cases qr with
      | cons qb qn =>
        cases qn
        cases qa
        cases qb
        exact ⟨.ref CE, .ref CE, b, rfl, fun u hu => hu, hk, k F1 H1 _ _ G1 e1 g1 (.bl b) h1⟩
  · refine ⟨_, pe_callB (r := fun _ _ _ => False) (fun _ _ _ _ _ _ _ _ _ z => z.elim) hg hm Boot.«isinstance» p1 (by decide) (by decide) he hpl, fun F H σ S G o x Q' h Q k => ?_⟩
    refine r1 F H σ S G o _ h _ fun F1 H1 vs ds G1 e1 g1 q1 h1 => ?_
    obtain ⟨_, h2, h3, _⟩ := h1
    refine hD ⟨h2, ?_⟩
    rcases x.2 with ⟨z, _⟩ | ⟨_, _, _, _, _, z, _⟩
    · exact z
    · exact absurd h3 z
end
end DL
end
section
set_option Elab.async false
set_option linter.all false
set_option maxRecDepth 100000
set_option maxHeartbeats 4000000
namespace DL
open PySem PySem.Spec PyProof.Rows L2
abbrev FnX : Type := Option (Str × Str × Arguments × FuncBody × Scope × Addr × List Str × Addr)
def fnXo (K : PySem.W.Frag) (a : Addr) : FnX := match K.lookup a with
  | some ⟨_, _, .func fd, _⟩ => some (fd.name, fd.qualname, fd.params, fd.body, fd.scope, fd.globals, fd.closure.map (·.1), fd.builtins)
  | _ => none
/-- the __init__ of an own error -/
structure ErrD where
  cls : Str
  qual : Str
  params : Arguments
  body : List Stmt
  scope : Scope
def ErrD.val (d : ErrD) : FnX := some ("__init__", d.qual, d.params, .stmts d.body, d.scope, mainGlobals, ["__class__"], builtinsNs)
def eI (K : PySem.W.Frag) (x : Str) : Addr := He.ma K (He.ga K x) "__init__"
def fnVal (d : He.DefD) : FnX := some (d.name, d.qual, d.params, .stmts d.body, d.scope, mainGlobals, [], builtinsNs)
theorem fnVal_ok {K : PySem.W.Frag} {a : Addr} {d : He.DefD} (h : fnXo K a = fnVal d) : fnA K a = d.val := by
  unfold fnXo at h
  unfold fnA
  cases q : K.lookup a with
  | none => rw [q] at h; cases h
  | some o =>
    obtain ⟨oc, od, dt, osl⟩ := o
    rw [q] at h
    cases dt with
    | func fd =>
      obtain ⟨n1, n2, n3, n4, n5, n6, n7, n8, n9, n10, n11, n12, n13, n14, n15⟩ := fd
      have e2 : (some (n1, n2, n3, n4, n5, n6, n7.map (·.1), n15) : FnX) = some (d.name, d.qual, d.params, .stmts d.body, d.scope, mainGlobals, [], builtinsNs) := h
      simp only [Option.some.injEq, Prod.mk.injEq, List.map_eq_nil_iff] at e2
      obtain ⟨h1, h2, h3, h4, h5, h6, h7, h8⟩ := e2
      subst h1 h2 h3 h4 h5 h6 h7 h8
      rfl
    | _ => cases h
def okC (K : PySem.W.Frag) (fl : Str) (C : Addr) (fI : Addr) : Bool := match K.lookup fI with
  | some ⟨_, _, .func fd, _⟩ => (match fd.closure, fd.code, fd.defaults with
    | [(_, cc)], .ref cda, .none => (match K.lookup cc with
        | some ⟨_, _, .cell (some (.ref C')), _⟩ => decide (C' = C)
        | _ => false) && ((match K.lookup cda with
        | some ⟨_, _, .fields vs, _⟩ => (match (vs[2]? : Option Value) with
          | some (Value.str file _) => fl == file
          | _ => false)
        | _ => false) && PySem.W.codeIn K (.ref cda) fd.qualname)
    | _, _, _ => false)
  | _ => false
def errB (K : PySem.W.Frag) (fl x : Str) : Bool :=
  PySem.W.excInitIn K (He.ga K x) exTl "Exception.__new__" && (PySem.W.keepIn K (.ref (He.ga K x)) && (He.eqO (PySem.W.findIn K (.ref (He.ga K x)) "__init__") (some (some (.ref (eI K x)))) && (okC K fl (He.ga K x) (eI K x) &&
  (decide (PySem.W.typeIn K (.ref (eI K x)) = some (.type "function")) && (decide (PySem.W.subIn K (.ref (He.ga K x)) (.type "BaseException") = some true) && (decide (PySem.W.typeIn K (.ref (He.ga K x)) = some (.type "type")) &&
  (decide (PySem.W.subIn K (.ref (He.ga K x)) (.type "Exception") = some true) && (decide (PySem.W.mroIn K (He.ga K x) (.ref (He.ga K x)) = some true) && (He.eqO (PySem.W.nsIn K mainGlobals "super") (some none) &&
  (He.eqO (PySem.W.nsIn K cStatics "thirdparty.any") (some none) && He.eqO (PySem.W.ks_superIn K (He.ga K x) (He.ga K x) "__init__") (some (some (.builtin "Exception.__init__")))))))))))))
theorem err_ok {K : PySem.W.Frag} {fl : Str} {d : ErrD} (hb : errB K fl d.cls = true) (hv : fnXo K (eI K d.cls) = d.val) : ∃ cc cda kV doc pm ct an, XCls K fl (He.ga K d.cls) d.qual d.params d.body d.scope (eI K d.cls) cc cda .none kV doc pm ct an := by
  unfold errB at hb
  simp only [Bool.and_eq_true, decide_eq_true_eq] at hb
  obtain ⟨h1, h2, h3, h4, h5, h6, h7, h8, h9, h10, h11, h12⟩ := hb
  unfold okC at h4
  unfold fnXo at hv
  cases q : K.lookup (eI K d.cls) with
  | none => rw [q] at hv; cases hv
  | some o =>
    obtain ⟨oc, od, dt, osl⟩ := o
    rw [q] at h4 hv
    cases dt with
    | func fd =>
      obtain ⟨n1, n2, n3, n4, n5, n6, n7, n8, n9, n10, n11, n12, n13, n14, n15⟩ := fd
      have e2 : (some (n1, n2, n3, n4, n5, n6, n7.map (·.1), n15) : FnX) = (some ("__init__", d.qual, d.params, FuncBody.stmts d.body, d.scope, mainGlobals, ["__class__"], builtinsNs) : FnX) := hv
      simp only [Option.some.injEq, Prod.mk.injEq] at e2
      obtain ⟨z1, z2, z3, z4, z5, z6, z7, z8⟩ := e2
      subst z1 z2 z3 z4 z5 z6 z8
      dsimp only at h4
      split at h4
      · rename_i c0 cc cda
        have z7' : c0 = "__class__" := by simpa using z7
        subst z7'
        simp only [Bool.and_eq_true] at h4
        obtain ⟨k1, k2, k3⟩ := h4
        refine ⟨cc, cda, n9, n10, n11, n14, n12, ⟨h1, h2, He.eqO_ok h3, ⟨_, _, _, q⟩, h5, ?_, ?_, k3, h6, h7, h8, h9, He.eqO_ok h10, He.eqO_ok h11, He.eqO_ok h12⟩⟩
        · split at k1
          · rename_i C' e
            simp only [decide_eq_true_eq] at k1
            subst k1
            exact ⟨_, _, _, e⟩
          · cases k1
        · split at k2
          · rename_i vs e
            split at k2
            · rename_i file tf e5
              exact ⟨_, _, _, _, _, _, e, e5, k2⟩
            · cases k2
          · cases k2
      · cases h4
    | _ => cases hv
/-- an own error as the parts know it -/
structure ErrC (P : Program) (K : PySem.W.Frag) (mg : Str → Option Value) (C : Addr) (x qual : Str) (st : Stmt) : Prop where
  ex : ∃ fI cc cda kV doc pm ct an, XCls K P.main.file C qual (defArgs st) (defBody st) (defScope st) fI cc cda .none kV doc pm ct an
  mg_ : mg x = some (.ref C)
  su : mg "super" = none
  top : (P.main.scope.names.lookup ("super" : Str)).isSome = false
theorem err0 {X : Cx} {pos p p0 p1 p2 p3 p4 p5 : Pos} {x qual : Str} {C : Addr} {st : Stmt} {ar : Arg} {msg : Str} {j k : Nat} (c : ErrC X.prog X.K X.mg C x qual st) (hr : Room (k + 1) X.A)
    (hbody : defBody st = [.Expr (.Call (.Attribute (.Call (.Name "super" p0) [] [] p1) "__init__" p2) [.Constant (.str msg) j p3] [] p4) p5]) (hp : ((defArgs st).posonlyargs ++ (defArgs st).args).head? = some ar)
    (hb : ∀ (kV doc pm : Value) (an : Option Addr) (cdv ct : Value) (cl : List (Str × Addr)) (e : Value), bindArgs (PySem.W.fnX "__init__" qual (defArgs st) (defBody st) (defScope st) cl .none kV doc pm an cdv ct) ⟨[e], []⟩ = pure [(ar.arg, e)])
    (hk : (defScope st).kind = .function) (hks : (defScope st).names.lookup ("super" : Str) = some .globalImplicit) (hkc : (defScope st).names.lookup ("__class__" : Str) = some .free) (hka : (defScope st).names.lookup ar.arg = some .local)
    (hcell : ∀ x ∈ (defScope st).names, x.2 ≠ .cell) (hco : (defScope st).isCoroutine = false) (hgen : (defScope st).isGenerator = false) (ht : SupT msg j p0 p1 p2 p3 p4)
    (hg : Gl X x := by rfl) (hdb : (x == ("__debug__" : Str)) = false := by decide) : PMk X (.Call (.Name x p) [] [] pos) (fun _ H Q => Q (.ref C) none H) := by
  obtain ⟨fI, cc, cda, kV, doc, pm, ct, an, T⟩ := c.ex
  exact pmk_sup0 T hbody (fun s oc e => BindsTo.of_eq (hb kV doc pm an (.ref cda) ct [("__class__", cc)] (.ref e))) hp hk hks hkc hka hcell hco hgen ht rfl c.top hr hg c.mg_ c.su hdb
def excCB (K : PySem.W.Frag) (C : Addr) : Bool := He.eqO (PySem.W.findIn K (.ref C) "__getattribute__") (some (some (.builtin "BaseException.__getattribute__"))) && (He.eqO (PySem.W.findIn K (.ref C) "__getattr__") (some none) &&
  (decide (PySem.W.subIn K (.ref C) (.type "BaseException") = some true) && (PySem.W.hasDictIn K C && (He.eqO (PySem.W.findIn K (.ref C) "__class__") (some (some (.builtin "object.__class__"))) &&
  (He.eqO (PySem.W.specialIn K (.builtin "object.__class__") "__get__") (some (some (.builtin "getset_descriptor.__get__"))) && (decide (PySem.W.takesIn K (.builtin "object.__class__") = some true) && decide (PySem.W.mroIn K C (.type "object") = some true)))))))
theorem excCB_ok {K : PySem.W.Frag} {C : Addr} (h : excCB K C = true) : ExcC K C := by
  unfold excCB at h
  simp only [Bool.and_eq_true, decide_eq_true_eq] at h
  obtain ⟨h1, h2, h3, h4, h5, h6, h7, h8⟩ := h
  exact ⟨He.eqO_ok h1, He.eqO_ok h2, h3, h4, He.eqO_ok h5, He.eqO_ok h6, h7, h8⟩
/-- the error at C, and CE above it -/
structure IsE (K : PySem.W.Frag) (C CE : Addr) : Prop where
  c : ExcC K C
  k : PySem.W.kitOne K (.ref C) (.ref CE) = some true
  m : PySem.W.exmOne K (.ref C) (.ref C) = some true
def isEB (K : PySem.W.Frag) (C CE : Addr) : Bool := excCB K C && (decide (PySem.W.kitOne K (.ref C) (.ref CE) = some true) && decide (PySem.W.exmOne K (.ref C) (.ref C) = some true))
theorem isEB_ok {K : PySem.W.Frag} {C CE : Addr} (h : isEB K C CE = true) : IsE K C CE := by
  unfold isEB at h
  simp only [Bool.and_eq_true, decide_eq_true_eq] at h
  exact ⟨excCB_ok h.1, h.2.1, h.2.2⟩
abbrev AlX : Type := AlE × List FnX
abbrev YsX : Type := List ((PySem.W.Frag → Addr) × FnX)
def obsX (fa : List He.Fa) (fn : List He.DefD) (ex : PySem.W.Frag → Bool) (ys : YsX) (K : PySem.W.Frag) : AlX := (obsE fa fn ex K, ys.map fun p => fnXo K (p.1 K))
theorem ysX {K : PySem.W.Frag} {ys : YsX} (h : (ys.map fun p => fnXo K (p.1 K)) = ys.map Prod.snd) (i : Nat) {p : (PySem.W.Frag → Addr) × FnX} (e : ys[i]? = some p) : fnXo K (p.1 K) = p.2 := by
  have e2 : (ys.map fun p => fnXo K (p.1 K))[i]? = (ys.map Prod.snd)[i]? := by rw [h]
  rw [List.getElem?_map, List.getElem?_map, e] at e2
  exact Option.some.inj e2
end DL
end
section
set_option Elab.async false
set_option linter.all false
set_option maxRecDepth 100000
set_option maxHeartbeats 4000000
namespace DL
open PySem PySem.Spec PyProof.Rows L2
section
variable {X : Cx} {CX : CXT} {k : Nat} {C p g a dx : Addr} {fs : List (Str × V)} {f : Str} {fd : FuncData} {ps : List Str} {sp : Sp} {dvs : List V} {ds : List Value} {E : XK} {e : Expr} {pos : Pos} {ta : TE}
theorem getprop_okG {pins : List (Addr × Obj)} {σ : L2.St} {H : Hp} {s : Shared} {Q : VK} {b : Bool} {E' : Value → Shared → Prop} (I : Inv X pins σ H s) (ea : H a = some (.ins C dx fs)) (c : Cls X.K C) (hp : PropOf X.K C f p g)
    (F : FnG X.prog X.w X.K X.mg X.base CX k g fd ps sp) (hA : X.A.guards = some []) (hr : Room (k + 1) X.A) (hb : Binds X.K fd ps ds) (hd : Vals dvs ds) (hx : Passes CX X.nox E) (h : sp (.ref a :: dvs) H Q E) :
    wpAny (model X.prog X.w) X.A (getAttr (.ref a) f b) (EP X pins σ Q) E' s := by
  obtain ⟨mA, O, _, _, _, _⟩ := ins_get I.hok ea
  obtain ⟨od, J, _⟩ := O.look
  obtain ⟨rest, hrec⟩ := hp.rec_
  have I1 := I.tok (s.toks + 1)
  have hl : ([Value.ref a] ++ ds).length = ps.length := by
    rw [← F.many _ _ _ _ h]
    show ds.length + 1 = dvs.length + 1
    rw [hd.length]
  have hc : (PySem.W.clsIn X.K C).isSome = true := by
    obtain ⟨cd, hc, _⟩ := PySem.W.any_some c.hd
    rw [hc]
    rfl
  refine PySem.W.get_bind I.kIn J (PySem.W.plainGet_of (c.get f)).1 (PySem.W.findObj_data hc hp.at_ hp.get hp.tak) (PySem.W.plainGet_of (c.get f)).2 (wpAny_call (PySem.W.prop_get (s := { s with toks := s.toks + 1 }) I.kIn hrec ?_))
  refine codeAny_mono (F.goes X.A.in1 X.stack { s with toks := s.toks + 1 } H ⟨[.ref a], []⟩ (.ref a :: ds) (.ref a :: dvs) Q E hA hr.in1 I1.env0.in1 (hb _ [.ref a] I1.kIn hl) (.cons rfl hd) h) fun r s' hq => ?_
  cases r with
  | error er => exact False.elim (hx pins σ H { s with toks := s.toks + 1 } er s' (I1.wish _) hq)
  | ok fl =>
    cases fl with
    | ret u =>
      obtain ⟨v, H', I3, rv, q3⟩ := I1.after hq
      show wpAny _ _ (handedOut u) _ _ _
      rw [PySem.W.handedOut_of (handed_of rv)]
      exact wpAny_pure ⟨v, H', I3, rv, q3⟩
    | next => exact False.elim hq
    | brk => exact False.elim hq
    | cont => exact False.elim hq
theorem pg_prop (he : PE X e ta) (c : Cls X.K C) (hp : PropOf X.K C f p g) (F : FnG X.prog X.w X.K X.mg X.base CX k g fd ps sp) (hA : X.A.guards = some []) (hr : Room (k + 1) X.A) (hb : Binds X.K fd ps ds) (hd : Vals dvs ds) (hx : Passes CX X.nox E)
    (hab : attributeBase e f X.env (eval e X.env) = eval e X.env) : PE X (.Attribute e f pos) (tProp C sp dvs E ta) := by
  refine ⟨fun pins s σ H Q I h => ?_⟩
  refine attr_of hab (thn (he.run pins s σ H _ I h) fun u s1 ⟨x, H1, I1, rx, a, dx, fs, ex, ea, q⟩ => ?_)
  subst ex
  obtain rfl : u = Value.ref a := rx
  exact getprop_okG I1 ea c hp F hA hr hb hd hx q
end
/-- a property with a promise -/
structure CalP (P : Program) (w : World) (K : PySem.W.Frag) (mg : Str → Option Value) (base : Heap) (C : Addr) (m : Str) (k : Nat) (ps : List Str) (sp : SpD) : Prop where
  ex : ∃ p g fd, PropOf K C m p g ∧ FnG P w K mg base CX0 k g fd ps (SpOf K sp) ∧ Binds K fd ps []
section
variable {X : Cx} {pos : Pos}
/-- e.f, a property of the class at C -/
def dProp (C : Addr) (sp : SpD) (ta : DTE) : DTE := fun S G Q => ta S G fun d G1 => match d.cur G1 with
  | .obj C' _ => C' = C ∧ sp [d] G1 Q
  | _ => False
theorem de_prop {e : Expr} {C : Addr} {m : Str} {k : Nat} {ps : List Str} {sp : SpD} {ta : DTE} (cl : Cls X.K C) (c : CalP X.prog X.w X.K X.mg X.base C m k ps sp) (hA : X.A.guards = some []) (hr : Room (k + 1) X.A) (he : DE X e ta)
    (hab : attributeBase e m X.env (eval e X.env) = eval e X.env := by rfl) : DE X (.Attribute e m pos) (dProp C sp ta) := by
  obtain ⟨p, g, fd, hp, Fn, hb⟩ := c.ex
  obtain ⟨t1, p1, r1⟩ := he.ex
  refine ⟨_, pg_prop p1 cl hp Fn hA hr hb .nil pass0 hab, fun F H σ S G o Q' h Q k => ?_⟩
  refine r1 F H σ S G o _ h _ fun F1 H1 v d G1 e1 g1 q1 h1 => ?_
  dsimp only at h1
  split at h1
  · rename_i C' fs ex
    obtain ⟨rfl, h1⟩ := h1
    obtain ⟨a, dx, kvs, rfl, ha', kr⟩ := cur_obj g1 q1 ex
    refine ⟨a, dx, kvs, rfl, ha', ?_⟩
    exact ⟨F1, G1, [d], Q', g1, .cons q1 .nil, h1, k.mono e1⟩
  · exact h1.elim
end
/-- the def of a property of the class at C -/
structure DefP (K : PySem.W.Frag) (C : Addr) (m qual : Str) (st : Stmt) : Prop where
  ex : ∃ p g fd, Fun K m qual st g fd ∧ PropOf K C m p g
theorem calP_mk {P : Program} {w : World} {K : PySem.W.Frag} {mg : Str → Option Value} {base : Heap} {m qual : Str} {C : Addr} {st : Stmt} {N ps : List Str} {k : Nat} {sp : SpD} (d : DefP K C m qual st) (sc : FnScope N ps (defScope st)) (len : ∀ ds G Q, sp ds G Q → ds.length = ps.length)
    (bi : ∀ (kV doc pm : Value) (an : Option Addr) (cdv ct : Value) (us : List Value), us.length = ps.length → bindArgs (PySem.W.fnOf m qual (defArgs st) (defBody st) (defScope st) .none kV doc pm an cdv ct) ⟨us, []⟩ = pure (ps.zip us))
    (hb : ∀ (f : Addr) (cdv : Value) (A : Around) (outer : List Env) (s : Shared) (H : Hp) (E : XK), A.guards = some [] → Room k (A.deeper (envOfC qual (defScope st) s.heap.objs.size f cdv)) →
      ∃ t', DPs (cxOf CX0 P w K mg base N qual (defScope st) f cdv A outer s H E).nox (defBody st) t' ∧ ∀ ds G Q, sp ds G Q → t' (fin Q) (dstart N ds) G) : CalP P w K mg base C m (k + 1) ps sp := by
  obtain ⟨p, g, fd, Fu, cp⟩ := d.ex
  exact ⟨p, g, fd, cp, fn_mk Fu sc len (hb g), Fu.binds bi⟩
def prP (K : PySem.W.Frag) (C : Addr) (m : Str) : Addr := match PySem.W.findIn K (.ref C) m with
  | some (some (.ref p)) => p
  | _ => 0
def prG (K : PySem.W.Frag) (C : Addr) (m : Str) : Addr := match PySem.W.recIn K (prP K C m) "property" with
  | some (.ref g :: _) => g
  | _ => 0
def prR (K : PySem.W.Frag) (C : Addr) (m : Str) : Bool := match PySem.W.recIn K (prP K C m) "property" with
  | some (.ref _ :: _) => true
  | _ => false
def prB (K : PySem.W.Frag) (C : Addr) (m : Str) : Bool := He.eqO (PySem.W.findIn K (.ref C) m) (some (some (.ref (prP K C m)))) && (He.eqO (PySem.W.specialIn K (.ref (prP K C m)) "__get__") (some (some (.builtin "property.__get__"))) && (decide (PySem.W.takesIn K (.ref (prP K C m)) = some true) && prR K C m))
theorem prB_ok {K : PySem.W.Frag} {C : Addr} {m : Str} (h : prB K C m = true) : PropOf K C m (prP K C m) (prG K C m) := by
  unfold prB at h
  simp only [Bool.and_eq_true, decide_eq_true_eq] at h
  obtain ⟨h1, h2, h3, h4⟩ := h
  refine ⟨He.eqO_ok h1, He.eqO_ok h2, h3, ?_⟩
  unfold prR at h4
  unfold prG
  split at h4
  · rename_i g r e
    exact ⟨r, by rw [e]⟩
  · cases h4
end DL
end
section
set_option Elab.async false
set_option linter.all false
set_option maxRecDepth 100000
set_option maxHeartbeats 4000000
namespace Pace
open PySem PySem.Spec PyProof.Rows L2 DL
def top (i : Nat) : Stmt := PySem.Challenge.pw_pacehouse_k64_joined_pieces.main.body.getD i (.Pass ⟨0, 0, 0, 0⟩)
abbrev s__wall : Stmt := top 0
abbrev s_states_behind : Stmt := top 2
abbrev s_reached : Stmt := top 3
abbrev s_OtherRules_u__init_u_ : Stmt := inClass (top 10) 0
abbrev s_text_class : Stmt := top 12
abbrev s_longer_class : Stmt := top 13
abbrev s_less : Stmt := top 15
abbrev s_check_pair : Stmt := top 18
abbrev s_Piece_u__init_u_ : Stmt := inClass (top 19) 0
abbrev s_Piece_leads_to : Stmt := inClass (top 19) 1
abbrev s_Piece_costs : Stmt := inClass (top 19) 2
abbrev s_Piece_led_class : Stmt := inClass (top 19) 3
abbrev s_Piece_u__len_u_ : Stmt := inClass (top 19) 4
abbrev s_Piece_told : Stmt := inClass (top 19) 5
abbrev s_Piece_u__eq_u_ : Stmt := inClass (top 19) 6
abbrev s_Piece_u__add_u_ : Stmt := inClass (top 19) 7
abbrev s_Piece_with_behind : Stmt := inClass (top 19) 8
abbrev s_joined_costs : Stmt := top 20
abbrev s_sign_piece : Stmt := top 21
abbrev s_empty_piece : Stmt := top 22
abbrev s_joined_all : Stmt := top 23
abbrev s_piece_of : Stmt := top 24
abbrev s_are_letters : Stmt := top 35
abbrev s_number_in : Stmt := top 36
abbrev s_text_of : Stmt := top 37
abbrev s_first_line : Stmt := top 38
abbrev s_move_line : Stmt := top 39
abbrev s_parts_in : Stmt := top 40
abbrev s_is_integer : Stmt := top 45
abbrev s_is_letter_of : Stmt := top 46
abbrev s_is_move : Stmt := top 47
abbrev s_is_row : Stmt := top 48
abbrev s_steps_of : Stmt := top 49
abbrev s_states_met : Stmt := top 50
abbrev s_classes_of : Stmt := top 51
abbrev s_least_rows : Stmt := top 52
abbrev s_step_at : Stmt := top 53
abbrev s_paired_steps : Stmt := top 54
abbrev s_one_keys : Stmt := top 55
abbrev s_check_letters : Stmt := top 56
abbrev s_Rules_u__init_u_ : Stmt := inClass (top 57) 0
abbrev s_Rules_u__len_u_ : Stmt := inClass (top 57) 3
abbrev s_Rules_u__eq_u_ : Stmt := inClass (top 57) 4
abbrev s__law_deck : Stmt := top 59
abbrev s__law_draw : Stmt := top 60
abbrev s__law_pick : Stmt := top 61
abbrev s__law_world : Stmt := top 62
abbrev s__law_code : Stmt := top 63
abbrev s__law_some : Stmt := top 64
abbrev s__law_led : Stmt := top 65
abbrev s__law_page : Stmt := top 66
abbrev s__law_reach : Stmt := top 67
abbrev s__law_costs_from : Stmt := top 68
abbrev s__law_piece : Stmt := top 69
abbrev s__law_told : Stmt := top 70
abbrev s__law_cuts : Stmt := top 71
abbrev s__law_joined : Stmt := top 72
abbrev s__law_refused : Stmt := top 73
abbrev s_law : Stmt := top 74
structure Txt (K : PySem.W.Frag) (mg : Str → Option Value) (C : Addr) : Prop where
  f_Exception : mg "Exception" = none
  f_property : mg "property" = none
  f_classmethod : mg "classmethod" = none
  f_tuple : mg "tuple" = none
  f_min : mg "min" = none
  f_list : mg "list" = none
  f_zip : mg "zip" = none
  f_all : mg "all" = none
  f_enumerate : mg "enumerate" = none
  f_dict : mg "dict" = none
  f_range : mg "range" = none
  f_sorted : mg "sorted" = none
  f_len : mg "len" = none
  f_isinstance : mg "isinstance" = none
  f_str : mg "str" = none
  f_int : mg "int" = none
  f_repr : mg "repr" = none
  f_bool : mg "bool" = none
  f_set : mg "set" = none
  f_super : mg "super" = none
  c_LETTERS_pieces : ∃ t, mg "LETTERS_pieces" = some (.str "abcdefghijklmnopqrstuvwxyz" t)
  c_RULES_WORD : ∃ t, mg "RULES_WORD" = some (.str "rules" t)
  c_MOVE_WORD : ∃ t, mg "MOVE_WORD" = some (.str "move" t)
  c_BREAK : ∃ t, mg "BREAK" = some (.str "\n" t)
  c_BLANK : ∃ t, mg "BLANK" = some (.str " " t)
  c_DIGITS : ∃ t, mg "DIGITS" = some (.str "0123456789" t)
  c_MOST_DIGITS : ∃ t, mg "MOST_DIGITS" = some (.int (3) t)
  c_FIRST_PARTS : ∃ t, mg "FIRST_PARTS" = some (.int (4) t)
  c_MOVE_PARTS_ruletexts : ∃ t, mg "MOVE_PARTS_ruletexts" = some (.int (5) t)
  c_LETTERS_ruletexts : ∃ t, mg "LETTERS_ruletexts" = some (.str "abcdefghijklmnopqrstuvwxyz" t)
  c_MOST_STATES : ∃ t, mg "MOST_STATES" = some (.int (999) t)
  c_MOVE_PARTS_rules : ∃ t, mg "MOVE_PARTS_rules" = some (.int (3) t)
  c_NOWHERE : ∃ t, mg "NOWHERE" = some (.int (-1) t)
  clR : Cls K C
  mgR : mg "Rules" = some (.ref C)
  insR : C8.InsC K C
  neR : NeO K C
  no_heard : NoAttr K C "heard"
  no_written : NoAttr K C "written"
  no_rows : NoAttr K C "rows"
  no_steps : NoAttr K C "steps"
  cl_Piece : Cls K (He.ga K "Piece")
  mg_Piece : mg "Piece" = some (.ref (He.ga K "Piece"))
  no_Piece_rules : NoAttr K (He.ga K "Piece") "rules"
  no_Piece_speech_there : NoAttr K (He.ga K "Piece") "speech_there"
  no_Piece_caption_there : NoAttr K (He.ga K "Piece") "caption_there"
  no_Piece_leads_kept : NoAttr K (He.ga K "Piece") "leads_kept"
  no_Piece_costs_kept : NoAttr K (He.ga K "Piece") "costs_kept"
  no_Piece_class_kept : NoAttr K (He.ga K "Piece") "class_kept"
  ne_Piece : NeO K (He.ga K "Piece")
  ins_Piece : C8.InsC K (He.ga K "Piece")
  sysM : SysM K
structure ErT (P : Program) (K : PySem.W.Frag) (mg : Str → Option Value) : Prop where
  mg_CaptionError : mg "CaptionError" = some (.ref (He.ga K "CaptionError"))
  e_OtherRules : ErrC P K mg (He.ga K "OtherRules") "OtherRules" "OtherRules.__init__" s_OtherRules_u__init_u_
  i_OtherRules : IsE K (He.ga K "OtherRules") (He.ga K "CaptionError")
end Pace
end
section
set_option Elab.async false
set_option linter.all false
set_option maxRecDepth 100000
set_option maxHeartbeats 4000000
namespace DL
open PySem PySem.Spec PyProof.Rows L2
def hyPut {α : Type} (a : Addr) (m : Nat) (acc : List Addr) (k : Nat → List Addr → α) : α := HandSHeadRun.frNat a fun a => match Nat.beq (Nat.land (Nat.shiftRight m a) 1) 0 with
  | true => HandSHeadRun.frNat (Nat.lor m (Nat.shiftLeft 1 a)) fun m => k m (a :: acc)
  | false => k m acc
def hyPuts {α : Type} : List Addr → Nat → List Addr → (Nat → List Addr → α) → α
  | [], m, acc, k => k m acc
  | a :: r, m, acc, k => hyPut a m acc fun m acc => hyPuts r m acc k
def hyRow {α : Type} (g : Addr → Option Obj) : List Addr → Nat → List Addr → (Nat → List Addr → α) → α
  | [], m, acc, k => k m acc
  | a :: r, m, acc, k => match g a with
    | some o => hyPuts (He.refsD o) m acc fun m acc => hyRow g r m acc k
    | none => hyRow g r m acc k
def hyGo (g : Addr → Option Obj) : Nat → List Addr → Nat → List Addr → List Addr
  | 0, _, _, all => all
  | n + 1, fr, m, all => hyRow g fr m [] fun m new => hyGo g n new m (all ++ new)
def asY (g : Addr → Option Obj) (n : Nat) : List Addr := hyPut mainGlobals 0 [] fun m fr => hyGo g n fr m fr
def obsYG (n : Nat) (fa : List He.Fa) (fn : List He.DefD) (ex : PySem.W.Frag → Bool) (ys : YsX) (g : Addr → Option Obj) : AlX := obsX fa fn ex ys (He.frG g (cStatics :: sysModules :: asY g n))
def hookY (n : Nat) (fa : List He.Fa) (fn : List He.DefD) (ex : PySem.W.Frag → Bool) (ys : YsX) : PySem.W.Hook where
  α := AlX
  obs := fun s => obsYG n fa fn ex ys s.heap.get?
  val := fun _ => (((He.valD fn, true), ys.map Prod.snd) : AlX)
  says := fun _ h => ∃ K : PySem.W.Frag, K.In h ∧ He.SaysD fa fn K ∧ ex K = true ∧ (ys.map fun p => fnXo K (p.1 K)) = ys.map Prod.snd
  of := fun _ _ e => ⟨_, He.frG_in, congrArg (fun z : AlX => z.1.1) e, congrArg (fun z : AlX => z.1.2) e, congrArg Prod.snd e⟩
  keeps := fun _ _ _ ⟨K, hK, c⟩ k => ⟨K, PySem.W.Frag.In.keeps hK k, c⟩
theorem obsYG_eq {n : Nat} {fa : List He.Fa} {fn : List He.DefD} {ex : PySem.W.Frag → Bool} {ys : YsX} {g : Addr → Option Obj} {s : Shared} (h : ∀ a, g a = s.heap.get? a) : obsYG n fa fn ex ys g = (hookY n fa fn ex ys).obs s := by
  have e : g = s.heap.get? := funext h
  rw [e] <;> rfl
end DL
end
section
set_option Elab.async false
set_option linter.all false
set_option maxRecDepth 100000
set_option maxHeartbeats 0
namespace Pace
open PySem PySem.Spec PyProof.Rows L2 DL
def d_Piece_leads_to : He.DefD := ⟨("Piece", some "leads_to"), "leads_to", "Piece.leads_to", defArgs s_Piece_leads_to, defBody s_Piece_leads_to, defScope s_Piece_leads_to, [], []⟩
def d_Piece_costs : He.DefD := ⟨("Piece", some "costs"), "costs", "Piece.costs", defArgs s_Piece_costs, defBody s_Piece_costs, defScope s_Piece_costs, [], []⟩
def d_Piece_led_class : He.DefD := ⟨("Piece", some "led_class"), "led_class", "Piece.led_class", defArgs s_Piece_led_class, defBody s_Piece_led_class, defScope s_Piece_led_class, [], []⟩
def d__wall : He.DefD := ⟨("_wall", none), "_wall", "_wall", defArgs s__wall, defBody s__wall, defScope s__wall, [], []⟩
def d_states_behind : He.DefD := ⟨("states_behind", none), "states_behind", "states_behind", defArgs s_states_behind, defBody s_states_behind, defScope s_states_behind, [], []⟩
def d_reached : He.DefD := ⟨("reached", none), "reached", "reached", defArgs s_reached, defBody s_reached, defScope s_reached, [], []⟩
def d_text_class : He.DefD := ⟨("text_class", none), "text_class", "text_class", defArgs s_text_class, defBody s_text_class, defScope s_text_class, [], []⟩
def d_longer_class : He.DefD := ⟨("longer_class", none), "longer_class", "longer_class", defArgs s_longer_class, defBody s_longer_class, defScope s_longer_class, [], []⟩
def d_less : He.DefD := ⟨("less", none), "less", "less", defArgs s_less, defBody s_less, defScope s_less, [], []⟩
def d_check_pair : He.DefD := ⟨("check_pair", none), "check_pair", "check_pair", defArgs s_check_pair, defBody s_check_pair, defScope s_check_pair, [], []⟩
def d_joined_costs : He.DefD := ⟨("joined_costs", none), "joined_costs", "joined_costs", defArgs s_joined_costs, defBody s_joined_costs, defScope s_joined_costs, [], []⟩
def d_sign_piece : He.DefD := ⟨("sign_piece", none), "sign_piece", "sign_piece", defArgs s_sign_piece, defBody s_sign_piece, defScope s_sign_piece, [], []⟩
def d_empty_piece : He.DefD := ⟨("empty_piece", none), "empty_piece", "empty_piece", defArgs s_empty_piece, defBody s_empty_piece, defScope s_empty_piece, [], []⟩
def d_joined_all : He.DefD := ⟨("joined_all", none), "joined_all", "joined_all", defArgs s_joined_all, defBody s_joined_all, defScope s_joined_all, [], []⟩
def d_piece_of : He.DefD := ⟨("piece_of", none), "piece_of", "piece_of", defArgs s_piece_of, defBody s_piece_of, defScope s_piece_of, [], []⟩
def d_are_letters : He.DefD := ⟨("are_letters", none), "are_letters", "are_letters", defArgs s_are_letters, defBody s_are_letters, defScope s_are_letters, [], []⟩
def d_number_in : He.DefD := ⟨("number_in", none), "number_in", "number_in", defArgs s_number_in, defBody s_number_in, defScope s_number_in, [], []⟩
def d_text_of : He.DefD := ⟨("text_of", none), "text_of", "text_of", defArgs s_text_of, defBody s_text_of, defScope s_text_of, [], []⟩
def d_first_line : He.DefD := ⟨("first_line", none), "first_line", "first_line", defArgs s_first_line, defBody s_first_line, defScope s_first_line, [], []⟩
def d_move_line : He.DefD := ⟨("move_line", none), "move_line", "move_line", defArgs s_move_line, defBody s_move_line, defScope s_move_line, [], []⟩
def d_parts_in : He.DefD := ⟨("parts_in", none), "parts_in", "parts_in", defArgs s_parts_in, defBody s_parts_in, defScope s_parts_in, [], []⟩
def d_is_integer : He.DefD := ⟨("is_integer", none), "is_integer", "is_integer", defArgs s_is_integer, defBody s_is_integer, defScope s_is_integer, [], []⟩
def d_is_letter_of : He.DefD := ⟨("is_letter_of", none), "is_letter_of", "is_letter_of", defArgs s_is_letter_of, defBody s_is_letter_of, defScope s_is_letter_of, [], []⟩
def d_is_move : He.DefD := ⟨("is_move", none), "is_move", "is_move", defArgs s_is_move, defBody s_is_move, defScope s_is_move, [], []⟩
def d_is_row : He.DefD := ⟨("is_row", none), "is_row", "is_row", defArgs s_is_row, defBody s_is_row, defScope s_is_row, [], []⟩
def d_steps_of : He.DefD := ⟨("steps_of", none), "steps_of", "steps_of", defArgs s_steps_of, defBody s_steps_of, defScope s_steps_of, [], []⟩
def d_states_met : He.DefD := ⟨("states_met", none), "states_met", "states_met", defArgs s_states_met, defBody s_states_met, defScope s_states_met, [], []⟩
def d_classes_of : He.DefD := ⟨("classes_of", none), "classes_of", "classes_of", defArgs s_classes_of, defBody s_classes_of, defScope s_classes_of, [], []⟩
def d_least_rows : He.DefD := ⟨("least_rows", none), "least_rows", "least_rows", defArgs s_least_rows, defBody s_least_rows, defScope s_least_rows, [], []⟩
def d_step_at : He.DefD := ⟨("step_at", none), "step_at", "step_at", defArgs s_step_at, defBody s_step_at, defScope s_step_at, [], []⟩
def d_paired_steps : He.DefD := ⟨("paired_steps", none), "paired_steps", "paired_steps", defArgs s_paired_steps, defBody s_paired_steps, defScope s_paired_steps, [], []⟩
def d_one_keys : He.DefD := ⟨("one_keys", none), "one_keys", "one_keys", defArgs s_one_keys, defBody s_one_keys, defScope s_one_keys, [], []⟩
def d_check_letters : He.DefD := ⟨("check_letters", none), "check_letters", "check_letters", defArgs s_check_letters, defBody s_check_letters, defScope s_check_letters, [], []⟩
def d__law_deck : He.DefD := ⟨("_law_deck", none), "_law_deck", "_law_deck", defArgs s__law_deck, defBody s__law_deck, defScope s__law_deck, [], []⟩
def d__law_draw : He.DefD := ⟨("_law_draw", none), "_law_draw", "_law_draw", defArgs s__law_draw, defBody s__law_draw, defScope s__law_draw, [], []⟩
def d__law_pick : He.DefD := ⟨("_law_pick", none), "_law_pick", "_law_pick", defArgs s__law_pick, defBody s__law_pick, defScope s__law_pick, [], []⟩
def d__law_world : He.DefD := ⟨("_law_world", none), "_law_world", "_law_world", defArgs s__law_world, defBody s__law_world, defScope s__law_world, [], []⟩
def d__law_code : He.DefD := ⟨("_law_code", none), "_law_code", "_law_code", defArgs s__law_code, defBody s__law_code, defScope s__law_code, [], []⟩
def d__law_some : He.DefD := ⟨("_law_some", none), "_law_some", "_law_some", defArgs s__law_some, defBody s__law_some, defScope s__law_some, [], []⟩
def d__law_led : He.DefD := ⟨("_law_led", none), "_law_led", "_law_led", defArgs s__law_led, defBody s__law_led, defScope s__law_led, [], []⟩
def d__law_page : He.DefD := ⟨("_law_page", none), "_law_page", "_law_page", defArgs s__law_page, defBody s__law_page, defScope s__law_page, [], []⟩
def d__law_reach : He.DefD := ⟨("_law_reach", none), "_law_reach", "_law_reach", defArgs s__law_reach, defBody s__law_reach, defScope s__law_reach, [], []⟩
def d__law_costs_from : He.DefD := ⟨("_law_costs_from", none), "_law_costs_from", "_law_costs_from", defArgs s__law_costs_from, defBody s__law_costs_from, defScope s__law_costs_from, [], []⟩
def d__law_piece : He.DefD := ⟨("_law_piece", none), "_law_piece", "_law_piece", defArgs s__law_piece, defBody s__law_piece, defScope s__law_piece, [], []⟩
def d__law_told : He.DefD := ⟨("_law_told", none), "_law_told", "_law_told", defArgs s__law_told, defBody s__law_told, defScope s__law_told, [], []⟩
def d__law_cuts : He.DefD := ⟨("_law_cuts", none), "_law_cuts", "_law_cuts", defArgs s__law_cuts, defBody s__law_cuts, defScope s__law_cuts, [], []⟩
def d__law_joined : He.DefD := ⟨("_law_joined", none), "_law_joined", "_law_joined", defArgs s__law_joined, defBody s__law_joined, defScope s__law_joined, [], []⟩
def d__law_refused : He.DefD := ⟨("_law_refused", none), "_law_refused", "_law_refused", defArgs s__law_refused, defBody s__law_refused, defScope s__law_refused, [], []⟩
def d_law : He.DefD := ⟨("law", none), "law", "law", defArgs s_law, defBody s_law, defScope s_law, [], []⟩
def d_RI : He.DefD := ⟨("Rules", some "__init__"), "__init__", "Rules.__init__", defArgs s_Rules_u__init_u_, defBody s_Rules_u__init_u_, defScope s_Rules_u__init_u_, [], []⟩
def d_I_Piece : He.DefD := ⟨("Piece", some "__init__"), "__init__", "Piece.__init__", defArgs s_Piece_u__init_u_, defBody s_Piece_u__init_u_, defScope s_Piece_u__init_u_, [], []⟩
def d_Piece_told : He.DefD := ⟨("Piece", some "told"), "told", "Piece.told", defArgs s_Piece_told, defBody s_Piece_told, defScope s_Piece_told, [], []⟩
def d_Piece_u__len_u_ : He.DefD := ⟨("Piece", some "__len__"), "__len__", "Piece.__len__", defArgs s_Piece_u__len_u_, defBody s_Piece_u__len_u_, defScope s_Piece_u__len_u_, [], []⟩
def d_Piece_with_behind : He.DefD := ⟨("Piece", some "with_behind"), "with_behind", "Piece.with_behind", defArgs s_Piece_with_behind, defBody s_Piece_with_behind, defScope s_Piece_with_behind, [], []⟩
def d_Rules_u__eq_u_ : He.DefD := ⟨("Rules", some "__eq__"), "__eq__", "Rules.__eq__", defArgs s_Rules_u__eq_u_, defBody s_Rules_u__eq_u_, defScope s_Rules_u__eq_u_, [], []⟩
def d_Piece_u__add_u_ : He.DefD := ⟨("Piece", some "__add__"), "__add__", "Piece.__add__", defArgs s_Piece_u__add_u_, defBody s_Piece_u__add_u_, defScope s_Piece_u__add_u_, [], []⟩
def d_Piece_u__eq_u_ : He.DefD := ⟨("Piece", some "__eq__"), "__eq__", "Piece.__eq__", defArgs s_Piece_u__eq_u_, defBody s_Piece_u__eq_u_, defScope s_Piece_u__eq_u_, [], []⟩
def d_Rules_u__len_u_ : He.DefD := ⟨("Rules", some "__len__"), "__len__", "Rules.__len__", defArgs s_Rules_u__len_u_, defBody s_Rules_u__len_u_, defScope s_Rules_u__len_u_, [], []⟩
def hfn0 : List He.DefD := [d__wall, d_states_behind, d_reached, d_text_class, d_longer_class, d_less, d_check_pair, d_joined_costs, d_sign_piece, d_empty_piece, d_joined_all, d_piece_of, d_are_letters, d_number_in, d_text_of, d_first_line, d_move_line, d_parts_in, d_is_integer, d_is_letter_of]
def hfn1 : List He.DefD := [d_is_move, d_is_row, d_steps_of, d_states_met, d_classes_of, d_least_rows, d_step_at, d_paired_steps, d_one_keys, d_check_letters, d__law_deck, d__law_draw, d__law_pick, d__law_world, d__law_code, d__law_some, d__law_led, d__law_page, d__law_reach, d__law_costs_from]
def hfn2 : List He.DefD := [d__law_piece, d__law_told, d__law_cuts, d__law_joined, d__law_refused, d_law, d_RI, d_I_Piece, d_Piece_told, d_Piece_u__len_u_, d_Piece_with_behind, d_Rules_u__eq_u_, d_Piece_u__add_u_, d_Piece_u__eq_u_, d_Rules_u__len_u_]
def hfn : List He.DefD := hfn0 ++ hfn1 ++ hfn2
def hfa0 : List He.Fa := [.glo "_wall", .glo "states_behind", .glo "reached", .glo "text_class", .glo "longer_class", .glo "less", .glo "check_pair", .glo "joined_costs", .glo "sign_piece", .glo "empty_piece", .glo "joined_all", .glo "piece_of", .glo "are_letters", .glo "number_in", .glo "text_of", .glo "first_line", .glo "move_line", .glo "parts_in", .glo "is_integer", .glo "is_letter_of"]
def hfa1 : List He.Fa := [.glo "is_move", .glo "is_row", .glo "steps_of", .glo "states_met", .glo "classes_of", .glo "least_rows", .glo "step_at", .glo "paired_steps", .glo "one_keys", .glo "check_letters", .glo "_law_deck", .glo "_law_draw", .glo "_law_pick", .glo "_law_world", .glo "_law_code", .glo "_law_some", .glo "_law_led", .glo "_law_page", .glo "_law_reach", .glo "_law_costs_from"]
def hfa2 : List He.Fa := [.glo "_law_piece", .glo "_law_told", .glo "_law_cuts", .glo "_law_joined", .glo "_law_refused", .glo "law", .free "Exception", .free "property", .free "classmethod", .free "tuple", .free "min", .free "list", .free "zip", .free "all", .free "enumerate", .free "dict", .free "range", .free "sorted", .free "len", .free "isinstance"]
def hfa3 : List He.Fa := [.free "str", .free "int", .free "repr", .free "bool", .free "set", .free "super", .str "LETTERS_pieces" "abcdefghijklmnopqrstuvwxyz", .str "RULES_WORD" "rules", .str "MOVE_WORD" "move", .str "BREAK" "\n", .str "BLANK" " ", .str "DIGITS" "0123456789", .int "MOST_DIGITS" (3), .int "FIRST_PARTS" (4), .int "MOVE_PARTS_ruletexts" (5), .str "LETTERS_ruletexts" "abcdefghijklmnopqrstuvwxyz", .int "MOST_STATES" (999), .int "MOVE_PARTS_rules" (3), .int "NOWHERE" (-1), .glo "Rules"]
def hfa4 : List He.Fa := [.cls "Rules", .mkr "Rules", .noat "Rules" "heard", .noat "Rules" "written", .noat "Rules" "rows", .noat "Rules" "steps", .meth "Piece" "told", .meth "Piece" "__len__", .meth "Piece" "with_behind", .meth "Rules" "__eq__", .meth "Piece" "__add__", .meth "Piece" "__eq__", .meth "Rules" "__len__", .glo "Piece", .cls "Piece", .mkr "Piece", .noat "Piece" "rules", .noat "Piece" "speech_there", .noat "Piece" "caption_there", .noat "Piece" "leads_kept"]
def hfa5 : List He.Fa := [.noat "Piece" "costs_kept", .noat "Piece" "class_kept", .glo "CaptionError", .glo "OtherRules"]
def hfa : List He.Fa := hfa0 ++ hfa1 ++ hfa2 ++ hfa3 ++ hfa4 ++ hfa5
def hnm0 : List PySem.Str := ["_wall", "states_behind", "reached", "CaptionError", "BadRules", "BadText", "OtherLetters", "BadPair", "OtherRules", "text_class", "longer_class", "less", "LETTERS_pieces", "check_pair", "Piece", "joined_costs", "sign_piece", "empty_piece", "joined_all", "piece_of"]
def hnm1 : List PySem.Str := ["RULES_WORD", "MOVE_WORD", "BREAK", "BLANK", "DIGITS", "MOST_DIGITS", "FIRST_PARTS", "MOVE_PARTS_ruletexts", "LETTERS_ruletexts", "are_letters", "number_in", "text_of", "first_line", "move_line", "parts_in", "MOST_STATES", "MOVE_PARTS_rules", "NOWHERE", "is_integer", "is_letter_of"]
def hnm2 : List PySem.Str := ["is_move", "is_row", "steps_of", "states_met", "classes_of", "least_rows", "step_at", "paired_steps", "one_keys", "check_letters", "Rules", "_law_deck", "_law_draw", "_law_pick", "_law_world", "_law_code", "_law_some", "_law_led", "_law_page", "_law_reach"]
def hnm3 : List PySem.Str := ["_law_costs_from", "_law_piece", "_law_told", "_law_cuts", "_law_joined", "_law_refused"]
def hnm : List PySem.Str := hnm0 ++ hnm1 ++ hnm2 ++ hnm3
def dE_OtherRules : ErrD := ⟨"OtherRules", "OtherRules.__init__", defArgs s_OtherRules_u__init_u_, defBody s_OtherRules_u__init_u_, defScope s_OtherRules_u__init_u_⟩
def hys : YsX := [((fun K => (prG K (He.ga K "Piece") "leads_to")), fnVal d_Piece_leads_to), ((fun K => (prG K (He.ga K "Piece") "costs")), fnVal d_Piece_costs), ((fun K => (prG K (He.ga K "Piece") "led_class")), fnVal d_Piece_led_class), ((fun K => eI K "OtherRules"), dE_OtherRules.val)]
abbrev hR : PySem.W.OpenRow := PySem.W.OpenLaw.row PySem.Challenge.rw_pacehouse_k64_joined_pieces
abbrev hfl : Str := hR.prog.main.file
def hex (K : PySem.W.Frag) : Bool := (insB K (He.ga K "Rules") && neB K (He.ga K "Rules")) && (((sysB K && (insB K (He.ga K "Piece") && neB K (He.ga K "Piece"))) && ((prB K (He.ga K "Piece") "leads_to" && okA K (prG K (He.ga K "Piece") "leads_to") d_Piece_leads_to) && ((prB K (He.ga K "Piece") "costs" && okA K (prG K (He.ga K "Piece") "costs") d_Piece_costs) && (prB K (He.ga K "Piece") "led_class" && okA K (prG K (He.ga K "Piece") "led_class") d_Piece_led_class)))) && (errB K hfl "OtherRules" && isEB K (He.ga K "OtherRules") (He.ga K "CaptionError")))
abbrev hhk : PySem.W.Hook := hookY 7 hfa hfn hex hys
def hob (s : PySem.W.SharedT) : AlX := obsYG 7 hfa hfn hex hys (HandSHeadRun.getT s)
theorem hob_eq (s : PySem.W.SharedT) : hob s = hhk.obs s.abs := obsYG_eq (HandSHeadRun.getT_eq s)
theorem hrun (w : World) : HandSHeadRun.RunEq hR (PySem.W.view hR.prog [74]) hhk hob 20000 hnm w := by
  intro os
  kernel_rfl
end Pace
end
section
set_option Elab.async false
set_option linter.all false
set_option maxRecDepth 100000
set_option maxHeartbeats 4000000
namespace Pace
open PySem PySem.Spec PyProof.Rows L2 DL
/-- a move: heard letter, written letter (codes), state -/
structure Mv where
  h : Nat
  c : Nat
  t : Nat
  deriving DecidableEq
def Mv.d (m : Mv) : D := .tup [.str (sgn m.h), .str (sgn m.c), .int (m.t : Int)]
def rowD (r : List Mv) : D := .tup (r.map Mv.d)
def rowsD (rs : List (List Mv)) : D := .tup (rs.map rowD)
def natsD (ns : List Nat) : List D := ns.map fun (n : Nat) => D.int (n : Int)
structure Rul where
  heard : Str
  written : Str
  rows : List (List Mv)
def stepsD (rs : List (List Mv)) : D := .lst (rs.map fun r => .dT (r.map fun m => ([.inr (sgn m.h), .inr (sgn m.c)], .int (m.t : Int))))
def rulF (R : Rul) : List (Str × D) := [("heard", .str R.heard), ("written", .str R.written), ("rows", rowsD R.rows), ("steps", stepsD R.rows)]
def rulD (C : Addr) (R : Rul) : D := .obj C (rulF R)
theorem rulF_heard (R : Rul) : (rulF R).lookup ("heard" : Str) = some (.str R.heard) := rfl
theorem rulF_written (R : Rul) : (rulF R).lookup ("written" : Str) = some (.str R.written) := rfl
theorem rulF_rows (R : Rul) : (rulF R).lookup ("rows" : Str) = some (rowsD R.rows) := rfl
/-- what Python's rules ask, as far as the walk needs it -/
structure Rul.Ok (R : Rul) : Prop where
  few : R.rows.length ≤ 1000
  at_ : ∀ r ∈ R.rows, r.length ≤ 1000 ∧ ∀ m ∈ r, m.t < R.rows.length
def hits (rs : List (List Mv)) (s c : Nat) : List Nat := ((rs.getD s []).filter fun m => m.h == c).map (·.t)
def nins (a : Nat) : List Nat → List Nat
  | [] => [a]
  | b :: l => if a ≤ b then a :: b :: l else b :: nins a l
def nsort : List Nat → List Nat
  | [] => []
  | a :: l => nins a (nsort l)
theorem nins_perm (a : Nat) : ∀ l : List Nat, (nins a l).Perm (a :: l)
  | [] => .refl _
  | b :: l => by
    unfold nins
    split
    · exact .refl _
    · exact ((nins_perm a l).cons b).trans (.swap a b l)
theorem nsort_perm : ∀ l : List Nat, (nsort l).Perm l
  | [] => .refl _
  | a :: l => (nins_perm a (nsort l)).trans ((nsort_perm l).cons a)
theorem nins_le (a : Nat) : ∀ l : List Nat, l.Pairwise (· ≤ ·) → (nins a l).Pairwise (· ≤ ·)
  | [], _ => by simp [nins]
  | b :: l, h => by
    unfold nins
    rw [List.pairwise_cons] at h
    split
    · rename_i hab
      refine List.pairwise_cons.mpr ⟨fun c hc => ?_, List.pairwise_cons.mpr h⟩
      rcases List.mem_cons.mp hc with rfl | hc
      · exact hab
      · have := h.1 c hc; omega
    · rename_i hab
      refine List.pairwise_cons.mpr ⟨fun c hc => ?_, nins_le a l h.2⟩
      rcases List.mem_cons.mp ((nins_perm a l).mem_iff.mp hc) with rfl | hc
      · omega
      · exact h.1 c hc
theorem nsort_le : ∀ l : List Nat, (nsort l).Pairwise (· ≤ ·)
  | [] => .nil
  | a :: l => nins_le a _ (nsort_le l)
/-- the states behind a letter -/
def behind (rs : List (List Mv)) (ss : List Nat) (c : Nat) : List Nat := nsort (firstsF (ss.flatMap fun s => hits rs s c))
theorem addF_lt {n : Nat} {ks : List Nat} {t : Nat} (h : ∀ k ∈ ks, k < n) (ht : t < n) : ∀ k ∈ addF ks t, k < n := by
  unfold addF
  split
  · exact h
  · intro k hk
    rcases List.mem_append.mp hk with hk | hk
    · exact h k hk
    · simp at hk; omega
/-- the pairs of the dict -/
def kds (ks : List Nat) : List (Key × D) := ks.map fun (t : Nat) => (.inl (t : Int), .bl true)
theorem kds_put (ks : List Nat) (t : Nat) : putD (kds ks) (.inl (t : Int)) (.bl true) = kds (addF ks t) := by
  have e : ((kds ks).any fun kv => decide (kv.1 = (Sum.inl (t : Int) : Key))) = decide (t ∈ ks) := by
    unfold kds
    rw [List.any_map]
    rw [Bool.eq_iff_iff]
    simp only [List.any_eq_true, Function.comp, decide_eq_true_eq]
    constructor
    · rintro ⟨x, hx, e⟩
      have e' : (x : Int) = (t : Int) := Sum.inl.inj e
      have : x = t := by omega
      exact this ▸ hx
    · intro h
      exact ⟨t, h, rfl⟩
  unfold putD addF
  rw [e]
  by_cases h : t ∈ ks
  · rw [if_pos (decide_eq_true h), if_pos h]
    unfold kds
    rw [List.map_map]
    apply List.map_congr_left
    intro x hx
    simp only [Function.comp]
    split
    · rfl
    · rfl
  · rw [if_neg (by simp [h]), if_neg h]
    simp [kds]
theorem kds_ints (ks : List Nat) : intKeys (kds ks) = some (ks.map fun (t : Nat) => (t : Int)) := by
  induction ks with
  | nil => rfl
  | cons t ks ih =>
    have : kds (t :: ks) = (.inl (t : Int), .bl true) :: kds ks := rfl
    rw [this]
    simp [intKeys, ih]
theorem isort_nat (ks : List Nat) : ((ks.map fun (t : Nat) => (t : Int)).mergeSort (· ≤ ·)).map D.int = natsD (nsort ks) := by
  have e : (nsort ks).map (fun (t : Nat) => (t : Int)) = (ks.map fun (t : Nat) => (t : Int)).mergeSort (· ≤ ·) := by
    refine isort_uniq ((nsort_perm ks).map _) ?_
    rw [List.pairwise_map]
    exact (nsort_le ks).imp fun h => by omega
  rw [← e, List.map_map]
  rfl
theorem nodup_lt_len {n : Nat} {ks : List Nat} (h : ks.Nodup) (hl : ∀ k ∈ ks, k < n) : ks.length ≤ n := by
  have := List.Nodup.length_le_of_subset h (l₂ := List.range n) (fun k hk => List.mem_range.mpr (hl k hk))
  simpa using this
theorem natsD_get {ns : List Nat} {i : Nat} {d : D} (h : (natsD ns)[i]? = some d) : ∃ n, ns[i]? = some n ∧ d = .int (n : Int) := by
  unfold natsD at h
  rw [List.getElem?_map] at h
  cases e : ns[i]? with
  | none => rw [e] at h; cases h
  | some n => rw [e] at h; cases h; exact ⟨n, rfl, rfl⟩
theorem sgn_inj {a b : Nat} (h : sgn a = sgn b) : a = b := by
  have : (sgn a).cps.toList = (sgn b).cps.toList := by rw [h]
  simpa [sgn] using this
theorem sgn_beq (a b : Nat) : (sgn a == sgn b) = (a == b) := by
  rw [Bool.eq_iff_iff]
  simp only [beq_iff_eq]
  exact ⟨sgn_inj, fun h => by rw [h]⟩
theorem hu100 {k : Nat} {A : Around} (hr : Room k A) : A.units + 100 < cLine := by have := hr.un; omega
end Pace
end
section
set_option Elab.async false
set_option linter.all false
set_option maxRecDepth 100000
set_option maxHeartbeats 4000000
namespace Pace
open PySem PySem.Spec PyProof.Rows L2 DL
theorem sz {n : Nat} (h : n ≤ 5000) : n ≤ sizeLine := by rw [sizeLine_eq]; omega
theorem szl {n : Nat} (h : n ≤ 5000) : n < sizeLine := by rw [sizeLine_eq]; omega
/-- what is reached by a speech -/
def run (rs : List (List Mv)) (ss : List Nat) (cs : List Nat) : List Nat := cs.foldl (behind rs) ss
theorem behind_mem {rs : List (List Mv)} {ss : List Nat} {c k : Nat} : k ∈ behind rs ss c ↔ ∃ s ∈ ss, ∃ m ∈ rs.getD s [], m.h = c ∧ m.t = k := by
  unfold behind
  rw [(nsort_perm _).mem_iff, firstsF_mem]
  simp [hits, and_assoc]
theorem behind_lt {rs : List (List Mv)} {n : Nat} (h : ∀ r ∈ rs, ∀ m ∈ r, m.t < n) {ss : List Nat} {c : Nat} : ∀ k ∈ behind rs ss c, k < n := by
  intro k hk
  obtain ⟨s, _, m, hm, _, rfl⟩ := behind_mem.mp hk
  cases e : rs[s]? with
  | none => simp [List.getD, e] at hm
  | some r =>
    simp [List.getD, e] at hm
    exact h r (List.mem_of_getElem? e) m hm
theorem lt_of_le_nd : ∀ {l : List Nat}, l.Pairwise (· ≤ ·) → l.Nodup → l.Pairwise (· < ·)
  | [], _, _ => .nil
  | a :: l, h, nd => by
    rw [List.pairwise_cons] at h
    rw [List.nodup_cons] at nd
    refine List.pairwise_cons.mpr ⟨fun b hb => ?_, lt_of_le_nd h.2 nd.2⟩
    have h1 := h.1 b hb
    have h2 : a ≠ b := fun e => nd.1 (e ▸ hb)
    omega
theorem behind_sorted {rs : List (List Mv)} {ss : List Nat} {c : Nat} : (behind rs ss c).Pairwise (· < ·) := by
  unfold behind
  refine lt_of_le_nd (nsort_le _) ?_
  exact (nsort_perm _).nodup_iff.mpr (firstsF_nodup _)
/-- the sets of numbers below n -/
def subs : Nat → List (List Nat)
  | 0 => [[]]
  | n + 1 => subs n ++ (subs n).map (· ++ [n])
theorem subs_len : ∀ n, (subs n).length = 2 ^ n
  | 0 => rfl
  | n + 1 => by simp [subs, subs_len n]; omega
theorem subs_mem : ∀ (n : Nat) (l : List Nat), l.Pairwise (· < ·) → (∀ k ∈ l, k < n) → l ∈ subs n
  | 0, l, _, h => by
    cases l with
    | nil => simp [subs]
    | cons a l => exact absurd (h a (by simp)) (by omega)
  | n + 1, l, hp, h => by
    rcases List.eq_nil_or_concat l with rfl | ⟨l', a, rfl⟩
    · exact List.mem_append.mpr (.inl (subs_mem n [] .nil (by simp)))
    · rw [List.concat_eq_append] at *
      rw [List.pairwise_append] at hp
      obtain ⟨h1, _, h3⟩ := hp
      have ha := h a (by simp)
      by_cases e : a = n
      · subst e
        refine List.mem_append.mpr (.inr (List.mem_map.mpr ⟨l', subs_mem a l' h1 fun k hk => h3 k hk a (by simp), rfl⟩))
      · refine List.mem_append.mpr (.inl (subs_mem n _ (List.pairwise_append.mpr ⟨h1, by simp, h3⟩) fun k hk => ?_))
        rcases List.mem_append.mp hk with hk | hk
        · have := h3 k hk a (by simp); omega
        · simp at hk; omega
theorem sets_len {ls : List (List Nat)} {n : Nat} (nd : ls.Nodup) (h : ∀ l ∈ ls, l.Pairwise (· < ·) ∧ ∀ k ∈ l, k < n) : ls.length ≤ 2 ^ n := by
  rw [← subs_len n]
  exact List.Nodup.length_le_of_subset nd fun l hl => subs_mem n l (h l hl).1 (h l hl).2
/-- sets met, each with its speech -/
abbrev Ord := List (List Nat × List Nat)
structure OrdOk (rs : List (List Mv)) (hs : List Nat) (ord : Ord) : Prop where
  nd : (ord.map (·.1)).Nodup
  st : ∀ x ∈ ord, x.1.Pairwise (· < ·) ∧ ∀ k ∈ x.1, k < rs.length
  ln : ∀ (i : Nat) (x : List Nat × List Nat), ord[i]? = some x → x.2.length ≤ i
  rn : ∀ x ∈ ord, run rs [0] x.2 = x.1 ∧ x.1 ≠ [] ∧ ∀ c ∈ x.2, c ∈ hs
theorem OrdOk.len {rs : List (List Mv)} {hs : List Nat} {ord : Ord} (h : OrdOk rs hs ord) : ord.length ≤ 2 ^ rs.length := by
  have := sets_len (ls := ord.map (·.1)) (n := rs.length) h.nd fun l hl => by
    obtain ⟨x, hx, rfl⟩ := List.mem_map.mp hl
    exact h.st x hx
  simpa using this
theorem OrdOk.start {rs : List (List Mv)} {hs : List Nat} (h : 0 < rs.length) : OrdOk rs hs [([0], [])] where
  nd := by simp
  st := fun x hx => by simp at hx; subst hx; exact ⟨by simp, by simpa using h⟩
  ln := fun i x hx => by
    cases i with
    | zero => simp at hx; subst hx; simp
    | succ i => simp at hx
  rn := fun x hx => by simp at hx; subst hx; exact ⟨rfl, by simp, by simp⟩
theorem run_lt {rs : List (List Mv)} {n : Nat} (h : ∀ r ∈ rs, ∀ m ∈ r, m.t < n) {ss : List Nat} (hs : ∀ k ∈ ss, k < n) : ∀ {cs : List Nat}, ∀ k ∈ run rs ss cs, k < n := by
  intro cs
  rcases List.eq_nil_or_concat cs with rfl | ⟨l, a, rfl⟩
  · exact hs
  · intro k hk
    rw [List.concat_eq_append] at hk
    have : run rs ss (l ++ [a]) = behind rs (run rs ss l) a := by simp [run]
    rw [this] at hk
    exact behind_lt h k hk
/-- a text of codes -/
def strOf (cs : List Nat) : Str := ⟨cs.toArray⟩
theorem strOf_app (a b : List Nat) : strOf a ++ strOf b = strOf (a ++ b) := by
  show (⟨a.toArray ++ b.toArray⟩ : Str) = ⟨(a ++ b).toArray⟩
  simp
theorem strOf_len (a : List Nat) : (strOf a).length = a.length := by
  show a.toArray.size = _
  simp
theorem strOf_inj {a b : List Nat} (h : strOf a = strOf b) : a = b := by
  have : (strOf a).cps.toList = (strOf b).cps.toList := by rw [h]
  simpa [strOf] using this
theorem signs_get {cs : List Nat} {i : Nat} {d : D} (h : (DL.signs (strOf cs))[i]? = some d) : ∃ c, cs[i]? = some c ∧ d = .str (sgn c) := by
  unfold DL.signs strOf at h
  rw [List.getElem?_map] at h
  simp only at h
  cases e : cs[i]? with
  | none => rw [e] at h; cases h
  | some c => rw [e] at h; cases h; exact ⟨c, rfl, rfl⟩
theorem signs_len (cs : List Nat) : (DL.signs (strOf cs)).length = cs.length := by simp [DL.signs, strOf]
theorem run_snoc {rs : List (List Mv)} {ss cs : List Nat} {c : Nat} : run rs ss (cs ++ [c]) = behind rs (run rs ss cs) c := by simp [run]
theorem natsD_inj {a b : List Nat} (h : natsD a = natsD b) : a = b := by
  refine List.map_inj_right (f := fun (n : Nat) => D.int (n : Int)) (fun x y e => ?_) |>.mp h
  have : (x : Int) = (y : Int) := D.int.inj e
  omega
theorem natsD_si (ns : List Nat) : D.sis (natsD ns) = true := by
  rw [sis_all]
  intro x hx
  obtain ⟨n, _, rfl⟩ := List.mem_map.mp hx
  rfl
theorem natsD_dps (ns : List Nat) : D.dps (natsD ns) ≤ 0 := dps_le fun x hx => by
  obtain ⟨n, _, rfl⟩ := List.mem_map.mp hx
  simp [D.dp]
theorem natsD_eqvL (a b : List Nat) : D.eqv (.lst (natsD a)) (.lst (natsD b)) = decide (a = b) := by
  rw [Bool.eq_iff_iff, eqv_si (x := .lst (natsD a)) (y := .lst (natsD b)) (natsD_si a) (natsD_si b)]
  simp only [D.lst.injEq, decide_eq_true_eq]
  exact ⟨natsD_inj, fun e => by rw [e]⟩
theorem natsD_okEL (a b : List Nat) : okE (.lst (natsD a)) (.lst (natsD b)) = true := okE_si (natsD_si a) (natsD_si b) (by have := natsD_dps a; simp only [D.dp]; omega)
theorem put_new {κ : Type} [DecidableEq κ] {kds : List (κ × D)} {k : κ} {d : D} (h : valD kds k = none) : putD kds k d = kds ++ [(k, d)] := by
  unfold putD
  rw [if_neg]
  intro z
  unfold valD at h
  rw [Option.map_eq_none_iff, List.find?_eq_none] at h
  rw [List.any_eq_true] at z
  obtain ⟨x, hx, e⟩ := z
  exact h x hx e
end Pace
end
section
set_option Elab.async false
set_option linter.all false
set_option maxRecDepth 100000
set_option maxHeartbeats 4000000
namespace Pace
open PySem PySem.Spec PyProof.Rows L2 DL
theorem strIn_sgn (c : Nat) (a : List Nat) : strIn (sgn c) (strOf a) = decide (c ∈ a) := by
  exact (StrLaws.found_one (strOf a) c).trans (decide_eq_decide.mpr (by simp [strOf]))
theorem cut_last {α : Type} (xs : List α) : DL.cutD xs none (some (-1)) = xs.dropLast := by
  unfold DL.cutD
  rw [HT.sIx_none, List.drop_zero, Nat.sub_zero, List.dropLast_eq_take]
  congr 1
  show (if (-1 : Int) < 0 then ((-1 : Int) + (xs.length : Int)).toNat else min (-1 : Int).toNat xs.length) = _
  rw [if_pos (by decide)]
  omega
theorem cut_tail {α : Type} (xs : List α) : DL.cutD xs (some 1) none = xs.tail := by
  unfold DL.cutD
  have e : HT.sIx xs.length 0 (some 1) = min 1 xs.length := HT.sIx_nat xs.length 0 1
  rw [HT.sIx_none, e]
  cases xs with
  | nil => rfl
  | cons x xs =>
    have : min 1 (x :: xs).length = 1 := by simp
    rw [this]
    simp
theorem cutS_strOf (cs : List Nat) (lo hi : Option Int) : cutS (strOf cs) lo hi = strOf (DL.cutD cs lo hi) := by
  unfold cutS DL.cutD
  rw [strOf_len]
  simp [strOf]
def abc : List Nat := [97, 98, 99, 100, 101, 102, 103, 104, 105, 106, 107, 108, 109, 110, 111, 112, 113, 114, 115, 116, 117, 118, 119, 120, 121, 122]
theorem abc_str : (Str.ofString "abcdefghijklmnopqrstuvwxyz") = strOf abc := by decide +kernel
/-- neighbours -/
def nbr {α : Type} (r : α → α → Bool) (l : List α) : Bool := (List.zipWith r l.dropLast l.tail).all id
def lettersB (cs : List Nat) : Bool := !cs.isEmpty && cs.all (fun c => decide (c ∈ abc)) && nbr (fun a b => decide (a < b)) cs
def mvB (hs ws : List Nat) (n : Nat) (m : Mv) : Bool := decide (m.h ∈ hs) && decide (m.c ∈ ws) && decide (m.t < n)
def mvLt (a b : Mv) : Bool := decide (a.h < b.h ∨ (a.h = b.h ∧ a.c < b.c))
def rowB (hs ws : List Nat) (n : Nat) (r : List Mv) : Bool := r.all (mvB hs ws n) && nbr mvLt r
theorem sgn_lt (a b : Nat) : D.lt (.str (sgn a)) (.str (sgn b)) = decide (a < b) := by
  rw [DL.lt_str]
  refine decide_eq_decide.mpr ?_
  simp [sgn, List.cons_lt_cons_iff]
theorem mv_lt (a b : Mv) : D.lt (.tup [.str (sgn a.h), .str (sgn a.c)]) (.tup [.str (sgn b.h), .str (sgn b.c)]) = mvLt a b := by
  have e : D.lt (.tup [.str (sgn a.h), .str (sgn a.c)]) (.tup [.str (sgn b.h), .str (sgn b.c)]) = PySem.W.dataLt (.tuple [.str (sgn a.h), .str (sgn a.c)]) (.tuple [.str (sgn b.h), .str (sgn b.c)]) := rfl
  rw [e, PySem.W.dataLt_pair rfl rfl]
  have e1 : ∀ x y : Nat, PyData.eqv (.str (sgn x)) (.str (sgn y)) = (x == y) := fun x y => by
    have := eqv_str (sgn x) (sgn y)
    rw [sgn_beq] at this
    exact this
  have e2 : ∀ x y : Nat, PySem.W.dataLt (.str (sgn x)) (.str (sgn y)) = decide (x < y) := fun x y => sgn_lt x y
  rw [e1, e1, e2, e2]
  unfold mvLt
  by_cases h : a.h = b.h
  · rw [if_pos (by simp [h])]
    by_cases h2 : a.c = b.c
    · rw [if_pos (by simp [h2])]; simp [h, h2]
    · rw [if_neg (by simp [h2])]; simp [h]
  · rw [if_neg (by simp [h])]; simp [h]
theorem mv_okL (a b : Mv) : okL (.tup [.str (sgn a.h), .str (sgn a.c)]) (.tup [.str (sgn b.h), .str (sgn b.c)]) = true := rfl
theorem str_nil : Str.ofString "" = strOf [] := by decide +kernel
theorem mv0 (m : Mv) : D.item (.tup [.str (sgn m.h), .str (sgn m.c), .int (m.t : Int)]) (.int 0) = some (.str (sgn m.h)) := rfl
theorem mv1 (m : Mv) : D.item (.tup [.str (sgn m.h), .str (sgn m.c), .int (m.t : Int)]) (.int 1) = some (.str (sgn m.c)) := rfl
theorem mv2 (m : Mv) : D.item (.tup [.str (sgn m.h), .str (sgn m.c), .int (m.t : Int)]) (.int 2) = some (.int (m.t : Int)) := rfl
theorem mv_cut (m : Mv) : DL.cutD [.str (sgn m.h), .str (sgn m.c), .int (m.t : Int)] none (some 2) = [D.str (sgn m.h), .str (sgn m.c)] := rfl
theorem nbr_cons {α : Type} (r : α → α → Bool) (a b : α) (l : List α) : nbr r (a :: b :: l) = (r a b && nbr r (b :: l)) := by
  unfold nbr
  simp [List.dropLast]
theorem nbr_pair {α : Type} {r : α → α → Bool} (tr : ∀ a b c, r a b = true → r b c = true → r a c = true) : ∀ l : List α, nbr r l = true → l.Pairwise fun a b => r a b = true
  | [], _ => .nil
  | [a], _ => by simp
  | a :: b :: l, h => by
    rw [nbr_cons, Bool.and_eq_true] at h
    have ih := nbr_pair tr (b :: l) h.2
    refine List.pairwise_cons.mpr ⟨fun c hc => ?_, ih⟩
    rcases List.mem_cons.mp hc with rfl | hc
    · exact h.1
    · exact tr a b c h.1 ((List.pairwise_cons.mp ih).1 c hc)
theorem mvLt_tr (a b c : Mv) (h1 : mvLt a b = true) (h2 : mvLt b c = true) : mvLt a c = true := by
  unfold mvLt at *
  simp only [decide_eq_true_eq] at *
  omega
/-- a row's keys -/
def mvK (m : Mv) : List Key × D := ([.inr (sgn m.h), .inr (sgn m.c)], .int (m.t : Int))
theorem mvK_ne {a b : Mv} (h : mvLt a b = true) : (mvK a).1 ≠ (mvK b).1 := by
  intro e
  simp only [mvK, List.cons.injEq, Sum.inr.injEq, and_true] at e
  have h1 := sgn_inj e.1
  have h2 := sgn_inj e.2
  unfold mvLt at h
  simp only [decide_eq_true_eq] at h
  omega
theorem merge_row : ∀ (r : List Mv) (acc : List (List Key × D)), (∀ m ∈ r, ∀ x ∈ acc, x.1 ≠ (mvK m).1) → r.Pairwise (fun a b => mvLt a b = true) → mergeDT acc (r.map mvK) = acc ++ r.map mvK
  | [], acc, _, _ => by simp [mergeDT]
  | m :: r, acc, h, hp => by
    rw [List.pairwise_cons] at hp
    have hv : valD acc (mvK m).1 = none := by
      unfold valD
      rw [Option.map_eq_none_iff, List.find?_eq_none]
      intro x hx
      simpa using h m (by simp) x hx
    show mergeDT (putD acc (mvK m).1 (mvK m).2) (r.map mvK) = _
    rw [put_new hv, merge_row r _ (fun m' hm' x hx => ?_) hp.2]
    · simp
    · rcases List.mem_append.mp hx with hx | hx
      · exact h m' (by simp [hm']) x hx
      · simp at hx; subst hx
        exact mvK_ne (hp.1 m' hm')
theorem merge_rowB {hs ws : List Nat} {n : Nat} {r : List Mv} (h : rowB hs ws n r = true) : mergeDT [] (r.map mvK) = r.map mvK := by
  unfold rowB at h
  rw [Bool.and_eq_true] at h
  have := merge_row r [] (fun _ _ x hx => by simp at hx) (nbr_pair mvLt_tr r h.2)
  simpa using this
theorem prsT_row : ∀ r : List Mv, prsT (r.map fun m => .tup [.tup [.str (sgn m.h), .str (sgn m.c)], .int (m.t : Int)]) = some (r.map mvK)
  | [] => rfl
  | m :: r => by
    simp only [List.map_cons, prsT, D.keys, D.key, prsT_row r]
    rfl
/-- rules that Rules takes -/
structure RulV (hs ws : List Nat) (rs : List (List Mv)) : Prop where
  lh : lettersB hs = true
  lw : lettersB ws = true
  sh : hs.length ≤ 1000
  sw : ws.length ≤ 1000
  n1 : 1 ≤ rs.length
  n2 : rs.length ≤ 999
  row : ∀ r ∈ rs, rowB hs ws rs.length r = true ∧ r.length ≤ 1000
def mkR (hs ws : List Nat) (rs : List (List Mv)) : Rul := ⟨strOf hs, strOf ws, rs⟩
theorem RulV.ok {hs ws : List Nat} {rs : List (List Mv)} (h : RulV hs ws rs) : (mkR hs ws rs).Ok where
  few := by have := h.n2; show rs.length ≤ 1000; omega
  at_ := fun r hr => by
    obtain ⟨a, b⟩ := h.row r hr
    refine ⟨b, fun m hm => ?_⟩
    unfold rowB at a
    rw [Bool.and_eq_true, List.all_eq_true] at a
    have := a.1 m hm
    unfold mvB at this
    simp only [Bool.and_eq_true, decide_eq_true_eq] at this
    exact this.2
theorem pf1 (a : D) : putFD "heard" a [] = [(("heard" : Str), a)] := rfl
theorem pf2 (a b : D) : putFD "written" b [(("heard" : Str), a)] = [(("heard" : Str), a), (("written" : Str), b)] := rfl
theorem pf3 (a b c : D) : putFD "rows" c [(("heard" : Str), a), (("written" : Str), b)] = [(("heard" : Str), a), (("written" : Str), b), (("rows" : Str), c)] := rfl
theorem pf4 (a b c d : D) : putFD "steps" d [(("heard" : Str), a), (("written" : Str), b), (("rows" : Str), c)] = [(("heard" : Str), a), (("written" : Str), b), (("rows" : Str), c), (("steps" : Str), d)] := rfl
end Pace
end
section
set_option Elab.async false
set_option linter.all false
set_option maxRecDepth 100000
set_option maxHeartbeats 4000000
namespace Pace
open PySem PySem.Spec PyProof.Rows L2 DL
/-- few enough for the set of what is reached -/
structure Few (rs : List (List Mv)) : Prop where
  few : ∃ B, (∀ r ∈ rs, r.length ≤ B) ∧ rs.length * B < 64
theorem flat_len {α β : Type} (f : α → List β) (B : Nat) : ∀ l : List α, (∀ a ∈ l, (f a).length ≤ B) → (l.flatMap f).length ≤ l.length * B
  | [], _ => by simp
  | a :: l, h => by
    have h1 := h a (by simp)
    have h2 := flat_len f B l fun b hb => h b (by simp [hb])
    simp only [List.flatMap_cons, List.length_append, List.length_cons]
    rw [Nat.add_mul]
    omega
theorem hits_len {rs : List (List Mv)} {B : Nat} (h : ∀ r ∈ rs, r.length ≤ B) (s c : Nat) : (hits rs s c).length ≤ B := by
  unfold hits
  rw [List.length_map]
  refine Nat.le_trans (List.length_filter_le _ _) ?_
  cases e : rs[s]? with
  | none => simp [List.getD, e]
  | some r => simpa [List.getD, e] using h r (List.mem_of_getElem? e)
theorem Few.len {rs : List (List Mv)} (h : Few rs) {ss : List Nat} (nd : ss.Nodup) (hl : ∀ s ∈ ss, s < rs.length) (c : Nat) : (ss.flatMap fun s => hits rs s c).length < 64 := by
  obtain ⟨B, h1, h2⟩ := h.few
  have h3 := flat_len (fun s => hits rs s c) B ss fun s _ => hits_len h1 s c
  have h4 := nodup_lt_len nd hl
  have h5 := Nat.mul_le_mul_right B h4
  omega
theorem isort1_nat (ts : List Nat) : (isort1 (ts.map fun (t : Nat) => (t : Int))).map D.int = natsD (nsort (firstsF ts)) := by
  have e : firstsF (ts.map fun (t : Nat) => (t : Int)) = (firstsF ts).map fun (t : Nat) => (t : Int) := by
    have aux : ∀ (l acc : List Nat), (l.map fun (t : Nat) => (t : Int)).foldl addF (acc.map fun (t : Nat) => (t : Int)) = (l.foldl addF acc).map fun (t : Nat) => (t : Int) := by
      intro l
      induction l with
      | nil => intro acc; rfl
      | cons t l ih =>
        intro acc
        rw [List.map_cons, List.foldl_cons, List.foldl_cons, ← ih]
        congr 1
        unfold addF
        have : ((t : Int) ∈ acc.map fun (t : Nat) => (t : Int)) ↔ t ∈ acc := by
          rw [List.mem_map]
          constructor
          · rintro ⟨a, ha, e⟩
            have : a = t := by omega
            exact this ▸ ha
          · exact fun h => ⟨t, h, rfl⟩
        by_cases h : t ∈ acc
        · rw [if_pos (this.mpr h), if_pos h]
        · rw [if_neg (fun z => h (this.mp z)), if_neg h]; simp
    exact aux ts []
  unfold isort1
  rw [e, isort_nat]
theorem intsD_nats (ts : List Nat) : intsD (natsD ts) = some (ts.map fun (t : Nat) => (t : Int)) := by
  have := intsD_map (ts.map fun (t : Nat) => (t : Int))
  rw [List.map_map] at this
  exact this
theorem behind_nodup {rs : List (List Mv)} {ss : List Nat} {c : Nat} : (behind rs ss c).Nodup := behind_sorted.imp fun h => by omega
theorem run_nodup {rs : List (List Mv)} {ss : List Nat} (h : ss.Nodup) : ∀ {cs : List Nat}, (run rs ss cs).Nodup := by
  intro cs
  rcases List.eq_nil_or_concat cs with rfl | ⟨l, a, rfl⟩
  · exact h
  · rw [List.concat_eq_append, run_snoc]; exact behind_nodup
theorem natsD_len (a : List Nat) : (natsD a).length = a.length := by simp [natsD]
theorem natsD_app (a b : List Nat) : natsD a ++ natsD b = natsD (a ++ b) := by simp [natsD]
theorem natsD_eqvL0 (a : List Nat) : D.eqv (.lst (natsD a)) (.lst []) = decide (a = []) := natsD_eqvL a []
theorem natsD_okEL0 (a : List Nat) : okE (.lst (natsD a)) (.lst []) = true := natsD_okEL a []
end Pace
end
section
set_option Elab.async false
set_option linter.all false
set_option maxRecDepth 100000
set_option maxHeartbeats 4000000
namespace Pace
open PySem PySem.Spec PyProof.Rows L2 DL
/-- a lot: states, moves -/
abbrev Lot := List (Nat × Mv)
def lt3 (a b : Mv) : Bool := if a.h == b.h then (if a.c == b.c then decide (a.t < b.t) else decide (a.c < b.c)) else decide (a.h < b.h)
def le3 (a b : Mv) : Bool := !lt3 b a
theorem lt3_iff (a b : Mv) : lt3 a b = true ↔ a.h < b.h ∨ (a.h = b.h ∧ (a.c < b.c ∨ (a.c = b.c ∧ a.t < b.t))) := by
  unfold lt3
  by_cases h : a.h = b.h
  · rw [if_pos (by simp [h])]
    by_cases h2 : a.c = b.c
    · rw [if_pos (by simp [h2])]; simp [h, h2]
    · rw [if_neg (by simp [h2])]; simp [h, h2]
  · rw [if_neg (by simp [h])]; simp [h]
theorem le3_tr (a b c : Mv) (h1 : le3 a b = true) (h2 : le3 b c = true) : le3 a c = true := by
  unfold le3 at *
  simp only [Bool.not_eq_true', Bool.eq_false_iff, ne_eq, lt3_iff] at *
  omega
theorem le3_tot (a b : Mv) : (le3 a b || le3 b a) = true := by
  unfold le3
  rw [Bool.or_eq_true, Bool.not_eq_true', Bool.not_eq_true', Bool.eq_false_iff, Bool.eq_false_iff, ne_eq, ne_eq, lt3_iff, lt3_iff]
  omega
def rowOf (lot : Lot) (s : Nat) : List Mv := ((lot.filter fun x => x.1 == s).map (·.2)).mergeSort le3
def rowsOf (lot : Lot) (n : Nat) : List (List Mv) := (List.range n).map (rowOf lot)
theorem rowOf_mem {lot : Lot} {s : Nat} {m : Mv} : m ∈ rowOf lot s ↔ (s, m) ∈ lot := by
  unfold rowOf
  rw [(List.mergeSort_perm _ _).mem_iff, List.mem_map]
  constructor
  · rintro ⟨x, hx, rfl⟩
    rw [List.mem_filter] at hx
    have : x.1 = s := by simpa using hx.2
    rw [← this]
    exact hx.1
  · exact fun h => ⟨(s, m), List.mem_filter.mpr ⟨h, by simp⟩, rfl⟩
/-- keys are met once -/
def LotNd (lot : Lot) : Prop := (lot.map fun x => (x.1, x.2.h, x.2.c)).Nodup
theorem nbr_of_pair {α : Type} {r : α → α → Bool} : ∀ {l : List α}, l.Pairwise (fun a b => r a b = true) → nbr r l = true
  | [], _ => rfl
  | [a], _ => rfl
  | a :: b :: l, h => by
    rw [nbr_cons, Bool.and_eq_true]
    rw [List.pairwise_cons] at h
    exact ⟨h.1 b (by simp), nbr_of_pair h.2⟩
theorem rowOf_lt {lot : Lot} (nd : LotNd lot) (s : Nat) : (rowOf lot s).Pairwise fun a b => mvLt a b = true := by
  have h1 : (rowOf lot s).Pairwise fun a b => le3 a b = true := List.pairwise_mergeSort (le := le3) le3_tr le3_tot _
  have h2 : (rowOf lot s).Pairwise fun a b => (a.h, a.c) ≠ (b.h, b.c) := by
    have pm : (rowOf lot s).Perm ((lot.filter fun x => x.1 == s).map (·.2)) := List.mergeSort_perm _ _
    refine (pm.pairwise_iff fun h => fun e => h e.symm).mpr ?_
    rw [List.pairwise_map]
    have h3 : lot.Pairwise fun x y => (x.1, x.2.h, x.2.c) ≠ (y.1, y.2.h, y.2.c) := by
      unfold LotNd at nd
      rw [List.nodup_iff_pairwise_ne, List.pairwise_map] at nd
      exact nd
    have h4 := h3.sublist (List.filter_sublist (p := fun x => x.1 == s))
    refine h4.imp_of_mem fun {x y} hx hy h e => h ?_
    rw [List.mem_filter] at hx hy
    have e1 : x.1 = s := by simpa using hx.2
    have e2 : y.1 = s := by simpa using hy.2
    simp only [Prod.mk.injEq] at e
    rw [e1, e2, e.1, e.2]
  refine (h1.and h2).imp fun {a b} h => ?_
  obtain ⟨h, n⟩ := h
  unfold le3 at h
  rw [Bool.not_eq_true', Bool.eq_false_iff, ne_eq, lt3_iff] at h
  unfold mvLt
  simp only [decide_eq_true_eq]
  simp only [ne_eq, Prod.mk.injEq] at n
  omega
theorem intL_si (ns : List Int) : D.sis (ns.map D.int) = true := by
  rw [sis_all]
  intro x hx
  obtain ⟨n, _, rfl⟩ := List.mem_map.mp hx
  rfl
theorem intL_ok (ns : List Int) : okE (.lst (ns.map D.int)) (.lst []) = true := by
  refine okE_si (x := .lst (ns.map D.int)) (y := .lst []) (intL_si ns) rfl ?_
  have : D.dps (ns.map D.int) ≤ 0 := dps_le fun x hx => by
    obtain ⟨n, _, rfl⟩ := List.mem_map.mp hx
    simp [D.dp]
  simp only [D.dp]
  omega
theorem intL_eqv (ns : List Int) : D.eqv (.lst (ns.map D.int)) (.lst []) = decide (ns = []) := by
  rw [Bool.eq_iff_iff, eqv_si (x := .lst (ns.map D.int)) (y := .lst []) (intL_si ns) rfl]
  simp
theorem pop_last (ns : List Int) (a : Int) : ((ns ++ [a]).map D.int)[((ns ++ [a]).map D.int).length - 1]? = some (.int a) := by simp
theorem pop_rest (ns : List Int) (a : Int) : ((ns ++ [a]).map D.int).dropLast = ns.map D.int := by simp
end Pace
end
section
set_option Elab.async false
set_option linter.all false
set_option maxRecDepth 100000
set_option maxHeartbeats 4000000
namespace Pace
open PySem PySem.Spec PyProof.Rows L2 DL
theorem texts_sgn : ∀ cs : List Nat, texts (cs.map fun c => .str (sgn c)) = some (cs.map sgn)
  | [] => rfl
  | c :: cs => by simp [texts, texts_sgn cs]
theorem join_sgn : ∀ cs : List Nat, Txt.join (Str.ofString "") (cs.map sgn) = strOf cs := by
  have hn : ∀ x : Str, Str.ofString "" ++ x = x := fun x => by
    rw [str_nil]
    show (⟨#[] ++ x.cps⟩ : Str) = x
    simp
  intro cs
  rw [TL.join_eq]
  induction cs with
  | nil => rw [← str_nil]; rfl
  | cons c cs ih =>
    cases cs with
    | nil => rfl
    | cons d cs =>
      show sgn c ++ Str.ofString "" ++ Str.join (Str.ofString "") ((d :: cs).map sgn) = _
      rw [ih]
      have : sgn c ++ Str.ofString "" = sgn c := by
        rw [str_nil]
        show (⟨#[c] ++ #[]⟩ : Str) = _
        rfl
      rw [this]
      exact strOf_app [c] (d :: cs)
theorem sgn_sum (cs : List Nat) : ((cs.map sgn).map (·.length)).sum = cs.length := by
  induction cs with
  | nil => rfl
  | cons c cs ih =>
    simp only [List.map_cons, List.sum_cons, ih, List.length_cons]
    have : (sgn c).length = 1 := rfl
    omega
end Pace
end
section
set_option Elab.async false
set_option linter.all false
set_option maxRecDepth 100000
set_option maxHeartbeats 4000000
namespace Pace
open PySem PySem.Spec PyProof.Rows L2 DL
def key3 (x : Nat × Mv) : Nat × Nat × Nat := (x.1, x.2.h, x.2.c)
def lotPut (lot : Lot) (x : Nat × Mv) : Lot := if lot.any (fun y => decide (key3 y = key3 x)) then lot.map (fun y => if key3 y = key3 x then x else y) else lot ++ [x]
structure LotOk (sz : Nat) (hs ws : List Nat) (lot : Lot) : Prop where
  nd : LotNd lot
  at_ : ∀ x ∈ lot, x.1 < sz ∧ x.2.h ∈ hs ∧ x.2.c ∈ ws ∧ x.2.t < sz
theorem lotPut_keys (lot : Lot) (x : Nat × Mv) : (lotPut lot x).map key3 = if lot.any (fun y => decide (key3 y = key3 x)) then lot.map key3 else lot.map key3 ++ [key3 x] := by
  unfold lotPut
  split
  · rw [List.map_map]
    refine List.map_congr_left fun y _ => ?_
    simp only [Function.comp]
    split
    · rename_i h; exact h.symm
    · rfl
  · simp
theorem lotPut_mem {lot : Lot} {x y : Nat × Mv} (h : y ∈ lotPut lot x) : y ∈ lot ∨ y = x := by
  unfold lotPut at h
  split at h
  · obtain ⟨z, hz, rfl⟩ := List.mem_map.mp h
    split
    · exact .inr rfl
    · exact .inl hz
  · rcases List.mem_append.mp h with h | h
    · exact .inl h
    · simp at h; exact .inr h
theorem LotOk.put {sz : Nat} {hs ws : List Nat} {lot : Lot} (h : LotOk sz hs ws lot) {x : Nat × Mv} (hx : x.1 < sz ∧ x.2.h ∈ hs ∧ x.2.c ∈ ws ∧ x.2.t < sz) : LotOk sz hs ws (lotPut lot x) where
  nd := by
    have e := lotPut_keys lot x
    have n0 : (lot.map key3).Nodup := h.nd
    show ((lotPut lot x).map key3).Nodup
    rw [e]
    split
    · exact n0
    · rename_i hn
      rw [List.nodup_append]
      refine ⟨n0, by simp, fun a ha b hb => ?_⟩
      simp at hb
      subst hb
      intro e
      subst e
      obtain ⟨y, hy, e2⟩ := List.mem_map.mp ha
      exact hn (List.any_eq_true.mpr ⟨y, hy, by simpa using e2⟩)
  at_ := fun y hy => by
    rcases lotPut_mem hy with hy | rfl
    · exact h.at_ y hy
    · exact hx
theorem prod_len (a b : List Nat) : (a.flatMap fun x => b.map fun y => (x, y)).length = a.length * b.length := by
  induction a with
  | nil => simp
  | cons x a ih => simp only [List.flatMap_cons, List.length_append, List.length_map, ih, List.length_cons, Nat.add_mul]; omega
theorem row_few {sz : Nat} {hs ws : List Nat} {lot : Lot} (h : LotOk sz hs ws lot) (s : Nat) : (rowOf lot s).length ≤ hs.length * ws.length := by
  have hp := rowOf_lt h.nd s
  have nd : ((rowOf lot s).map fun m => (m.h, m.c)).Nodup := by
    rw [List.nodup_iff_pairwise_ne, List.pairwise_map]
    refine hp.imp fun {a b} hab e => ?_
    unfold mvLt at hab
    simp only [decide_eq_true_eq] at hab
    simp only [Prod.mk.injEq] at e
    omega
  have := List.Nodup.length_le_of_subset nd (l₂ := hs.flatMap fun x => ws.map fun y => (x, y)) fun p hp => by
    obtain ⟨m, hm, rfl⟩ := List.mem_map.mp hp
    obtain ⟨_, h2, h3, _⟩ := h.at_ _ (rowOf_mem.mp hm)
    exact List.mem_flatMap.mpr ⟨m.h, h2, List.mem_map.mpr ⟨m.c, h3, rfl⟩⟩
  rw [List.length_map, prod_len] at this
  exact this
theorem lot_few {sz : Nat} {hs ws : List Nat} {lot : Lot} (h : LotOk sz hs ws lot) : lot.length ≤ sz * (hs.length * ws.length) := by
  have nd : (lot.map key3).Nodup := h.nd
  have := List.Nodup.length_le_of_subset nd (l₂ := (List.range sz).flatMap fun s => (hs.flatMap fun x => ws.map fun y => (x, y)).map fun p => (s, p)) fun p hp => by
    obtain ⟨x, hx, rfl⟩ := List.mem_map.mp hp
    obtain ⟨h1, h2, h3, _⟩ := h.at_ _ hx
    exact List.mem_flatMap.mpr ⟨x.1, List.mem_range.mpr h1, List.mem_map.mpr ⟨(x.2.h, x.2.c), List.mem_flatMap.mpr ⟨x.2.h, h2, List.mem_map.mpr ⟨x.2.c, h3, rfl⟩⟩, rfl⟩⟩
  have e : ((List.range sz).flatMap fun s => (hs.flatMap fun x => ws.map fun y => (x, y)).map fun p => (s, p)).length ≤ sz * (hs.length * ws.length) := by
    have := flat_len (fun s => (hs.flatMap fun x => ws.map fun y => (x, y)).map fun p => (s, p)) (hs.length * ws.length) (List.range sz) fun s _ => by rw [List.length_map, prod_len]; exact Nat.le_refl _
    simpa using this
  rw [List.length_map] at this
  omega
theorem rowsOf_len (lot : Lot) (n : Nat) : (rowsOf lot n).length = n := by simp [rowsOf]
end Pace
end
section
set_option Elab.async false
set_option linter.all false
set_option maxRecDepth 100000
set_option maxHeartbeats 4000000
namespace Pace
open PySem PySem.Spec PyProof.Rows L2 DL
abbrev Rows := List (List Mv)
def rowS (A : Rows) (s : Nat) : List Mv := A.getD s []
/-- two rows with the same letters, and targets that go with each other -/
def rowsLike (P : Nat → Nat → Bool) : List Mv → List Mv → Bool
  | [], [] => true
  | m :: r, m' :: r' => (m.h == m'.h && m.c == m'.c && P m.t m'.t) && rowsLike P r r'
  | _, _ => false
/-- the same for k rounds -/
def sim : Nat → Rows → Nat → Rows → Nat → Bool
  | 0, _, _, _, _ => true
  | k + 1, A, s, B, t => rowsLike (fun x y => sim k A x B y) (rowS A s) (rowS B t)
def bis (A : Rows) (s : Nat) (B : Rows) (t : Nat) : Prop := ∀ k, sim k A s B t = true
theorem sim_refl (A : Rows) : ∀ k s, sim k A s A s = true := by
  intro k
  induction k with
  | zero => intro s; rfl
  | succ k ih =>
    intro s
    show rowsLike _ (rowS A s) (rowS A s) = true
    generalize rowS A s = r
    induction r with
    | nil => rfl
    | cons m r ihr => simp only [rowsLike, ih, ihr, beq_self_eq_true, Bool.and_self]
theorem sim_symm {A B : Rows} : ∀ {k s t}, sim k A s B t = true → sim k B t A s = true := by
  intro k
  induction k with
  | zero => intro s t _; rfl
  | succ k ih =>
    intro s t h
    show rowsLike _ (rowS B t) (rowS A s) = true
    have h : rowsLike _ (rowS A s) (rowS B t) = true := h
    generalize rowS A s = r at h
    generalize rowS B t = r' at h
    induction r generalizing r' with
    | nil => cases r' with
      | nil => rfl
      | cons _ _ => cases h
    | cons m r ihr => cases r' with
      | nil => cases h
      | cons m' r' =>
        simp only [rowsLike, Bool.and_eq_true, beq_iff_eq] at h ⊢
        exact ⟨⟨⟨h.1.1.1.symm, h.1.1.2.symm⟩, ih h.1.2⟩, ihr r' h.2⟩
theorem sim_trans {A B D : Rows} : ∀ {k s t u}, sim k A s B t = true → sim k B t D u = true → sim k A s D u = true := by
  intro k
  induction k with
  | zero => intro s t u _ _; rfl
  | succ k ih =>
    intro s t u h1 h2
    show rowsLike _ (rowS A s) (rowS D u) = true
    have h1 : rowsLike _ (rowS A s) (rowS B t) = true := h1
    have h2 : rowsLike _ (rowS B t) (rowS D u) = true := h2
    generalize rowS A s = r at h1
    generalize rowS B t = r' at h1 h2
    generalize rowS D u = r'' at h2
    induction r generalizing r' r'' with
    | nil => cases r' with
      | nil => cases r'' with
        | nil => rfl
        | cons _ _ => cases h2
      | cons _ _ => cases h1
    | cons m r ihr => cases r' with
      | nil => cases h1
      | cons m' r' => cases r'' with
        | nil => cases h2
        | cons m'' r'' =>
          simp only [rowsLike, Bool.and_eq_true, beq_iff_eq] at h1 h2 ⊢
          exact ⟨⟨⟨h1.1.1.1.trans h2.1.1.1, h1.1.1.2.trans h2.1.1.2⟩, ih h1.1.2 h2.1.2⟩, ihr r' h1.2 r'' h2.2⟩
theorem bis.refl (A : Rows) (s : Nat) : bis A s A s := fun k => sim_refl A k s
theorem bis.symm {A B : Rows} {s t : Nat} (h : bis A s B t) : bis B t A s := fun k => sim_symm (h k)
theorem bis.trans {A B D : Rows} {s t u : Nat} (h : bis A s B t) (g : bis B t D u) : bis A s D u := fun k => sim_trans (h k) (g k)
/-- what a bisimulation says of two rows -/
inductive Like (R : Nat → Nat → Prop) : List Mv → List Mv → Prop
  | nil : Like R [] []
  | cons {m m' : Mv} {r r' : List Mv} : m.h = m'.h → m.c = m'.c → R m.t m'.t → Like R r r' → Like R (m :: r) (m' :: r')
theorem bis.row {A B : Rows} {s t : Nat} (h : bis A s B t) : Like (fun x y => bis A x B y) (rowS A s) (rowS B t) := by
  have h : ∀ k, rowsLike (fun x y => sim k A x B y) (rowS A s) (rowS B t) = true := fun k => h (k + 1)
  generalize rowS A s = r at h
  generalize rowS B t = r' at h
  induction r generalizing r' with
  | nil => cases r' with
    | nil => exact .nil
    | cons _ _ => cases h 0
  | cons m r ih => cases r' with
    | nil => cases h 0
    | cons m' r' =>
      simp only [rowsLike, Bool.and_eq_true, beq_iff_eq] at h
      exact .cons (h 0).1.1.1 (h 0).1.1.2 (fun k => (h k).1.2) (ih r' fun k => (h k).2)
/-- a bisimulation: all pairs of it are the same -/
theorem bis_of {A B : Rows} {R : Nat → Nat → Prop} (h : ∀ s t, R s t → Like R (rowS A s) (rowS B t)) {s t : Nat} (r : R s t) : bis A s B t := by
  intro k
  induction k generalizing s t with
  | zero => rfl
  | succ k ih =>
    show rowsLike _ (rowS A s) (rowS B t) = true
    have l := h s t r
    generalize rowS A s = a at l
    generalize rowS B t = b at l
    clear r
    induction l with
    | nil => rfl
    | cons e1 e2 e3 _ ihl => simp only [rowsLike, e1, e2, ih e3, ihl, beq_self_eq_true, Bool.and_self]
theorem Like.imp {R R' : Nat → Nat → Prop} (f : ∀ x y, R x y → R' x y) {r r' : List Mv} (l : Like R r r') : Like R' r r' := by
  induction l with
  | nil => exact .nil
  | cons e1 e2 e3 _ ih => exact .cons e1 e2 (f _ _ e3) ih
inductive All2 (R : Nat → Nat → Prop) : List Nat → List Nat → Prop
  | nil : All2 R [] []
  | cons {x y : Nat} {l l' : List Nat} : R x y → All2 R l l' → All2 R (x :: l) (y :: l')
theorem All2.len {R : Nat → Nat → Prop} {l l' : List Nat} (h : All2 R l l') : l.length = l'.length := by
  induction h with
  | nil => rfl
  | cons _ _ ih => rw [List.length_cons, List.length_cons, ih]
theorem All2.snoc {R : Nat → Nat → Prop} {l l' : List Nat} {x y : Nat} (h : All2 R l l') (r : R x y) : All2 R (l ++ [x]) (l' ++ [y]) := by
  induction h with
  | nil => exact .cons r .nil
  | cons r' _ ih => exact .cons r' ih
theorem All2.get {R : Nat → Nat → Prop} {l l' : List Nat} (h : All2 R l l') : ∀ {i : Nat} {x : Nat}, l[i]? = some x → ∃ y, l'[i]? = some y ∧ R x y := by
  induction h with
  | nil => intro i x e; simp at e
  | cons r _ ih =>
    intro i x e
    cases i with
    | zero => simp at e; subst e; exact ⟨_, rfl, r⟩
    | succ i => simpa using ih (by simpa using e)
end Pace
end
section
set_option Elab.async false
set_option linter.all false
set_option maxRecDepth 100000
set_option maxHeartbeats 4000000
namespace Pace
open PySem PySem.Spec PyProof.Rows L2 DL
/-- targets lie within -/
def Closed (A : Rows) : Prop := 1 ≤ A.length ∧ ∀ r ∈ A, ∀ m ∈ r, m.t < A.length
theorem rowS_mem {A : Rows} {s : Nat} {m : Mv} (h : m ∈ rowS A s) : ∃ r ∈ A, m ∈ r := by
  unfold rowS at h
  rw [List.getD_eq_getElem?_getD] at h
  cases e : A[s]? with
  | none => rw [e] at h; simp at h
  | some r => rw [e] at h; exact ⟨r, List.mem_of_getElem? e, h⟩
theorem Closed.t {A : Rows} (c : Closed A) {s : Nat} {m : Mv} (h : m ∈ rowS A s) : m.t < A.length := by
  obtain ⟨r, hr, hm⟩ := rowS_mem h
  exact c.2 r hr m hm
theorem Like.mem {R : Nat → Nat → Prop} {r r' : List Mv} (l : Like R r r') : ∀ m ∈ r, ∃ t, R m.t t := by
  induction l with
  | nil => intro m hm; cases hm
  | cons e1 e2 e3 _ ih =>
    intro x hx
    rcases List.mem_cons.mp hx with rfl | hx
    · exact ⟨_, e3⟩
    · exact ih x hx
end Pace
end
section
set_option Elab.async false
set_option linter.all false
set_option maxRecDepth 100000
set_option maxHeartbeats 4000000
namespace DL
open PySem PySem.Spec PyProof.Rows L2
end DL
end
section
set_option Elab.async false
set_option linter.all false
set_option maxRecDepth 100000
set_option maxHeartbeats 4000000
namespace DL
open PySem PySem.Spec PyProof.Rows L2
end DL
end
section
set_option Elab.async false
set_option linter.all false
set_option maxRecDepth 100000
set_option maxHeartbeats 4000000
namespace DL
open PySem PySem.Spec PyProof.Rows L2
section
variable {X : Cx} {pos : Pos}
def rMulL : DR2 := fun x y G Q => match x, y with
  | .lst xs, .int n => 0 ≤ n ∧ n < 1000 ∧ xs.length ≤ 1000 ∧ Q (.lst (List.replicate n.toNat xs).flatten) G
  | _, _ => False
theorem od_mulL : OpD X (binaryOp .Mult) rMulL := by
  refine ⟨_, op_rep, fun F H G x y dx dy g rx ry Q' h Q k => ?_⟩
  unfold rMulL at h
  split at h
  · rename_i xs n
    cases rx with
    | lst ha rs =>
      rename_i a vs
      cases ry
      obtain ⟨h1, h2, h3, h5⟩ := h
      have hl := rs.length
      have hm : vs.length * n.toNat ≤ 1000 * 1000 := Nat.mul_le_mul (by omega) (by omega)
      refine ⟨_, _, vs, rfl, rfl, g.ex _ _ ha, by omega, by omega, by rw [sizeLine_eq]; omega, fun p hp => ?_⟩
      have gr := Gr.new (u := .lst (List.replicate n.toNat vs).flatten) g.ex hp
      exact k _ _ _ _ G gr.go (g.grow gr) (.lst upd_same ((rs.mono gr.ff).repN _)) h5
  · exact h.elim
end
end DL
end
section
set_option Elab.async false
set_option linter.all false
set_option maxRecDepth 100000
set_option maxHeartbeats 4000000
namespace DL
open PySem PySem.Spec PyProof.Rows L2
abbrev KB := Addr × List Key
end DL
end
section
set_option Elab.async false
set_option linter.all false
set_option maxRecDepth 100000
set_option maxHeartbeats 4000000
namespace DL
open PySem PySem.Spec PyProof.Rows L2
end DL
end
section
set_option Elab.async false
set_option linter.all false
set_option maxRecDepth 100000
set_option maxHeartbeats 4000000
namespace Pace
open PySem PySem.Spec PyProof.Rows L2 DL
/-- rows as the walks need them -/
structure Steps (A : Rows) : Prop where
  cl : Closed A
  n : A.length ≤ 999
  pw : ∀ r ∈ A, r.Pairwise fun a b => mvLt a b = true
  l : ∀ r ∈ A, r.length ≤ 1000
theorem RulV.steps {hs ws : List Nat} {rs : List (List Mv)} (v : RulV hs ws rs) : Steps rs where
  cl := ⟨v.n1, fun r hr m hm => (v.ok.at_ r hr).2 m hm⟩
  n := v.n2
  pw := fun r hr => by
    have := (v.row r hr).1
    unfold rowB at this
    rw [Bool.and_eq_true] at this
    exact nbr_pair (r := mvLt) mvLt_tr _ this.2
  l := fun r hr => (v.row r hr).2
theorem Steps.row {A : Rows} (h : Steps A) (s : Nat) : (rowS A s).Pairwise (fun a b => mvLt a b = true) ∧ (rowS A s).length ≤ 1000 := by
  unfold rowS
  rw [List.getD_eq_getElem?_getD]
  cases e : A[s]? with
  | none => exact ⟨.nil, Nat.zero_le _⟩
  | some r => exact ⟨h.pw r (List.mem_of_getElem? e), h.l r (List.mem_of_getElem? e)⟩
end Pace
end
section
set_option Elab.async false
set_option linter.all false
set_option maxRecDepth 100000
set_option maxHeartbeats 4000000
namespace Pace
open PySem PySem.Spec PyProof.Rows L2 DL
theorem _root_.DL.Sub.over {G G' : GH} {p : Addr} {o : MO} (s : Sub G G') (h : G p = none) (hd : o.isDeck = false) : Sub G (gput G' p o) := by
  refine ⟨fun a w z => ?_, fun c z => ?_⟩
  · have q : a ≠ p := fun y => by rw [y, h] at z; cases z
    rw [gput_ne q]; exact s.le a w z
  · by_cases q : c = p
    · subst q; rw [gput_same] at z; cases z; cases hd
    · rw [gput_ne q] at z; exact s.dc c z
theorem _root_.DL.Sub.no {G G' : GH} (s : Sub G G') {p : Addr} (h : G' p = none) : G p = none := by
  cases q : G p with
  | none => rfl
  | some o => rw [s.le p o q] at h; cases h
theorem cur_l {G : GH} {p : Addr} {xs : List D} (h : G p = some (.lst xs)) : D.cur G (.rf p) = .lst xs := by unfold D.cur; simp only [h]
end Pace
end
section
set_option Elab.async false
set_option linter.all false
set_option maxRecDepth 100000
set_option maxHeartbeats 4000000
namespace Pace
open PySem PySem.Spec PyProof.Rows L2 DL
theorem snoc_ind {α : Type} {P : List α → Prop} (nil : P []) (snoc : ∀ l a, P l → P (l ++ [a])) (l : List α) : P l := by
  rw [← List.reverse_reverse l]
  induction l.reverse with
  | nil => exact nil
  | cons a l ih => rw [List.reverse_cons]; exact snoc _ _ ih
theorem szB {n : Nat} (h : n ≤ 1000000) : n ≤ sizeLine := by rw [sizeLine_eq]; omega
theorem map_get {α : Type} {f : α → D} {l : List α} {i : Nat} {d : D} (h : (l.map f)[i]? = some d) : ∃ a, l[i]? = some a ∧ d = f a := by
  rw [List.getElem?_map] at h
  cases e : l[i]? with
  | none => rw [e] at h; cases h
  | some a => rw [e] at h; cases h; exact ⟨a, rfl, rfl⟩
theorem take_snoc {α : Type} {l : List α} {i : Nat} {a : α} (h : l[i]? = some a) : l.take (i + 1) = l.take i ++ [a] := by rw [List.take_add_one, h]; rfl
theorem range_get {n : Nat} {i : Nat} {d : D} (h : ((List.range (n : Int).toNat).map fun (i : Nat) => D.int (i : Nat))[i]? = some d) : i < n ∧ d = .int (i : Int) := by
  obtain ⟨a, ha, rfl⟩ := map_get h
  obtain ⟨h1, h2⟩ := List.getElem?_eq_some_iff.mp ha
  rw [List.length_range, Int.toNat_natCast] at h1
  rw [List.getElem_range] at h2
  subst h2
  exact ⟨h1, rfl⟩
theorem range_len (n : Nat) : ((List.range (n : Int).toNat).map fun (i : Nat) => D.int (i : Nat)).length = n := by simp
theorem mvd_si (m : Mv) : (Mv.d m).si = true := rfl
theorem rowD_si (r : List Mv) : (rowD r).si = true := sis_all.mpr fun x hx => by obtain ⟨m, _, rfl⟩ := List.mem_map.mp hx; exact mvd_si m
theorem rowsD_si (rs : List (List Mv)) : (rowsD rs).si = true := sis_all.mpr fun x hx => by obtain ⟨m, _, rfl⟩ := List.mem_map.mp hx; exact rowD_si m
theorem rowD_dp (r : List Mv) : (rowD r).dp ≤ 2 := by
  have : D.dps (r.map Mv.d) ≤ 1 := dps_le fun x hx => by obtain ⟨m, _, rfl⟩ := List.mem_map.mp hx; exact Nat.le_refl _
  simp only [rowD, D.dp]; omega
theorem rowsD_dp (rs : List (List Mv)) : (rowsD rs).dp ≤ 3 := by
  have : D.dps (rs.map rowD) ≤ 2 := dps_le fun x hx => by obtain ⟨m, _, rfl⟩ := List.mem_map.mp hx; exact rowD_dp m
  simp only [rowsD, D.dp]; omega
theorem mvd_inj {a b : Mv} (h : Mv.d a = Mv.d b) : a = b := by
  obtain ⟨h1, c1, t1⟩ := a
  obtain ⟨h2, c2, t2⟩ := b
  simp only [Mv.d, D.tup.injEq, List.cons.injEq, D.str.injEq, D.int.injEq, and_true] at h
  obtain ⟨e1, e2, e3⟩ := h
  have i1 := sgn_inj e1
  have i2 := sgn_inj e2
  have i3 : t1 = t2 := by omega
  subst i1; subst i2; subst i3; rfl
theorem map_inj {α β : Type} {f : α → β} (hf : ∀ a b, f a = f b → a = b) : ∀ {l m : List α}, l.map f = m.map f → l = m
  | [], [], _ => rfl
  | [], _ :: _, h => by simp at h
  | _ :: _, [], h => by simp at h
  | a :: l, b :: m, h => by
    simp only [List.map_cons, List.cons.injEq] at h
    rw [hf a b h.1, map_inj hf h.2]
theorem rowD_inj {a b : List Mv} (h : rowD a = rowD b) : a = b := map_inj (fun _ _ => mvd_inj) (by simpa [rowD] using h)
theorem rowsD_inj {a b : List (List Mv)} (h : rowsD a = rowsD b) : a = b := map_inj (fun _ _ => rowD_inj) (by simpa [rowsD] using h)
theorem signs_map (hs : List Nat) : DL.signs (strOf hs) = hs.map fun c => .str (sgn c) := by
  simp [DL.signs, strOf]
  intro a _
  rfl
theorem cut_take {α : Type} (xs : List α) (k : Nat) : DL.cutD xs none (some (k : Int)) = xs.take k := by
  unfold DL.cutD
  rw [HT.sIx_none, HT.sIx_nat]
  simp only [List.drop_zero, Nat.sub_zero]
  by_cases h : k ≤ xs.length
  · rw [Nat.min_eq_left h]
  · rw [Nat.min_eq_right (by omega), List.take_length, List.take_of_length_le (by omega)]
theorem cut_drop {α : Type} (xs : List α) (k : Nat) : DL.cutD xs (some (k : Int)) none = xs.drop k := by
  unfold DL.cutD
  rw [HT.sIx_none, HT.sIx_nat]
  by_cases h : k ≤ xs.length
  · rw [Nat.min_eq_left h, List.take_of_length_le (by simp)]
  · rw [Nat.min_eq_right (by omega), List.drop_of_length_le (by omega), List.drop_of_length_le (by omega)]
    simp
def capsStep (rs : List (List Mv)) (l : List (List Nat × Nat)) (c : Nat) : List (List Nat × Nat) := l.flatMap fun x => ((rs.getD x.2 []).filter fun m => m.h == c).map fun m => (x.1 ++ [m.c], m.t)
def caps (rs : List (List Mv)) (s : Nat) (cs : List Nat) : List (List Nat × Nat) := cs.foldl (capsStep rs) [([], s)]
/-- drawn rules -/
structure Wor (top : Nat) (tot : Bool) (hs ws : List Nat) (rs : List (List Mv)) : Prop where
  val : RulV hs ws rs
  n : rs.length ≤ top
  hs3 : hs.length ≤ 3
  ws3 : ws.length ≤ 3
  row : ∀ r ∈ rs, r.length ≤ 9
  full : tot = true → ∀ r ∈ rs, ∀ h ∈ hs, ∃ m ∈ r, m.h = h
/-- a row as far as its first letters -/
structure RowP (hs ws : List Nat) (n : Nat) (tot : Bool) (j : Nat) (row : List Mv) : Prop where
  mv : ∀ m ∈ row, mvB hs ws n m = true
  lt : row.Pairwise fun a b => mvLt a b = true
  le : ∀ m ∈ row, m.h ∈ hs.take j
  len : row.length ≤ 3 * j
  full : tot = true → ∀ h ∈ hs.take j, ∃ m ∈ row, m.h = h
theorem RowP.start {hs ws : List Nat} {n : Nat} {tot : Bool} : RowP hs ws n tot 0 [] := ⟨by simp, by simp, by simp, by simp, by simp⟩
theorem letters_lt {cs : List Nat} (h : lettersB cs = true) : cs.Pairwise (· < ·) := by
  unfold lettersB at h
  simp only [Bool.and_eq_true] at h
  exact (nbr_pair (r := fun a b => decide (a < b)) (fun a b c h1 h2 => by simp at h1 h2 ⊢; omega) cs h.2).imp fun h => by simpa using h
theorem letters_pos {cs : List Nat} (h : lettersB cs = true) : 1 ≤ cs.length := by
  cases cs with
  | nil => simp [lettersB] at h
  | cons a l => simp
theorem take_lt {hs : List Nat} (h : hs.Pairwise (· < ·)) {j : Nat} {c : Nat} (hc : hs[j]? = some c) : ∀ x ∈ hs.take j, x < c := by
  intro x hx
  obtain ⟨h1, h2⟩ := List.getElem?_eq_some_iff.mp hc
  obtain ⟨i, hi, e⟩ := List.mem_iff_getElem.mp hx
  rw [List.length_take] at hi
  rw [List.getElem_take] at e
  rw [← e, ← h2]
  exact List.pairwise_iff_getElem.mp h i j (by omega) h1 (by omega)
theorem RowP.step {hs ws : List Nat} {n : Nat} {tot : Bool} {j : Nat} {row ts : List Mv} {cs : List Nat} {h : Nat} (rp : RowP hs ws n tot j row) (lh : hs.Pairwise (· < ·)) (lw : ws.Pairwise (· < ·)) (w3 : ws.length ≤ 3) (hh : hs[j]? = some h) (sl : cs.Sublist ws) (ne : tot = true → cs ≠ []) (ec : ts.map (·.c) = cs)
    (ht : ∀ t ∈ ts, t.h = h ∧ t.t < n) : RowP hs ws n tot (j + 1) (row ++ ts) where
  mv := fun m hm => by
    rcases List.mem_append.mp hm with hm | hm
    · exact rp.mv m hm
    · obtain ⟨h1, h2⟩ := ht m hm
      have h3 : m.c ∈ ws := sl.subset (by rw [← ec]; exact List.mem_map.mpr ⟨m, hm, rfl⟩)
      have h4 := List.mem_of_getElem? hh
      simp [mvB, h1, h2, h3, h4]
  lt := by
    rw [List.pairwise_append]
    refine ⟨rp.lt, ?_, fun a ha b hb => ?_⟩
    · have h1 : (ts.map (·.c)).Pairwise (· < ·) := by rw [ec]; exact lw.sublist sl
      rw [List.pairwise_map] at h1
      refine h1.imp_of_mem fun {a b} ha hb hab => ?_
      have := (ht a ha).1; have := (ht b hb).1
      simp only [mvLt, decide_eq_true_eq]
      right
      omega
    · have h1 := take_lt lh hh a.h (rp.le a ha)
      have h2 := (ht b hb).1
      simp only [mvLt, decide_eq_true_eq]
      left
      omega
  le := fun m hm => by
    rw [take_snoc hh]
    rcases List.mem_append.mp hm with hm | hm
    · exact List.mem_append_left _ (rp.le m hm)
    · rw [(ht m hm).1]; simp
  len := by
    have h1 := rp.len
    have h2 : ts.length = cs.length := by rw [← ec, List.length_map]
    have h3 := sl.length_le
    rw [List.length_append]
    omega
  full := fun ht0 x hx => by
    rw [take_snoc hh] at hx
    rcases List.mem_append.mp hx with hx | hx
    · obtain ⟨m, hm, e⟩ := rp.full ht0 x hx
      exact ⟨m, List.mem_append_left _ hm, e⟩
    · rw [List.mem_singleton] at hx
      subst hx
      have := ne ht0
      cases ts with
      | nil => rw [← ec] at this; simp at this
      | cons t l => exact ⟨t, by simp, (ht t (by simp)).1⟩
theorem RowP.row {hs ws : List Nat} {n : Nat} {tot : Bool} {row : List Mv} (rp : RowP hs ws n tot hs.length row) : rowB hs ws n row = true := by
  unfold rowB
  rw [Bool.and_eq_true, List.all_eq_true]
  exact ⟨rp.mv, nbr_of_pair rp.lt⟩
theorem Wor.few {top : Nat} {tot : Bool} {hs ws : List Nat} {rs : List (List Mv)} (w : Wor top tot hs ws rs) (h5 : top ≤ 5 := by decide) : Few rs := ⟨9, w.row, by have := w.n; omega⟩
theorem rowB_sub {hs ws : List Nat} {n : Nat} {r r' : List Mv} (h : rowB hs ws n r = true) (sb : r'.Sublist r) : rowB hs ws n r' = true := by
  unfold rowB at h ⊢
  rw [Bool.and_eq_true, List.all_eq_true] at h ⊢
  exact ⟨fun m hm => h.1 m (sb.subset hm), nbr_of_pair ((nbr_pair (r := mvLt) mvLt_tr r h.2).sublist sb)⟩
theorem Wor.less {top : Nat} {tot : Bool} {hs ws : List Nat} {rs : List (List Mv)} (w : Wor top tot hs ws rs) {s a : Nat} {r : List Mv} (h : rs[s]? = some r) : Wor top false hs ws (rs.take s ++ [r.take a ++ r.drop (a + 1)] ++ rs.drop (s + 1)) := by
  have hs1 := (List.getElem?_eq_some_iff.mp h).1
  have el : (rs.take s ++ [r.take a ++ r.drop (a + 1)] ++ rs.drop (s + 1)).length = rs.length := by
    simp only [List.length_append, List.length_take, List.length_drop, List.length_singleton]
    omega
  have sub : (r.take a ++ r.drop (a + 1)).Sublist r := by
    have e : r.drop (a + 1) = (r.drop a).drop 1 := by rw [List.drop_drop, Nat.add_comm]
    calc (r.take a ++ r.drop (a + 1)).Sublist (r.take a ++ r.drop a) := by rw [e]; exact (List.Sublist.refl _).append (List.drop_sublist _ _)
      _ = r := List.take_append_drop a r
  have mem : ∀ r' ∈ rs.take s ++ [r.take a ++ r.drop (a + 1)] ++ rs.drop (s + 1), ∃ r0 ∈ rs, r'.Sublist r0 := fun r' hr => by
    rcases List.mem_append.mp hr with hr | hr
    · rcases List.mem_append.mp hr with hr | hr
      · exact ⟨r', List.mem_of_mem_take hr, List.Sublist.refl _⟩
      · rw [List.mem_singleton.mp hr]
        exact ⟨r, List.mem_of_getElem? h, sub⟩
    · exact ⟨r', List.mem_of_mem_drop hr, List.Sublist.refl _⟩
  refine ⟨⟨w.val.lh, w.val.lw, w.val.sh, w.val.sw, by rw [el]; exact w.val.n1, by rw [el]; exact w.val.n2, fun r' hr => ?_⟩, by rw [el]; exact w.n, w.hs3, w.ws3, fun r' hr => ?_, fun z => by cases z⟩
  · obtain ⟨r0, h0, sb⟩ := mem r' hr
    obtain ⟨h1, h2⟩ := w.val.row r0 h0
    rw [el]
    exact ⟨rowB_sub h1 sb, Nat.le_trans sb.length_le h2⟩
  · obtain ⟨r0, h0, sb⟩ := mem r' hr
    exact Nat.le_trans sb.length_le (w.row r0 h0)
end Pace
end
section
set_option Elab.async false
set_option linter.all false
set_option maxRecDepth 100000
set_option maxHeartbeats 4000000
namespace Pace
open PySem PySem.Spec PyProof.Rows L2 DL
def sl (p q : List Nat) : Prop := p.length < q.length ∨ (p.length = q.length ∧ p < q)
def sle (p q : List Nat) : Prop := p = q ∨ sl p q
theorem lt_app : ∀ {p q : List Nat} (x y : List Nat), p.length = q.length → p < q → p ++ x < q ++ y
  | [], [], x, y, _, h => absurd h (List.not_lt_nil _)
  | [], _ :: _, x, y, h, _ => by simp at h
  | _ :: _, [], x, y, h, _ => by simp at h
  | a :: p, b :: q, x, y, h, hl => by
    rw [List.cons_append, List.cons_append, List.cons_lt_cons_iff]
    rw [List.cons_lt_cons_iff] at hl
    rcases hl with hl | ⟨e, hl⟩
    · exact .inl hl
    · exact .inr ⟨e, lt_app x y (by simpa using h) hl⟩
theorem sl.snoc {p q : List Nat} (c d : Nat) (h : sl p q) : sl (p ++ [c]) (q ++ [d]) := by
  rcases h with h | ⟨h, hl⟩
  · left; simpa using h
  · right; exact ⟨by simpa using h, lt_app _ _ h hl⟩
theorem sl.last {p : List Nat} {c d : Nat} (h : c < d) : sl (p ++ [c]) (p ++ [d]) := by
  right
  refine ⟨by simp, ?_⟩
  induction p with
  | nil => simpa [List.cons_lt_cons_iff] using h
  | cons a p ih => rw [List.cons_append, List.cons_append, List.cons_lt_cons_iff]; exact .inr ⟨rfl, ih⟩
theorem sl.trans {p q r : List Nat} (h1 : sl p q) (h2 : sl q r) : sl p r := by
  rcases h1 with h1 | ⟨e1, h1⟩ <;> rcases h2 with h2 | ⟨e2, h2⟩
  · left; omega
  · left; omega
  · left; omega
  · right; exact ⟨by omega, List.lt_trans h1 h2⟩
theorem sle.trans {p q r : List Nat} (h1 : sle p q) (h2 : sle q r) : sle p r := by
  rcases h1 with rfl | h1
  · exact h2
  · rcases h2 with rfl | h2
    · exact .inr h1
    · exact .inr (h1.trans h2)
theorem sle.snoc {p q : List Nat} (c : Nat) (h : sle p q) : sle (p ++ [c]) (q ++ [c]) := by
  rcases h with rfl | h
  · exact .inl rfl
  · exact .inr (h.snoc c c)
def Done (rs : List (List Mv)) (ord : Ord) (y : List Nat × List Nat) (c : Nat) : Prop := behind rs y.1 c ≠ [] ∧ ∃ z ∈ ord, z.1 = behind rs y.1 c ∧ sle z.2 (y.2 ++ [c])
theorem Done.mono {rs : List (List Mv)} {ord more : Ord} {y : List Nat × List Nat} {c : Nat} (h : Done rs ord y c) : Done rs (ord ++ more) y c := by
  obtain ⟨h1, z, hz, h2⟩ := h
  exact ⟨h1, z, List.mem_append_left _ hz, h2⟩
/-- what holds ahead of the entry at i -/
structure BI (rs : List (List Mv)) (hs : List Nat) (i : Nat) (pre : List Nat) (ord : Ord) : Prop where
  ok : OrdOk rs hs ord
  st : ([0], []) ∈ ord
  inc : (ord.map (·.2)).Pairwise sl
  frm : ∀ x ∈ ord, x.2 = [] ∨ ∃ (j : Nat) (y : List Nat × List Nat) (c : Nat), ord[j]? = some y ∧ x.2 = y.2 ++ [c] ∧ (j < i ∨ (j = i ∧ c ∈ pre))
  dn : ∀ (j : Nat) (y : List Nat × List Nat), j < i → ord[j]? = some y → ∀ c ∈ hs, Done rs ord y c
  dh : ∀ (y : List Nat × List Nat), ord[i]? = some y → ∀ c ∈ pre, Done rs ord y c
theorem BI.next {rs : List (List Mv)} {hs : List Nat} {i : Nat} {ord : Ord} (h : BI rs hs i hs ord) : BI rs hs (i + 1) [] ord where
  ok := h.ok
  st := h.st
  inc := h.inc
  frm := fun x hx => by
    rcases h.frm x hx with e | ⟨j, y, c, h1, h2, h3⟩
    · exact .inl e
    · exact .inr ⟨j, y, c, h1, h2, .inl (by omega)⟩
  dn := fun j y hj hy c hc => by
    by_cases e : j < i
    · exact h.dn j y e hy c hc
    · have : j = i := by omega
      subst this
      exact h.dh y hy c hc
  dh := fun _ _ _ hc => by cases hc
theorem sl_of_lt {p q : List Nat} (h : D.lt (.tup [.int (p.length : Nat), .str (strOf p)]) (.tup [.int (q.length : Nat), .str (strOf q)]) = true) : sl p q := by
  have e : D.lt (.tup [.int (p.length : Nat), .str (strOf p)]) (.tup [.int (q.length : Nat), .str (strOf q)]) = PySem.W.dataLt (.tuple [.int (p.length : Nat), .str (strOf p)]) (.tuple [.int (q.length : Nat), .str (strOf q)]) := rfl
  rw [e, PySem.W.dataLt_pair rfl rfl] at h
  have e1 : PyData.eqv (.int (p.length : Nat)) (.int (q.length : Nat)) = ((p.length : Int) == (q.length : Int)) := eqv_int _ _
  have e2 : PySem.W.dataLt (.int (p.length : Nat)) (.int (q.length : Nat)) = decide ((p.length : Int) < (q.length : Int)) := DL.lt_int _ _
  have e3 : PySem.W.dataLt (.str (strOf p)) (.str (strOf q)) = decide (p < q) := by
    have := DL.lt_str (strOf p) (strOf q)
    exact this
  have e4 : PyData.eqv (.str (strOf p)) (.str (strOf q)) = (strOf p == strOf q) := eqv_str _ _
  rw [e1, e2, e3, e4] at h
  by_cases hl : p.length = q.length
  · rw [if_pos (by simp [hl])] at h
    by_cases h2 : p = q
    · rw [if_pos (by simp [h2])] at h; cases h
    · rw [if_neg (by simpa using fun z => h2 (strOf_inj z))] at h
      right
      exact ⟨hl, by simpa using h⟩
  · rw [if_neg (by simp; omega)] at h
    left
    simpa using h
end Pace
end
section
set_option Elab.async false
set_option linter.all false
set_option maxRecDepth 100000
set_option maxHeartbeats 4000000
namespace Pace
open PySem PySem.Spec PyProof.Rows L2 DL
def step1 (rs : List (List Mv)) (s h c : Nat) : Option Nat := ((rs.getD s []).find? fun m => m.h == h && m.c == c).map (·.t)
def ledN (rs : List (List Mv)) (s : Nat) (ks : List (Nat × Nat)) : Option Nat := ks.foldl (fun o k => o.bind fun s => step1 rs s k.1 k.2) (some s)
def natO : Option Nat → D
  | none => .non
  | some n => .int (n : Int)
theorem ledN_snoc {rs : List (List Mv)} {s : Nat} {ks : List (Nat × Nat)} {k : Nat × Nat} : ledN rs s (ks ++ [k]) = (ledN rs s ks).bind fun s => step1 rs s k.1 k.2 := by simp [ledN]
theorem foldl_none {rs : List (List Mv)} : ∀ ks : List (Nat × Nat), ks.foldl (fun o k => o.bind fun s => step1 rs s k.1 k.2) none = none
  | [] => rfl
  | _ :: ks => foldl_none ks
theorem ledN_stop {rs : List (List Mv)} {s : Nat} {ks : List (Nat × Nat)} {i : Nat} (h : ledN rs s (ks.take i) = none) : ledN rs s ks = none := by
  rw [← List.take_append_drop i ks]
  unfold ledN at h ⊢
  rw [List.foldl_append, h]
  exact foldl_none _
theorem step1_lt {rs : List (List Mv)} (tl : ∀ r ∈ rs, ∀ m ∈ r, m.t < rs.length) {s h c t : Nat} (e : step1 rs s h c = some t) : t < rs.length := by
  unfold step1 at e
  obtain ⟨m, hm, rfl⟩ := Option.map_eq_some_iff.mp e
  have h1 := List.mem_of_find?_eq_some hm
  cases er : rs[s]? with
  | none => simp [List.getD, er] at h1
  | some r =>
    simp only [List.getD, er, Option.getD_some] at h1
    exact tl r (List.mem_of_getElem? er) m h1
theorem ledN_lt {rs : List (List Mv)} (tl : ∀ r ∈ rs, ∀ m ∈ r, m.t < rs.length) {s : Nat} (hs : s < rs.length) (ks : List (Nat × Nat)) : ∀ {t : Nat}, ledN rs s ks = some t → t < rs.length := by
  induction ks using snoc_ind with
  | nil => intro t h; simp [ledN] at h; omega
  | snoc ks k ih =>
    intro t h
    rw [ledN_snoc] at h
    obtain ⟨u, hu, h⟩ := Option.bind_eq_some_iff.mp h
    exact step1_lt tl h
theorem zipS_eq (p q : List Nat) : List.zipWith (fun a b => D.tup [.str (sgn a), .str (sgn b)]) (strOf p).cps.toList (strOf q).cps.toList = (p.zip q).map fun k => .tup [.str (sgn k.1), .str (sgn k.2)] := by
  rw [zip_map]
  rfl
theorem natO_non (o : Option Nat) : (natO o).isNon = o.isNone := by cases o <;> rfl
theorem find_filter {α : Type} (p : α → Bool) : ∀ l : List α, l.find? p = (l.filter p).head?
  | [] => rfl
  | a :: l => by
    rw [List.find?_cons, List.filter_cons]
    cases h : p a with
    | true => simp
    | false => simpa using find_filter p l
theorem eqv_pair (a b c d : Nat) : D.eqv (.tup [.str (sgn a), .str (sgn b)]) (.tup [.str (sgn c), .str (sgn d)]) = (a == c && b == d) := by
  rw [Bool.eq_iff_iff, eqv_si rfl rfl]
  simp only [D.tup.injEq, List.cons.injEq, D.str.injEq, and_true, Bool.and_eq_true, beq_iff_eq]
  exact ⟨fun ⟨x, y⟩ => ⟨sgn_inj x, sgn_inj y⟩, fun ⟨x, y⟩ => ⟨by rw [x], by rw [y]⟩⟩
theorem mv_in {hs ws : List Nat} {rs : List (List Mv)} (v : RulV hs ws rs) {r : List Mv} (hr : r ∈ rs) {m : Mv} (hm : m ∈ r) : m.h ∈ hs ∧ m.c ∈ ws ∧ m.t < rs.length := by
  have h := (v.row r hr).1
  unfold rowB at h
  rw [Bool.and_eq_true, List.all_eq_true] at h
  have := h.1 m hm
  simp only [mvB, Bool.and_eq_true, decide_eq_true_eq] at this
  exact ⟨this.1.1, this.1.2, this.2⟩
theorem rows_len_ (rs : List (List Mv)) : rLenD [rowsD rs] = fun G Q => Q (.int (rs.length : Nat)) G := by
  funext G Q
  show Q (.int ((rs.map rowD).length : Nat)) G = _
  rw [List.length_map]
end Pace
end
section
set_option Elab.async false
set_option linter.all false
set_option maxRecDepth 100000
set_option maxHeartbeats 4000000
namespace DL
open PySem PySem.Spec PyProof.Rows L2
end DL
end
section
set_option Elab.async false
set_option linter.all false
set_option maxRecDepth 100000
set_option maxHeartbeats 4000000
namespace Pace
open PySem PySem.Spec PyProof.Rows L2 DL
theorem sorted_ext : ∀ {a b : List Nat}, a.Pairwise (· < ·) → b.Pairwise (· < ·) → (∀ k, k ∈ a ↔ k ∈ b) → a = b
  | [], [], _, _, _ => rfl
  | [], y :: b, _, _, h => absurd ((h y).mpr (by simp)) (by simp)
  | x :: a, [], _, _, h => absurd ((h x).mp (by simp)) (by simp)
  | x :: a, y :: b, ha, hb, h => by
    rw [List.pairwise_cons] at ha hb
    have e : x = y := by
      rcases List.mem_cons.mp ((h x).mp (by simp)) with e | e
      · exact e
      · rcases List.mem_cons.mp ((h y).mpr (by simp)) with e2 | e2
        · exact e2.symm
        · have := ha.1 y e2
          have := hb.1 x e
          omega
    subst e
    rw [sorted_ext ha.2 hb.2 fun k => ?_]
    constructor
    · intro hk
      rcases List.mem_cons.mp ((h k).mp (List.mem_cons_of_mem _ hk)) with e | e
      · have := ha.1 k hk; omega
      · exact e
    · intro hk
      rcases List.mem_cons.mp ((h k).mpr (List.mem_cons_of_mem _ hk)) with e | e
      · have := hb.1 k hk; omega
      · exact e
theorem run_sorted {rs : List (List Mv)} {s : Nat} (cs : List Nat) : (run rs [s] cs).Pairwise (· < ·) := by
  induction cs using snoc_ind with
  | nil => simp [run]
  | snoc cs c ih => rw [run_snoc]; exact behind_sorted
end Pace
end
section
set_option Elab.async false
set_option linter.all false
set_option maxRecDepth 100000
set_option maxHeartbeats 4000000
namespace Pace
open PySem PySem.Spec PyProof.Rows L2 DL
/-- the class of a text -/
def classOf (rs : List (List Mv)) (cs : List Nat) : List (List Nat) := (List.range rs.length).map fun s => run rs [s] cs
def classD (rs : List (List Mv)) (cs : List Nat) : D := .tup ((classOf rs cs).map fun ss => .tup (natsD ss))
theorem classD_si (rs : List (List Mv)) (cs : List Nat) : (classD rs cs).si = true := sis_all.mpr fun x hx => by
  obtain ⟨ss, _, rfl⟩ := List.mem_map.mp hx
  exact natsD_si ss
/-- the states of a set, each by itself -/
theorem run_app {rs : List (List Mv)} {ss : List Nat} (a b : List Nat) : run rs ss (a ++ b) = run rs (run rs ss a) b := by simp [run]
theorem run_sorted_ {rs : List (List Mv)} {ss : List Nat} (h : ss.Pairwise (· < ·)) (cs : List Nat) : (run rs ss cs).Pairwise (· < ·) := by
  induction cs using snoc_ind with
  | nil => simpa [run] using h
  | snoc cs c ih => rw [run_snoc]; exact behind_sorted
theorem run_mem {rs : List (List Mv)} {ss : List Nat} (cs : List Nat) : ∀ k, k ∈ run rs ss cs ↔ ∃ s ∈ ss, k ∈ run rs [s] cs := by
  induction cs using snoc_ind with
  | nil => intro k; simp [run]
  | snoc cs c ih =>
    intro k
    rw [run_snoc, behind_mem]
    constructor
    · rintro ⟨s, hs, m, hm, h1, h2⟩
      obtain ⟨t, ht, hst⟩ := (ih s).mp hs
      refine ⟨t, ht, ?_⟩
      rw [run_snoc, behind_mem]
      exact ⟨s, hst, m, hm, h1, h2⟩
    · rintro ⟨t, ht, hk⟩
      rw [run_snoc, behind_mem] at hk
      obtain ⟨s, hs, m, hm, h1, h2⟩ := hk
      exact ⟨s, (ih s).mpr ⟨t, ht, hs⟩, m, hm, h1, h2⟩
end Pace
end
section
set_option Elab.async false
set_option linter.all false
set_option maxRecDepth 100000
set_option maxHeartbeats 4000000
namespace Pace
open PySem PySem.Spec PyProof.Rows L2 DL
mutual
def leafD (m : Nat) : D → Bool
  | .int i => decide (i.natAbs ≤ 10 ^ 39 + m)
  | .str x => x.cps.toList.all fun c => decide (c < 128)
  | .tup xs | .lst xs => leafsD m xs
  | _ => true
def leafsD (m : Nat) : List D → Bool
  | [] => true
  | x :: xs => leafD m x && leafsD m xs
end
def bkD (x : D) : Nat := x.pyR.bulk
def bksD (xs : List D) : Nat := (xs.map fun x => bkD x + 1).sum
structure One (m n : Nat) (d : D) : Prop where
  pl : d.plR = true
  lf : leafD m d = true
  dp : d.pyR.depth ≤ n
structure Odd (m n w : Nat) (d : D) : Prop where
  one : One m n d
  bk : bkD d ≤ w
theorem plsR_all : ∀ xs : List D, D.plsR xs = true ↔ ∀ x ∈ xs, x.plR = true
  | [] => by simp [D.plsR]
  | x :: xs => by simp [D.plsR, plsR_all xs]
theorem leafsD_all (m : Nat) : ∀ xs : List D, leafsD m xs = true ↔ ∀ x ∈ xs, leafD m x = true
  | [] => by simp [leafsD]
  | x :: xs => by simp [leafsD, leafsD_all m xs]
theorem depthsR (n : Nat) : ∀ xs : List D, PyData.depthAll (D.pysR xs) ≤ n ↔ ∀ x ∈ xs, x.pyR.depth ≤ n
  | [] => by simp [D.pysR, PyData.depthAll]
  | x :: xs => by
    have := depthsR n xs
    simp only [D.pysR, PyData.depthAll, List.forall_mem_cons, ← this]
    exact Nat.max_le
theorem bulksR : ∀ xs : List D, PyData.bulkAll (D.pysR xs) = bksD xs
  | [] => rfl
  | x :: xs => by
    have := bulksR xs
    simp only [D.pysR, PyData.bulkAll, this, bksD, bkD, List.map_cons, List.sum_cons]
theorem One.mono {m n m' n' : Nat} {d : D} (h : One m n d) (h1 : m ≤ m') (h2 : n ≤ n') : One m' n' d := by
  have aux : ∀ k : Nat, (∀ d : D, sizeOf d ≤ k → leafD m d = true → leafD m' d = true) ∧ (∀ ds : List D, sizeOf ds ≤ k → leafsD m ds = true → leafsD m' ds = true) := by
    intro k
    induction k with
    | zero =>
      refine ⟨fun d hd => ?_, fun ds hd => ?_⟩
      · cases d <;> simp at hd
      · cases ds <;> simp at hd
    | succ k ih =>
      refine ⟨fun d hd hl => ?_, fun ds hd hl => ?_⟩
      · cases d with
        | int i => simp only [leafD, decide_eq_true_eq] at hl ⊢; omega
        | tup xs => exact ih.2 xs (by simp at hd; omega) hl
        | lst xs => exact ih.2 xs (by simp at hd; omega) hl
        | str x => exact hl
        | _ => rfl
      · cases ds with
        | nil => rfl
        | cons x xs =>
          have l' : leafD m x = true ∧ leafsD m xs = true := by simpa [leafsD] using hl
          show (leafD m' x && leafsD m' xs) = true
          rw [ih.1 x (by simp at hd; omega) l'.1, ih.2 xs (by simp at hd; omega) l'.2]; rfl
  exact ⟨h.pl, (aux (sizeOf d)).1 d (Nat.le_refl _) h.lf, Nat.le_trans h.dp h2⟩
theorem one_tup {m n : Nat} {xs : List D} : One m (n + 1) (.tup xs) ↔ ∀ x ∈ xs, One m n x := by
  constructor
  · intro h x hx
    exact ⟨(plsR_all xs).mp h.pl x hx, (leafsD_all m xs).mp h.lf x hx, (depthsR n xs).mp (Nat.le_of_succ_le_succ h.dp) x hx⟩
  · intro h
    exact ⟨(plsR_all xs).mpr fun x hx => (h x hx).pl, (leafsD_all m xs).mpr fun x hx => (h x hx).lf, Nat.succ_le_succ ((depthsR n xs).mpr fun x hx => (h x hx).dp)⟩
theorem one_lst {m n : Nat} {xs : List D} : One m (n + 1) (.lst xs) ↔ ∀ x ∈ xs, One m n x := by
  constructor
  · intro h x hx
    exact ⟨(plsR_all xs).mp h.pl x hx, (leafsD_all m xs).mp h.lf x hx, (depthsR n xs).mp (Nat.le_of_succ_le_succ h.dp) x hx⟩
  · intro h
    exact ⟨(plsR_all xs).mpr fun x hx => (h x hx).pl, (leafsD_all m xs).mpr fun x hx => (h x hx).lf, Nat.succ_le_succ ((depthsR n xs).mpr fun x hx => (h x hx).dp)⟩
theorem bk_tup (xs : List D) : bkD (.tup xs) = bksD xs := bulksR xs
theorem bk_lst (xs : List D) : bkD (.lst xs) = bksD xs := bulksR xs
theorem Odd.mono {m n w m' n' w' : Nat} {d : D} (h : Odd m n w d) (h1 : m ≤ m') (h2 : n ≤ n') (h3 : w ≤ w') : Odd m' n' w' d := ⟨h.one.mono h1 h2, Nat.le_trans h.bk h3⟩
theorem bks_cons (x : D) (xs : List D) : bksD (x :: xs) = bkD x + 1 + bksD xs := by simp [bksD]
theorem oddP_non {m n w : Nat} : Odd m n w .non := ⟨⟨rfl, rfl, Nat.zero_le _⟩, Nat.zero_le _⟩
theorem oddP_int {m n w : Nat} {i : Int} (h : i.natAbs ≤ 10 ^ 39 + m) : Odd m n w (.int i) := ⟨⟨rfl, by simp only [leafD, decide_eq_true_eq]; exact h, Nat.zero_le _⟩, Nat.zero_le _⟩
theorem oddP_str {m n w : Nat} {cs : List Nat} (h : ∀ c ∈ cs, c < 128) (hl : cs.length ≤ w) : Odd m n w (.str (strOf cs)) :=
  ⟨⟨rfl, by simp [leafD, strOf]; exact h, Nat.zero_le _⟩, by simp only [bkD, D.pyR, PyData.bulk, strOf, List.size_toArray]; exact hl⟩
theorem oddP_tup {m n w : Nat} {xs : List D} (h : ∀ x ∈ xs, One m n x) (hb : bksD xs ≤ w) : Odd m (n + 1) w (.tup xs) := ⟨one_tup.mpr h, by rw [bk_tup]; exact hb⟩
theorem oddP_lst {m n w : Nat} {xs : List D} (h : ∀ x ∈ xs, One m n x) (hb : bksD xs ≤ w) : Odd m (n + 1) w (.lst xs) := ⟨one_lst.mpr h, by rw [bk_lst]; exact hb⟩
theorem leaf_short : ∀ (m : Nat), m ≤ 1000 → ∀ d : D, d.plR = true → leafD m d = true → d.pyR.showable = true ∧ d.pyR.leavesShort 45 = true := by
  intro m hm
  have aux : ∀ k : Nat, (∀ d : D, sizeOf d ≤ k → d.plR = true → leafD m d = true → d.pyR.showable = true ∧ d.pyR.leavesShort 45 = true) ∧ (∀ ds : List D, sizeOf ds ≤ k → D.plsR ds = true → leafsD m ds = true → PyData.showableAll (D.pysR ds) = true ∧ PyData.leavesShortAll 45 (D.pysR ds) = true) := by
    intro k
    induction k with
    | zero =>
      refine ⟨fun d hd => ?_, fun ds hd => ?_⟩
      · cases d <;> simp at hd
      · cases ds <;> simp at hd
    | succ k ih =>
      refine ⟨fun d hd hp hl => ?_, fun ds hd hp hl => ?_⟩
      · cases d with
        | non => exact ⟨rfl, rfl⟩
        | bl b => exact ⟨rfl, rfl⟩
        | int i =>
          have hi : i.natAbs ≤ 10 ^ 39 + m := by simpa [leafD] using hl
          have h40 : i.natAbs < 10 ^ 40 := by
            have : (10 : Nat) ^ 39 + m < 10 ^ 40 := by
              have e : (10 : Nat) ^ 40 = 10 * 10 ^ 39 := by decide
              have e2 : (1000 : Nat) ≤ 10 ^ 39 := by decide
              omega
            omega
          constructor
          · show decide (i.natAbs.log2 < 1920) = true
            rw [decide_eq_true_eq]
            by_cases h0 : i.natAbs = 0
            · rw [h0]; decide
            · have : i.natAbs.log2 < 140 := (Nat.log2_lt h0).mpr (Nat.lt_trans h40 (by decide))
              omega
          · show decide ((PyData.shown (.int i)).length ≤ 45) = true
            rw [decide_eq_true_eq]
            have e := int_text_length_le10 (k := 40) (by decide) h40
            show (Str.ofString (toString i)).length ≤ 45
            rw [PySem.ofString_length]; omega
        | str x =>
          refine ⟨rfl, ?_⟩
          show (x.cps.toList.all fun c => decide (c < 16 ^ 8)) = true
          rw [List.all_eq_true]
          intro c hc
          have : (x.cps.toList.all fun c => decide (c < 128)) = true := hl
          have := List.all_eq_true.mp this c hc
          simp only [decide_eq_true_eq] at this ⊢
          omega
        | tup xs => exact ih.2 xs (by simp at hd; omega) hp hl
        | lst xs => exact ih.2 xs (by simp at hd; omega) hp hl
        | dK kds => exact ⟨rfl, rfl⟩
        | ty n => cases hp
        | dT k => cases hp
        | obj C f => cases hp
        | rf a => cases hp
        | scr ns => cases hp
      · cases ds with
        | nil => exact ⟨rfl, rfl⟩
        | cons x xs =>
          have p' : x.plR = true ∧ D.plsR xs = true := by simpa [D.plsR] using hp
          have l' : leafD m x = true ∧ leafsD m xs = true := by simpa [leafsD] using hl
          have a := ih.1 x (by simp at hd; omega) p'.1 l'.1
          have b := ih.2 xs (by simp at hd; omega) p'.2 l'.2
          constructor
          · show (x.pyR.showable && PyData.showableAll (D.pysR xs)) = true
            rw [a.1, b.1]; rfl
          · show (x.pyR.leavesShort 45 && PyData.leavesShortAll 45 (D.pysR xs)) = true
            rw [a.2, b.2]; rfl
  exact fun d => (aux (sizeOf d)).1 d (Nat.le_refl _)
theorem Odd.repr {m n w : Nat} {d : D} (h : Odd m n w d) (hm : m ≤ 1000) (hn : n ≤ 60) (hw : w ≤ 100000) {G : GH} {Q : DQ} (q : Q (.str d.pyR.shown) G) : rReprG [d] G Q := by
  obtain ⟨h1, h2⟩ := leaf_short m hm d h.one.pl h.one.lf
  refine ⟨h.one.pl, h1, Nat.le_trans h.one.dp hn, ?_, q⟩
  have := PyData.shown_le_bulk 45 (by decide) d.pyR h2
  have hb : d.pyR.bulk ≤ w := h.bk
  have : (45 + 2) * d.pyR.bulk ≤ 47 * 100000 := Nat.mul_le_mul (by omega) (by omega)
  rw [sizeLine_eq]
  omega
end Pace
end
section
set_option Elab.async false
set_option linter.all false
set_option maxRecDepth 100000
set_option maxHeartbeats 4000000
namespace Pace
open PySem PySem.Spec PyProof.Rows L2 DL
/-- all moves, one behind the other -/
def flatM (rs : List (List Mv)) : List (Nat × Mv) := (List.range rs.length).flatMap fun s => (rs.getD s []).map fun m => (s, m)
/-- rules that can be written -/
structure Wri (hs ws : List Nat) (rs : List (List Mv)) : Prop where
  val : RulV hs ws rs
  few : (flatM rs).length ≤ 5000
theorem flat_mem {rs : List (List Mv)} {x : Nat × Mv} (h : x ∈ flatM rs) : x.1 < rs.length ∧ ∃ r ∈ rs, x.2 ∈ r := by
  obtain ⟨s, hs, hx⟩ := List.mem_flatMap.mp h
  obtain ⟨m, hm, rfl⟩ := List.mem_map.mp hx
  have hs := List.mem_range.mp hs
  refine ⟨hs, rs[s], List.getElem_mem hs, ?_⟩
  rwa [List.getD_eq_getElem?_getD, List.getElem?_eq_getElem hs] at hm
structure MvP (hs ws : List Nat) (n : Nat) (x : Nat × Mv) : Prop where
  s : x.1 < n
  h : x.2.h ∈ hs
  c : x.2.c ∈ ws
  t : x.2.t < n
theorem Wri.mv {hs ws : List Nat} {rs : List (List Mv)} (w : Wri hs ws rs) : ∀ x ∈ flatM rs, MvP hs ws rs.length x := fun x hx => by
  obtain ⟨h1, r, hr, hm⟩ := flat_mem hx
  have := (w.val.row r hr).1
  unfold rowB at this
  simp only [Bool.and_eq_true, List.all_eq_true] at this
  have := this.1 _ hm
  unfold mvB at this
  simp only [Bool.and_eq_true, decide_eq_true_eq] at this
  exact ⟨h1, this.1.1, this.1.2, this.2⟩
end Pace
end
section
set_option Elab.async false
set_option linter.all false
set_option maxRecDepth 100000
set_option maxHeartbeats 4000000
namespace DL
open PySem PySem.Spec PyProof.Rows L2
section
variable {X : Cx} {pos : Pos}
def rgD (a b : Int) : List D := (List.range (b - a).toNat).map fun i => .int (a + (i : Nat))
theorem rg_reps {K : PySem.W.Frag} {F : Hp} (a b : Int) : Reps K F (rgV a b) (rgD a b) := by
  unfold rgV rgD
  generalize (b - a).toNat = n
  have aux : ∀ l : List Nat, Reps K F (l.map fun i => V.int (a + (i : Nat))) (l.map fun i => D.int (a + (i : Nat))) := by
    intro l
    induction l with
    | nil => exact .nil
    | cons x l ih => exact .cons (.int _) ih
  exact aux _
def rMulLM : DR2 := fun x y G Q => match x, y with
  | .lst xs, .int n => 0 ≤ n ∧ n < 1000 ∧ xs.length ≤ 1000 ∧ ∀ p, G p = none → Q (.rf p) (gput G p (.lst (List.replicate n.toNat xs).flatten))
  | _, _ => False
theorem od_mulLM : OpD X (binaryOp .Mult) rMulLM := by
  refine ⟨_, op_rep, fun F H G x y dx dy g rx ry Q' h Q k => ?_⟩
  unfold rMulLM at h
  split at h
  · rename_i xs n
    cases rx with
    | lst ha rs =>
      rename_i a vs
      cases ry
      obtain ⟨h1, h2, h3, h5⟩ := h
      have hl := rs.length
      have hm : vs.length * n.toNat ≤ 1000 * 1000 := Nat.mul_le_mul (by omega) (by omega)
      refine ⟨_, _, vs, rfl, rfl, g.ex _ _ ha, by omega, by omega, by rw [sizeLine_eq]; omega, fun p hp => ?_⟩
      exact k _ _ _ _ _ (Go.alloc hp) (g.alloc (o := .lst (List.replicate n.toNat xs).flatten) hp rfl ⟨_, upd_same, rs.repN _⟩) (.rf p) (h5 p (g.free hp))
  · exact h.elim
end
end DL
end
section
set_option Elab.async false
set_option linter.all false
set_option maxRecDepth 100000
set_option maxHeartbeats 4000000
namespace DL
open PySem PySem.Spec PyProof.Rows L2
abbrev KTup (P : Program) (w : World) (h : Heap) (k : List Key) (b : Addr) : Prop := IsTupleKey (mixKind P w) h k b
abbrev kh (P : Program) (w : World) (k : List Key) : Int := tupleKeyHash (mixKind P w) k
section
variable {P : Program} {w : World} {A : Around} {E : Value → Shared → Prop} {s : Shared}
def krows (P : Program) (w : World) (L : List KB) : List (Int × Value) := L.map fun p => (kh P w p.2, Value.ref p.1)
theorem krows_len (L : List KB) : (krows P w L).length = L.length := by simp [krows]
/-- all but the keys themselves -/
structure KSet0 (P : Program) (w : World) (h : Heap) (a : Addr) (L : List KB) (es : Array (Int × Value)) (ep : Nat) (t : SetTable) : Prop where
  ob : ∃ o, h.get? a = some o ∧ o.ExactSet ∧ o.data = .set es ep t
  rows : es.toList = krows P w L
  tab : TabOk t (L.map fun p => kh P w p.2)
  nd : (L.map (·.2)).Nodup
  led : w.params.followText "set-order" = true ∨ t.led = true
  room : L.length * 5 < t.mask * 3
  few : L.length < 64
structure KSet (P : Program) (w : World) (h : Heap) (a : Addr) (L : List KB) (es : Array (Int × Value)) (ep : Nat) (t : SetTable) : Prop extends KSet0 P w h a L es ep t where
  tup : ∀ p ∈ L, KTup P w h p.2 p.1
variable {a : Addr} {L : List KB} {es : Array (Int × Value)} {ep : Nat} {t : SetTable}
theorem rows_size (h : es.toList = krows P w L) : es.size = L.length := by
  rw [← Array.length_toList, h, krows_len]
theorem fits_of (sz : t.place.size = es.size) (dm : t.dummies = #[]) (hl : es.size ≤ t.mask) : t.fits es.size = true := by
  unfold SetTable.fits SetTable.fill
  rw [dm, Bool.and_eq_true, beq_iff_eq, decide_eq_true_eq]
  show t.place.size = es.size ∧ t.place.size + 0 ≤ t.mask
  omega
theorem KSet0.psize (R : KSet0 P w s.heap a L es ep t) : t.place.size = L.length := by
  have := R.tab.sz
  rwa [List.length_map] at this
theorem KSet0.fits (R : KSet0 P w s.heap a L es ep t) : t.fits es.size = true := by
  have h1 := R.psize
  have h2 := rows_size R.rows
  have h3 := R.room
  exact fits_of (by omega) R.tab.dm (by omega)
theorem KSet.keep {h h' : Heap} (R : KSet P w h a L es ep t) (ha : ∀ o, h.get? a = some o → h'.get? a = some o) (ht : ∀ p ∈ L, KTup P w h' p.2 p.1) : KSet P w h' a L es ep t := by
  obtain ⟨⟨⟨o, ho, r⟩, r1, r2, r3, r4, r5, r6⟩, _⟩ := R
  exact ⟨⟨⟨o, ha o ho, r⟩, r1, r2, r3, r4, r5, r6⟩, ht⟩
end
end DL
end
section
set_option Elab.async false
set_option linter.all false
set_option maxRecDepth 100000
set_option maxHeartbeats 4000000
namespace DL
open PySem PySem.Spec PyProof.Rows L2
end DL
end
section
set_option Elab.async false
set_option linter.all false
set_option maxRecDepth 100000
set_option maxHeartbeats 4000000
namespace DL
open PySem PySem.Spec PyProof.Rows L2
end DL
end
section
set_option Elab.async false
set_option linter.all false
set_option maxRecDepth 100000
set_option maxHeartbeats 4000000
namespace Pace
open PySem PySem.Spec PyProof.Rows L2 DL
/-- the same rows, each in any order -/
structure RP (B A : Rows) : Prop where
  len : B.length = A.length
  pm : ∀ s, (rowS B s).Perm (rowS A s)
theorem RP.refl (A : Rows) : RP A A := ⟨rfl, fun _ => .refl _⟩
theorem RP.lt {B A : Rows} (h : RP B A) {s : Nat} (hs : s < A.length) : s < B.length := by rw [h.len]; exact hs
theorem mv_key_inj {r : List Mv} (pw : r.Pairwise fun a b => mvLt a b = true) {a b : Mv} (ha : a ∈ r) (hb : b ∈ r) (h : a.h = b.h) (c : a.c = b.c) : a = b := by
  have irr : ∀ x y : Mv, x.h = y.h → x.c = y.c → ¬ mvLt x y = true := fun x y e1 e2 z => by
    unfold mvLt at z
    rw [decide_eq_true_eq] at z
    omega
  induction r with
  | nil => cases ha
  | cons x r ih =>
    rw [List.pairwise_cons] at pw
    rcases List.mem_cons.mp ha with e1 | h1
    · rcases List.mem_cons.mp hb with e2 | h2
      · rw [e1, e2]
      · rw [e1] at h c
        exact absurd (pw.1 b h2) (irr _ _ h c)
    · rcases List.mem_cons.mp hb with e2 | h2
      · rw [e2] at h c
        exact absurd (pw.1 a h1) (irr _ _ h.symm c.symm)
      · exact ih pw.2 h1 h2
end Pace
end
section
set_option Elab.async false
set_option linter.all false
set_option maxRecDepth 100000
set_option maxHeartbeats 4000000
namespace Pace
open PySem PySem.Spec PyProof.Rows L2 DL
abbrev Ky := Nat × Nat
def kLt (a b : Ky) : Bool := decide (a.1 < b.1 ∨ (a.1 = b.1 ∧ a.2 < b.2))
theorem step1_some {A : Rows} {s : Nat} {k : Ky} : (step1 A s k.1 k.2).isSome = true ↔ k ∈ (rowS A s).map fun m => (m.h, m.c) := by
  show (((rowS A s).find? fun m => m.h == k.1 && m.c == k.2).map (·.t)).isSome = true ↔ _
  rw [Option.isSome_map, List.find?_isSome, List.mem_map]
  simp only [Bool.and_eq_true, beq_iff_eq]
  exact ⟨fun ⟨m, hm, h1, h2⟩ => ⟨m, hm, Prod.ext h1 h2⟩, fun ⟨m, hm, e⟩ => ⟨m, hm, by rw [← e], by rw [← e]⟩⟩
abbrev Trail := (Nat × Nat) × List Ky
/-- as far as the search has come -/
structure TrI (A B : Rows) (L : List Trail) (n : Nat) : Prop where
  nd : (L.map (·.1)).Nodup
  zero : L[0]? = some ((0, 0), [])
  led : ∀ x ∈ L, ledN A 0 x.2 = some x.1.1 ∧ ledN B 0 x.2 = some x.1.2
  cl : ∀ (i : Nat) x, i < n → L[i]? = some x → ∀ (k : Ky) (s t : Nat), step1 A x.1.1 k.1 k.2 = some s → step1 B x.1.2 k.1 k.2 = some t → (s, t) ∈ L.map (·.1)
  le : n ≤ L.length
  ln : ∀ (i : Nat) x, L[i]? = some x → x.2.length ≤ i
theorem TrI.lt {A B : Rows} {L : List Trail} {n : Nat} (h : TrI A B L n) (sa : Steps A) (sb : Steps B) {x : Trail} (hx : x ∈ L) : x.1.1 < A.length ∧ x.1.2 < B.length := by
  obtain ⟨h1, h2⟩ := h.led x hx
  exact ⟨ledN_lt sa.cl.2 sa.cl.1 _ h1, ledN_lt sb.cl.2 sb.cl.1 _ h2⟩
theorem TrI.few {A B : Rows} {L : List Trail} {n : Nat} (h : TrI A B L n) (sa : Steps A) (sb : Steps B) : L.length ≤ A.length * B.length := by
  have := List.Nodup.length_le_of_subset h.nd (l₂ := (List.range A.length).flatMap fun x => (List.range B.length).map fun y => (x, y)) fun p hp => by
    obtain ⟨x, hx, rfl⟩ := List.mem_map.mp hp
    obtain ⟨h1, h2⟩ := h.lt sa sb hx
    exact List.mem_flatMap.mpr ⟨x.1.1, List.mem_range.mpr h1, List.mem_map.mpr ⟨x.1.2, List.mem_range.mpr h2, rfl⟩⟩
  rw [List.length_map, prod_len, List.length_range, List.length_range] at this
  exact this
end Pace
end
section
set_option Elab.async false
set_option linter.all false
set_option maxRecDepth 100000
set_option maxHeartbeats 4000000
namespace DL
open PySem PySem.Spec PyProof.Rows L2
end DL
end
section
set_option Elab.async false
set_option linter.all false
set_option maxRecDepth 100000
set_option maxHeartbeats 4000000
namespace Pace
open PySem PySem.Spec PyProof.Rows L2 DL
theorem keys_nd {r : List Mv} (pw : r.Pairwise fun a b => mvLt a b = true) : (r.map fun m => (m.h, m.c)).Nodup := by
  refine List.pairwise_map.mpr (pw.imp fun {a b} h e => ?_)
  unfold mvLt at h
  rw [decide_eq_true_eq] at h
  have e1 := congrArg Prod.fst e
  have e2 := congrArg Prod.snd e
  simp only at e1 e2
  omega
/-- a move, by its letters -/
theorem step1_iff {A : Rows} (st : Steps A) {s h c t : Nat} : step1 A s h c = some t ↔ ⟨h, c, t⟩ ∈ rowS A s := by
  show ((rowS A s).find? fun m => m.h == h && m.c == c).map (·.t) = some t ↔ _
  have pw := (st.row s).1
  constructor
  · intro e
    obtain ⟨m, hm, rfl⟩ := Option.map_eq_some_iff.mp e
    have h1 := List.find?_some hm
    have h2 := List.mem_of_find?_eq_some hm
    simp only [Bool.and_eq_true, beq_iff_eq] at h1
    obtain ⟨rfl, rfl⟩ := h1
    exact h2
  · intro hm
    cases e : (rowS A s).find? fun m => m.h == h && m.c == c with
    | none =>
      have := List.find?_eq_none.mp e _ hm
      simp at this
    | some m =>
      have h1 := List.find?_some e
      have h2 := List.mem_of_find?_eq_some e
      simp only [Bool.and_eq_true, beq_iff_eq] at h1
      have := mv_key_inj pw h2 hm h1.1 h1.2
      subst this
      rfl
/-- words, letter by letter -/
theorem ledN_step {A : Rows} {s : Nat} (k : Ky) (w : List Ky) : ledN A s (k :: w) = (step1 A s k.1 k.2).bind fun x => ledN A x w := by
  show List.foldl _ ((some s).bind fun s => step1 A s k.1 k.2) w = _
  rw [Option.bind_some]
  cases step1 A s k.1 k.2 with
  | none => exact foldl_none w
  | some x => rfl
end Pace
end
section
set_option Elab.async false
set_option linter.all false
set_option maxRecDepth 100000
set_option maxHeartbeats 4000000
namespace Pace
open PySem PySem.Spec PyProof.Rows L2 DL
/-- letters, ascending -/
theorem nsort_nd {os : List Nat} (nd : os.Nodup) : (nsort os).Pairwise (· < ·) := by
  have h1 := nsort_le os
  have h2 := (nsort_perm os).nodup_iff.mpr nd
  exact (h1.and h2).imp fun h => by omega
theorem like_keys {R : Nat → Nat → Prop} : ∀ {r q : List Mv}, r.map (fun m => (m.h, m.c)) = q.map (fun m => (m.h, m.c)) → (∀ m ∈ r, ∀ m' ∈ q, m.h = m'.h → m.c = m'.c → R m.t m'.t) → Like R r q
  | [], [], _, _ => .nil
  | [], _ :: _, e, _ => by cases e
  | _ :: _, [], e, _ => by cases e
  | m :: r, m' :: q, e, h => by
    rw [List.map_cons, List.map_cons] at e
    injection e with e1 e2
    injection e1 with a b
    exact .cons a b (h m (by simp) m' (by simp) a b) (like_keys e2 fun x hx y hy => h x (by simp [hx]) y (by simp [hy]))
theorem bis_words {A B : Rows} (sa : Steps A) (sb : Steps B) {s t : Nat} (h : ∀ w : List Ky, (ledN A s w).isSome = (ledN B t w).isSome) : bis A s B t := by
  refine bis_of (R := fun s t => ∀ w : List Ky, (ledN A s w).isSome = (ledN B t w).isSome) (fun s t h => ?_) h
  have one : ∀ k : Ky, (step1 A s k.1 k.2).isSome = (step1 B t k.1 k.2).isSome := fun k => by
    have := h [k]
    rw [ledN_step, ledN_step] at this
    have e : ∀ o : Option Nat, ∀ C : Rows, (o.bind fun x => ledN C x []).isSome = o.isSome := fun o C => by cases o <;> rfl
    rw [e, e] at this
    exact this
  have pa := (sa.row s).1
  have pb := (sb.row t).1
  have kk : ∀ k : Ky, k ∈ (rowS A s).map (fun m => (m.h, m.c)) ↔ k ∈ (rowS B t).map (fun m => (m.h, m.c)) := fun k => by
    rw [← step1_some, ← step1_some, one k]
  have lt : ∀ {r : List Mv}, (r.Pairwise fun a b => mvLt a b = true) → (r.map fun m => (m.h, m.c)).Pairwise fun a b => kLt a b = true := fun {r} p => List.pairwise_map.mpr (p.imp fun h => h)
  have ke : (rowS A s).map (fun m => (m.h, m.c)) = (rowS B t).map (fun m => (m.h, m.c)) := by
    refine List.Perm.eq_of_pairwise (le := fun a b => kLt a b = true) (fun a b _ _ h1 h2 => ?_) (lt pa) (lt pb) ((List.perm_ext_iff_of_nodup (keys_nd pa) (keys_nd pb)).mpr kk)
    unfold kLt at h1 h2
    rw [decide_eq_true_eq] at h1 h2
    omega
  refine like_keys ke fun m hm m' hm' e1 e2 w => ?_
  have := h ((m.h, m.c) :: w)
  rw [ledN_step, ledN_step] at this
  have s1 : step1 A s m.h m.c = some m.t := (step1_iff sa).mpr hm
  have s2 : step1 B t m.h m.c = some m'.t := by rw [e1, e2]; exact (step1_iff sb).mpr hm'
  simp only [s1, s2, Option.bind_some] at this
  exact this
end Pace
end
section
set_option Elab.async false
set_option linter.all false
set_option maxRecDepth 100000
set_option maxHeartbeats 4000000
namespace DL
open PySem PySem.Spec PyProof.Rows L2
end DL
end
section
set_option Elab.async false
set_option linter.all false
set_option maxRecDepth 100000
set_option maxHeartbeats 4000000
namespace DL
open PySem PySem.Spec PyProof.Rows L2
end DL
end
section
set_option Elab.async false
set_option linter.all false
set_option maxRecDepth 100000
set_option maxHeartbeats 4000000
namespace DL
open PySem PySem.Spec PyProof.Rows L2
section
variable {X : Cx} {pos : Pos}
def rMin2D (ds : List D) (G : GH) (Q : DQ) : Prop := match ds with
  | [.int i, .int j] => Q (.int (if j < i then j else i)) G
  | _ => False
theorem cd_min2 (hc : X.calm = true) : CallD X (.builtin "min") rMin2D := by
  refine ⟨_, call_min2 hc, fun F H G vs ds g rs Q' h Q k => ?_⟩
  unfold rMin2D at h
  split at h
  · cases rs with
    | cons a b =>
      cases b with
      | cons c d =>
        cases d; cases a; cases c
        exact ⟨_, _, rfl, k F H _ _ G Go.refl g (.int _) h⟩
  · exact h.elim
end
end DL
end
section
set_option Elab.async false
set_option linter.all false
set_option maxRecDepth 100000
set_option maxHeartbeats 4000000
namespace Pace
open PySem PySem.Spec PyProof.Rows L2 DL
theorem isN_f {α : Type} {o : Option α} : o.isNone = false ↔ o.isSome = true := by cases o <;> simp
theorem isN_n {α : Type} {o : Option α} : (¬ o.isNone = true) ↔ o.isSome = true := by cases o <;> simp
def ledS (A : Rows) (ss : List Nat) (k : Ky) : List Nat := nsort (firstsF (ss.flatMap fun s => ((rowS A s).filter fun m => m.h == k.1 && m.c == k.2).map (·.t)))
theorem ledS_mem {A : Rows} (st : Steps A) {ss : List Nat} {k : Ky} {t : Nat} : t ∈ ledS A ss k ↔ ∃ s ∈ ss, step1 A s k.1 k.2 = some t := by
  unfold ledS
  rw [(nsort_perm _).mem_iff, firstsF_mem, List.mem_flatMap]
  constructor
  · rintro ⟨s, hs, h⟩
    obtain ⟨m, hm, rfl⟩ := List.mem_map.mp h
    rw [List.mem_filter] at hm
    obtain ⟨h1, h2⟩ := hm
    simp only [Bool.and_eq_true, beq_iff_eq] at h2
    refine ⟨s, hs, (step1_iff st).mpr ?_⟩
    rw [← h2.1, ← h2.2]
    exact h1
  · rintro ⟨s, hs, h⟩
    exact ⟨s, hs, List.mem_map.mpr ⟨_, List.mem_filter.mpr ⟨(step1_iff st).mp h, by simp⟩, rfl⟩⟩
def ledW (A : Rows) (ss : List Nat) (w : List Ky) : List Nat := w.foldl (ledS A) ss
theorem ledW_snoc (A : Rows) (ss : List Nat) (w : List Ky) (k : Ky) : ledW A ss (w ++ [k]) = ledS A (ledW A ss w) k := by simp [ledW]
theorem ledW_mem {A : Rows} (st : Steps A) {ss : List Nat} (w : List Ky) : ∀ {t : Nat}, t ∈ ledW A ss w ↔ ∃ s ∈ ss, ledN A s w = some t := by
  induction w using snoc_ind with
  | nil => intro t; simp [ledW, ledN]
  | snoc w k ih =>
    intro t
    rw [ledW_snoc, ledS_mem st]
    constructor
    · rintro ⟨u, hu, h⟩
      obtain ⟨s, hs, h2⟩ := ih.mp hu
      exact ⟨s, hs, by rw [ledN_snoc, h2]; exact h⟩
    · rintro ⟨s, hs, h⟩
      rw [ledN_snoc] at h
      obtain ⟨u, hu, h⟩ := Option.bind_eq_some_iff.mp h
      exact ⟨u, ih.mpr ⟨s, hs, hu⟩, h⟩
theorem ledW_nil {A : Rows} (st : Steps A) {ss : List Nat} (w : List Ky) : ledW A ss w = [] ↔ ∀ s ∈ ss, ledN A s w = none := by
  rw [List.eq_nil_iff_forall_not_mem]
  constructor
  · intro h s hs
    cases e : ledN A s w with
    | none => rfl
    | some t => exact absurd ((ledW_mem st w).mpr ⟨s, hs, e⟩) (h t)
  · intro h t ht
    obtain ⟨s, hs, e⟩ := (ledW_mem st w).mp ht
    rw [h s hs] at e
    cases e
inductive Reach (A : Rows) : Nat → Prop
  | one {m : Mv} : m ∈ rowS A 0 → Reach A m.t
  | more {s : Nat} {m : Mv} : Reach A s → m ∈ rowS A s → Reach A m.t
structure Inn (A : Rows) (l : List Nat) : Prop where
  so : l.Pairwise (· < ·)
  mem : ∀ t, t ∈ l ↔ Reach A t
theorem Inn.uniq {A : Rows} {a b : List Nat} (ha : Inn A a) (hb : Inn A b) : a = b := by
  refine List.Perm.eq_of_pairwise (le := (· < ·)) (fun x y _ _ h1 h2 => by omega) ha.so hb.so ?_
  refine (List.perm_ext_iff_of_nodup (ha.so.imp fun h => by omega) (hb.so.imp fun h => by omega)).mpr fun t => by rw [ha.mem, hb.mem]
theorem Reach.lt {A : Rows} (st : Steps A) {t : Nat} (h : Reach A t) : t < A.length := by
  cases h with
  | one h => exact st.cl.t h
  | more _ h => exact st.cl.t h
theorem Inn.lt {A : Rows} (st : Steps A) {l : List Nat} (h : Inn A l) : ∀ t ∈ l, t < A.length := fun t ht => ((h.mem t).mp ht).lt st
theorem Inn.nd {A : Rows} {l : List Nat} (h : Inn A l) : l.Nodup := h.so.imp fun h => by omega
/-- the window that ends at k is not led -/
def bad (A : Rows) (inn : List Nat) (n : Nat) (ps : List Ky) (k : Nat) : Bool :=
  if k ≤ n then (ledN A 0 (ps.take k)).isNone else inn.all fun s => (ledN A s ((ps.take k).drop (k - n))).isNone
theorem bad_zero {A : Rows} {inn : List Nat} {n : Nat} {ps : List Ky} : bad A inn n ps 0 = false := by simp [bad, ledN]
theorem led_app {A : Rows} (v w : List Ky) {s : Nat} : ledN A s (v ++ w) = (ledN A s v).bind fun u => ledN A u w := by
  induction w using snoc_ind with
  | nil => simp [ledN]
  | snoc w k ih => rw [← List.append_assoc, ledN_snoc, ih, Option.bind_assoc]; congr 1; funext u; rw [ledN_snoc]
end Pace
end
section
set_option Elab.async false
set_option linter.all false
set_option maxRecDepth 100000
set_option maxHeartbeats 4000000
namespace DL
open PySem PySem.Spec PyProof.Rows L2
end DL
end
section
set_option Elab.async false
set_option linter.all false
set_option maxRecDepth 100000
set_option maxHeartbeats 4000000
namespace Pace
open PySem PySem.Spec PyProof.Rows L2 DL
structure GoOk (hs ws : List Nat) (n : Nat) (lot : Lot) : Prop where
  ok : LotOk n hs ws lot
  lh : lettersB hs = true
  lw : lettersB ws = true
  h3 : hs.length ≤ 3
  w3 : ws.length ≤ 3
  n1 : 1 ≤ n
  n6 : n ≤ 6
theorem GoOk.v {hs ws : List Nat} {n : Nat} {lot : Lot} (g : GoOk hs ws n lot) : RulV hs ws (rowsOf lot n) where
  lh := g.lh
  lw := g.lw
  sh := by have := g.h3; omega
  sw := by have := g.w3; omega
  n1 := by rw [rowsOf_len]; exact g.n1
  n2 := by have := g.n6; rw [rowsOf_len]; omega
  row := fun r hr => by
    obtain ⟨s, _, rfl⟩ := List.mem_map.mp hr
    have h6 := row_few g.ok s
    have h7 : hs.length * ws.length ≤ 3 * 3 := Nat.mul_le_mul g.h3 g.w3
    refine ⟨?_, by omega⟩
    rw [rowsOf_len]
    unfold rowB
    rw [Bool.and_eq_true, List.all_eq_true]
    refine ⟨fun m hm => ?_, nbr_of_pair (rowOf_lt g.ok.nd s)⟩
    obtain ⟨_, a, b, c⟩ := g.ok.at_ _ (rowOf_mem.mp hm)
    unfold mvB
    simp [a, b, c]
theorem GoOk.st {hs ws : List Nat} {n : Nat} {lot : Lot} (g : GoOk hs ws n lot) : Steps (rowsOf lot n) := g.v.steps
theorem GoOk.few {hs ws : List Nat} {n : Nat} {lot : Lot} (g : GoOk hs ws n lot) : lot.length ≤ 54 := by
  have h9 := lot_few g.ok
  have h7 : hs.length * ws.length ≤ 3 * 3 := Nat.mul_le_mul g.h3 g.w3
  have h8 : n * (hs.length * ws.length) ≤ 6 * (3 * 3) := Nat.mul_le_mul g.n6 h7
  omega
def knSets (A : Rows) (inn : List Nat) (n : Nat) (ps : List Ky) : List (List Nat) := (List.range (min ps.length (n - 1))).map fun j => ledW A inn (ps.drop (ps.length - (j + 1)))
def knLots (A : Rows) (inn : List Nat) (n : Nat) (ps : List Ky) : List (List Nat) := (List.range (min ps.length (n - 1) + 1)).map fun j => ledW A inn (ps.drop (ps.length - j))
theorem knLots_eq (A : Rows) (inn : List Nat) (n : Nat) (ps : List Ky) : inn :: knSets A inn n ps = knLots A inn n ps := by
  unfold knLots knSets
  rw [List.range_succ_eq_map, List.map_cons, List.map_map]
  congr 1
  simp [ledW]
theorem knLots_led (A : Rows) (inn : List Nat) (n : Nat) (ps : List Ky) (k : Ky) : ((knLots A inn n ps).map fun l => ledS A l k) = (List.range (min ps.length (n - 1) + 1)).map fun j => ledW A inn ((ps ++ [k]).drop (ps.length - j)) := by
  unfold knLots
  rw [List.map_map]
  refine List.map_congr_left fun j _ => ?_
  simp only [Function.comp]
  rw [← ledW_snoc, List.drop_append_of_le_length (by omega)]
theorem knLots_next {A : Rows} {inn : List Nat} {n : Nat} (ps : List Ky) (k : Ky) : ((knLots A inn n ps).map fun l => ledS A l k).take (n - 1) = knSets A inn n (ps ++ [k]) := by
  rw [knLots_led, ← List.map_take, List.take_range]
  unfold knSets
  have e : min (n - 1) (min ps.length (n - 1) + 1) = min (ps ++ [k]).length (n - 1) := by simp; omega
  rw [e]
  refine List.map_congr_left fun j _ => ?_
  have : (ps ++ [k]).length - (j + 1) = ps.length - j := by simp
  rw [this]
theorem knLots_last {A : Rows} {inn : List Nat} {n : Nat} (hn : 1 ≤ n) (ps : List Ky) (k : Ky) (h : n ≤ ps.length) : ((knLots A inn n ps).map fun l => ledS A l k)[(knLots A inn n ps).length - 1]? = some (ledW A inn ((ps ++ [k]).drop (ps.length + 1 - n))) := by
  have el : (knLots A inn n ps).length - 1 = n - 1 := by unfold knLots; simp; omega
  rw [el, knLots_led, List.getElem?_map, List.getElem?_range (by omega)]
  have : ps.length - (n - 1) = ps.length + 1 - n := by omega
  simp only [Option.map_some, this]
end Pace
end
section
set_option Elab.async false
set_option linter.all false
set_option maxRecDepth 100000
set_option maxHeartbeats 4000000
namespace Pace
open PySem PySem.Spec PyProof.Rows L2 DL
theorem cut_mid {α : Type} (xs : List α) (a b : Nat) : DL.cutD xs (some (a : Int)) (some (b : Int)) = (xs.take b).drop a := by
  unfold DL.cutD
  rw [HT.sIx_nat, HT.sIx_nat, List.drop_take]
  by_cases h : a ≤ xs.length
  · rw [Nat.min_eq_left h]
    by_cases h2 : b ≤ xs.length
    · rw [Nat.min_eq_left h2]
    · rw [Nat.min_eq_right (by omega), List.take_of_length_le (by simp), List.take_of_length_le (by simp; omega)]
  · have e1 : min a xs.length = xs.length := Nat.min_eq_right (by omega)
    rw [e1, List.drop_of_length_le (l := xs) (i := a) (by omega), List.drop_of_length_le (l := xs) (i := xs.length) (Nat.le_refl _)]
    simp
theorem bad_pre {A : Rows} {inn : List Nat} {n k : Nat} {ps : List Ky} (h : k ≤ n) : bad A inn n ps k = (ledN A 0 (ps.take k)).isNone := by
  unfold bad
  rw [if_pos h]
end Pace
end
section
set_option Elab.async false
set_option linter.all false
set_option maxRecDepth 100000
set_option maxHeartbeats 4000000
namespace Pace
open PySem PySem.Spec PyProof.Rows L2 DL
theorem rep_one2 {α : Type} (m : Nat) (x : α) : (List.replicate m [x]).flatten = List.replicate m x := by
  induction m with
  | zero => rfl
  | succ m ih => rw [List.replicate_succ, List.flatten_cons, ih]; rfl
abbrev Cost := Option Nat
def lessO : Cost → Cost → Cost
  | none, b => b
  | some a, none => some a
  | some a, some b => some (min a b)
def b2n (b : Bool) : Nat := if b then 1 else 0
def rowDs (r : List Cost) : List D := r.map natO
def rbMv (h c x : Nat) (f : List Cost) (m : Mv) : List Cost := if m.h = h then f.set m.t (lessO (f.getD m.t none) (some (x + b2n (decide (m.c ≠ c))))) else f
def rbSt (A : Rows) (h c : Nat) (f : List Cost) (s : Nat) : Cost → List Cost
  | none => f
  | some x => (rowS A s).foldl (rbMv h c x) f
def rbAll (A : Rows) (row : List Cost) (h c : Nat) : Nat → List Cost
  | 0 => List.replicate row.length none
  | j + 1 => rbSt A h c (rbAll A row h c j) j (row.getD j none)
def rowNx (A : Rows) (row : List Cost) (k : Ky) : List Cost := rbAll A row k.1 k.2 row.length
def firstR (n : Nat) : List Cost := some 0 :: List.replicate (n - 1) none
theorem rbMv_len (h c x : Nat) (f : List Cost) (m : Mv) : (rbMv h c x f m).length = f.length := by
  unfold rbMv
  split <;> simp
theorem rbFold_len (h c x : Nat) (ms : List Mv) : ∀ f : List Cost, (ms.foldl (rbMv h c x) f).length = f.length := by
  induction ms with
  | nil => intro f; rfl
  | cons m ms ih => intro f; rw [List.foldl_cons, ih, rbMv_len]
theorem rbSt_len (A : Rows) (h c : Nat) (f : List Cost) (s : Nat) (o : Cost) : (rbSt A h c f s o).length = f.length := by
  cases o with
  | none => rfl
  | some x => exact rbFold_len h c x _ f
theorem rbAll_len (A : Rows) (row : List Cost) (h c : Nat) : ∀ j, (rbAll A row h c j).length = row.length
  | 0 => by simp [rbAll]
  | j + 1 => by rw [rbAll, rbSt_len, rbAll_len A row h c j]
theorem rowNx_len (A : Rows) (row : List Cost) (k : Ky) : (rowNx A row k).length = row.length := rbAll_len A row _ _ _
theorem firstR_len {n : Nat} (h : 1 ≤ n) : (firstR n).length = n := by simp [firstR]; omega
theorem take_step {α : Type} {l : List α} {i : Nat} {k : α} (h : l[i]? = some k) : l.take (i + 1) = l.take i ++ [k] := by rw [List.take_add_one, h]; rfl
theorem ixN_nat2 {n k : Nat} (h : k < n) : ixN n (k : Int) = some k := by
  unfold ixN
  rw [if_pos (by omega), if_pos (by omega), Int.toNat_natCast]
theorem rowDs_len (r : List Cost) : (rowDs r).length = r.length := by simp [rowDs]
theorem rowDs_set (r : List Cost) (i : Nat) (o : Cost) : (rowDs r).set i (natO o) = rowDs (r.set i o) := by simp [rowDs, List.map_set]
theorem rowDs_at {r : List Cost} {i : Nat} (h : i < r.length) : D.item (.lst (rowDs r)) (.int (i : Int)) = some (natO (r.getD i none)) := atI_nat (by
  unfold rowDs
  rw [List.getElem?_map, List.getD_eq_getElem?_getD, List.getElem?_eq_getElem h]
  rfl)
theorem rowDs_atT {r : List Cost} {i : Nat} (h : i < r.length) : D.item (.tup (rowDs r)) (.int (i : Int)) = some (natO (r.getD i none)) := atI_nat (by
  unfold rowDs
  rw [List.getElem?_map, List.getD_eq_getElem?_getD, List.getElem?_eq_getElem h]
  rfl)
theorem sgn_eqv (a b : Nat) : D.eqv (.str (sgn a)) (.str (sgn b)) = decide (a = b) := by
  rw [Bool.eq_iff_iff, eqv_si rfl rfl, decide_eq_true_eq]
  exact ⟨fun e => sgn_inj (D.str.inj e), fun e => by rw [e]⟩
theorem sgn_okE (a b : Nat) : okE (.str (sgn a)) (.str (sgn b)) = true := okE_si rfl rfl (Nat.zero_le _)
theorem dseqP {t u : DTS} {D' : DEnds} {S : DS} {G : GH} (P : DS → GH → Prop) (h2 : ∀ S' G', P S' G' → u D' S' G') (h1 : ∀ X : DS → GH → Prop, (∀ S' G', P S' G' → X S' G') → t { D' with nx := X } S G) : dSeq t u D' S G := h1 _ h2
end Pace
end
section
set_option Elab.async false
set_option linter.all false
set_option maxRecDepth 100000
set_option maxHeartbeats 4000000
namespace Pace
open PySem PySem.Spec PyProof.Rows L2 DL
def IsMin (o : Cost) (S : Nat → Prop) : Prop := match o with
  | none => ∀ n, ¬ S n
  | some m => S m ∧ ∀ n, S n → m ≤ n
theorem IsMin.uniq {a b : Cost} {S : Nat → Prop} (h : IsMin a S) (g : IsMin b S) : a = b := by
  cases a with
  | none => cases b with
    | none => rfl
    | some m => exact absurd g.1 (h m)
  | some m => cases b with
    | none => exact absurd h.1 (g m)
    | some n => rw [show m = n from Nat.le_antisymm (h.2 n g.1) (g.2 m h.1)]
theorem IsMin.congr {a : Cost} {S T : Nat → Prop} (h : IsMin a S) (e : ∀ n, S n ↔ T n) : IsMin a T := by
  have : S = T := funext fun n => propext (e n)
  rw [← this]; exact h
theorem IsMin.wide {a : Cost} {S T : Nat → Prop} (h : IsMin a S) (e : ∀ n, S n → T n) (f : ∀ n, T n → ∃ m, m ≤ n ∧ S m) : IsMin a T := by
  cases a with
  | none => exact fun n z => by obtain ⟨m, _, hm⟩ := f n z; exact h m hm
  | some x => exact ⟨e _ h.1, fun n z => by obtain ⟨m, l, hm⟩ := f n z; exact Nat.le_trans (h.2 m hm) l⟩
theorem IsMin.less {a b : Cost} {S T : Nat → Prop} (h : IsMin a S) (g : IsMin b T) : IsMin (lessO a b) fun n => S n ∨ T n := by
  cases a with
  | none => exact g.congr fun n => ⟨.inr, fun z => z.resolve_left (h n)⟩
  | some m => cases b with
    | none => exact h.congr fun n => ⟨.inl, fun z => z.resolve_right (g n)⟩
    | some k =>
      refine ⟨?_, fun n z => ?_⟩
      · show S (min m k) ∨ T (min m k)
        rcases Nat.le_total m k with l | l
        · rw [Nat.min_eq_left l]; exact .inl h.1
        · rw [Nat.min_eq_right l]; exact .inr g.1
      · show min m k ≤ n
        rcases z with z | z
        · exact Nat.le_trans (Nat.min_le_left _ _) (h.2 n z)
        · exact Nat.le_trans (Nat.min_le_right _ _) (g.2 n z)
theorem isMin_none {S : Nat → Prop} (h : ∀ n, ¬ S n) : IsMin none S := h
theorem isMin_one (x : Nat) : IsMin (some x) fun n => n = x := ⟨rfl, fun n e => Nat.le_of_eq e.symm⟩
theorem rbMv_at {h c x : Nat} {f : List Cost} {m : Mv} {t : Nat} (ht : t < f.length) {S : Nat → Prop} (hf : IsMin (f.getD t none) S) :
    IsMin ((rbMv h c x f m).getD t none) fun n => S n ∨ (m.h = h ∧ m.t = t ∧ n = x + b2n (decide (m.c ≠ c))) := by
  unfold rbMv
  by_cases e : m.h = h
  · rw [if_pos e]
    by_cases et : m.t = t
    · subst et
      have : (f.set m.t (lessO (f.getD m.t none) (some (x + b2n (decide (m.c ≠ c)))))).getD m.t none = lessO (f.getD m.t none) (some (x + b2n (decide (m.c ≠ c)))) := by
        rw [List.getD_eq_getElem?_getD, List.getElem?_set_self ht]
        rfl
      rw [this]
      exact (hf.less (isMin_one _)).congr fun n => by simp [e]
    · have : (f.set m.t (lessO (f.getD m.t none) (some (x + b2n (decide (m.c ≠ c)))))).getD t none = f.getD t none := by
        rw [List.getD_eq_getElem?_getD, List.getElem?_set_ne et, ← List.getD_eq_getElem?_getD]
      rw [this]
      exact hf.congr fun n => by simp [et]
  · rw [if_neg e]
    exact hf.congr fun n => by simp [e]
theorem rbFold_at {h c x : Nat} {t : Nat} : ∀ (ms : List Mv) (f : List Cost) (S : Nat → Prop), t < f.length → IsMin (f.getD t none) S →
    IsMin ((ms.foldl (rbMv h c x) f).getD t none) fun n => S n ∨ ∃ m ∈ ms, m.h = h ∧ m.t = t ∧ n = x + b2n (decide (m.c ≠ c))
  | [], f, S, _, hf => hf.congr fun n => by simp
  | m :: ms, f, S, ht, hf => by
    rw [List.foldl_cons]
    refine (rbFold_at ms _ _ (by rw [rbMv_len]; exact ht) (rbMv_at ht hf)).congr fun n => ?_
    constructor
    · rintro ((z | z) | ⟨m', hm, z⟩)
      · exact .inl z
      · exact .inr ⟨m, by simp, z⟩
      · exact .inr ⟨m', by simp [hm], z⟩
    · rintro (z | ⟨m', hm, z⟩)
      · exact .inl (.inl z)
      · rcases List.mem_cons.mp hm with rfl | hm
        · exact .inl (.inr z)
        · exact .inr ⟨m', hm, z⟩
/-- what a step may cost -/
def StepC (A : Rows) (row : List Cost) (k : Ky) (t n : Nat) : Prop := ∃ s x m, row.getD s none = some x ∧ s < row.length ∧ m ∈ rowS A s ∧ m.h = k.1 ∧ m.t = t ∧ n = x + b2n (decide (m.c ≠ k.2))
theorem rbAll_at {A : Rows} {row : List Cost} {h c t : Nat} (ht : t < row.length) : ∀ j, j ≤ row.length →
    IsMin ((rbAll A row h c j).getD t none) fun n => ∃ s x m, s < j ∧ row.getD s none = some x ∧ m ∈ rowS A s ∧ m.h = h ∧ m.t = t ∧ n = x + b2n (decide (m.c ≠ c))
  | 0, _ => by
    have : (rbAll A row h c 0).getD t none = none := by
      unfold rbAll
      rw [List.getD_eq_getElem?_getD, List.getElem?_replicate]
      split <;> rfl
    rw [this]
    rintro n ⟨s, x, m, z, _⟩
    omega
  | j + 1, hj => by
    have ih := rbAll_at (A := A) (h := h) (c := c) ht j (by omega)
    rw [rbAll]
    cases e : row.getD j none with
    | none =>
      refine ih.congr fun n => ⟨fun ⟨s, x, m, z1, z⟩ => ⟨s, x, m, by omega, z⟩, fun ⟨s, x, m, z1, z2, z⟩ => ?_⟩
      have : s ≠ j := fun q => by rw [q, e] at z2; cases z2
      exact ⟨s, x, m, by omega, z2, z⟩
    | some x =>
      refine (rbFold_at (rowS A j) _ _ (by rw [rbAll_len]; exact ht) ih).congr fun n => ?_
      constructor
      · rintro (⟨s, y, m, z1, z⟩ | ⟨m, hm, z⟩)
        · exact ⟨s, y, m, by omega, z⟩
        · exact ⟨j, x, m, by omega, e, hm, z⟩
      · rintro ⟨s, y, m, z1, z2, z3, z⟩
        by_cases q : s = j
        · subst q
          rw [e] at z2
          cases z2
          exact .inr ⟨m, z3, z⟩
        · exact .inl ⟨s, y, m, by omega, z2, z3, z⟩
theorem rowNx_min {A : Rows} {row : List Cost} {k : Ky} {t : Nat} (ht : t < row.length) : IsMin ((rowNx A row k).getD t none) (StepC A row k t) :=
  (rbAll_at ht row.length (Nat.le_refl _)).congr fun n => ⟨fun ⟨s, x, m, h1, h2, h⟩ => ⟨s, x, m, h2, h1, h⟩, fun ⟨s, x, m, h2, h1, h⟩ => ⟨s, x, m, h1, h2, h⟩⟩
def distN : List Nat → List Nat → Nat
  | a :: p, b :: q => b2n (decide (a ≠ b)) + distN p q
  | _, _ => 0
theorem dist_snoc : ∀ {p q : List Nat} {a b : Nat}, p.length = q.length → distN (p ++ [a]) (q ++ [b]) = distN p q + b2n (decide (a ≠ b))
  | [], [], a, b, _ => by simp [distN]
  | [], _ :: _, _, _, h => by simp at h
  | _ :: _, [], _, _, h => by simp at h
  | x :: p, y :: q, a, b, h => by
    rw [List.cons_append, List.cons_append, distN, dist_snoc (by simpa using h), distN]
    omega
end Pace
end
section
set_option Elab.async false
set_option linter.all false
set_option maxRecDepth 100000
set_option maxHeartbeats 4000000
namespace DL
open PySem PySem.Spec PyProof.Rows L2
end DL
end
section
set_option Elab.async false
set_option linter.all false
set_option maxRecDepth 100000
set_option maxHeartbeats 4000000
namespace Pace
open PySem PySem.Spec PyProof.Rows L2 DL
structure KS where
  many : Nat
  st : Option Nat
  sets : List (List Nat)
  deriving DecidableEq
def ksOf (A : Rows) (inn : List Nat) (n : Nat) (ps : List Ky) : KS := ⟨min ps.length n, if ps.length < n then ledN A 0 ps else none, knSets A inn n ps⟩
/-- no window has been bad -/
def okW (A : Rows) (inn : List Nat) (n : Nat) (w : List Ky) : Prop := ∀ j, j ≤ w.length → bad A inn n w j = false
theorem bad_cut {A : Rows} {inn : List Nat} {n j : Nat} {w v : List Ky} (h : j ≤ w.length) : bad A inn n (w ++ v) j = bad A inn n w j := by
  unfold bad
  rw [List.take_append_of_le_length h]
theorem okW_snoc {A : Rows} {inn : List Nat} {n : Nat} {w : List Ky} {k : Ky} : okW A inn n (w ++ [k]) ↔ okW A inn n w ∧ bad A inn n (w ++ [k]) (w.length + 1) = false := by
  constructor
  · intro h
    exact ⟨fun j hj => by rw [← bad_cut (v := [k]) hj]; exact h j (by simp; omega), h _ (by simp)⟩
  · rintro ⟨h1, h2⟩ j hj
    simp only [List.length_append, List.length_cons, List.length_nil] at hj
    by_cases e : j ≤ w.length
    · rw [bad_cut e]; exact h1 j e
    · have : j = w.length + 1 := by omega
      rw [this]; exact h2
theorem okW_nil {A : Rows} {inn : List Nat} {n : Nat} : okW A inn n [] := fun j hj => by rw [Nat.le_zero.mp hj]; exact bad_zero
def nextK (A : Rows) (inn : List Nat) (n : Nat) (x : KS) (k : Ky) : Option KS :=
  if x.many < n then (x.st.bind fun s => step1 A s k.1 k.2).map fun t => ⟨x.many + 1, if x.many + 1 < n then some t else none, ((inn :: x.sets).map fun l => ledS A l k).take (n - 1)⟩
  else if (((inn :: x.sets).map fun l => ledS A l k)[(inn :: x.sets).length - 1]?).getD [] = [] then none else some ⟨x.many, none, ((inn :: x.sets).map fun l => ledS A l k).take (n - 1)⟩
theorem next_eq {A : Rows} (st : Steps A) {inn : List Nat} {n : Nat} (hn : 1 ≤ n) {w : List Ky} (k : Ky) (hw : okW A inn n w) : nextK A inn n (ksOf A inn n w) k = if bad A inn n (w ++ [k]) (w.length + 1) = true then none else some (ksOf A inn n (w ++ [k])) := by
  have epl : (w ++ [k]).take (w.length + 1) = w ++ [k] := List.take_of_length_le (by simp)
  have es : inn :: (ksOf A inn n w).sets = knLots A inn n w := knLots_eq A inn n w
  unfold nextK
  rw [es, knLots_next]
  have el : (w ++ [k]).length = w.length + 1 := by simp
  by_cases h : w.length < n
  · have em : (ksOf A inn n w).many = w.length := by show min _ _ = _; omega
    have e2 : (ksOf A inn n w).st = ledN A 0 w := by show (if _ then _ else _) = _; rw [if_pos h]
    have eb : bad A inn n (w ++ [k]) (w.length + 1) = (ledN A 0 (w ++ [k])).isNone := by rw [bad_pre (by omega), epl]
    rw [em, if_pos h, e2, eb, ledN_snoc]
    cases e : (ledN A 0 w).bind fun s => step1 A s k.1 k.2 with
    | none => rfl
    | some t =>
      rw [if_neg (by simp)]
      simp only [Option.map_some, Option.some.injEq]
      unfold ksOf
      rw [el, ledN_snoc, e]
      have : min (w.length + 1) n = w.length + 1 := by omega
      rw [this]
  · have em : (ksOf A inn n w).many = n := by show min _ _ = _; omega
    rw [em, if_neg (by omega), knLots_last hn w k (by omega)]
    have eb : bad A inn n (w ++ [k]) (w.length + 1) = decide (ledW A inn ((w ++ [k]).drop (w.length + 1 - n)) = []) := by
      unfold bad
      rw [if_neg (by omega), epl, Bool.eq_iff_iff, List.all_eq_true, decide_eq_true_eq, ledW_nil st]
      simp only [Option.isNone_iff_eq_none]
    rw [eb]
    simp only [Option.getD_some, decide_eq_true_eq]
    split
    · rfl
    · unfold ksOf
      rw [el]
      have : min (w.length + 1) n = n := by omega
      rw [this, if_neg (by omega)]
theorem next_some {A : Rows} (st : Steps A) {inn : List Nat} {n : Nat} (hn : 1 ≤ n) {w v : List Ky} (k : Ky) (hw : okW A inn n w) (hv : okW A inn n v) (e : ksOf A inn n w = ksOf A inn n v) : (okW A inn n (w ++ [k]) ↔ okW A inn n (v ++ [k])) ∧ (okW A inn n (w ++ [k]) → ksOf A inn n (w ++ [k]) = ksOf A inn n (v ++ [k])) := by
  have h1 := next_eq st hn k hw
  have h2 := next_eq st hn k hv
  rw [e, h2] at h1
  rw [okW_snoc, okW_snoc]
  generalize bad A inn n (w ++ [k]) (w.length + 1) = bw at h1 ⊢
  generalize bad A inn n (v ++ [k]) (v.length + 1) = bv at h1 ⊢
  cases bw with
  | true =>
    cases bv with
    | true => exact ⟨⟨fun z => (nomatch z.2), fun z => (nomatch z.2)⟩, fun z => nomatch z.2⟩
    | false => simp at h1
  | false =>
    cases bv with
    | true => simp at h1
    | false =>
      simp only [Bool.false_eq_true, if_false, Option.some.injEq] at h1
      exact ⟨⟨fun z => ⟨hv, rfl⟩, fun z => ⟨hw, rfl⟩⟩, fun _ => h1.symm⟩
def wordsN (K : List Ky) : Nat → List (List Ky)
  | 0 => [[]]
  | m + 1 => (wordsN K m).flatMap fun w => K.map fun k => k :: w
theorem wordsN_mem {K : List Ky} : ∀ {m : Nat} {w : List Ky}, w.length = m → (∀ k ∈ w, k ∈ K) → w ∈ wordsN K m
  | 0, w, h, _ => by
    have : w = [] := List.length_eq_zero_iff.mp h
    subst this
    simp [wordsN]
  | m + 1, [], h, _ => by simp at h
  | m + 1, k :: w, h, hk => by
    unfold wordsN
    refine List.mem_flatMap.mpr ⟨w, wordsN_mem (by simpa using h) fun x hx => hk x (by simp [hx]), List.mem_map.mpr ⟨k, hk k (by simp), rfl⟩⟩
theorem wordsN_len (K : List Ky) : ∀ m, (wordsN K m).length = K.length ^ m
  | 0 => rfl
  | m + 1 => by
    have ih := wordsN_len K m
    unfold wordsN
    rw [List.length_flatMap]
    simp only [List.length_map]
    have : ∀ l : List (List Ky), (l.map fun _ => K.length).sum = l.length * K.length := fun l => by
      induction l with
      | nil => simp
      | cons a l ih => rw [List.map_cons, List.sum_cons, ih, List.length_cons, Nat.add_mul]; omega
    rw [this, ih, Nat.pow_succ]
/-- what a state is told by -/
def canon (n : Nat) (w : List Ky) : Bool × List Ky := if w.length < n then (false, w) else (true, w.drop (w.length - (n - 1)))
theorem canon_ks {A : Rows} {inn : List Nat} {n : Nat} (hn : 1 ≤ n) {v w : List Ky} (h : canon n v = canon n w) : ksOf A inn n v = ksOf A inn n w := by
  unfold canon at h
  by_cases h1 : v.length < n
  · rw [if_pos h1] at h
    by_cases h2 : w.length < n
    · rw [if_pos h2] at h
      have : v = w := (Prod.mk.inj h).2
      rw [this]
    · rw [if_neg h2] at h
      exact absurd (Prod.mk.inj h).1 (by simp)
  · rw [if_neg h1] at h
    by_cases h2 : w.length < n
    · rw [if_pos h2] at h
      exact absurd (Prod.mk.inj h).1 (by simp)
    · rw [if_neg h2] at h
      have e := (Prod.mk.inj h).2
      unfold ksOf
      have m1 : min v.length n = n := by omega
      have m2 : min w.length n = n := by omega
      rw [m1, m2, if_neg h1, if_neg h2]
      congr 1
      unfold knSets
      have r1 : min v.length (n - 1) = n - 1 := by omega
      have r2 : min w.length (n - 1) = n - 1 := by omega
      rw [r1, r2]
      refine List.map_congr_left fun j hj => ?_
      have hj := List.mem_range.mp hj
      have dd : ∀ u : List Ky, ¬ u.length < n → u.drop (u.length - (j + 1)) = (u.drop (u.length - (n - 1))).drop (n - 1 - (j + 1)) := fun u hu => by
        rw [List.drop_drop]
        congr 1
        omega
      rw [dd v h1, dd w h2, e]
def many (m n : Nat) : Nat := ((List.range n).map fun k => m ^ k).sum + m ^ (n - 1)
theorem few_states {A : Rows} {inn : List Nat} {n : Nat} (hn : 1 ≤ n) {K : List Ky} {ws : List (List Ky)} (hk : ∀ w ∈ ws, ∀ k ∈ w, k ∈ K) (nd : (ws.map (ksOf A inn n)).Nodup) : ws.length ≤ many K.length n := by
  have nd2 : (ws.map (canon n)).Nodup := by
    rw [List.nodup_iff_pairwise_ne, List.pairwise_map] at nd ⊢
    exact nd.imp fun h e => h (canon_ks hn e)
  have sub := List.Nodup.length_le_of_subset nd2 (l₂ := (((List.range n).flatMap (wordsN K)).map fun w => (false, w)) ++ (wordsN K (n - 1)).map fun w => (true, w)) fun p hp => by
    obtain ⟨w, hw, rfl⟩ := List.mem_map.mp hp
    unfold canon
    by_cases h : w.length < n
    · rw [if_pos h]
      exact List.mem_append_left _ (List.mem_map.mpr ⟨w, List.mem_flatMap.mpr ⟨w.length, List.mem_range.mpr h, wordsN_mem rfl (hk w hw)⟩, rfl⟩)
    · rw [if_neg h]
      refine List.mem_append_right _ (List.mem_map.mpr ⟨_, wordsN_mem (by simp; omega) fun k hk' => hk w hw k (List.mem_of_mem_drop hk'), rfl⟩)
  rw [List.length_map, List.length_append, List.length_map, List.length_map, wordsN_len, List.length_flatMap] at sub
  unfold many
  have e : ((List.range n).map fun k => (wordsN K k).length) = (List.range n).map fun k => K.length ^ k := List.map_congr_left fun k _ => wordsN_len K k
  rw [e] at sub
  exact sub
end Pace
end
section
set_option Elab.async false
set_option linter.all false
set_option maxRecDepth 100000
set_option maxHeartbeats 4000000
namespace Pace
open PySem PySem.Spec PyProof.Rows L2 DL
def keysL (hs ws : List Nat) : List Ky := hs.flatMap fun h => ws.map fun c => (h, c)
theorem keysL_mem {hs ws : List Nat} {k : Ky} : k ∈ keysL hs ws ↔ k.1 ∈ hs ∧ k.2 ∈ ws := by
  unfold keysL
  rw [List.mem_flatMap]
  constructor
  · rintro ⟨h, hh, hk⟩
    obtain ⟨c, hc, rfl⟩ := List.mem_map.mp hk
    exact ⟨hh, hc⟩
  · rintro ⟨h1, h2⟩
    exact ⟨k.1, h1, List.mem_map.mpr ⟨k.2, h2, rfl⟩⟩
theorem keysL_len (hs ws : List Nat) : (keysL hs ws).length = hs.length * ws.length := by
  unfold keysL
  induction hs with
  | nil => simp
  | cons a hs ih => rw [List.flatMap_cons, List.length_append, ih, List.length_map, List.length_cons, Nat.add_mul]; omega
def kyLt (a b : Ky) : Prop := a.1 < b.1 ∨ (a.1 = b.1 ∧ a.2 < b.2)
theorem keysL_lt {hs ws : List Nat} (lh : hs.Pairwise (· < ·)) (lw : ws.Pairwise (· < ·)) : (keysL hs ws).Pairwise kyLt := by
  unfold keysL
  induction hs with
  | nil => simp
  | cons a hs ih =>
    rw [List.pairwise_cons] at lh
    rw [List.flatMap_cons, List.pairwise_append]
    refine ⟨?_, ih lh.2, fun x hx y hy => ?_⟩
    · rw [List.pairwise_map]
      exact lw.imp fun h => .inr ⟨rfl, h⟩
    · obtain ⟨c, _, rfl⟩ := List.mem_map.mp hx
      obtain ⟨h, hh, hy⟩ := List.mem_flatMap.mp hy
      obtain ⟨d, _, rfl⟩ := List.mem_map.mp hy
      exact .inl (lh.1 h hh)
def mkey (m : Mv) : Ky := (m.h, m.c)
theorem row_sub {hs ws : List Nat} (lh : hs.Pairwise (· < ·)) (lw : ws.Pairwise (· < ·)) {r : List Mv} (h : (r.map mkey).Sublist (keysL hs ws)) : r.Pairwise fun a b => mvLt a b = true := by
  have := (keysL_lt lh lw).sublist h
  rw [List.pairwise_map] at this
  refine this.imp fun {a b} h => ?_
  unfold mvLt
  rw [decide_eq_true_eq]
  unfold kyLt mkey at h
  simp only at h
  omega
/-- a state that stands there -/
def At (A : Rows) (inn : List Nat) (n : Nat) (ws : List (List Ky)) (t : Nat) (w : List Ky) : Prop := ∃ w', ws[t]? = some w' ∧ ksOf A inn n w' = ksOf A inn n w
structure RowAt (A : Rows) (inn : List Nat) (n : Nat) (ws : List (List Ky)) (K : List Ky) (w : List Ky) (r : List Mv) : Prop where
  sub : (r.map mkey).Sublist K
  at_ : ∀ m ∈ r, okW A inn n (w ++ [mkey m]) ∧ At A inn n ws m.t (w ++ [mkey m])
  all : ∀ k ∈ K, okW A inn n (w ++ [k]) → ∃ m ∈ r, mkey m = k
structure Sts (A : Rows) (inn : List Nat) (n : Nat) (K : List Ky) (ws : List (List Ky)) : Prop where
  zero : ws[0]? = some []
  ok : ∀ w ∈ ws, okW A inn n w
  nd : (ws.map (ksOf A inn n)).Nodup
  ky : ∀ w ∈ ws, ∀ k ∈ w, k ∈ K
theorem At.grow {A : Rows} {inn : List Nat} {n : Nat} {ws : List (List Ky)} {t : Nat} {w : List Ky} (h : At A inn n ws t w) (ext : List (List Ky)) : At A inn n (ws ++ ext) t w := by
  obtain ⟨w', h1, h2⟩ := h
  exact ⟨w', by rw [List.getElem?_append_left (List.getElem?_eq_some_iff.mp h1).1]; exact h1, h2⟩
theorem At.lt {A : Rows} {inn : List Nat} {n : Nat} {ws : List (List Ky)} {t : Nat} {w : List Ky} (h : At A inn n ws t w) : t < ws.length := by
  obtain ⟨w', h1, _⟩ := h
  exact (List.getElem?_eq_some_iff.mp h1).1
theorem RowAt.grow {A : Rows} {inn : List Nat} {n : Nat} {ws : List (List Ky)} {K : List Ky} {w : List Ky} {r : List Mv} (h : RowAt A inn n ws K w r) (ext : List (List Ky)) : RowAt A inn n (ws ++ ext) K w r :=
  ⟨h.sub, fun m hm => ⟨(h.at_ m hm).1, (h.at_ m hm).2.grow ext⟩, h.all⟩
/-- the whole -/
structure Aut (A : Rows) (inn : List Nat) (n : Nat) (hs ws : List Nat) (L : List (List Ky)) (rs : Rows) : Prop where
  sts : Sts A inn n (keysL hs ws) L
  len : rs.length = L.length
  row : ∀ (j : Nat) (r : List Mv) (w : List Ky), rs[j]? = some r → L[j]? = some w → RowAt A inn n L (keysL hs ws) w r
theorem Aut.val {A : Rows} {inn : List Nat} {n : Nat} {hs ws : List Nat} {L : List (List Ky)} {rs : Rows} (a : Aut A inn n hs ws L rs) (lh : lettersB hs = true) (lw : lettersB ws = true) (h3 : hs.length ≤ 3) (w3 : ws.length ≤ 3) (l9 : L.length ≤ 999) : RulV hs ws rs where
  lh := lh
  lw := lw
  sh := by omega
  sw := by omega
  n1 := by rw [a.len]; have := (List.getElem?_eq_some_iff.mp a.sts.zero).1; omega
  n2 := by rw [a.len]; exact l9
  row := fun r hr => by
    obtain ⟨j, hj⟩ := List.mem_iff_getElem?.mp hr
    obtain ⟨w, hw⟩ : ∃ w, L[j]? = some w := ⟨_, List.getElem?_eq_getElem (by rw [← a.len]; exact (List.getElem?_eq_some_iff.mp hj).1)⟩
    have ra := a.row j r w hj hw
    have hl := ra.sub.length_le
    rw [List.length_map, keysL_len] at hl
    have h9 : hs.length * ws.length ≤ 3 * 3 := Nat.mul_le_mul h3 w3
    refine ⟨?_, by omega⟩
    unfold rowB
    rw [Bool.and_eq_true, List.all_eq_true]
    refine ⟨fun m hm => ?_, nbr_of_pair (row_sub (letters_lt lh) (letters_lt lw) ra.sub)⟩
    have mk := keysL_mem.mp (ra.sub.subset (List.mem_map.mpr ⟨m, hm, rfl⟩))
    have mt := (ra.at_ m hm).2.lt
    rw [← a.len] at mt
    unfold mvB
    have m1 : m.h ∈ hs := mk.1
    have m2 : m.c ∈ ws := mk.2
    simp [m1, m2, mt]
theorem Aut.few {A : Rows} {inn : List Nat} {n : Nat} {hs ws : List Nat} {L : List (List Ky)} {rs : Rows} (a : Aut A inn n hs ws L rs) (hn : 1 ≤ n) : L.length ≤ many (hs.length * ws.length) n := by
  have := few_states hn (K := keysL hs ws) a.sts.ky a.sts.nd
  rwa [keysL_len] at this
theorem Aut.led {A : Rows} (st : Steps A) {inn : List Nat} {n : Nat} (hn : 1 ≤ n) {hs ws : List Nat} {L : List (List Ky)} {rs : Rows} (a : Aut A inn n hs ws L rs) (sr : Steps rs) (hK : ∀ s (k : Ky) t, step1 A s k.1 k.2 = some t → k ∈ keysL hs ws) (w : List Ky) :
    (∀ j, ledN rs 0 w = some j → okW A inn n w ∧ At A inn n L j w) ∧ (okW A inn n w → (ledN rs 0 w).isSome = true) := by
  induction w using snoc_ind with
  | nil =>
    refine ⟨fun j hj => ?_, fun _ => rfl⟩
    simp [ledN] at hj
    subst hj
    exact ⟨okW_nil, [], a.sts.zero, rfl⟩
  | snoc w k ih =>
    obtain ⟨ih1, ih2⟩ := ih
    have stepJ : ∀ j, ledN rs 0 w = some j → ∃ r w', rs[j]? = some r ∧ L[j]? = some w' ∧ ksOf A inn n w' = ksOf A inn n w ∧ okW A inn n w' ∧ okW A inn n w ∧ RowAt A inn n L (keysL hs ws) w' r ∧ rowS rs j = r := fun j hj => by
      obtain ⟨o1, w', h1, h2⟩ := ih1 j hj
      obtain ⟨r, hr⟩ : ∃ r, rs[j]? = some r := ⟨_, List.getElem?_eq_getElem (by rw [a.len]; exact (List.getElem?_eq_some_iff.mp h1).1)⟩
      exact ⟨r, w', hr, h1, h2, a.sts.ok w' (List.mem_of_getElem? h1), o1, a.row j r w' hr h1, by simp [rowS, List.getD, hr]⟩
    constructor
    · intro t ht
      rw [ledN_snoc] at ht
      obtain ⟨j, hj, ht⟩ := Option.bind_eq_some_iff.mp ht
      obtain ⟨r, w', hr, h1, h2, o', o, ra, er⟩ := stepJ j hj
      have hm := (step1_iff sr).mp ht
      rw [er] at hm
      obtain ⟨q1, w2, q2, q3⟩ := ra.at_ _ hm
      have ns := next_some st hn k o' o h2
      have q1 : okW A inn n (w' ++ [k]) := q1
      have q3 : ksOf A inn n w2 = ksOf A inn n (w' ++ [k]) := q3
      exact ⟨ns.1.mp q1, w2, q2, q3.trans (ns.2 q1)⟩
    · intro ho
      have ow := (okW_snoc.mp ho).1
      obtain ⟨j, hj⟩ := Option.isSome_iff_exists.mp (ih2 ow)
      obtain ⟨r, w', hr, h1, h2, o', o, ra, er⟩ := stepJ j hj
      have ns := next_some st hn k o' o h2
      have kk : k ∈ keysL hs ws := by
        have hb := (okW_snoc.mp ho).2
        have epl : (w ++ [k]).take (w.length + 1) = w ++ [k] := List.take_of_length_le (by simp)
        unfold bad at hb
        split at hb
        · rw [epl] at hb
          obtain ⟨t, ht⟩ := Option.isSome_iff_exists.mp (isN_f.mp hb)
          rw [ledN_snoc] at ht
          obtain ⟨s, _, ht⟩ := Option.bind_eq_some_iff.mp ht
          exact hK s k t ht
        · rename_i hl
          rw [List.all_eq_false] at hb
          obtain ⟨s, _, hb⟩ := hb
          rw [epl] at hb
          have hd : (w ++ [k]).drop (w.length + 1 - n) = w.drop (w.length + 1 - n) ++ [k] := List.drop_append_of_le_length (by omega)
          rw [hd] at hb
          obtain ⟨t, ht⟩ := Option.isSome_iff_exists.mp (isN_n.mp hb)
          rw [ledN_snoc] at ht
          obtain ⟨s, _, ht⟩ := Option.bind_eq_some_iff.mp ht
          exact hK s k t ht
      obtain ⟨m, hm, rfl⟩ := ra.all k kk (ns.1.mpr ho)
      rw [ledN_snoc, hj]
      have : step1 rs j (mkey m).1 (mkey m).2 = some m.t := (step1_iff sr).mpr (by rw [er]; exact hm)
      show (step1 rs j (mkey m).1 (mkey m).2).isSome = true
      rw [this]
      rfl
end Pace
end
section
set_option Elab.async false
set_option linter.all false
set_option maxRecDepth 100000
set_option maxHeartbeats 4000000
namespace DL
open PySem PySem.Spec PyProof.Rows L2
end DL
end
section
set_option Elab.async false
set_option linter.all false
set_option maxRecDepth 100000
set_option maxHeartbeats 4000000
namespace Pace
open PySem PySem.Spec PyProof.Rows L2 DL
structure UnI (A : Rows) (n : Nat) (K : List (Nat × Nat)) : Prop where
  nd : K.Nodup
  lt : ∀ x ∈ K, x.1 < n ∧ x.2 < n
  un : ∀ x ∈ K, ¬ bis A x.1 A x.2
theorem UnI.nil (A : Rows) (n : Nat) : UnI A n [] := ⟨List.nodup_nil, by simp, by simp⟩
theorem UnI.few {A : Rows} {n : Nat} {K : List (Nat × Nat)} (h : UnI A n K) : K.length ≤ n * n := by
  have := List.Nodup.length_le_of_subset h.nd (l₂ := (List.range n).flatMap fun x => (List.range n).map fun y => (x, y)) fun p hp => by
    obtain ⟨h1, h2⟩ := h.lt p hp
    exact List.mem_flatMap.mpr ⟨p.1, List.mem_range.mpr h1, List.mem_map.mpr ⟨p.2, List.mem_range.mpr h2, rfl⟩⟩
  rwa [prod_len, List.length_range] at this
end Pace
end
section
set_option Elab.async false
set_option linter.all false
set_option maxRecDepth 100000
set_option maxHeartbeats 4000000
namespace DL
open PySem PySem.Spec PyProof.Rows L2
end DL
end
section
set_option Elab.async false
set_option linter.all false
set_option maxRecDepth 100000
set_option maxHeartbeats 4000000
namespace DL
open PySem PySem.Spec PyProof.Rows L2
theorem Vals.at {vs : List V} {us : List Value} (r : Vals vs us) : ∀ {i : Nat} {u : Value}, us[i]? = some u → ∃ v, vs[i]? = some v ∧ RelV v u := by
  induction r with
  | nil => intro i u h; simp at h
  | cons a _ ih =>
    intro i u h
    cases i with
    | zero => simp at h; subst h; exact ⟨_, rfl, a⟩
    | succ i => simpa using ih (by simpa using h)
end DL
end
section
set_option Elab.async false
set_option linter.all false
set_option maxRecDepth 100000
set_option maxHeartbeats 4000000
namespace DL
open PySem PySem.Spec PyProof.Rows L2
end DL
end
section
set_option Elab.async false
set_option linter.all false
set_option maxRecDepth 100000
set_option maxHeartbeats 4000000
namespace DL
open PySem PySem.Spec PyProof.Rows L2
end DL
end
section
set_option Elab.async false
set_option linter.all false
set_option maxRecDepth 100000
set_option maxHeartbeats 4000000
namespace DL
open PySem PySem.Spec PyProof.Rows L2
end DL
end
section
set_option Elab.async false
set_option linter.all false
set_option maxRecDepth 100000
set_option maxHeartbeats 4000000
namespace Pace
open PySem PySem.Spec PyProof.Rows L2 DL
def lexB : List Ky → List Ky → Bool
  | [], [] => false
  | [], _ :: _ => true
  | _ :: _, [] => false
  | a :: as, b :: bs => kLt a b || (decide (a = b) && lexB as bs)
theorem kLt_irr (a : Ky) : kLt a a = false := by unfold kLt; simp
theorem kLt_tr {a b c : Ky} (h : kLt a b = true) (g : kLt b c = true) : kLt a c = true := by
  unfold kLt at *
  rw [decide_eq_true_eq] at *
  omega
theorem kLt_tot {a b : Ky} (h : a ≠ b) : kLt a b = true ∨ kLt b a = true := by
  unfold kLt
  rw [decide_eq_true_eq, decide_eq_true_eq]
  by_cases e : a.1 = b.1
  · have : a.2 ≠ b.2 := fun z => h (Prod.ext e z)
    omega
  · omega
theorem lexB_irr : ∀ a : List Ky, lexB a a = false
  | [] => rfl
  | x :: a => by simp [lexB, kLt_irr, lexB_irr a]
theorem lexB_tr : ∀ {a b c : List Ky}, lexB a b = true → lexB b c = true → lexB a c = true
  | [], [], _, h, _ => by simp [lexB] at h
  | [], _ :: _, [], _, g => by simp [lexB] at g
  | [], _ :: _, _ :: _, _, _ => rfl
  | _ :: _, [], _, h, _ => by simp [lexB] at h
  | _ :: _, _ :: _, [], _, g => by simp [lexB] at g
  | x :: a, y :: b, z :: c, h, g => by
    simp only [lexB, Bool.or_eq_true, Bool.and_eq_true, decide_eq_true_eq] at h g ⊢
    rcases h with h | ⟨rfl, h⟩
    · rcases g with g | ⟨rfl, g⟩
      · exact .inl (kLt_tr h g)
      · exact .inl h
    · rcases g with g | ⟨rfl, g⟩
      · exact .inl g
      · exact .inr ⟨rfl, lexB_tr h g⟩
theorem lexB_tot : ∀ {a b : List Ky}, a.length = b.length → a ≠ b → lexB a b = true ∨ lexB b a = true
  | [], [], _, h => absurd rfl h
  | [], _ :: _, l, _ => by simp at l
  | _ :: _, [], l, _ => by simp at l
  | x :: a, y :: b, l, h => by
    simp only [lexB, Bool.or_eq_true, Bool.and_eq_true, decide_eq_true_eq]
    by_cases e : x = y
    · subst e
      have := lexB_tot (a := a) (b := b) (by simpa using l) fun z => h (by rw [z])
      rcases this with z | z
      · exact .inl (.inr ⟨rfl, z⟩)
      · exact .inr (.inr ⟨rfl, z⟩)
    · rcases kLt_tot e with z | z
      · exact .inl (.inl z)
      · exact .inr (.inl z)
/-- not behind: shorter, or as long and not behind by its signs -/
def sLe (a b : List Ky) : Prop := a.length < b.length ∨ (a.length = b.length ∧ lexB b a = false)
theorem lex_le_tr {a b c : List Ky} (l1 : a.length = b.length) (l2 : b.length = c.length) (h : lexB b a = false) (g : lexB c b = false) : lexB c a = false := by
  rw [Bool.eq_false_iff]
  intro z
  by_cases e : a = b
  · subst e; rw [z] at g; cases g
  · rcases lexB_tot l1 e with q | q
    · rw [lexB_tr z q] at g; cases g
    · rw [q] at h; cases h
end Pace
end
section
set_option Elab.async false
set_option linter.all false
set_option maxRecDepth 100000
set_option maxHeartbeats 4000000
namespace Pace
open PySem PySem.Spec PyProof.Rows L2 DL
theorem bis_pair {A : Rows} (w : List Ky) : ∀ {p q p' : Nat}, bis A p A q → ledN A p w = some p' → ∃ q', ledN A q w = some q' ∧ bis A p' A q' := by
  have find : ∀ {R : Nat → Nat → Prop} {r q : List Mv}, Like R r q → ∀ k : Ky, ((r.find? fun m => m.h == k.1 && m.c == k.2) = none ∧ (q.find? fun m => m.h == k.1 && m.c == k.2) = none) ∨ ∃ m m', (r.find? fun m => m.h == k.1 && m.c == k.2) = some m ∧ (q.find? fun m => m.h == k.1 && m.c == k.2) = some m' ∧ R m.t m'.t := by
    intro R r q l k
    induction l with
    | nil => exact .inl ⟨rfl, rfl⟩
    | @cons m m' r r' e1 e2 e3 _ ih =>
      rw [List.find?_cons, List.find?_cons]
      rw [← e1, ← e2]
      cases hb : (m.h == k.1 && m.c == k.2) with
      | true => exact .inr ⟨m, m', rfl, rfl, e3⟩
      | false => exact ih
  induction w using snoc_ind with
  | nil => intro p q p' b h; simp [ledN] at h; subst h; exact ⟨q, rfl, b⟩
  | snoc w k ih =>
    intro p q p' b h
    rw [ledN_snoc] at h
    cases e : ledN A p w with
    | none => rw [e] at h; cases h
    | some s =>
      rw [e] at h
      have h : step1 A s k.1 k.2 = some p' := h
      obtain ⟨s', h1, b1⟩ := ih b e
      rcases find b1.row k with ⟨z1, z2⟩ | ⟨m, m', z1, z2, z3⟩
      · unfold step1 at h
        have z1' : (A.getD s []).find? (fun m => m.h == k.1 && m.c == k.2) = none := z1
        simp only [rowS] at z1
        rw [show ((A.getD s []).find? fun m => m.h == k.1 && m.c == k.2) = none from z1] at h
        cases h
      · unfold step1 at h
        have hp : m.t = p' := by
          have z1' : ((A.getD s []).find? fun m => m.h == k.1 && m.c == k.2) = some m := z1
          rw [z1'] at h
          simpa using h
        refine ⟨m'.t, ?_, hp ▸ z3⟩
        rw [ledN_snoc, h1]
        show step1 A s' k.1 k.2 = some m'.t
        unfold step1
        have z2' : ((A.getD s' []).find? fun m => m.h == k.1 && m.c == k.2) = some m' := z2
        rw [z2']
        rfl
/-- both are led so far, to unlike states -/
def Far (A : Rows) (n p q : Nat) : Prop := ∃ v : List Ky, v.length = n ∧ ∃ p' q', ledN A p v = some p' ∧ ledN A q v = some q' ∧ ¬ bis A p' A q'
theorem Far.symm {A : Rows} {n p q : Nat} (h : Far A n p q) : Far A n q p := by
  obtain ⟨v, hv, p', q', h1, h2, h3⟩ := h
  exact ⟨v, hv, q', p', h2, h1, fun b => h3 b.symm⟩
theorem far_zero {A : Rows} {p q : Nat} : Far A 0 p q ↔ ¬ bis A p A q := by
  constructor
  · rintro ⟨v, hv, p', q', h1, h2, h3⟩
    have : v = [] := List.length_eq_zero_iff.mp hv
    subst this
    simp [ledN] at h1 h2
    subst h1 h2
    exact h3
  · intro h
    exact ⟨[], rfl, p, q, rfl, rfl, h⟩
theorem far_step {A : Rows} {n p q : Nat} : Far A (n + 1) p q ↔ ∃ (k : Ky) (t t' : Nat), step1 A p k.1 k.2 = some t ∧ step1 A q k.1 k.2 = some t' ∧ Far A n t t' := by
  constructor
  · rintro ⟨v, hv, p', q', h1, h2, h3⟩
    cases v with
    | nil => simp at hv
    | cons k v =>
      rw [ledN_step] at h1 h2
      cases e1 : step1 A p k.1 k.2 with
      | none => rw [e1] at h1; cases h1
      | some t =>
        cases e2 : step1 A q k.1 k.2 with
        | none => rw [e2] at h2; cases h2
        | some t' =>
          rw [e1] at h1
          rw [e2] at h2
          exact ⟨k, t, t', e1, e2, v, by simpa using hv, p', q', h1, h2, h3⟩
  · rintro ⟨k, t, t', e1, e2, v, hv, p', q', h1, h2, h3⟩
    refine ⟨k :: v, by simp [hv], p', q', ?_, ?_, h3⟩
    · rw [ledN_step, e1]; exact h1
    · rw [ledN_step, e2]; exact h2
theorem far_unlike {A : Rows} {n p q : Nat} (h : Far A n p q) : ¬ bis A p A q := fun b => by
  obtain ⟨v, _, p', q', h1, h2, h3⟩ := h
  obtain ⟨q2, h4, b2⟩ := bis_pair v b h1
  rw [h2] at h4
  cases h4
  exact h3 b2
theorem far_down {A : Rows} : ∀ {n p q : Nat}, Far A (n + 1) p q → Far A n p q
  | 0, p, q, h => far_zero.mpr (far_unlike h)
  | n + 1, p, q, h => by
    obtain ⟨k, t, t', e1, e2, h2⟩ := far_step.mp h
    exact far_step.mpr ⟨k, t, t', e1, e2, far_down h2⟩
theorem far_le {A : Rows} {m n p q : Nat} (hm : m ≤ n) (h : Far A n p q) : Far A m p q := by
  induction n with
  | zero => rw [Nat.le_zero.mp hm]; exact h
  | succ n ih =>
    by_cases e : m = n + 1
    · rw [e]; exact h
    · exact ih (by omega) (far_down h)
def HasR (A : Rows) (p q r : Nat) : Prop := Far A r p q ∧ ¬ Far A (r + 1) p q
theorem HasR.uniq {A : Rows} {p q r s : Nat} (h : HasR A p q r) (g : HasR A p q s) : r = s := by
  have h1 : ¬ r < s := fun z => h.2 (far_le z g.1)
  have h2 : ¬ s < r := fun z => g.2 (far_le z h.1)
  omega
theorem HasR.symm {A : Rows} {p q r : Nat} (h : HasR A p q r) : HasR A q p r := ⟨h.1.symm, fun z => h.2 z.symm⟩
abbrev Pr := Nat × Nat
def lkL (A : Rows) (f : Nat → Nat) (x : Pr) : List (Ky × Pr) := (rowS A x.1).filterMap fun m => (step1 A x.2 m.h m.c).bind fun t => if f m.t ≠ f t then some ((m.h, m.c), (m.t, t)) else none
theorem lkL_mem {A : Rows} (st : Steps A) {f : Nat → Nat} {x : Pr} {z : Ky × Pr} : z ∈ lkL A f x ↔ step1 A x.1 z.1.1 z.1.2 = some z.2.1 ∧ step1 A x.2 z.1.1 z.1.2 = some z.2.2 ∧ f z.2.1 ≠ f z.2.2 := by
  unfold lkL
  rw [List.mem_filterMap]
  constructor
  · rintro ⟨m, hm, e⟩
    cases e2 : step1 A x.2 m.h m.c with
    | none => rw [e2] at e; cases e
    | some t =>
      rw [e2] at e
      simp only [Option.bind_some] at e
      split at e
      · rename_i hf
        cases e
        exact ⟨(step1_iff st).mpr hm, e2, hf⟩
      · cases e
  · rintro ⟨h1, h2, h3⟩
    refine ⟨⟨z.1.1, z.1.2, z.2.1⟩, (step1_iff st).mp h1, ?_⟩
    simp only [h2, Option.bind_some]
    rw [if_pos h3]
def ascP (x : Pr) : Pr := (min x.1 x.2, max x.1 x.2)
abbrev Rk := Pr × Nat
structure RkI (A : Rows) (P : List Pr) (K : List Rk) : Prop where
  nd : (K.map (·.1)).Nodup
  at_ : ∀ z ∈ K, z.1 ∈ P ∧ HasR A z.1.1 z.1.2 z.2
theorem RkI.nil (A : Rows) (P : List Pr) : RkI A P [] := ⟨by simp, by simp⟩
end Pace
end
section
set_option Elab.async false
set_option linter.all false
set_option maxRecDepth 100000
set_option maxHeartbeats 4000000
namespace Pace
open PySem PySem.Spec PyProof.Rows L2 DL
abbrev Wk := Nat × KS
def wk (A : Rows) (inn : List Nat) (n : Nat) (w : List Ky) : Wk := ((ledN A 0 w).getD 0, ksOf A inn n w)
def Led (A : Rows) (w : List Ky) : Prop := (ledN A 0 w).isSome = true
def Wr (A : Rows) (inn : List Nat) (n : Nat) (w : List Ky) : Prop := okW A inn n w ∧ ledN A 0 w = none
section
variable {A : Rows} {inn : List Nat} {n : Nat}
/-- as far as the search has come -/
structure Lv (A : Rows) (inn : List Nat) (n L : Nat) (sw lv : List (List Ky)) : Prop where
  led : ∀ w ∈ lv, w.length = L ∧ Led A w
  nd : ((sw ++ lv).map (wk A inn n)).Nodup
  all : ∀ u, u.length = L → Led A u → wk A inn n u ∈ sw.map (wk A inn n) ∨ ∃ w ∈ lv, wk A inn n w = wk A inn n u ∧ lexB u w = false
  sn : ∀ w ∈ sw, w.length < L ∧ Led A w
  al : ∀ u, u.length < L → Led A u → wk A inn n u ∈ sw.map (wk A inn n)
  nw : ∀ u k, u.length < L → Led A u → ¬ Wr A inn n (u ++ [k])
theorem Lv.zero (A : Rows) (inn : List Nat) (n : Nat) : Lv A inn n 0 [] [[]] where
  led := fun w hw => by rw [List.mem_singleton] at hw; subst hw; exact ⟨rfl, rfl⟩
  nd := by simp
  all := fun u hu _ => by
    have : u = [] := List.length_eq_zero_iff.mp hu
    subst this
    exact .inr ⟨[], by simp, rfl, rfl⟩
  sn := by simp
  al := fun u hu => by omega
  nw := fun u k hu => by omega
theorem Lv.at_ {L : Nat} {sw lv : List (List Ky)} (h : Lv A inn n L sw lv) {u : List Ky} (hu : u.length = L) (hl : Led A u) (hn : wk A inn n u ∉ sw.map (wk A inn n)) : ∃ w ∈ lv, wk A inn n w = wk A inn n u ∧ lexB u w = false := (h.all u hu hl).resolve_left hn
end
/-- a word put in its key's place -/
def setW (A : Rows) (inn : List Nat) (n : Nat) (ws : List (List Ky)) (w : List Ky) : List (List Ky) := if ws.any (fun v => decide (wk A inn n v = wk A inn n w)) then ws.map (fun v => if wk A inn n v = wk A inn n w then w else v) else ws ++ [w]
theorem setW_keys {A : Rows} {inn : List Nat} {n : Nat} {ws : List (List Ky)} {w : List Ky} (nd : (ws.map (wk A inn n)).Nodup) : ((setW A inn n ws w).map (wk A inn n)).Nodup := by
  unfold setW
  split
  · have : (ws.map fun v => if wk A inn n v = wk A inn n w then w else v).map (wk A inn n) = ws.map (wk A inn n) := by
      rw [List.map_map]
      refine List.map_congr_left fun v _ => ?_
      simp only [Function.comp]
      split
      · rename_i z; exact z.symm
      · rfl
    rw [this]; exact nd
  · rename_i h
    rw [List.map_append, List.nodup_append]
    refine ⟨nd, by simp, fun a ha b hb e => ?_⟩
    simp at hb
    subst hb
    obtain ⟨v, hv, e2⟩ := List.mem_map.mp ha
    exact h (List.any_eq_true.mpr ⟨v, hv, decide_eq_true (e2.trans e)⟩)
theorem setW_mem {A : Rows} {inn : List Nat} {n : Nat} {ws : List (List Ky)} {w x : List Ky} (h : x ∈ setW A inn n ws w) : x = w ∨ (x ∈ ws ∧ wk A inn n x ≠ wk A inn n w) := by
  unfold setW at h
  split at h
  · obtain ⟨v, hv, rfl⟩ := List.mem_map.mp h
    by_cases e : wk A inn n v = wk A inn n w
    · rw [if_pos e]; exact .inl rfl
    · rw [if_neg e]; exact .inr ⟨hv, e⟩
  · rename_i hno
    rcases List.mem_append.mp h with h | h
    · exact .inr ⟨h, fun e => hno (List.any_eq_true.mpr ⟨x, h, decide_eq_true e⟩)⟩
    · rw [List.mem_singleton] at h
      exact .inl h
theorem setW_in {A : Rows} {inn : List Nat} {n : Nat} {ws : List (List Ky)} {w : List Ky} : w ∈ setW A inn n ws w ∧ ∀ v ∈ ws, wk A inn n v ≠ wk A inn n w → v ∈ setW A inn n ws w := by
  unfold setW
  split
  · rename_i h
    obtain ⟨v, hv, e⟩ := List.any_eq_true.mp h
    refine ⟨List.mem_map.mpr ⟨v, hv, by rw [if_pos (of_decide_eq_true e)]⟩, fun v hv e => List.mem_map.mpr ⟨v, hv, by rw [if_neg e]⟩⟩
  · exact ⟨by simp, fun v hv _ => List.mem_append_left _ hv⟩
end Pace
end
section
set_option Elab.async false
set_option linter.all false
set_option maxRecDepth 100000
set_option maxHeartbeats 4000000
namespace Pace
open PySem PySem.Spec PyProof.Rows L2 DL
def sLt (a b : List Ky) : Prop := sLe a b ∧ a ≠ b
/-- the order of the search -/
structure TrO (A B : Rows) (L : List Trail) (n : Nat) : Prop where
  so : L.Pairwise fun x y => sLt x.2 y.2
  par : ∀ y ∈ L, y.2 = [] ∨ ∃ (i : Nat) (x : Trail) (k : Ky), i < n ∧ L[i]? = some x ∧ y.2 = x.2 ++ [k]
  cl : ∀ (i : Nat) x, i < n → L[i]? = some x → ∀ (k : Ky) (s t : Nat), step1 A x.1.1 k.1 k.2 = some s → step1 B x.1.2 k.1 k.2 = some t → ∃ y ∈ L, y.1 = (s, t) ∧ sLe y.2 (x.2 ++ [k])
theorem TrO.zero (A B : Rows) : TrO A B [((0, 0), [])] 0 := ⟨by simp, fun y hy => by simp at hy; subst hy; exact .inl rfl, fun i x hi => by omega⟩
end Pace
end
section
set_option Elab.async false
set_option linter.all false
set_option maxRecDepth 100000
set_option maxHeartbeats 4000000
namespace Pace
open PySem PySem.Spec PyProof.Rows L2 DL
/-- as far as a turn has come: D tells which words and signs were looked at -/
structure FwT (A : Rows) (inn : List Nat) (n L : Nat) (sw lv wr lt : List (List Ky)) (D : List Ky → Ky → Prop) : Prop where
  w1 : ∀ x ∈ wr, ∃ w ∈ lv, ∃ k, x = w ++ [k] ∧ Wr A inn n x
  w2 : ∀ w k, D w k → Wr A inn n (w ++ [k]) → w ++ [k] ∈ wr
  l1 : ∀ x ∈ lt, ∃ w ∈ lv, ∃ k, x = w ++ [k] ∧ Led A x ∧ wk A inn n x ∉ (sw ++ lv).map (wk A inn n)
  nd : (lt.map (wk A inn n)).Nodup
  l2 : ∀ w k, D w k → Led A (w ++ [k]) → wk A inn n (w ++ [k]) ∈ (sw ++ lv).map (wk A inn n) ∨ ∃ y ∈ lt, wk A inn n y = wk A inn n (w ++ [k]) ∧ lexB (w ++ [k]) y = false
section
variable {A : Rows} {inn : List Nat} {n L : Nat} {sw lv wr lt : List (List Ky)} {D D' : List Ky → Ky → Prop}
theorem FwT.zero : FwT A inn n L sw lv [] [] fun _ _ => False := ⟨by simp, fun _ _ h => h.elim, by simp, by simp, fun _ _ h => h.elim⟩
theorem FwT.put (h : FwT A inn n L sw lv wr lt D) (hL : ∀ w ∈ lv, w.length = L) {w : List Ky} {k : Ky} (hw : w ∈ lv) (hl : Led A (w ++ [k])) (hm : wk A inn n (w ++ [k]) ∉ (sw ++ lv).map (wk A inn n)) (hD : ∀ w k, D w k → w ∈ lv) {m : List Ky}
    (h1 : m = w ++ [k] ∨ (m ∈ lt ∧ wk A inn n m = wk A inn n (w ++ [k]))) (h2 : lexB (w ++ [k]) m = false) (h3 : ∀ y ∈ lt, wk A inn n y = wk A inn n (w ++ [k]) → lexB y m = false) : FwT A inn n L sw lv wr (setW A inn n lt m) fun w' k' => D w' k' ∨ (w' = w ∧ k' = k) where
  w1 := h.w1
  w2 := fun w' k' d hx => by
    rcases d with d | ⟨rfl, rfl⟩
    · exact h.w2 w' k' d hx
    · unfold Led at hl
      rw [hx.2] at hl; cases hl
  l1 := fun x hx => by
    rcases setW_mem hx with rfl | ⟨hx, _⟩
    · rcases h1 with rfl | ⟨h1, _⟩
      · exact ⟨w, hw, k, rfl, hl, hm⟩
      · exact h.l1 _ h1
    · exact h.l1 x hx
  nd := setW_keys h.nd
  l2 := fun w' k' d hx => by
    have ek : wk A inn n m = wk A inn n (w ++ [k]) := by
      rcases h1 with rfl | ⟨_, h1⟩
      · rfl
      · exact h1
    have len : ∀ y ∈ lt, y.length = L + 1 := fun y hy => by
      obtain ⟨v, hv, l, rfl, _⟩ := h.l1 y hy
      simp [hL v hv]
    have lm : m.length = L + 1 := by
      rcases h1 with rfl | ⟨h1, _⟩
      · simp [hL w hw]
      · exact len m h1
    rcases d with d | ⟨rfl, rfl⟩
    · rcases h.l2 w' k' d hx with z | ⟨y, hy, e, le⟩
      · exact .inl z
      · by_cases e2 : wk A inn n y = wk A inn n m
        · refine .inr ⟨m, setW_in.1, e2.symm.trans e, ?_⟩
          exact lex_le_tr (by rw [lm, len y hy]) (by rw [len y hy]; simp [hL w' (hD _ _ d)]) (h3 y hy (e2.trans ek)) le
        · exact .inr ⟨y, setW_in.2 y hy e2, e, le⟩
    · exact .inr ⟨m, setW_in.1, ek, h2⟩
end
end Pace
end
section
set_option Elab.async false
set_option linter.all false
set_option maxRecDepth 100000
set_option maxHeartbeats 4000000
namespace Pace
open PySem PySem.Spec PyProof.Rows L2 DL
section
variable {A : Rows} {inn : List Nat} {n : Nat} {β : Type} {κ : List Ky → β}
/-- as far as the search has come -/
structure LvK {β : Type} (κ : List Ky → β) (A : Rows) (inn : List Nat) (n L : Nat) (sw lv : List (List Ky)) : Prop where
  led : ∀ w ∈ lv, w.length = L ∧ Led A w
  nd : ((sw ++ lv).map κ).Nodup
  all : ∀ u, u.length = L → Led A u → κ u ∈ sw.map κ ∨ ∃ w ∈ lv, κ w = κ u ∧ lexB u w = false
  sn : ∀ w ∈ sw, w.length < L ∧ Led A w
  al : ∀ u, u.length < L → Led A u → κ u ∈ sw.map κ
  nw : ∀ u k, u.length < L → Led A u → ¬ Wr A inn n (u ++ [k])
theorem LvK.zero (A : Rows) (inn : List Nat) (n : Nat) : LvK κ A inn n 0 [] [[]] where
  led := fun w hw => by rw [List.mem_singleton] at hw; subst hw; exact ⟨rfl, rfl⟩
  nd := by simp
  all := fun u hu _ => by
    have : u = [] := List.length_eq_zero_iff.mp hu
    subst this
    exact .inr ⟨[], by simp, rfl, rfl⟩
  sn := by simp
  al := fun u hu => by omega
  nw := fun u k hu => by omega
theorem LvK.at_ {L : Nat} {sw lv : List (List Ky)} (h : LvK κ A inn n L sw lv) {u : List Ky} (hu : u.length = L) (hl : Led A u) (hn : κ u ∉ sw.map κ) : ∃ w ∈ lv, κ w = κ u ∧ lexB u w = false := (h.all u hu hl).resolve_left hn
end
end Pace
end
section
set_option Elab.async false
set_option linter.all false
set_option maxRecDepth 100000
set_option maxHeartbeats 4000000
namespace Pace
open PySem PySem.Spec PyProof.Rows L2 DL
def SoL (lv : List (List Ky)) : Prop := lv.Pairwise fun a b => lexB a b = true
section
variable {A : Rows} {inn : List Nat} {n : Nat} {β : Type} {κ : List Ky → β}
/-- how far it has come within a layer: P was looked at -/
structure Srch {β : Type} (κ : List Ky → β) (A : Rows) (inn : List Nat) (n : Nat) (bs P lt : List (List Ky)) : Prop where
  on : ∀ x ∈ lt, x ∈ P ∧ Led A x ∧ κ x ∉ bs.map κ
  nd : (lt.map κ).Nodup
  so : SoL lt
  ok : ∀ x ∈ P, ¬ Wr A inn n x ∧ (Led A x → κ x ∈ bs.map κ ∨ ∃ y ∈ lt, κ y = κ x ∧ lexB x y = false)
theorem Srch.nil (κ : List Ky → β) (A : Rows) (inn : List Nat) (n : Nat) (bs : List (List Ky)) : Srch κ A inn n bs [] [] := ⟨by simp, by simp, by simp [SoL], by simp⟩
theorem Srch.keep {bs P lt : List (List Ky)} (h : Srch κ A inn n bs P lt) {x : List Ky} (hp : ∀ p ∈ P, lexB p x = true) (hw : ¬ Wr A inn n x) (hx : Led A x → κ x ∈ (bs ++ lt).map κ) : Srch κ A inn n bs (P ++ [x]) lt := by
  refine ⟨fun y hy => ⟨List.mem_append_left _ (h.on y hy).1, (h.on y hy).2⟩, h.nd, h.so, fun y hy => ?_⟩
  rcases List.mem_append.mp hy with hy | hy
  · exact h.ok y hy
  · rw [List.mem_singleton] at hy
    subst hy
    refine ⟨hw, fun l => ?_⟩
    have := hx l
    rw [List.map_append, List.mem_append] at this
    rcases this with z | z
    · exact .inl z
    · obtain ⟨v, hv, e⟩ := List.mem_map.mp z
      refine .inr ⟨v, hv, e, ?_⟩
      rw [Bool.eq_false_iff]
      intro q
      have := lexB_tr q (hp v (h.on v hv).1)
      rw [lexB_irr] at this; cases this
end
section
variable {A : Rows} {inn : List Nat} {n : Nat}
theorem rAdd_tup {a b : List D} {G : GH} {Q : DQ} (h : a.length + b.length ≤ sizeLine) (q : Q (.tup (a ++ b)) G) : rAddD (.tup a) (.tup b) G Q := ⟨h, q⟩
theorem rAdd_str {a b : Str} {G : GH} {Q : DQ} (h : a.length + b.length ≤ sizeLine) (q : Q (.str (a ++ b)) G) : rAddD (.str a) (.str b) G Q := ⟨h, q⟩
end
end Pace
end
section
set_option Elab.async false
set_option linter.all false
set_option maxRecDepth 100000
set_option maxHeartbeats 4000000
namespace Pace
open PySem PySem.Spec PyProof.Rows L2 DL
/-- pairs that are not ranked -/
structure NoRk (A : Rows) (inn : List Nat) (f : Nat → Nat) (K : List Rk) (x : Pr) : Prop where
  a : x.1 ∈ inn
  b : x.2 ∈ inn
  ne : f x.1 ≠ f x.2
  no : ascP x ∉ K.map (·.1)
theorem nork_next {A : Rows} (st : Steps A) {inn : List Nat} (hi : Inn A inn) {f : Nat → Nat} {K : List Rk} {x : Pr} (h : NoRk A inn f K x) {z : Ky × Pr} (hz : z ∈ lkL A f x) (hn : ascP z.2 ∉ K.map (·.1)) : NoRk A inn f K z.2 := by
  obtain ⟨e1, e2, e3⟩ := (lkL_mem st).mp hz
  exact ⟨(hi.mem _).mpr (.more ((hi.mem _).mp h.a) ((step1_iff st).mp e1)), (hi.mem _).mpr (.more ((hi.mem _).mp h.b) ((step1_iff st).mp e2)), e3, hn⟩
structure WR (A : Rows) (inn : List Nat) (f : Nat → Nat) (K : List Rk) (ps : List Pr) (w : List Ky) (x : Pr) : Prop where
  nd : ps.Nodup
  on : ∀ p ∈ ps, NoRk A inn f K p
  len : ps.length = w.length + 1
  last : ps[w.length]? = some x
  led : ∀ i p, ps[i]? = some p → ledN A p.1 (w.drop i) = some x.1 ∧ ledN A p.2 (w.drop i) = some x.2
theorem WR.zero {A : Rows} {inn : List Nat} {f : Nat → Nat} {K : List Rk} {x : Pr} (h : NoRk A inn f K x) : WR A inn f K [x] [] x where
  nd := by simp
  on := fun p hp => by rw [List.mem_singleton] at hp; subst hp; exact h
  len := rfl
  last := rfl
  led := fun i p hp => by
    cases i with
    | zero => cases hp; exact ⟨rfl, rfl⟩
    | succ i => simp at hp
theorem WR.step {A : Rows} (st : Steps A) {inn : List Nat} (hi : Inn A inn) {f : Nat → Nat} {K : List Rk} {ps : List Pr} {w : List Ky} {x : Pr} (h : WR A inn f K ps w x) {k : Ky} {y : Pr} (hz : (k, y) ∈ lkL A f x) (hn : ascP y ∉ K.map (·.1)) :
    NoRk A inn f K y ∧ (∀ i p, ps[i]? = some p → ledN A p.1 ((w ++ [k]).drop i) = some y.1 ∧ ledN A p.2 ((w ++ [k]).drop i) = some y.2) ∧ (y ∉ ps → WR A inn f K (ps ++ [y]) (w ++ [k]) y) := by
  have hx := h.on x (List.mem_of_getElem? h.last)
  have ny := nork_next st hi hx hz hn
  obtain ⟨e1, e2, _⟩ := (lkL_mem st).mp hz
  have ld : ∀ i p, ps[i]? = some p → ledN A p.1 ((w ++ [k]).drop i) = some y.1 ∧ ledN A p.2 ((w ++ [k]).drop i) = some y.2 := fun i p hp => by
    have il := (List.getElem?_eq_some_iff.mp hp).1
    have hl := h.len
    obtain ⟨l1, l2⟩ := h.led i p hp
    rw [List.drop_append_of_le_length (by omega), ledN_snoc, ledN_snoc, l1, l2]
    exact ⟨e1, e2⟩
  refine ⟨ny, ld, fun hy => ⟨?_, fun p hp => ?_, ?_, ?_, fun i p hp => ?_⟩⟩
  · rw [List.nodup_append]
    exact ⟨h.nd, by simp, fun a ha b hb e => by rw [List.mem_singleton] at hb; subst hb; exact hy (e ▸ ha)⟩
  · rcases List.mem_append.mp hp with hp | hp
    · exact h.on p hp
    · rw [List.mem_singleton] at hp
      subst hp
      exact ny
  · simp [h.len]
  · have hl := h.len
    rw [List.getElem?_append_right (by simp; omega)]
    simp [hl]
  · by_cases il : i < ps.length
    · rw [List.getElem?_append_left il] at hp
      exact ld i p hp
    · have hl := h.len
      have i2 := (List.getElem?_eq_some_iff.mp hp).1
      simp at i2
      have ei : i = ps.length := by omega
      subst ei
      rw [List.getElem?_append_right (Nat.le_refl _), Nat.sub_self] at hp
      cases hp
      rw [List.drop_of_length_le (by simp; omega)]
      exact ⟨rfl, rfl⟩
theorem WR.few {A : Rows} {inn : List Nat} {f : Nat → Nat} {K : List Rk} {ps : List Pr} {w : List Ky} {x : Pr} (h : WR A inn f K ps w x) : ps.length ≤ inn.length * inn.length := by
  have := List.Nodup.length_le_of_subset h.nd (l₂ := inn.flatMap fun x => inn.map fun y => (x, y)) fun p hp => by
    have := h.on p hp
    exact List.mem_flatMap.mpr ⟨p.1, this.a, List.mem_map.mpr ⟨p.2, this.b, rfl⟩⟩
  rwa [prod_len] at this
structure TB (A : Rows) (x : Pr) (L : List Trail) (n : Nat) : Prop where
  nd : (L.map (·.1)).Nodup
  zero : L[0]? = some (x, [])
  led : ∀ y ∈ L, ledN A x.1 y.2 = some y.1.1 ∧ ledN A x.2 y.2 = some y.1.2
  cl : ∀ (i : Nat) y, i < n → L[i]? = some y → ∀ k : Ky, (step1 A y.1.1 k.1 k.2).isSome = (step1 A y.1.2 k.1 k.2).isSome ∧ ∀ s t, step1 A y.1.1 k.1 k.2 = some s → step1 A y.1.2 k.1 k.2 = some t → (s, t) ∈ L.map (·.1)
  le : n ≤ L.length
  ln : ∀ (i : Nat) y, L[i]? = some y → y.2.length ≤ i
theorem TB.start (A : Rows) (x : Pr) : TB A x [(x, [])] 0 where
  nd := by simp
  zero := rfl
  led := fun y hy => by rw [List.mem_singleton] at hy; subst hy; exact ⟨rfl, rfl⟩
  cl := fun i y h => by omega
  le := by simp
  ln := fun i y h => by
    cases i with
    | zero => cases h; simp
    | succ i => simp at h
theorem TB.few {A : Rows} (st : Steps A) {x : Pr} (h1 : x.1 < A.length) (h2 : x.2 < A.length) {L : List Trail} {n : Nat} (h : TB A x L n) : L.length ≤ A.length * A.length ∧ ∀ y ∈ L, y.1.1 < A.length ∧ y.1.2 < A.length := by
  have lt : ∀ y ∈ L, y.1.1 < A.length ∧ y.1.2 < A.length := fun y hy => by
    obtain ⟨e1, e2⟩ := h.led y hy
    exact ⟨ledN_lt st.cl.2 h1 _ e1, ledN_lt st.cl.2 h2 _ e2⟩
  have := List.Nodup.length_le_of_subset h.nd (l₂ := (List.range A.length).flatMap fun x => (List.range A.length).map fun y => (x, y)) fun p hp => by
    obtain ⟨y, hy, rfl⟩ := List.mem_map.mp hp
    obtain ⟨h1, h2⟩ := lt y hy
    exact List.mem_flatMap.mpr ⟨y.1.1, List.mem_range.mpr h1, List.mem_map.mpr ⟨y.1.2, List.mem_range.mpr h2, rfl⟩⟩
  rw [prod_len] at this
  exact ⟨by simpa using this, lt⟩
theorem TB.more {A : Rows} (st : Steps A) {x : Pr} (hb : ¬ bis A x.1 A x.2) {L : List Trail} {n : Nat} (h : TB A x L n) : n < L.length := by
  refine Classical.byContradiction fun hn => hb (bis_words st st fun w => ?_)
  have e : n = L.length := by have := h.le; omega
  subst e
  have key : ∀ w : List Ky, (ledN A x.1 w = none ∧ ledN A x.2 w = none) ∨ ∃ s t, ledN A x.1 w = some s ∧ ledN A x.2 w = some t ∧ (s, t) ∈ L.map (·.1) := fun w => by
    induction w using snoc_ind with
    | nil => exact .inr ⟨x.1, x.2, rfl, rfl, List.mem_map.mpr ⟨_, List.mem_of_getElem? h.zero, rfl⟩⟩
    | snoc w k ih =>
      rw [ledN_snoc, ledN_snoc]
      rcases ih with ⟨e1, e2⟩ | ⟨s, t, e1, e2, hm⟩
      · rw [e1, e2]; exact .inl ⟨rfl, rfl⟩
      · rw [e1, e2]
        obtain ⟨y, hy, e⟩ := List.mem_map.mp hm
        obtain ⟨i, hi⟩ := List.mem_iff_getElem?.mp hy
        obtain ⟨c1, c2⟩ := h.cl i y (List.getElem?_eq_some_iff.mp hi).1 hi k
        rw [e] at c1 c2
        simp only at c1 c2
        show (step1 A s k.1 k.2 = none ∧ step1 A t k.1 k.2 = none) ∨ _
        cases ea : step1 A s k.1 k.2 with
        | none =>
          cases eb : step1 A t k.1 k.2 with
          | none => exact .inl ⟨rfl, rfl⟩
          | some v => rw [ea, eb] at c1; cases c1
        | some u =>
          cases eb : step1 A t k.1 k.2 with
          | none => rw [ea, eb] at c1; cases c1
          | some v => exact .inr ⟨u, v, ea, eb, c2 u v ea eb⟩
  rcases key w with ⟨e1, e2⟩ | ⟨s, t, e1, e2, _⟩
  · rw [e1, e2]
  · rw [e1, e2]; rfl
abbrev Way := Nat × List Ky
structure WT (A : Rows) (L : List Way) (n : Nat) : Prop where
  nd : (L.map (·.1)).Nodup
  led : ∀ y ∈ L, y.2 ≠ [] ∧ ledN A 0 y.2 = some y.1
  c0 : ∀ m ∈ rowS A 0, m.t ∈ L.map (·.1)
  cl : ∀ (i : Nat) y, i < n → L[i]? = some y → ∀ m ∈ rowS A y.1, m.t ∈ L.map (·.1)
  le : n ≤ L.length
  ln : ∀ (i : Nat) y, L[i]? = some y → y.2.length ≤ i + 1
theorem WT.few {A : Rows} (st : Steps A) {L : List Way} {n : Nat} (h : WT A L n) : L.length ≤ A.length ∧ ∀ y ∈ L, y.1 < A.length := by
  have lt : ∀ y ∈ L, y.1 < A.length := fun y hy => ledN_lt st.cl.2 st.cl.1 _ (h.led y hy).2
  have := nodup_lt_len h.nd (n := A.length) fun p hp => by
    obtain ⟨y, hy, rfl⟩ := List.mem_map.mp hp
    exact lt y hy
  exact ⟨by simpa using this, lt⟩
theorem WT.more {A : Rows} {L : List Way} {n : Nat} (h : WT A L n) {g : Nat} (hg : Reach A g) (hn : g ∉ L.map (·.1)) : n < L.length := by
  refine Classical.byContradiction fun hl => hn ?_
  have e : n = L.length := by have := h.le; omega
  subst e
  induction hg with
  | one hm => exact h.c0 _ hm
  | @more s m _ hm ih =>
    have hs : s ∈ L.map (·.1) := Classical.byContradiction fun hs => hs (ih hs)
    obtain ⟨y, hy, rfl⟩ := List.mem_map.mp hs
    obtain ⟨i, hi⟩ := List.mem_iff_getElem?.mp hy
    exact h.cl i y (List.getElem?_eq_some_iff.mp hi).1 hi m hm
end Pace
end
section
set_option Elab.async false
set_option linter.all false
set_option maxRecDepth 100000
set_option maxHeartbeats 4000000
namespace Pace
open PySem PySem.Spec PyProof.Rows L2 DL
structure WB (A : Rows) (L : List Way) : Prop where
  nd : (L.map (·.1)).Nodup
  led : ∀ y ∈ L, y.2 ≠ [] ∧ ledN A 0 y.2 = some y.1
  ln : ∀ (i : Nat) y, L[i]? = some y → y.2.length ≤ i + 1
theorem WB.nil (A : Rows) : WB A [] := ⟨by simp, by simp, by simp⟩
theorem WB.few {A : Rows} (st : Steps A) {L : List Way} (h : WB A L) : L.length ≤ A.length := by
  have := nodup_lt_len h.nd (n := A.length) fun p hp => by
    obtain ⟨y, hy, rfl⟩ := List.mem_map.mp hp
    exact ledN_lt st.cl.2 st.cl.1 _ (h.led y hy).2
  simpa using this
end Pace
end
section
set_option Elab.async false
set_option linter.all false
set_option maxRecDepth 100000
set_option maxHeartbeats 4000000
namespace Pace
open PySem PySem.Spec PyProof.Rows L2 DL
def stI : Option Nat → Int
  | none => -1
  | some n => (n : Int)
def stepZ (A : Rows) (s : Int) (k : Ky) : Int := if s = -1 then -1 else stI (step1 A s.toNat k.1 k.2)
def InZ (A : Rows) (s : Int) : Prop := s = -1 ∨ ∃ n : Nat, s = (n : Int) ∧ n < A.length
def ledZ (A : Rows) (w : List Ky) : Int := stI (ledN A 0 w)
theorem stepZ_stI (A : Rows) (o : Option Nat) (k : Ky) : stepZ A (stI o) k = stI (o.bind fun s => step1 A s k.1 k.2) := by
  cases o with
  | none => rfl
  | some s =>
    unfold stepZ
    rw [if_neg (by simp only [stI]; omega)]
    rfl
theorem ledZ_snoc (A : Rows) (w : List Ky) (k : Ky) : ledZ A (w ++ [k]) = stepZ A (ledZ A w) k := by
  unfold ledZ
  rw [stepZ_stI, ledN_snoc]
theorem stI_some (o : Option Nat) : stI o ≠ -1 ↔ o.isSome = true := by
  cases o with
  | none => simp [stI]
  | some n => simp only [stI, Option.isSome_some, iff_true]; omega
theorem stepZ_in {A : Rows} (st : Steps A) (s : Int) (k : Ky) : InZ A (stepZ A s k) := by
  unfold stepZ
  split
  · exact .inl rfl
  · cases e : step1 A s.toNat k.1 k.2 with
    | none => exact .inl rfl
    | some t => exact .inr ⟨t, rfl, step1_lt st.cl.2 e⟩
structure KeysW (A B : Rows) (s t : Int) (ks : List Ky) : Prop where
  pw : ks.Pairwise fun a b => kLt a b = true
  mem : ∀ k, k ∈ ks ↔ stepZ A s k ≠ -1 ∨ stepZ B t k ≠ -1
  len : ks.length ≤ 62
abbrev ZP := Int × Int
def Live (e : Bool) (p : ZP) : Prop := p ≠ (-1, -1) ∧ (e = true ∨ (p.1 ≠ -1 ∧ p.2 ≠ -1))
instance (e : Bool) (p : ZP) : Decidable (Live e p) := by unfold Live; infer_instance
def toZ (A B : Rows) (p : ZP) (k : Ky) : ZP := (stepZ A p.1 k, stepZ B p.2 k)
structure RowJ (A B : Rows) (e : Bool) (L : List ZP) (p : ZP) (P : Ky → Prop) (r : List Mv) : Prop where
  pw : r.Pairwise fun a b => mvLt a b = true
  to : ∀ m ∈ r, P (m.h, m.c) ∧ Live e (toZ A B p (m.h, m.c)) ∧ L[m.t]? = some (toZ A B p (m.h, m.c))
  all : ∀ k, P k → Live e (toZ A B p k) → ∃ m ∈ r, m.h = k.1 ∧ m.c = k.2
  len : r.length ≤ 62
structure JoinI (A B : Rows) (e : Bool) (L : List ZP) (F : Rows) : Prop where
  nd : L.Nodup
  zero : L[0]? = some (0, 0)
  rng : ∀ p ∈ L, InZ A p.1 ∧ InZ B p.2 ∧ Live e p
  le : F.length ≤ L.length
  row : ∀ (i : Nat) p r, L[i]? = some p → F[i]? = some r → RowJ A B e L p (fun _ => True) r
theorem RowJ.mono {A B : Rows} {e : Bool} {L : List ZP} {p : ZP} {P : Ky → Prop} {r : List Mv} (h : RowJ A B e L p P r) (q : ZP) : RowJ A B e (L ++ [q]) p P r :=
  ⟨h.pw, fun m hm => by
    obtain ⟨h1, h2, h3⟩ := h.to m hm
    exact ⟨h1, h2, by rw [List.getElem?_append_left (List.getElem?_eq_some_iff.mp h3).1]; exact h3⟩, h.all, h.len⟩
theorem JoinI.grow {A B : Rows} {e : Bool} {L : List ZP} {F : Rows} (h : JoinI A B e L F) (sa : Steps A) (sb : Steps B) {p : ZP} {k : Ky} (hl : Live e (toZ A B p k)) (hn : toZ A B p k ∉ L) : JoinI A B e (L ++ [toZ A B p k]) F where
  nd := by rw [List.nodup_append]; exact ⟨h.nd, by simp, fun a h1 b h2 e => hn (by rw [List.mem_singleton.mp h2] at e; exact e ▸ h1)⟩
  zero := by rw [List.getElem?_append_left (List.getElem?_eq_some_iff.mp h.zero).1]; exact h.zero
  rng := fun q hq => by
    rcases List.mem_append.mp hq with hq | hq
    · exact h.rng q hq
    · rw [List.mem_singleton.mp hq]
      exact ⟨stepZ_in sa _ _, stepZ_in sb _ _, hl⟩
  le := by rw [List.length_append]; exact Nat.le_trans h.le (Nat.le_add_right _ _)
  row := fun i q r hq hr => by
    have := h.le
    have hi := (List.getElem?_eq_some_iff.mp hr).1
    rw [List.getElem?_append_left (by omega)] at hq
    exact (h.row i q r hq hr).mono _
theorem JoinI.few {A B : Rows} {e : Bool} {L : List ZP} {F : Rows} (h : JoinI A B e L F) : L.length ≤ (A.length + 1) * (B.length + 1) := by
  have sub : L ⊆ (List.range (A.length + 1)).flatMap fun i : Nat => (List.range (B.length + 1)).map fun j : Nat => (((i : Int) - 1, (j : Int) - 1) : ZP) := fun p hp => by
    obtain ⟨h1, h2, _⟩ := h.rng p hp
    have one : ∀ (A : Rows) (s : Int), InZ A s → ∃ i, i ∈ List.range (A.length + 1) ∧ (i : Int) - 1 = s := fun A s hs => by
      rcases hs with rfl | ⟨n, rfl, hn⟩
      · exact ⟨0, by simp, rfl⟩
      · exact ⟨n + 1, by rw [List.mem_range]; omega, by omega⟩
    obtain ⟨i, hi, ei⟩ := one A p.1 h1
    obtain ⟨j, hj, ej⟩ := one B p.2 h2
    exact List.mem_flatMap.mpr ⟨i, hi, List.mem_map.mpr ⟨j, hj, Prod.ext ei ej⟩⟩
  have := List.Nodup.length_le_of_subset h.nd sub
  have e2 : ((List.range (A.length + 1)).flatMap fun i : Nat => (List.range (B.length + 1)).map fun j : Nat => (((i : Int) - 1, (j : Int) - 1) : ZP)).length = (A.length + 1) * (B.length + 1) := by
    have g : ∀ l : List Nat, (l.map fun _ => B.length + 1).sum = l.length * (B.length + 1) := fun l => by
      induction l with
      | nil => simp
      | cons a l ih => rw [List.map_cons, List.sum_cons, ih, List.length_cons, Nat.succ_mul, Nat.add_comm]
    rw [List.length_flatMap]
    simp only [List.length_map, List.length_range]
    rw [g, List.length_range]
  omega
theorem JoinI.push {A B : Rows} {e : Bool} {L : List ZP} {F : Rows} (h : JoinI A B e L F) {p : ZP} (hp : L[F.length]? = some p) {r : List Mv} (hr : RowJ A B e L p (fun _ => True) r) : JoinI A B e L (F ++ [r]) where
  nd := h.nd
  zero := h.zero
  rng := h.rng
  le := by rw [List.length_append]; exact (List.getElem?_eq_some_iff.mp hp).1
  row := fun i q r' hq hr' => by
    by_cases hi : i < F.length
    · rw [List.getElem?_append_left hi] at hr'
      exact h.row i q r' hq hr'
    · have hl := (List.getElem?_eq_some_iff.mp hr').1
      rw [List.length_append, List.length_singleton] at hl
      have : i = F.length := by omega
      subst this
      rw [hp] at hq
      rw [List.getElem?_append_right (Nat.le_refl _), Nat.sub_self] at hr'
      cases hq; cases hr'
      exact hr
theorem RowJ.nil {A B : Rows} {e : Bool} {L : List ZP} {p : ZP} {P : Ky → Prop} (hP : ∀ k, ¬ P k) : RowJ A B e L p P [] :=
  ⟨.nil, fun m hm => (by cases hm), fun k hk => absurd hk (hP k), Nat.zero_le _⟩
theorem RowJ.put {A B : Rows} {e : Bool} {L : List ZP} {p : ZP} {ls : List Ky} {r : List Mv} (h : RowJ A B e L p (· ∈ ls) r) {k : Ky} (hk : ∀ l ∈ ls, kLt l k = true) (hl : Live e (toZ A B p k)) {j : Nat} (hj : L[j]? = some (toZ A B p k)) (hr : r.length ≤ ls.length) (hls : ls.length < 62) :
    RowJ A B e L p (· ∈ ls ++ [k]) (r ++ [⟨k.1, k.2, j⟩]) where
  pw := by
    rw [List.pairwise_append]
    refine ⟨h.pw, List.pairwise_singleton _ _, fun a ha b hb => ?_⟩
    rw [List.mem_singleton.mp hb]
    have := hk _ (h.to a ha).1
    unfold kLt at this
    unfold mvLt
    exact this
  to := fun m hm => by
    rcases List.mem_append.mp hm with hm | hm
    · exact ⟨List.mem_append_left _ (h.to m hm).1, (h.to m hm).2⟩
    · rw [List.mem_singleton.mp hm]
      exact ⟨by simp, hl, hj⟩
  all := fun k' hk' z => by
    rcases List.mem_append.mp hk' with hk' | hk'
    · obtain ⟨m, hm, h1⟩ := h.all k' hk' z
      exact ⟨m, List.mem_append_left _ hm, h1⟩
    · rw [List.mem_singleton.mp hk']
      exact ⟨⟨k.1, k.2, j⟩, by simp, rfl, rfl⟩
  len := by rw [List.length_append, List.length_singleton]; omega
theorem RowJ.full {A B : Rows} {e : Bool} {L : List ZP} {p : ZP} {ks : List Ky} {r : List Mv} (h : RowJ A B e L p (· ∈ ks) r) (ku : KeysW A B p.1 p.2 ks) : RowJ A B e L p (fun _ => True) r :=
  ⟨h.pw, fun m hm => ⟨trivial, (h.to m hm).2⟩, fun k _ z => by
    refine h.all k ((ku.mem k).mpr ?_) z
    by_cases h1 : stepZ A p.1 k = -1
    · by_cases h2 : stepZ B p.2 k = -1
      · exact absurd (Prod.ext h1 h2) z.1
      · exact .inr h2
    · exact .inl h1, h.len⟩
theorem row_step {A B : Rows} {e : Bool} {L : List ZP} {F : Rows} (h : JoinI A B e L F) {i : Nat} {p : ZP} (hp : L[i]? = some p) (hi : i < F.length) (k : Ky) :
    (∀ j, step1 F i k.1 k.2 = some j → Live e (toZ A B p k) ∧ L[j]? = some (toZ A B p k)) ∧ (step1 F i k.1 k.2 = none → ¬ Live e (toZ A B p k)) := by
  have rj := h.row i p _ hp (List.getElem?_eq_getElem hi)
  have er : rowS F i = F[i] := by
    unfold rowS
    rw [List.getD_eq_getElem?_getD, List.getElem?_eq_getElem hi]
    rfl
  refine ⟨fun j hj => ?_, fun hn hl => ?_⟩
  · change ((rowS F i).find? fun m => m.h == k.1 && m.c == k.2).map (·.t) = some j at hj
    rw [er, Option.map_eq_some_iff] at hj
    obtain ⟨m, hm, rfl⟩ := hj
    have h1 := List.find?_some hm
    simp only [Bool.and_eq_true, beq_iff_eq] at h1
    have h2 := rj.to m (List.mem_of_find?_eq_some hm)
    rw [show ((m.h, m.c) : Ky) = k from Prod.ext h1.1 h1.2] at h2
    exact h2.2
  · obtain ⟨m, hm, h1, h2⟩ := rj.all k trivial hl
    have : (step1 F i k.1 k.2).isSome = true := step1_some.mpr (by rw [er]; exact List.mem_map.mpr ⟨m, hm, Prod.ext h1 h2⟩)
    rw [hn] at this
    cases this
theorem JoinI.led {A B : Rows} {e : Bool} {L : List ZP} {F : Rows} (h : JoinI A B e L F) (done : F.length = L.length) (w : List Ky) :
    (∀ j, ledN F 0 w = some j → L[j]? = some (ledZ A w, ledZ B w)) ∧ (ledN F 0 w = none → ¬ Live e (ledZ A w, ledZ B w)) := by
  induction w using snoc_ind with
  | nil =>
    refine ⟨fun j hj => ?_, fun hn => by cases hn⟩
    cases hj
    exact h.zero
  | snoc w k ih =>
    have e1 : (ledZ A (w ++ [k]), ledZ B (w ++ [k])) = toZ A B (ledZ A w, ledZ B w) k := by rw [ledZ_snoc, ledZ_snoc]; rfl
    rw [e1, ledN_snoc]
    cases hw : ledN F 0 w with
    | some i =>
      have hp := ih.1 i hw
      have hi := (List.getElem?_eq_some_iff.mp hp).1
      obtain ⟨g1, g2⟩ := row_step h hp (by omega) k
      exact ⟨fun j hj => (g1 j hj).2, fun hn => g2 hn⟩
    | none =>
      refine ⟨fun j hj => (by cases hj), fun _ z => ih.2 hw ?_⟩
      have s1 : ∀ (A : Rows) (s : Int), stepZ A s k ≠ -1 → s ≠ -1 := fun A s h e => h (by unfold stepZ; rw [if_pos e])
      refine ⟨fun e2 => z.1 ?_, ?_⟩
      · have e3 : ledZ A w = -1 ∧ ledZ B w = -1 := ⟨congrArg Prod.fst e2, congrArg Prod.snd e2⟩
        unfold toZ
        rw [e3.1, e3.2]
        rfl
      · rcases z.2 with z | z
        · exact .inl z
        · exact .inr ⟨s1 _ _ z.1, s1 _ _ z.2⟩
/-- what the rules of both, or of either, are -/
structure JoinP (A B : Rows) (e : Bool) (J : Rows) : Prop where
  st : Steps J
  ks : ∀ r ∈ J, ∀ m ∈ r, (∃ s, (step1 A s m.h m.c).isSome = true) ∨ ∃ s, (step1 B s m.h m.c).isSome = true
  lang : ∀ w, (ledN J 0 w).isSome = if e then (ledN A 0 w).isSome || (ledN B 0 w).isSome else (ledN A 0 w).isSome && (ledN B 0 w).isSome
  len : J.length ≤ (A.length + 1) * (B.length + 1)
  rl : ∀ r ∈ J, r.length ≤ 62
theorem live_led {A B : Rows} {e : Bool} {w : List Ky} : Live e (ledZ A w, ledZ B w) ↔ (if e then (ledN A 0 w).isSome || (ledN B 0 w).isSome else (ledN A 0 w).isSome && (ledN B 0 w).isSome) = true := by
  have h1 := stI_some (ledN A 0 w)
  have h2 := stI_some (ledN B 0 w)
  unfold Live ledZ
  simp only [ne_eq, Prod.mk.injEq] at h1 h2 ⊢
  cases e
  · simp only [Bool.false_eq_true, if_false, Bool.and_eq_true, false_or]
    rw [← h1, ← h2]
    exact ⟨fun h => h.2, fun h => ⟨fun z => h.1 z.1, h⟩⟩
  · simp only [if_true, Bool.or_eq_true, true_or, and_true]
    rw [← h1, ← h2, Classical.not_and_iff_not_or_not]
theorem JoinI.done {A B : Rows} {e : Bool} {L : List ZP} {F : Rows} (h : JoinI A B e L F) (done : F.length = L.length) (n : (A.length + 1) * (B.length + 1) ≤ 999) : JoinP A B e F := by
  have fw := h.few
  have at_ : ∀ r ∈ F, ∃ (i : Nat) (p : ZP), L[i]? = some p ∧ RowJ A B e L p (fun _ => True) r := fun r hr => by
    obtain ⟨i, hi⟩ := List.mem_iff_getElem?.mp hr
    have hl := (List.getElem?_eq_some_iff.mp hi).1
    obtain ⟨p, hp⟩ : ∃ p, L[i]? = some p := ⟨_, List.getElem?_eq_getElem (by omega)⟩
    exact ⟨i, p, hp, h.row i p r hp hi⟩
  have l0 := (List.getElem?_eq_some_iff.mp h.zero).1
  refine ⟨⟨⟨by omega, fun r hr m hm => ?_⟩, by omega, fun r hr => ?_, fun r hr => ?_⟩, fun r hr m hm => ?_, fun w => ?_, by omega, fun r hr => ?_⟩
  · obtain ⟨i, p, hp, rj⟩ := at_ r hr
    have := (List.getElem?_eq_some_iff.mp (rj.to m hm).2.2).1
    omega
  · obtain ⟨i, p, hp, rj⟩ := at_ r hr
    exact rj.pw
  · obtain ⟨i, p, hp, rj⟩ := at_ r hr
    exact Nat.le_trans rj.len (by decide)
  · obtain ⟨i, p, hp, rj⟩ := at_ r hr
    have hl := (rj.to m hm).2.1
    have one : ∀ (A : Rows) (s : Int), stepZ A s (m.h, m.c) ≠ -1 → ∃ s, (step1 A s m.h m.c).isSome = true := fun A s z => by
      unfold stepZ at z
      split at z
      · exact absurd rfl z
      · exact ⟨_, (stI_some _).mp z⟩
    by_cases h1 : stepZ A p.1 (m.h, m.c) = -1
    · exact .inr (one B p.2 fun h2 => hl.1 (Prod.ext h1 h2))
    · exact .inl (one A p.1 h1)
  · obtain ⟨g1, g2⟩ := h.led done w
    rw [Bool.eq_iff_iff, ← live_led]
    cases hw : ledN F 0 w with
    | none => simp only [Option.isSome_none, Bool.false_eq_true, false_iff]; exact g2 hw
    | some j =>
      simp only [Option.isSome_some, true_iff]
      exact (h.rng _ (List.mem_of_getElem? (g1 j hw))).2.2
  · obtain ⟨i, p, hp, rj⟩ := at_ r hr
    exact rj.len
end Pace
namespace Pace
open PySem PySem.Spec PyProof.Rows L2 DL
theorem JoinP.val {hs ws : List Nat} {rs rs' : Rows} (v : RulV hs ws rs) (v' : RulV hs ws rs') {e : Bool} {J : Rows} (j : JoinP rs rs' e J) : RulV hs ws J := by
  have key : ∀ {A : Rows} (v : RulV hs ws A) {s h c : Nat}, (step1 A s h c).isSome = true → h ∈ hs ∧ c ∈ ws := fun {A} v {s h c} z => by
    obtain ⟨t, ht⟩ := Option.isSome_iff_exists.mp z
    have := (step1_iff v.steps).mp ht
    unfold rowS at this
    rw [List.getD_eq_getElem?_getD] at this
    cases er : A[s]? with
    | none => rw [er] at this; cases this
    | some r =>
      rw [er] at this
      have := mv_in v (List.mem_of_getElem? er) this
      exact ⟨this.1, this.2.1⟩
  refine ⟨v.lh, v.lw, v.sh, v.sw, j.st.cl.1, j.st.n, fun r hr => ⟨?_, j.st.l r hr⟩⟩
  unfold rowB
  rw [Bool.and_eq_true, List.all_eq_true]
  refine ⟨fun m hm => ?_, nbr_of_pair (j.st.pw r hr)⟩
  have hk : m.h ∈ hs ∧ m.c ∈ ws := by
    rcases j.ks r hr m hm with ⟨s, z⟩ | ⟨s, z⟩
    · exact key v z
    · exact key v' z
  unfold mvB
  rw [Bool.and_eq_true, Bool.and_eq_true, decide_eq_true_eq, decide_eq_true_eq, decide_eq_true_eq]
  exact ⟨hk, j.st.cl.2 r hr m hm⟩
end Pace
end
section
set_option Elab.async false
set_option linter.all false
set_option maxRecDepth 100000
set_option maxHeartbeats 4000000
namespace Pace
open PySem PySem.Spec PyProof.Rows L2 DL
abbrev Wd := List Nat
def wd (x : Wd) : D := .str (strOf x)
def putsC (rs : Rows) (cs : Wd) : List Wd := (caps rs 0 cs).map (·.1)
end Pace
end
section
set_option Elab.async false
set_option linter.all false
set_option maxRecDepth 100000
set_option maxHeartbeats 4000000
namespace Pace
open PySem PySem.Spec PyProof.Rows L2 DL
theorem dist_app : ∀ {p q p' q' : List Nat}, p.length = q.length → distN (p ++ p') (q ++ q') = distN p q + distN p' q'
  | [], [], _, _, _ => by simp [distN]
  | [], _ :: _, _, _, h => by simp at h
  | _ :: _, [], _, _, h => by simp at h
  | x :: p, y :: q, p', q', h => by
    rw [List.cons_append, List.cons_append, distN, dist_app (by simpa using h), distN]
    omega
theorem min_ex {o : Cost} {S : Nat → Prop} (h : IsMin o S) {n : Nat} (hn : S n) : ∃ m, o = some m ∧ S m ∧ m ≤ n := by
  cases o with
  | none => exact absurd hn (h n)
  | some m => exact ⟨m, rfl, h.1, h.2 n hn⟩
end Pace
end
section
set_option Elab.async false
set_option linter.all false
set_option maxRecDepth 100000
set_option maxHeartbeats 4000000
namespace Pace
open PySem PySem.Spec PyProof.Rows L2 DL
def WayS (A : Rows) (s : Nat) (w : List Ky) (t n : Nat) : Prop := ∃ q : List Nat, q.length = w.length ∧ ledN A s ((w.map (·.1)).zip q) = some t ∧ distN q (w.map (·.2)) = n
def startR (n s : Nat) : List Cost := (List.range n).map fun t => if t = s then some 0 else none
def rowF (A : Rows) (s : Nat) (w : List Ky) : List Cost := w.foldl (rowNx A) (startR A.length s)
theorem rowF_snoc (A : Rows) (s : Nat) (w : List Ky) (k : Ky) : rowF A s (w ++ [k]) = rowNx A (rowF A s w) k := by simp [rowF]
theorem startR_len (n s : Nat) : (startR n s).length = n := by simp [startR]
theorem rowF_len (A : Rows) (s : Nat) (w : List Ky) : (rowF A s w).length = A.length := by
  induction w using snoc_ind with
  | nil => exact startR_len _ _
  | snoc w k ih => rw [rowF_snoc, rowNx_len, ih]
theorem startR_at {n s t : Nat} (ht : t < n) : (startR n s).getD t none = if t = s then some 0 else none := by
  unfold startR
  rw [List.getD_eq_getElem?_getD, List.getElem?_map, List.getElem?_range ht]
  rfl
theorem wayS_snoc {A : Rows} (st : Steps A) {s : Nat} (hs : s < A.length) {w : List Ky} {k : Ky} {t n : Nat} : WayS A s (w ++ [k]) t n ↔ ∃ u x m, WayS A s w u x ∧ u < A.length ∧ m ∈ rowS A u ∧ m.h = k.1 ∧ m.t = t ∧ n = x + b2n (decide (m.c ≠ k.2)) := by
  constructor
  · rintro ⟨q, hl, hled, hd⟩
    rw [List.length_append, List.length_singleton] at hl
    obtain ⟨q', c, rfl⟩ : ∃ q' c, q = q' ++ [c] := by
      have : q ≠ [] := fun z => by rw [z] at hl; simp at hl
      exact ⟨q.dropLast, q.getLast this, (List.dropLast_concat_getLast this).symm⟩
    rw [List.length_append, List.length_singleton] at hl
    have hl' : q'.length = w.length := by omega
    rw [List.map_append, List.map_singleton, List.zip_append (by rw [List.length_map, hl']), List.zip_cons_cons, List.zip_nil_right, ledN_snoc] at hled
    obtain ⟨u, hu, h1⟩ := Option.bind_eq_some_iff.mp hled
    have hm := (step1_iff st).mp h1
    rw [List.map_append, List.map_singleton, dist_snoc (by rw [List.length_map, hl'])] at hd
    exact ⟨u, _, _, ⟨q', hl', hu, rfl⟩, ledN_lt st.cl.2 hs _ hu, hm, rfl, rfl, hd.symm⟩
  · rintro ⟨u, x, m, ⟨q', hl, hled, hd⟩, hu, hm, hh, ht, rfl⟩
    refine ⟨q' ++ [m.c], by simp [hl], ?_, ?_⟩
    · rw [List.map_append, List.map_singleton, List.zip_append (by rw [List.length_map, hl]), List.zip_cons_cons, List.zip_nil_right, ledN_snoc, hled]
      exact (step1_iff st).mpr (by rw [← hh, ← ht]; exact hm)
    · rw [List.map_append, List.map_singleton, dist_snoc (by rw [List.length_map, hl]), hd]
theorem rowF_min {A : Rows} (st : Steps A) {s : Nat} (hs : s < A.length) (w : List Ky) : ∀ t, t < A.length → IsMin ((rowF A s w).getD t none) (WayS A s w t) := by
  induction w using snoc_ind with
  | nil =>
    intro t ht
    have : (rowF A s []).getD t none = if t = s then some 0 else none := startR_at ht
    rw [this]
    by_cases e : t = s
    · subst e
      rw [if_pos rfl]
      exact ⟨⟨[], rfl, rfl, rfl⟩, fun n _ => Nat.zero_le _⟩
    · rw [if_neg e]
      rintro n ⟨q, hl, hled, _⟩
      have : q = [] := List.length_eq_zero_iff.mp hl
      subst this
      cases hled
      exact e rfl
  | snoc w k ih =>
    intro t ht
    have rl := rowF_len A s w
    rw [rowF_snoc]
    refine (rowNx_min (by rw [rl]; exact ht)).wide (fun n => ?_) fun n => ?_
    · rw [wayS_snoc st hs]
      rintro ⟨u, x, m, hx, hu, hm, hh, hmt, rfl⟩
      rw [rl] at hu
      have := ih u hu
      rw [hx] at this
      exact ⟨u, x, m, this.1, hu, hm, hh, hmt, rfl⟩
    · rw [wayS_snoc st hs]
      rintro ⟨u, x, m, hx, hu, hm, hh, hmt, rfl⟩
      have := ih u hu
      cases e : (rowF A s w).getD u none with
      | none => rw [e] at this; exact absurd hx (this x)
      | some y =>
        rw [e] at this
        exact ⟨y + b2n (decide (m.c ≠ k.2)), Nat.add_le_add_right (this.2 x hx) _, u, y, m, e, by rw [rl]; exact hu, hm, hh, hmt, rfl⟩
theorem wayS_app {A : Rows} (st : Steps A) {s : Nat} (hs : s < A.length) {v w : List Ky} {t n : Nat} : WayS A s (v ++ w) t n ↔ ∃ u x y, u < A.length ∧ WayS A s v u x ∧ WayS A u w t y ∧ n = x + y := by
  constructor
  · rintro ⟨q, hl, hled, hd⟩
    rw [List.length_append] at hl
    have l1 : (q.take v.length).length = v.length := by rw [List.length_take]; omega
    have l2 : (q.drop v.length).length = w.length := by rw [List.length_drop]; omega
    have eq : q = q.take v.length ++ q.drop v.length := (List.take_append_drop _ _).symm
    generalize q.take v.length = q1 at l1 eq
    generalize q.drop v.length = q2 at l2 eq
    subst eq
    rw [List.map_append, List.zip_append (by rw [List.length_map, l1]), led_app] at hled
    obtain ⟨u, hu, h2⟩ := Option.bind_eq_some_iff.mp hled
    rw [List.map_append, dist_app (by rw [List.length_map, l1])] at hd
    exact ⟨u, _, _, ledN_lt st.cl.2 hs _ hu, ⟨q1, l1, hu, rfl⟩, ⟨q2, l2, h2, rfl⟩, hd.symm⟩
  · rintro ⟨u, x, y, hu, ⟨q1, l1, h1, d1⟩, ⟨q2, l2, h2, d2⟩, rfl⟩
    refine ⟨q1 ++ q2, by rw [List.length_append, List.length_append, l1, l2], ?_, ?_⟩
    · rw [List.map_append, List.zip_append (by rw [List.length_map, l1]), led_app, h1]
      exact h2
    · rw [List.map_append, dist_app (by rw [List.length_map, l1]), d1, d2]
def joinS (sums : List Cost) (x : Cost × List Cost) : List Cost := match x.1 with
  | none => sums
  | some c => (sums.zip x.2).map fun y => lessO y.1 (y.2.map (c + ·))
def joinR (row : List Cost) (other : List (List Cost)) : List Cost := (row.zip other).foldl joinS (List.replicate row.length none)
theorem joinS_len {sums : List Cost} {x : Cost × List Cost} (h : x.2.length = sums.length) : (joinS sums x).length = sums.length := by
  unfold joinS
  split
  · rfl
  · rw [List.length_map, List.length_zip, h, Nat.min_self]
theorem joinS_at {sums : List Cost} {x : Cost × List Cost} (h : x.2.length = sums.length) {t : Nat} (ht : t < sums.length) {S : Nat → Prop} (hm : IsMin (sums.getD t none) S) :
    IsMin ((joinS sums x).getD t none) fun n => S n ∨ ∃ c y, x.1 = some c ∧ x.2.getD t none = some y ∧ n = c + y := by
  unfold joinS
  split
  · rename_i e
    exact hm.congr fun n => ⟨.inl, fun z => z.elim id fun ⟨c, y, h1, _⟩ => by rw [e] at h1; cases h1⟩
  · rename_i c e
    have hz : (sums.zip x.2)[t]? = some (sums.getD t none, x.2.getD t none) := List.getElem?_zip_eq_some.mpr ⟨by rw [List.getD_eq_getElem?_getD, List.getElem?_eq_getElem ht]; rfl, by show x.2[t]? = some (x.2.getD t none); rw [List.getD_eq_getElem?_getD, List.getElem?_eq_getElem (by omega)]; rfl⟩
    have e2 : ((sums.zip x.2).map fun y => lessO y.1 (y.2.map (c + ·))).getD t none = lessO (sums.getD t none) ((x.2.getD t none).map (c + ·)) := by
      rw [List.getD_eq_getElem?_getD, List.getElem?_map, hz]
      rfl
    rw [e2]
    cases ey : x.2.getD t none with
    | none =>
      have : lessO (sums.getD t none) ((none : Cost).map (c + ·)) = sums.getD t none := by cases sums.getD t none <;> rfl
      rw [this]
      exact hm.congr fun n => ⟨.inl, fun z => z.elim id fun ⟨_, _, _, h2, _⟩ => by cases h2⟩
    | some y =>
      refine (hm.less (isMin_one (c + y))).congr fun n => or_congr Iff.rfl ⟨fun z => ⟨c, y, e, rfl, z⟩, fun ⟨c', y', h1, h2, z⟩ => ?_⟩
      rw [e] at h1
      cases h1
      cases h2
      exact z
theorem joinF_len {m : Nat} : ∀ (xs : List (Cost × List Cost)) (sums : List Cost), (∀ x ∈ xs, x.2.length = m) → sums.length = m → (xs.foldl joinS sums).length = m
  | [], _, _, h => h
  | x :: xs, sums, hx, h => by
    rw [List.foldl_cons]
    exact joinF_len xs _ (fun y hy => hx y (List.mem_cons_of_mem _ hy)) (by rw [joinS_len (by rw [h]; exact hx x (by simp)), h])
theorem joinF_at {m t : Nat} (ht : t < m) : ∀ (xs : List (Cost × List Cost)) (sums : List Cost) (S : Nat → Prop), (∀ x ∈ xs, x.2.length = m) → sums.length = m → IsMin (sums.getD t none) S →
    IsMin ((xs.foldl joinS sums).getD t none) fun n => S n ∨ ∃ x ∈ xs, ∃ c y, x.1 = some c ∧ x.2.getD t none = some y ∧ n = c + y
  | [], sums, S, _, _, hm => hm.congr fun n => by simp
  | x :: xs, sums, S, hx, h, hm => by
    rw [List.foldl_cons]
    have h1 : x.2.length = sums.length := by rw [h]; exact hx x (by simp)
    refine (joinF_at ht xs _ _ (fun y hy => hx y (List.mem_cons_of_mem _ hy)) (by rw [joinS_len h1, h]) (joinS_at h1 (by omega) hm)).congr fun n => ?_
    constructor
    · rintro ((z | z) | ⟨y, hy, z⟩)
      · exact .inl z
      · exact .inr ⟨x, by simp, z⟩
      · exact .inr ⟨y, List.mem_cons_of_mem _ hy, z⟩
    · rintro (z | ⟨y, hy, z⟩)
      · exact .inl (.inl z)
      · rcases List.mem_cons.mp hy with rfl | hy
        · exact .inl (.inr z)
        · exact .inr ⟨y, hy, z⟩
theorem joinR_len {row : List Cost} {other : List (List Cost)} (h : ∀ r ∈ other, r.length = row.length) : (joinR row other).length = row.length :=
  joinF_len _ _ (fun x hx => h _ (List.of_mem_zip hx).2) (List.length_replicate ..)
theorem joinR_min {row : List Cost} {other : List (List Cost)} (h : ∀ r ∈ other, r.length = row.length) (ol : other.length = row.length) {t : Nat} (ht : t < row.length) :
    IsMin ((joinR row other).getD t none) fun n => ∃ u x y, u < row.length ∧ row.getD u none = some x ∧ (other.getD u []).getD t none = some y ∧ n = x + y := by
  refine (joinF_at ht (row.zip other) (List.replicate row.length none) (fun _ => False) (fun x hx => h _ (List.of_mem_zip hx).2) (List.length_replicate ..) ?_).congr fun n => ?_
  · have : (List.replicate row.length (none : Cost)).getD t none = none := by
      rw [List.getD_eq_getElem?_getD, List.getElem?_replicate]
      split <;> rfl
    rw [this]
    exact fun n z => z
  · constructor
    · rintro (z | ⟨x, hx, c, y, h1, h2, h3⟩)
      · exact z.elim
      · obtain ⟨u, hu⟩ := List.mem_iff_getElem?.mp hx
        obtain ⟨g1, g2⟩ := List.getElem?_zip_eq_some.mp hu
        refine ⟨u, c, y, (List.getElem?_eq_some_iff.mp g1).1, ?_, ?_, h3⟩
        · rw [List.getD_eq_getElem?_getD, g1, ← h1]; rfl
        · rw [List.getD_eq_getElem?_getD (l := other), g2]; exact h2
    · rintro ⟨u, x, y, hu, h1, h2, h3⟩
      refine .inr ⟨(row.getD u none, other.getD u []), List.mem_of_getElem? (i := u) (List.getElem?_zip_eq_some.mpr ⟨?_, ?_⟩), x, y, h1, h2, h3⟩
      · rw [List.getD_eq_getElem?_getD, List.getElem?_eq_getElem hu]; rfl
      · show other[u]? = some (other.getD u [])
        rw [List.getD_eq_getElem?_getD, List.getElem?_eq_getElem (by omega)]; rfl
def costsW (A : Rows) (w : List Ky) : List (List Cost) := (List.range A.length).map fun s => rowF A s w
def leadsW (A : Rows) (w : List Ky) : List Cost := (List.range A.length).map fun s => ledN A s w
theorem costsW_len (A : Rows) (w : List Ky) : (costsW A w).length = A.length := by simp [costsW]
theorem leadsW_len (A : Rows) (w : List Ky) : (leadsW A w).length = A.length := by simp [leadsW]
theorem costsW_at {A : Rows} {w : List Ky} {s : Nat} (hs : s < A.length) : (costsW A w)[s]? = some (rowF A s w) := by
  unfold costsW
  rw [List.getElem?_map, List.getElem?_range hs]
  rfl
theorem leadsW_at {A : Rows} {w : List Ky} {s : Nat} (hs : s < A.length) : (leadsW A w)[s]? = some (ledN A s w) := by
  unfold leadsW
  rw [List.getElem?_map, List.getElem?_range hs]
  rfl
theorem costsW_row {A : Rows} {w : List Ky} : ∀ r ∈ costsW A w, r.length = A.length := fun r hr => by
  obtain ⟨s, _, rfl⟩ := List.mem_map.mp hr
  exact rowF_len A s w
theorem getD_ext {a b : List Cost} (h : a.length = b.length) (e : ∀ t, t < a.length → a.getD t none = b.getD t none) : a = b := by
  refine List.ext_getElem? fun t => ?_
  by_cases ht : t < a.length
  · have := e t ht
    rw [List.getD_eq_getElem?_getD, List.getD_eq_getElem?_getD, List.getElem?_eq_getElem ht, List.getElem?_eq_getElem (by omega)] at this
    rw [List.getElem?_eq_getElem ht, List.getElem?_eq_getElem (by omega)]
    exact congrArg some this
  · rw [List.getElem?_eq_none (by omega), List.getElem?_eq_none (by omega)]
theorem join_row {A : Rows} (st : Steps A) {s : Nat} (hs : s < A.length) (v w : List Ky) : joinR (rowF A s v) (costsW A w) = rowF A s (v ++ w) := by
  have rl := rowF_len A s v
  have h1 : ∀ r ∈ costsW A w, r.length = (rowF A s v).length := fun r hr => by rw [rl]; exact costsW_row r hr
  have h2 : (costsW A w).length = (rowF A s v).length := by rw [rl, costsW_len]
  have jl := joinR_len h1
  refine getD_ext (by rw [jl, rl, rowF_len]) fun t ht => ?_
  rw [jl] at ht
  refine ((joinR_min h1 h2 ht).wide (fun n => ?_) fun n => ?_).uniq (rowF_min st hs (v ++ w) t (by omega))
  · rw [wayS_app st hs]
    rintro ⟨u, x, y, hu, hx, hy, rfl⟩
    rw [rl] at hu
    have a := rowF_min st hs v u hu
    rw [hx] at a
    have b := rowF_min st hu w t (by omega)
    rw [List.getD_eq_getElem?_getD (l := costsW A w), costsW_at hu] at hy
    have hy : (rowF A u w).getD t none = some y := hy
    rw [hy] at b
    exact ⟨u, x, y, hu, a.1, b.1, rfl⟩
  · rw [wayS_app st hs]
    rintro ⟨u, x, y, hu, hx, hy, rfl⟩
    obtain ⟨x', ex, _, lx⟩ := min_ex (rowF_min st hs v u hu) hx
    obtain ⟨y', ey, _, ly⟩ := min_ex (rowF_min st hu w t (by omega)) hy
    refine ⟨x' + y', by omega, u, x', y', by omega, ex, ?_, rfl⟩
    rw [List.getD_eq_getElem?_getD (l := costsW A w), costsW_at hu]
    exact ey
theorem join_costs {A : Rows} (st : Steps A) (v w : List Ky) : (costsW A v).map (fun row => joinR row (costsW A w)) = costsW A (v ++ w) := by
  unfold costsW
  rw [List.map_map]
  refine List.map_congr_left fun s hs => ?_
  exact join_row st (List.mem_range.mp hs) v w
theorem join_leads {A : Rows} (st : Steps A) (v w : List Ky) : (leadsW A v).map (fun o => o.bind fun s => (leadsW A w).getD s none) = leadsW A (v ++ w) := by
  unfold leadsW
  rw [List.map_map]
  refine List.map_congr_left fun s hs => ?_
  show (ledN A s v).bind _ = ledN A s (v ++ w)
  rw [led_app]
  cases e : ledN A s v with
  | none => rfl
  | some u =>
    have hu := ledN_lt st.cl.2 (List.mem_range.mp hs) _ e
    show ((List.range A.length).map fun s => ledN A s w).getD u none = ledN A u w
    rw [List.getD_eq_getElem?_getD, List.getElem?_map, List.getElem?_range hu]
    rfl
/-- one sign: the least costs of a state -/
def signR (n : Nat) (k : Ky) (ms : List Mv) : List Cost := (ms.filter fun m => decide (m.h = k.1)).foldl (fun f m => f.set m.t (lessO (f.getD m.t none) (some (b2n (decide (m.c ≠ k.2)))))) (List.replicate n none)
theorem signR_eq {A : Rows} (st : Steps A) {s : Nat} (hs : s < A.length) (k : Ky) : signR A.length k (rowS A s) = rowF A s [k] := by
  have key : ∀ (ms : List Mv) (f : List Cost), (ms.filter fun m => decide (m.h = k.1)).foldl (fun f m => f.set m.t (lessO (f.getD m.t none) (some (b2n (decide (m.c ≠ k.2)))))) f = ms.foldl (rbMv k.1 k.2 0) f := by
    intro ms
    induction ms with
    | nil => intro f; rfl
    | cons m ms ih =>
      intro f
      rw [List.foldl_cons]
      by_cases e : m.h = k.1
      · rw [List.filter_cons_of_pos (by simpa using e), List.foldl_cons, ih]
        unfold rbMv
        rw [if_pos e, Nat.zero_add]
      · rw [List.filter_cons_of_neg (by simpa using e), ih]
        unfold rbMv
        rw [if_neg e]
  unfold signR
  rw [key]
  have e1 : rowF A s [k] = rowNx A (startR A.length s) k := rfl
  rw [e1]
  have sl := startR_len A.length s
  refine getD_ext (by rw [rbFold_len, List.length_replicate, rowNx_len, sl]) fun t ht => ?_
  rw [rbFold_len, List.length_replicate] at ht
  have h0 : (List.replicate A.length (none : Cost)).getD t none = none := by
    rw [List.getD_eq_getElem?_getD, List.getElem?_replicate]
    split <;> rfl
  refine (rbFold_at (h := k.1) (c := k.2) (x := 0) (rowS A s) (List.replicate A.length none) (fun _ => False) (by rw [List.length_replicate]; exact ht) (by rw [h0]; exact fun n z => z)).uniq ((rowNx_min (A := A) (row := startR A.length s) (k := k) (by omega)).congr fun n => ?_)
  constructor
  · rintro ⟨u, x, m, h1, h2, h3, h4, h5, rfl⟩
    rw [sl] at h2
    rw [startR_at h2] at h1
    by_cases e : u = s
    · rw [if_pos e] at h1
      cases h1
      subst e
      exact .inr ⟨m, h3, h4, h5, rfl⟩
    · rw [if_neg e] at h1; cases h1
  · rintro (z | ⟨m, h3, h4, h5, rfl⟩)
    · exact z.elim
    · exact ⟨s, 0, m, by rw [startR_at hs, if_pos rfl], by rw [sl]; exact hs, h3, h4, h5, rfl⟩
/-- a class, longer -/
theorem class_app {rs : List (List Mv)} (tl : ∀ r ∈ rs, ∀ m ∈ r, m.t < rs.length) (a b : List Nat) : (classOf rs a).map (fun ss => run rs ss b) = classOf rs (a ++ b) := by
  unfold classOf
  rw [List.map_map]
  refine List.map_congr_left fun s _ => ?_
  exact (run_app a b).symm
def pieF (C : Addr) (R : Rul) (p q : List Nat) : List (Str × D) := [("rules", rulD C R), ("speech_there", .str (strOf p)), ("caption_there", .str (strOf q)), ("leads_kept", .tup (rowDs (leadsW R.rows (p.zip q)))), ("costs_kept", .tup ((costsW R.rows (p.zip q)).map fun r => D.tup (rowDs r))), ("class_kept", classD R.rows p)]
def pieD (C W : Addr) (R : Rul) (p q : List Nat) : D := .obj W (pieF C R p q)
end Pace
end
section
set_option Elab.async false
set_option linter.all false
set_option maxRecDepth 100000
set_option maxHeartbeats 4000000
namespace Pace
open PySem PySem.Spec PyProof.Rows L2 DL
def bndR (k : Nat) (r : List Cost) : Prop := ∀ x, some x ∈ r → x ≤ k
theorem lessO_one {a b : Cost} {v : Nat} (h : lessO a b = some v) : a = some v ∨ b = some v := by
  cases a with
  | none => exact .inr h
  | some x =>
    cases b with
    | none => exact .inl h
    | some y =>
      have h : some (min x y) = some v := h
      have e : min x y = v := Option.some.inj h
      rcases Nat.le_total x y with hxy | hxy
      · left; rw [← e, Nat.min_eq_left hxy]
      · right; rw [← e, Nat.min_eq_right hxy]
theorem rbMv_bnd {h c x k : Nat} {f : List Cost} {m : Mv} (hf : bndR (k + 1) f) (hx : x ≤ k) : bndR (k + 1) (rbMv h c x f m) := by
  unfold rbMv
  split
  · intro v hv
    rcases List.mem_or_eq_of_mem_set hv with hv | hv
    · exact hf v hv
    · rcases lessO_one hv.symm with e | e
      · refine hf v ?_
        rw [← e, List.getD_eq_getElem?_getD]
        by_cases ht : m.t < f.length
        · rw [List.getElem?_eq_getElem ht]
          exact List.getElem_mem ht
        · rw [List.getD_eq_getElem?_getD, List.getElem?_eq_none (by omega)] at e
          cases e
      · cases e
        unfold b2n
        split <;> omega
  · exact hf
theorem rbFold_bnd {h c x k : Nat} (hx : x ≤ k) : ∀ (ms : List Mv) (f : List Cost), bndR (k + 1) f → bndR (k + 1) (ms.foldl (rbMv h c x) f)
  | [], _, hf => hf
  | _ :: ms, _, hf => rbFold_bnd hx ms _ (rbMv_bnd hf hx)
theorem rbAll_bnd {A : Rows} {row : List Cost} {h c k : Nat} (hr : bndR k row) : ∀ j, bndR (k + 1) (rbAll A row h c j)
  | 0 => fun x hx => by
    have := List.eq_of_mem_replicate hx
    cases this
  | j + 1 => by
    have ih := rbAll_bnd (A := A) (h := h) (c := c) hr j
    show bndR (k + 1) (rbSt A h c (rbAll A row h c j) j (row.getD j none))
    cases e : row.getD j none with
    | none => exact ih
    | some x =>
      refine rbFold_bnd (hr x ?_) _ _ ih
      rw [List.getD_eq_getElem?_getD] at e
      cases e2 : row[j]? with
      | none => rw [e2] at e; cases e
      | some o =>
        rw [e2] at e
        have e : o = some x := e
        rw [← e]
        exact List.mem_of_getElem? e2
theorem rowF_bnd (A : Rows) (s : Nat) (w : List Ky) : bndR w.length (rowF A s w) := by
  induction w using snoc_ind with
  | nil =>
    intro x hx
    obtain ⟨t, _, ht⟩ := List.mem_map.mp (show some x ∈ startR A.length s from hx)
    split at ht
    · cases ht; exact Nat.le_refl _
    · cases ht
  | snoc w k ih =>
    rw [rowF_snoc, List.length_append, List.length_singleton]
    exact rbAll_bnd ih _
theorem odd_nat {m n w x : Nat} (h : x ≤ 1000) : Odd m n w (.int (x : Nat)) := oddP_int (Nat.le_trans (by simpa using h) (Nat.le_trans (by decide : (1000 : Nat) ≤ 10 ^ 39) (Nat.le_add_right _ _)))
theorem odd_natO {m n w : Nat} {o : Option Nat} (h : ∀ x, o = some x → x ≤ 1000) : Odd m n w (natO o) := by
  cases o with
  | none => exact oddP_non
  | some x => exact odd_nat (h x rfl)
theorem bks_le {k : Nat} : ∀ {xs : List D}, (∀ x ∈ xs, bkD x ≤ k) → bksD xs ≤ xs.length * (k + 1)
  | [], _ => Nat.zero_le _
  | x :: xs, h => by
    rw [bks_cons, List.length_cons, Nat.succ_mul]
    have h1 := h x List.mem_cons_self
    have h2 := bks_le (xs := xs) fun y hy => h y (List.mem_cons_of_mem _ hy)
    omega
theorem odd_seqT {m n k c : Nat} {xs : List D} (h : ∀ x ∈ xs, Odd m n k x) (hl : xs.length ≤ c) : Odd m (n + 1) (c * (k + 1)) (.tup xs) := oddP_tup (fun x hx => (h x hx).one) (Nat.le_trans (bks_le fun x hx => (h x hx).bk) (Nat.mul_le_mul_right _ hl))
theorem odd_seqL {m n k c : Nat} {xs : List D} (h : ∀ x ∈ xs, Odd m n k x) (hl : xs.length ≤ c) : Odd m (n + 1) (c * (k + 1)) (.lst xs) := oddP_lst (fun x hx => (h x hx).one) (Nat.le_trans (bks_le fun x hx => (h x hx).bk) (Nat.mul_le_mul_right _ hl))
theorem odd_row {m n c : Nat} {r : List Cost} (h : bndR 1000 r) (hl : r.length ≤ c) : Odd m (n + 1) (c * 1) (.tup (rowDs r)) := odd_seqT (k := 0) (fun x hx => by
  obtain ⟨o, ho, rfl⟩ := List.mem_map.mp hx
  exact odd_natO fun x e => h x (by rw [← e]; exact ho)) (by rw [rowDs_len]; exact hl)
theorem odd_nats {m n c : Nat} {r : List Nat} (h : ∀ x ∈ r, x ≤ 1000) (hl : r.length ≤ c) : Odd m (n + 1) (c * 1) (.tup (natsD r)) := odd_seqT (k := 0) (fun x hx => by
  obtain ⟨o, ho, rfl⟩ := List.mem_map.mp hx
  exact odd_nat (h o ho)) (by simpa [natsD] using hl)
theorem sorted_len {n : Nat} : ∀ {l : List Nat} {a : Nat}, l.Pairwise (· < ·) → (∀ k ∈ l, a ≤ k ∧ k < n) → l.length ≤ n - a
  | [], _, _, _ => Nat.zero_le _
  | x :: l, a, hp, h => by
    have hx := h x List.mem_cons_self
    have hp := List.pairwise_cons.mp hp
    have := sorted_len (n := n) (a := x + 1) hp.2 fun k hk => ⟨hp.1 k hk, (h k (List.mem_cons_of_mem _ hk)).2⟩
    rw [List.length_cons]
    omega
theorem odd_class {m n : Nat} {A : Rows} (tl : ∀ r ∈ A, ∀ k ∈ r, k.t < A.length) (h7 : A.length ≤ 7) (p : List Nat) : Odd m (n + 2) 56 (classD A p) := by
  refine (odd_seqT (m := m) (n := n + 1) (k := 7) (c := 7) (fun x hx => ?_) (by simp [classOf]; exact h7))
  obtain ⟨ss, hs, rfl⟩ := List.mem_map.mp hx
  obtain ⟨s, hs2, rfl⟩ := List.mem_map.mp hs
  have lt := run_lt (n := A.length) tl (ss := [s]) (by simpa using List.mem_range.mp hs2) (cs := p)
  exact odd_nats (c := 7) (fun x hx => by have := lt x hx; omega) (by have := sorted_len (n := A.length) (a := 0) (run_sorted (rs := A) (s := s) p) fun k hk => ⟨Nat.zero_le _, lt k hk⟩; omega)
theorem leads_bnd {A : Rows} (st : Steps A) (w : List Ky) : bndR 1000 (leadsW A w) := fun x hx => by
  obtain ⟨s, hs, e⟩ := List.mem_map.mp hx
  have := ledN_lt (rs := A) st.cl.2 (List.mem_range.mp hs) w e
  have := st.n
  omega
end Pace
end
section
set_option Elab.async false
set_option linter.all false
set_option maxRecDepth 100000
set_option maxHeartbeats 4000000
namespace Pace
open PySem PySem.Spec PyProof.Rows L2 DL
abbrev CL := List (Nat × Nat)
def ckK (x : Nat × Nat) : Key := .inl (x.1 : Int)
def cdD (L : CL) : List (Key × D) := L.map fun x => (ckK x, D.int (x.2 : Int))
def lkC (L : CL) (t : Nat) : Cost := (L.find? fun x => decide (x.1 = t)).map (·.2)
def setC (L : CL) (t n : Nat) : CL := L.map fun x => if x.1 = t then (t, n) else x
def putC (L : CL) (t n : Nat) : CL := if (L.any fun x => decide (x.1 = t)) = true then setC L t n else L ++ [(t, n)]
theorem ckK_eq {x : Nat × Nat} {t : Nat} : (ckK x = (.inl (t : Int) : Key)) ↔ x.1 = t := by
  unfold ckK
  constructor
  · intro e
    have : (x.1 : Int) = (t : Int) := Sum.inl.inj e
    omega
  · intro e; rw [e]
theorem ckK_dec (x : Nat × Nat) (t : Nat) : decide (ckK x = (.inl (t : Int) : Key)) = decide (x.1 = t) := by
  rw [Bool.eq_iff_iff, decide_eq_true_eq, decide_eq_true_eq, ckK_eq]
theorem cdD_val (L : CL) (t : Nat) : valD (cdD L) (.inl (t : Int)) = (lkC L t).map (fun n : Nat => D.int (n : Int)) := by
  unfold valD cdD lkC
  rw [List.find?_map, Option.map_map, Option.map_map]
  have : ((fun kv : Key × D => decide (kv.1 = .inl (t : Int))) ∘ fun x : Nat × Nat => (ckK x, D.int (x.2 : Int))) = fun x => decide (x.1 = t) := funext fun x => ckK_dec x t
  rw [this]
  rfl
theorem cdD_put (L : CL) (t n : Nat) : putD (cdD L) (.inl (t : Int)) (.int (n : Int)) = cdD (putC L t n) := by
  have e : ((cdD L).any fun kv => decide (kv.1 = (.inl (t : Int) : Key))) = L.any fun x => decide (x.1 = t) := by
    unfold cdD
    rw [List.any_map]
    congr 1
    exact funext fun x => ckK_dec x t
  unfold putD putC
  rw [e]
  split
  · unfold cdD setC
    rw [List.map_map, List.map_map]
    refine List.map_congr_left fun x _ => ?_
    show (if ckK x = .inl (t : Int) then (ckK x, D.int (n : Int)) else (ckK x, .int (x.2 : Int))) = (ckK (if x.1 = t then (t, n) else x), D.int ((if x.1 = t then (t, n) else x).2 : Int))
    by_cases h : x.1 = t
    · rw [if_pos (ckK_eq.mpr h), if_pos h]
      unfold ckK
      rw [h]
    · rw [if_neg (fun z => h (ckK_eq.mp z)), if_neg h]
  · unfold cdD
    rw [List.map_append]
    rfl
theorem lkC_cons (x : Nat × Nat) (L : CL) (s : Nat) : lkC (x :: L) s = if x.1 = s then some x.2 else lkC L s := by
  unfold lkC
  rw [List.find?_cons]
  by_cases h : x.1 = s
  · rw [if_pos h, decide_eq_true h]; rfl
  · rw [if_neg h, decide_eq_false h]
theorem lkC_none {L : CL} {t : Nat} : lkC L t = none ↔ (L.any fun x => decide (x.1 = t)) = false := by
  unfold lkC
  rw [Option.map_eq_none_iff, List.find?_eq_none, List.any_eq_false]
theorem lkC_set (t n s : Nat) : ∀ L : CL, lkC (setC L t n) s = if s = t then (lkC L t).map fun _ => n else lkC L s
  | [] => by simp [setC, lkC]
  | x :: L => by
    have ih := lkC_set t n s L
    have e : setC (x :: L) t n = (if x.1 = t then (t, n) else x) :: setC L t n := rfl
    rw [e, lkC_cons, ih, lkC_cons, lkC_cons]
    by_cases h : x.1 = t
    · subst h
      simp only [if_true]
      by_cases h2 : s = x.1
      · subst h2; simp
      · rw [if_neg (fun z => h2 z.symm), if_neg h2, if_neg h2, if_neg (fun z => h2 z.symm)]
    · simp only [if_neg h]
      by_cases h2 : s = t
      · subst h2; simp [h]
      · simp [h2]
theorem lkC_app (L M : CL) (s : Nat) : lkC (L ++ M) s = (lkC L s).or (lkC M s) := by
  unfold lkC
  rw [List.find?_append]
  cases L.find? fun x => decide (x.1 = s) <;> rfl
theorem lkC_put (L : CL) (t n s : Nat) : lkC (putC L t n) s = if s = t then some n else lkC L s := by
  unfold putC
  split
  · rename_i h
    rw [lkC_set]
    by_cases e : s = t
    · rw [if_pos e, if_pos e]
      cases z : lkC L t with
      | none => rw [lkC_none.mp z] at h; cases h
      | some m => rfl
    · rw [if_neg e, if_neg e]
  · rename_i h
    rw [lkC_app, lkC_cons]
    by_cases e : s = t
    · subst e
      rw [lkC_none.mpr (Bool.eq_false_iff.mpr h)]
      simp
    · rw [if_neg e, if_neg (fun z => e z.symm)]
      cases lkC L s <;> rfl
theorem setC_keys (L : CL) (t n : Nat) : (setC L t n).map (·.1) = L.map (·.1) := by
  unfold setC
  rw [List.map_map]
  refine List.map_congr_left fun x _ => ?_
  show (if x.1 = t then (t, n) else x).1 = x.1
  split
  · rename_i h; exact h.symm
  · rfl
theorem putC_keys {L : CL} {t n : Nat} : (putC L t n).map (·.1) = if t ∈ L.map (·.1) then L.map (·.1) else L.map (·.1) ++ [t] := by
  unfold putC
  have e : ((L.any fun x => decide (x.1 = t)) = true) ↔ t ∈ L.map (·.1) := by
    rw [List.any_eq_true, List.mem_map]
    constructor
    · rintro ⟨x, hx, h⟩; exact ⟨x, hx, of_decide_eq_true h⟩
    · rintro ⟨x, hx, h⟩; exact ⟨x, hx, decide_eq_true h⟩
  by_cases h : t ∈ L.map (·.1)
  · rw [if_pos h, if_pos (e.mpr h), setC_keys]
  · rw [if_neg h, if_neg (fun z => h (e.mp z)), List.map_append]; rfl
/-- keys once each, below a bound -/
structure CK (n : Nat) (L : CL) : Prop where
  nd : (L.map (·.1)).Nodup
  lt : ∀ t ∈ L.map (·.1), t < n
theorem CK.nil (n : Nat) : CK n [] := ⟨.nil, by simp⟩
theorem CK.put {n : Nat} {L : CL} (h : CK n L) {t x : Nat} (ht : t < n) : CK n (putC L t x) := by
  refine ⟨?_, ?_⟩
  · rw [putC_keys]
    split
    · exact h.nd
    · rename_i z
      exact List.nodup_append.mpr ⟨h.nd, by simp, fun a ha b hb e => by rw [List.mem_singleton.mp hb] at e; subst e; exact z ha⟩
  · intro s hs
    rw [putC_keys] at hs
    split at hs
    · exact h.lt s hs
    · rcases List.mem_append.mp hs with hs | hs
      · exact h.lt s hs
      · rw [List.mem_singleton.mp hs]; exact ht
theorem CK.len {n : Nat} {L : CL} (h : CK n L) : L.length ≤ n := by
  have := nodup_lt_len h.nd h.lt
  rwa [List.length_map] at this
theorem CK.mem {n : Nat} {L : CL} (h : CK n L) {s x : Nat} : (s, x) ∈ L ↔ lkC L s = some x := by
  have key : ∀ L : CL, (L.map (·.1)).Nodup → ((s, x) ∈ L ↔ lkC L s = some x) := by
    intro L
    induction L with
    | nil => intro _; simp [lkC]
    | cons y L ih =>
      intro nd
      rw [List.map_cons, List.nodup_cons] at nd
      rw [lkC_cons, List.mem_cons]
      by_cases e : y.1 = s
      · rw [if_pos e]
        constructor
        · rintro (z | z)
          · rw [← z]
          · exact absurd (List.mem_map.mpr ⟨_, z, e.symm⟩) nd.1
        · intro z
          left
          cases z
          rw [← e]
      · rw [if_neg e, ← ih nd.2]
        exact ⟨fun z => z.resolve_left fun z => e (by rw [← z]), .inr⟩
  exact key L h.nd
theorem CK.out {n : Nat} {L : CL} (h : CK n L) {t : Nat} (ht : n ≤ t) : lkC L t = none := by
  cases e : lkC L t with
  | none => rfl
  | some x =>
    have := h.lt t (List.mem_map.mpr ⟨_, h.mem.mpr e, rfl⟩)
    omega
/-- the dict tells the costs of a row -/
structure CD (L : CL) (row : List Cost) : Prop where
  ck : CK row.length L
  at_ : ∀ t, lkC L t = row.getD t none
theorem CD.first {n : Nat} (h : 1 ≤ n) : CD [(0, 0)] (firstR n) := by
  refine ⟨⟨by simp, fun t ht => ?_⟩, fun t => ?_⟩
  · rw [firstR_len h]
    simp at ht
    omega
  · rw [lkC_cons]
    unfold firstR
    cases t with
    | zero => rfl
    | succ t =>
      rw [List.getD_cons_succ, List.getD_eq_getElem?_getD, List.getElem?_replicate, if_neg (by simp)]
      split <;> rfl
/-- a cost is taken in -/
theorem IsMin.put {L : CL} {t x : Nat} {S : Nat → Nat → Prop} (h : ∀ s, IsMin (lkC L s) (S s)) : ∀ s, IsMin (lkC (putC L t (min x ((lkC L t).getD x))) s) fun n => S s n ∨ (s = t ∧ n = x) := fun s => by
  rw [lkC_put]
  by_cases e : s = t
  · subst e
    rw [if_pos rfl]
    have := (h s).less (isMin_one x)
    have e : lessO (lkC L s) (some x) = some (min x ((lkC L s).getD x)) := by
      cases lkC L s with
      | none => show some x = some (min x x); rw [Nat.min_self]
      | some y => show some (min y x) = some (min x y); rw [Nat.min_comm]
    rw [e] at this
    exact this.congr fun n => by simp
  · rw [if_neg e]
    exact (h s).congr fun n => by simp [e]
/-- what is found so far: behind the first states of the dict, and some moves of the next one -/
def StepL (A : Rows) (d : CL) (k : Ky) (j : Nat) (ms : List Mv) (t n : Nat) : Prop :=
  (∃ s x m, (s, x) ∈ d.take j ∧ m ∈ rowS A s ∧ m.h = k.1 ∧ m.t = t ∧ n = x + b2n (decide (m.c ≠ k.2))) ∨ ∃ x s m, d[j]? = some (s, x) ∧ m ∈ ms ∧ m.h = k.1 ∧ m.t = t ∧ n = x + b2n (decide (m.c ≠ k.2))
theorem StepL.zero {A : Rows} {d : CL} {k : Ky} {t n : Nat} : ¬ StepL A d k 0 [] t n := by
  rintro (⟨s, x, m, h, _⟩ | ⟨x, s, m, _, h, _⟩)
  · simp at h
  · cases h
theorem StepL.next {A : Rows} {d : CL} {k : Ky} {j s x t n : Nat} (hj : d[j]? = some (s, x)) : StepL A d k j (rowS A s) t n ↔ StepL A d k (j + 1) [] t n := by
  unfold StepL
  rw [take_step hj]
  constructor
  · rintro (⟨s', x', m, h, z⟩ | ⟨x', s', m, h, z⟩)
    · exact .inl ⟨s', x', m, List.mem_append_left _ h, z⟩
    · rw [hj] at h
      cases h
      exact .inl ⟨s, x, m, by simp, z⟩
  · rintro (⟨s', x', m, h, z⟩ | ⟨x', s', m, _, h, _⟩)
    · rcases List.mem_append.mp h with h | h
      · exact .inl ⟨s', x', m, h, z⟩
      · rw [List.mem_singleton] at h
        cases h
        exact .inr ⟨x, s, m, hj, z⟩
    · cases h
theorem StepL.move {A : Rows} {d : CL} {k : Ky} {j s x t n : Nat} {ms : List Mv} {m : Mv} (hj : d[j]? = some (s, x)) : StepL A d k j (ms ++ [m]) t n ↔ StepL A d k j ms t n ∨ (m.h = k.1 ∧ t = m.t ∧ n = x + b2n (decide (m.c ≠ k.2))) := by
  unfold StepL
  constructor
  · rintro (z | ⟨x', s', m', h1, h2, h3, h4, h5⟩)
    · exact .inl (.inl z)
    · rcases List.mem_append.mp h2 with h2 | h2
      · exact .inl (.inr ⟨x', s', m', h1, h2, h3, h4, h5⟩)
      · rw [List.mem_singleton] at h2
        subst h2
        rw [hj] at h1
        cases h1
        exact .inr ⟨h3, h4.symm, h5⟩
  · rintro ((z | ⟨x', s', m', h1, h2, z⟩) | ⟨h3, h4, h5⟩)
    · exact .inl z
    · exact .inr ⟨x', s', m', h1, List.mem_append_left _ h2, z⟩
    · exact .inr ⟨x, s, m, hj, by simp, h3, h4.symm, h5⟩
/-- all of the dict taken in: the next row -/
theorem CD.next {A : Rows} {d L : CL} {row : List Cost} {k : Ky} (cl : ∀ s, s < A.length → ∀ m ∈ rowS A s, m.t < A.length) (rl : row.length = A.length) (cd : CD d row) (ck : CK A.length L) (h : ∀ s, IsMin (lkC L s) fun n => StepL A d k d.length [] s n) : CD L (rowNx A row k) := by
  refine ⟨by rw [rowNx_len, rl]; exact ck, fun t => ?_⟩
  by_cases ht : t < A.length
  · refine (h t).uniq ((rowNx_min (A := A) (row := row) (k := k) (by omega)).congr fun n => ?_)
    unfold StepL StepC
    rw [List.take_length]
    constructor
    · rintro ⟨s, x, m, h1, h2, z⟩
      exact .inl ⟨s, x, m, cd.ck.mem.mpr (by rw [cd.at_, h1]), z⟩
    · rintro (⟨s, x, m, h1, z⟩ | ⟨x, s, m, _, h, _⟩)
      · refine ⟨s, x, m, by rw [← cd.at_]; exact cd.ck.mem.mp h1, cd.ck.lt s (List.mem_map.mpr ⟨_, h1, rfl⟩), z⟩
      · cases h
  · rw [ck.out (by omega), List.getD_eq_getElem?_getD, List.getElem?_eq_none (by rw [rowNx_len]; omega)]
    rfl
end Pace
end
section
set_option Elab.async false
set_option linter.all false
set_option maxRecDepth 100000
set_option maxHeartbeats 4000000
namespace Pace
open PySem PySem.Spec PyProof.Rows L2 DL
theorem okS_ns (ns : List Nat) : okS (natsD ns) = true := by
  unfold okS natsD
  simp only [Bool.and_eq_true, Bool.or_eq_true, List.all_map, List.all_eq_true, Function.comp]
  refine ⟨⟨⟨?_, fun x _ y _ => rfl⟩, fun x _ => rfl⟩, .inr fun x _ => trivial⟩
  rw [D.pls_all]
  simp only [List.all_map, List.all_eq_true, Function.comp]
  exact fun x _ => rfl
theorem sortD_ns (ns : List Nat) : sortD (natsD ns) = natsD (nsort ns) := by
  have le : ∀ a b : Nat, D.le (.int (a : Int)) (.int (b : Int)) = decide (a ≤ b) := fun a b => by
    have e : D.le (.int (a : Int)) (.int (b : Int)) = !D.lt (.int (b : Int)) (.int (a : Int)) := rfl
    rw [e, DL.lt_int, Bool.eq_iff_iff]
    simp
  have h1 : sortD (natsD ns) = (ns.mergeSort fun a b => decide (a ≤ b)).map fun (t : Nat) => D.int (t : Int) := by
    unfold sortD natsD
    rw [← PySem.W.sort_maps (r := fun a b : Nat => decide (a ≤ b)) (s := D.le) (fun (t : Nat) => D.int (t : Int)) (l := ns) (fun a _ b _ => (le a b).symm)]
  rw [h1]
  have e : ns.mergeSort (fun a b => decide (a ≤ b)) = nsort ns := by
    have h2 : (ns.mergeSort fun a b => decide (a ≤ b)).Pairwise (fun a b : Nat => (decide (a ≤ b)) = true) := List.pairwise_mergeSort (le := fun a b : Nat => decide (a ≤ b)) (by intro a b c; simp; omega) (by intro a b; simp; omega) ns
    refine List.Perm.eq_of_pairwise (le := fun a b : Nat => a ≤ b) (fun a b _ _ h1 h2 => Nat.le_antisymm h1 h2) (h2.imp fun h => of_decide_eq_true h) (nsort_le ns) ((List.mergeSort_perm ns _).trans (nsort_perm ns).symm)
  rw [e]
  rfl
theorem range_get2 {n j : Nat} {d : D} (h : ((List.range n).map fun i : Nat => D.int (i : Nat))[j]? = some d) : j < n ∧ d = .int (j : Nat) := by
  obtain ⟨i, hi, rfl⟩ := map_get h
  obtain ⟨h1, h2⟩ := List.getElem?_eq_some_iff.mp hi
  rw [List.getElem_range] at h2
  subst h2
  exact ⟨by simpa using h1, rfl⟩
theorem CD.start {n s : Nat} (h : s < n) : CD [(s, 0)] (startR n s) := by
  refine ⟨⟨by simp, fun t ht => ?_⟩, fun t => ?_⟩
  · rw [startR_len]
    simp at ht
    omega
  · rw [lkC_cons]
    have e0 : lkC [] t = none := rfl
    rw [e0]
    by_cases ht : t < n
    · rw [startR_at ht]
      by_cases e : s = t
      · rw [if_pos e, if_pos e.symm]
      · rw [if_neg e, if_neg (fun h => e h.symm)]
    · rw [if_neg (by omega), List.getD_eq_getElem?_getD, List.getElem?_eq_none (by rw [startR_len]; omega)]
      rfl
theorem zip_cuts (l : List Nat) : List.zipWith (fun a b => D.tup [a, b]) (l.map fun n : Nat => D.int (n : Nat)) (DL.cutD (l.map fun n : Nat => D.int (n : Nat)) (some 1) none) = (l.zip l.tail).map fun c => .tup [.int (c.1 : Nat), .int (c.2 : Nat)] := by
  have e : DL.cutD (l.map fun n : Nat => D.int (n : Nat)) (some 1) none = (l.map fun n : Nat => D.int (n : Nat)).drop 1 := cut_drop _ 1
  rw [e, ← List.map_drop, List.zipWith_map, List.drop_one]
  clear e
  generalize l.tail = m
  induction l generalizing m with
  | nil => rfl
  | cons a l ih =>
    cases m with
    | nil => rfl
    | cons b m => rw [List.zipWith_cons_cons, List.zip_cons_cons, List.map_cons, ih]
/-- the texts of pairs, one behind the other -/
def catP (xs : List (List Nat × List Nat)) : List Nat × List Nat := ((xs.map (·.1)).flatten, (xs.map (·.2)).flatten)
theorem catP_app (a b : List (List Nat × List Nat)) : catP (a ++ b) = ((catP a).1 ++ (catP b).1, (catP a).2 ++ (catP b).2) := by
  unfold catP
  simp
theorem catP_one (x : List Nat × List Nat) : catP [x] = x := by
  unfold catP
  simp
/-- two neighbours become one -/
theorem catP_join {xs : List (List Nat × List Nat)} {i : Nat} {x y : List Nat × List Nat} (h1 : xs[i]? = some x) (h2 : xs[i + 1]? = some y) : catP (xs.take i ++ [(x.1 ++ y.1, x.2 ++ y.2)] ++ xs.drop (i + 2)) = catP xs := by
  have e : xs = xs.take i ++ [x] ++ [y] ++ xs.drop (i + 2) := by
    have a1 : xs.take (i + 1) = xs.take i ++ [x] := by rw [List.take_add_one, h1]; rfl
    have a2 : xs.take (i + 2) = xs.take (i + 1) ++ [y] := by rw [List.take_add_one, h2]; rfl
    rw [← a1, ← a2, List.take_append_drop]
  conv => rhs; rw [e]
  rw [catP_app, catP_app, catP_app, catP_app, catP_app, catP_one, catP_one, catP_one]
  simp
theorem join_len {α : Type} {xs : List α} {i : Nat} {x : α} (h : i + 1 < xs.length) : (xs.take i ++ [x] ++ xs.drop (i + 2)).length = xs.length - 1 := by
  simp only [List.length_append, List.length_take, List.length_drop, List.length_singleton]
  omega
/-- the parts between the cuts -/
def cutsP (p q : List Nat) (cs : List Nat) : List (List Nat × List Nat) := (cs.zip cs.tail).map fun c => ((p.take c.2).drop c.1, (q.take c.2).drop c.1)
theorem catP_cuts {p q : List Nat} : ∀ (a : Nat) (cs : List Nat) (b : Nat), (a :: cs ++ [b]).Pairwise (· ≤ ·) → catP (cutsP p q (a :: cs ++ [b])) = ((p.take b).drop a, (q.take b).drop a)
  | a, [], b, h => by
    show catP [((p.take b).drop a, (q.take b).drop a)] = _
    rw [catP_one]
  | a, c :: cs, b, h => by
    have h2 : (c :: cs ++ [b]).Pairwise (· ≤ ·) := (List.pairwise_cons.mp h).2
    have hac : a ≤ c := (List.pairwise_cons.mp h).1 c (by simp)
    have hcb : c ≤ b := (List.pairwise_cons.mp h2).1 b (by simp)
    have ih := catP_cuts (p := p) (q := q) c cs b h2
    have e : cutsP p q (a :: (c :: cs) ++ [b]) = ((p.take c).drop a, (q.take c).drop a) :: cutsP p q (c :: cs ++ [b]) := rfl
    rw [e, show ∀ x (l : List (List Nat × List Nat)), x :: l = [x] ++ l from fun _ _ => rfl, catP_app, catP_one, ih]
    have key : ∀ l : List Nat, (l.take c).drop a ++ (l.take b).drop c = (l.take b).drop a := fun l => by
      have e1 : l.take b = l.take c ++ (l.take b).drop c := by
        have : (l.take b).take c = l.take c := by rw [List.take_take, Nat.min_eq_left hcb]
        rw [← this, List.take_append_drop]
      by_cases hl : a ≤ (l.take c).length
      · conv => rhs; rw [e1]
        rw [List.drop_append_of_le_length hl]
      · have hlen : l.length < a := by
          rw [List.length_take] at hl
          omega
        rw [List.drop_eq_nil_of_le (by rw [List.length_take]; omega), List.drop_eq_nil_of_le (by rw [List.length_take]; omega), List.drop_eq_nil_of_le (by rw [List.length_take]; omega)]
        rfl
    rw [key, key]
end Pace
end
section
set_option Elab.async false
set_option linter.all false
set_option maxRecDepth 100000
set_option maxHeartbeats 4000000
namespace Pace
open PySem PySem.Spec PyProof.Rows L2 DL
/-- what a piece tells, with its texts -/
def told64 (A : Rows) (p q : List Nat) : D := .tup [.str (strOf p), .str (strOf q), .int (p.length : Nat), .tup (rowDs (leadsW A (p.zip q))), .tup ((costsW A (p.zip q)).map fun r => D.tup (rowDs r)), classD A p]
theorem leadsT_odd {A : Rows} (st : Steps A) (h7 : A.length ≤ 7) (w : List Ky) : Odd 0 3 400 (.tup (rowDs (leadsW A w))) := (odd_row (m := 0) (n := 2) (c := 7) (leads_bnd st w) (by rw [leadsW_len]; exact h7)).mono (Nat.le_refl _) (Nat.le_refl _) (by decide)
theorem costsT_odd {A : Rows} (h7 : A.length ≤ 7) {w : List Ky} (wl : w.length ≤ 400) : Odd 0 3 400 (.tup ((costsW A w).map fun r => D.tup (rowDs r))) := by
  refine (odd_seqT (m := 0) (n := 2) (k := 7) (c := 7) (fun x hx => ?_) (by rw [List.length_map, costsW_len]; exact h7)).mono (Nat.le_refl _) (Nat.le_refl _) (by decide)
  obtain ⟨r, hr, rfl⟩ := List.mem_map.mp hx
  obtain ⟨s', _, rfl⟩ := List.mem_map.mp hr
  exact odd_row (n := 1) (c := 7) (fun x hx => Nat.le_trans (rowF_bnd A s' w x hx) (by omega)) (by rw [rowF_len]; exact h7)
theorem classT_odd {A : Rows} (st : Steps A) (h7 : A.length ≤ 7) (p : List Nat) : Odd 0 3 400 (classD A p) := (odd_class (m := 0) (n := 1) st.cl.2 h7 p).mono (Nat.le_refl _) (Nat.le_refl _) (by decide)
theorem told64_odd {A : Rows} (st : Steps A) (h7 : A.length ≤ 7) {p q : List Nat} (pl : p.length ≤ 400) (ql : q.length ≤ 400) (pa : ∀ c ∈ p, c < 128) (qa : ∀ c ∈ q, c < 128) : Odd 0 4 2406 (told64 A p q) := by
  have zl : (p.zip q).length ≤ 400 := by rw [List.length_zip]; omega
  refine odd_seqT (m := 0) (n := 3) (k := 400) (c := 6) (fun x hx => ?_) (by simp)
  simp only [List.mem_cons, List.mem_nil_iff, or_false] at hx
  rcases hx with rfl | rfl | rfl | rfl | rfl | rfl
  · exact oddP_str pa pl
  · exact oddP_str qa ql
  · exact odd_nat (by omega)
  · exact leadsT_odd st h7 _
  · exact costsT_odd h7 zl
  · exact classT_odd st h7 p
theorem told64_si (A : Rows) (p q : List Nat) : (told64 A p q).si = true := by
  have e1 : ∀ r : List Cost, (D.tup (rowDs r)).si = true := fun r => sis_all.mpr fun x hx => by
    obtain ⟨o, _, rfl⟩ := List.mem_map.mp hx
    cases o <;> rfl
  refine sis_all.mpr fun x hx => ?_
  simp only [List.mem_cons, List.mem_nil_iff, or_false] at hx
  rcases hx with rfl | rfl | rfl | rfl | rfl | rfl
  · rfl
  · rfl
  · rfl
  · exact e1 _
  · refine sis_all.mpr fun x hx => ?_
    obtain ⟨r, _, rfl⟩ := List.mem_map.mp hx
    exact e1 r
  · unfold classD
    refine sis_all.mpr fun x hx => ?_
    obtain ⟨r, _, rfl⟩ := List.mem_map.mp hx
    exact natsD_si _
theorem told64_dp (A : Rows) (p q : List Nat) : (told64 A p q).dp ≤ 3 := by
  have e1 : ∀ r : List Cost, (D.tup (rowDs r)).dp ≤ 1 := fun r => Nat.succ_le_succ (dps_le fun x hx => by
    obtain ⟨o, _, rfl⟩ := List.mem_map.mp hx
    cases o <;> exact Nat.le_refl _)
  have e2 : ∀ r : List Nat, (D.tup (natsD r)).dp ≤ 1 := fun r => Nat.succ_le_succ (dps_le fun x hx => by
    obtain ⟨o, _, rfl⟩ := List.mem_map.mp hx
    exact Nat.le_refl _)
  refine Nat.succ_le_succ (dps_le fun x hx => ?_)
  simp only [List.mem_cons, List.mem_nil_iff, or_false] at hx
  rcases hx with rfl | rfl | rfl | rfl | rfl | rfl
  · exact Nat.zero_le _
  · exact Nat.zero_le _
  · exact Nat.zero_le _
  · exact Nat.le_trans (e1 _) (by decide)
  · refine Nat.succ_le_succ (dps_le fun x hx => ?_)
    obtain ⟨r, _, rfl⟩ := List.mem_map.mp hx
    exact e1 r
  · unfold classD
    refine Nat.succ_le_succ (dps_le fun x hx => ?_)
    obtain ⟨r, _, rfl⟩ := List.mem_map.mp hx
    exact e2 r
end Pace
end
section
set_option Elab.async false
set_option linter.all false
set_option maxRecDepth 100000
set_option maxHeartbeats 4000000
namespace DL
open PySem PySem.Spec PyProof.Rows L2
def hatI (K : PySem.W.Frag) (wi : DTI) : TI := fun σ H R => ∃ F S G R', Ok K F H σ S G ∧ wi S G R' ∧ ∀ F1 H1 G1 J ds gd, Go F H G F1 H1 G1 → Gok K F1 H1 G1 → ItOk K F1 J ds gd → R' ds gd G1 → R J H1
theorem DI.hat {X : Cx} {tg iter : Expr} {wi : DTI} (h : DI X tg iter wi) : PI X tg iter (hatI X.K wi) := by
  obtain ⟨t, p, r⟩ := h.ex
  exact ⟨fun pins s σ H R I ⟨F, S, G, R', o, h1, k⟩ => p.run pins s σ H R I (r F H σ S G o R' h1 R k)⟩
/-- the list under way -/
structure AccL (K : PySem.W.Frag) (F1 H1 : Hp) (G1 : GH) (A : Addr) (F2 H2 : Hp) (G2 : GH) (accV : List V) (acc : List D) : Prop where
  go : Go F1 H1 G1 F2 H2 G2
  ok : Gok K F2 H2 G2
  at_ : H2 A = some (.lst accV)
  rs : Reps K F2 accV acc
  fn : F2 A = none
  gn : G2 A = none
theorem AccL.on {K : PySem.W.Frag} {F1 H1 : Hp} {G1 : GH} {A : Addr} {F2 H2 : Hp} {G2 : GH} {accV : List V} {acc : List D} (a : AccL K F1 H1 G1 A F2 H2 G2 accV acc) {F3 H3 : Hp} {G3 : GH} (e : Go F2 H2 G2 F3 H3 G3) (g : Gok K F3 H3 G3) : AccL K F1 H1 G1 A F3 H3 G3 accV acc :=
  ⟨a.go.trans e, g, (e.fr A _ a.at_ a.gn).1, a.rs.mono e.ex, e.no A _ a.at_ a.gn a.fn (fun _ z => nomatch z), (e.fr A _ a.at_ a.gn).2⟩
theorem AccL.push {K : PySem.W.Frag} {F1 H1 : Hp} {G1 : GH} {A : Addr} {F2 H2 : Hp} {G2 : GH} {accV : List V} {acc : List D} (a : AccL K F1 H1 G1 A F2 H2 G2 accV acc) (hA : H1 A = none) {y : V} {d : D} (r : Rep K F2 y d) : AccL K F1 H1 G1 A F2 (upd H2 A (.lst (accV ++ [y]))) G2 (accV ++ [y]) (acc ++ [d]) := by
  obtain ⟨go, g6, at_, rs, fd6, gn⟩ := a
  refine ⟨⟨go.ex, fun b u hb gb => ?_, go.no, fun b z => go.st b (upd_none z)⟩, ⟨g6.ex.updR fd6, fun c w hc => ?_, g6.one⟩, upd_same, rs.append (.one r), fd6, gn⟩
  · have q : b ≠ A := fun z => by rw [z, hA] at hb; cases hb
    rw [upd_ne q]
    exact go.fr b u hb gb
  · have q : c ≠ A := fun z => by rw [z, gn] at hc; cases hc
    obtain ⟨fa, ma⟩ := g6.at_ c w hc
    refine ⟨fa, ma.move (Ex.refl F2) (fun b u hb hc2 => ?_) fun c z => z⟩
    have q2 : b ≠ A := fun z => by
      rcases hc2 with hc2 | hc2
      · exact q (hc2 ▸ z)
      · rw [z, gn] at hc2; cases hc2
    rw [upd_ne q2]; exact hb
end DL
end
section
set_option Elab.async false
set_option linter.all false
set_option maxRecDepth 100000
set_option maxHeartbeats 4000000
namespace Pace
open PySem PySem.Spec PyProof.Rows L2 DL
structure MuP (A : Rows) (hs : List Nat) (o : Option Wd) : Prop where
  has : ∀ d, o = some d → (∀ c ∈ d, c ∈ hs) ∧ putsC A d = []
  first : ∀ p : Wd, (∀ c ∈ p, c ∈ hs) → putsC A p = [] → ∃ d, o = some d ∧ ¬ sl p d
def muKey : Option Wd → D
  | none => .non
  | some d => .tup [.int (d.length : Nat), wd d]
theorem MuP.le {A B : Rows} {hs : List Nat} {a b : Option Wd} (ma : MuP A hs a) (mb : MuP B hs b) (sub : ∀ p, putsC A p = [] → putsC B p = []) {d : Wd} (h : a = some d) : ∃ e, b = some e ∧ D.lt (muKey a) (muKey b) = false := by
  subst h
  obtain ⟨h1, h2⟩ := ma.has d rfl
  obtain ⟨e, he, hn⟩ := mb.first d h1 (sub d h2)
  subst he
  refine ⟨e, rfl, ?_⟩
  cases z : D.lt (muKey (some d)) (muKey (some e)) with
  | false => rfl
  | true => exact absurd (sl_of_lt z) hn
end Pace
end
section
set_option Elab.async false
set_option linter.all false
set_option maxRecDepth 100000
set_option maxHeartbeats 4000000
namespace DL
open PySem PySem.Spec PyProof.Rows L2 PySem.W
section
variable {X : Cx}
variable {pos : Pos}
theorem x_intB (b : Bool) (G : GH) (Q : DQ) : rIntC [.bl b] G Q = Q (.int (if b then 1 else 0)) G := rfl
end
end DL
end
section
set_option Elab.async false
set_option linter.all false
set_option maxRecDepth 100000
set_option maxHeartbeats 4000000
namespace DL
open PySem PySem.Spec PyProof.Rows L2
end DL
end
section
set_option Elab.async false
set_option linter.all false
set_option maxRecDepth 100000
set_option maxHeartbeats 4000000
namespace DL
open PySem PySem.Spec PyProof.Rows L2
end DL
end
section
set_option Elab.async false
set_option linter.all false
set_option maxRecDepth 100000
set_option maxHeartbeats 4000000
namespace DL
open PySem PySem.Spec PyProof.Rows L2 PySem.W PySem.Calls
end DL
end
section
set_option Elab.async false
set_option linter.all false
set_option maxRecDepth 100000
set_option maxHeartbeats 4000000
namespace DL
open PySem PySem.Spec PyProof.Rows L2 PySem.W PySem.Calls
/-- the cells of a zip over 4 iterators lie apart -/
structure ZipSep4 (z TI TO i1 i2 i3 i4 : Addr) (fp1 fp2 fp3 fp4 : List Addr) : Prop where
  TIz : TI ≠ z
  TOz : TO ≠ z
  TITO : TI ≠ TO
  TIi1 : TI ≠ i1
  mem1 : i1 ∈ fp1
  zf1 : z ∉ fp1
  Tf1 : TO ∉ fp1
  TIi2 : TI ≠ i2
  mem2 : i2 ∈ fp2
  zf2 : z ∉ fp2
  Tf2 : TO ∉ fp2
  TIi3 : TI ≠ i3
  mem3 : i3 ∈ fp3
  zf3 : z ∉ fp3
  Tf3 : TO ∉ fp3
  TIi4 : TI ≠ i4
  mem4 : i4 ∈ fp4
  zf4 : z ∉ fp4
  Tf4 : TO ∉ fp4
  sep1_2 : i1 ∉ fp2
  sep1_3 : i1 ∉ fp3
  sep1_4 : i1 ∉ fp4
  sep2_1 : i2 ∉ fp1
  sep2_3 : i2 ∉ fp3
  sep2_4 : i2 ∉ fp4
  sep3_1 : i3 ∉ fp1
  sep3_2 : i3 ∉ fp2
  sep3_4 : i3 ∉ fp4
  sep4_1 : i4 ∉ fp1
  sep4_2 : i4 ∉ fp2
  sep4_3 : i4 ∉ fp3
section
variable {prog : Program} {w : World} {A : Around} {E : Value → Shared → Prop} {s : Shared} {z TI TO i1 i2 i3 i4 : Addr} {fp1 fp2 fp3 fp4 : List Addr} {n1 n2 n3 n4 i : Nat} {P1 P2 P3 P4 : Nat → Value → Prop} {St1 St2 St3 St4 : Nat → Heap → Prop} {a1 a2 a3 a4 : Value}
theorem ZipSep4.zi1 (D : ZipSep4 z TI TO i1 i2 i3 i4 fp1 fp2 fp3 fp4) : z ≠ i1 := fun e => D.zf1 (by rw [e]; exact D.mem1)
theorem ZipSep4.zi2 (D : ZipSep4 z TI TO i1 i2 i3 i4 fp1 fp2 fp3 fp4) : z ≠ i2 := fun e => D.zf2 (by rw [e]; exact D.mem2)
end
end DL
end
section
set_option Elab.async false
set_option linter.all false
set_option maxRecDepth 100000
set_option maxHeartbeats 4000000
namespace DL
open PySem PySem.Spec PyProof.Rows L2 PySem.W PySem.Calls
end DL
end
section
set_option Elab.async false
set_option linter.all false
set_option maxRecDepth 100000
set_option maxHeartbeats 4000000
namespace DL
open PySem PySem.Spec PyProof.Rows L2
end DL
end
section
set_option Elab.async false
set_option linter.all false
set_option maxRecDepth 100000
set_option maxHeartbeats 4000000
namespace DL
open PySem PySem.Spec PyProof.Rows L2
section
variable {X : Cx} {pos : Pos}
def gFldT (K : PySem.W.Frag) (ta : TE) (f : Str) : TG := fun v σ H Q => ta σ H fun x H1 => ∃ a C dx fs, x = .ref a ∧ H1 a = some (.ins C dx fs) ∧ Cls K C ∧ NoAttr K C f ∧ fs.length < 1000 ∧ Q σ (upd H1 a (.ins C dx (L2.putF f v fs)))
theorem pg_fldT {o : Expr} {f : Str} {ta : TE} (he : PE X o ta) : PG X (.Attribute o f pos) (gFldT X.K ta f) := by
  refine ⟨fun pins s σ H v u Q I r h => PySem.W.kas_attr (thn (he.run pins s σ H _ I h) fun ov s1 ⟨x, H1, I1, rx, a, C, dx, fs, ex, ea, c, n, l, q⟩ => ?_)⟩
  subst ex
  obtain rfl : ov = Value.ref a := rx
  exact setattr_ok I1 ea c n l r fun s2 I2 => ⟨σ, _, I2, q⟩
def dgFld (C : Addr) (f : Str) (ta : DTE) : DTG := fun y S G Q => ta S G fun x G2 => match x with
  | .rf a => (match G2 a with
    | some (.ins C' fs) => C' = C ∧ fs.length < 1000 ∧ Q S (gput G2 a (.ins C (putFD f y fs)))
    | _ => False)
  | _ => False
theorem dg_fld {e : Expr} {f : Str} {C : Addr} {ta : DTE} (c : Cls X.K C) (na : NoAttr X.K C f) (he : DE X e ta) : DG X (.Attribute e f pos) (dgFld C f ta) := by
  obtain ⟨t1, p1, r1⟩ := he.ex
  refine ⟨_, pg_fldT p1, fun F H σ S G v d o r Q' h Q k => ?_⟩
  refine r1 F H σ S G o _ h _ fun F2 H2 u d2 G2 e2 g2 q2 h2 => ?_
  dsimp only at h2
  split at h2
  · rename_i a
    split at h2
    · rename_i C' fs eg
      obtain ⟨rfl, hl, h2⟩ := h2
      cases q2
      obtain ⟨fa, dx, kvs, ha, h3, h4⟩ := g2.at_ a _ eg
      have kr : KR X.K F2 kvs fs := ⟨h3, h4⟩
      have kr2 := kr.putF (f := f) (r.mono e2.ex)
      refine ⟨a, C', dx, kvs, rfl, ha, c, na, by rw [kr.len]; exact hl, ?_⟩
      have g3 := g2.put (u := .ins C' dx (L2.putF f v kvs)) (o := .ins C' (putFD f d fs)) eg rfl rfl ⟨dx, _, upd_same, kr2.ks, kr2.vs⟩
      exact k F2 _ σ S _ (e2.trans (Go.put eg)) ⟨g3, o.s.mono e2.ex⟩ h2
    · exact h2.elim
  · exact h2.elim
end
end DL
end
section
set_option Elab.async false
set_option linter.all false
set_option maxRecDepth 100000
set_option maxHeartbeats 4000000
namespace DL
open PySem PySem.Spec PyProof.Rows L2
section
variable {X : Cx} {pos : Pos}
def dListRg1 (ta : DTE) : DTE := fun S G Q => ta S G fun x G1 => match x with
  | .int j => RgOk 0 j ∧ Q (.lst ((List.range j.toNat).map fun i : Nat => .int (i : Int))) G1
  | _ => False
theorem de_listRg1 {a : Expr} {ta : DTE} {p q qos : Pos} (hc : X.calm = true) (hg : Gl X "list") (hm : X.mg "list" = none) (hg' : Gl X "range") (hm' : X.mg "range" = none) (ha : DE X a ta)
    (n1 : starEach [.Call (.Name "range" q) [a] [] qos] X.env = (false, eval (.Call (.Name "range" q) [a] [] qos) X.env) :: starEach [] X.env := by rfl)
    (na : starEach [a] X.env = (false, eval a X.env) :: starEach [] X.env := by rfl) :
    DE X (.Call (.Name "list" p) [.Call (.Name "range" q) [a] [] qos] [] pos) (dListRg1 ta) := by
  obtain ⟨t1, p1, r1⟩ := ha.ex
  refine ⟨_, pe_listRg hc hg hm (prg_1 hg' hm' p1 na) n1, fun F H σ S G o Q' h Q k => ?_⟩
  refine r1 F H σ S G o _ h _ fun F1 H1 v d G1 e1 g1 q1 h1 => ?_
  dsimp only at h1
  split at h1
  · rename_i j
    cases q1
    refine ⟨j, rfl, h1.1, fun p hp => ?_⟩
    have gr := Gr.new (u := .lst (rgV 0 j)) g1.ex hp
    refine k _ _ _ _ G1 (e1.trans gr.go) (g1.grow gr) (.lst upd_same ((rg_reps 0 j).mono gr.ff)) ?_
    have e : rgD 0 j = (List.range j.toNat).map fun i : Nat => D.int (i : Int) := by
      unfold rgD
      rw [Int.sub_zero]
      refine List.map_congr_left fun i _ => ?_
      rw [Int.zero_add]
    rw [e]
    exact h1.2
  · exact h1.elim
end
end DL
end
section
set_option Elab.async false
set_option linter.all false
set_option maxRecDepth 100000
set_option maxHeartbeats 4000000
namespace DL
open PySem PySem.Spec PyProof.Rows L2
def ItM (K : PySem.W.Frag) (l t : Addr) : It where
  go := fun j H => ∃ (us vs : List V) (u v : V), SqL K H l us ∧ SqT K H t vs ∧ us[j]? = some u ∧ vs[j]? = some v
  yld := fun j H r H' => ∃ T u v, r = .ref T ∧ H T = none ∧ H' = upd H T (.tup [u, v]) ∧ (∀ us, SqL K H l us → us[j]? = some u) ∧ ∀ vs, SqT K H t vs → vs[j]? = some v
  stop := fun j H => ∃ us vs : List V, SqL K H l us ∧ SqT K H t vs ∧ j ≤ us.length ∧ j ≤ vs.length ∧ (j = us.length ∨ j = vs.length)
section
variable {P : Program} {w : World} {K : PySem.W.Frag} {elts : List Expr} {kk : Nat} {tpos : Pos} {l t z TI TO j1 j2 : Addr}
theorem turn_M (S : ZipSep2 z TI TO j1 j2 [j1, l] [j2, t]) (n1 : l ≠ j1) (n2 : t ≠ j2) :
    Turn P w K (.Tuple elts kk tpos) (ItM K l t) [z, TI, TO, j1, j2] z (fun i h => IsZip h z TI TO .none ∧ IsPair h TI (.ref j1) (.ref j2) ∧ (∃ x y, IsPair h TO x y) ∧ h.IsListIter j1 l i ∧ h.IsTupleIter j2 t i) where
  mem := List.mem_cons_self ..
  obj := by
    rintro i h ⟨a1, a2, ⟨x, y, a3⟩, ⟨o4, a4, _, d4⟩, ⟨o5, a5, _, d5⟩⟩ b hb
    simp only [List.mem_cons, List.not_mem_nil, or_false] at hb
    rcases hb with rfl | rfl | rfl | rfl | rfl
    · exact ⟨_, a1, fun v q => by cases q⟩
    · exact ⟨_, a2, fun v q => by cases q⟩
    · exact ⟨_, a3, fun v q => by cases q⟩
    · exact ⟨_, a4, fun v q => by rw [d4] at q; cases q⟩
    · exact ⟨_, a5, fun v q => by rw [d5] at q; cases q⟩
  keep := by
    rintro i h h' ⟨a1, a2, ⟨x, y, a3⟩, a4, a5⟩ kp
    exact ⟨kp _ (by simp) _ a1, kp _ (by simp) _ a2, ⟨x, y, kp _ (by simp) _ a3⟩, a4.at (kp _ (by simp)), a5.at (kp _ (by simp))⟩
  item := by
    rintro X rfl rfl rfl calm i pins s σ H E I fp ⟨a1, a2, ⟨x0, y0, a3⟩, a4, a5⟩ ⟨us, vs, u, v, qu, qv, eu, ev⟩
    obtain ⟨bs, rb, pb, _⟩ := I.list qu
    obtain ⟨cs, rc, pc, _⟩ := I.tuple qv
    obtain ⟨b, hb, rub⟩ := rb.get eu
    obtain ⟨c, hc, rvc⟩ := rc.get ev
    have hd : X.A.in1.handled = none := I.ok.hd calm
    have zl : z < s.heap.objs.size := Heap.lt_size a1
    have l1 := (List.getElem?_eq_some_iff.mp hb).1
    have l2 := (List.getElem?_eq_some_iff.mp hc).1
    refine wpAny_pyNext_zipD2_item (i := i) S (Draws.list hd j1 l n1 bs.toArray) (Draws.tuple hd j2 t n2 cs.toArray) a1 a2 a3 ⟨a4, pb.isList⟩ ⟨a5, pc⟩ (by simpa using l1) (by simpa using l2)
      fun x1 x2 h1 tk e1 e2 k1 k2 k3 k4 k5 k6 k7 => ?_
    have f1 : x1 = b := by
      have : bs[i]? = some x1 := by simpa using e1
      rw [hb] at this
      exact (Option.some.inj this).symm
    have f2 : x2 = c := by
      have : cs[i]? = some x2 := by simpa using e2
      rw [hc] at this
      exact (Option.some.inj this).symm
    subst f1
    subst f2
    refine ⟨_, rfl, wpAny_letOwnedTupleGo_zip (s := { s with heap := h1, toks := tk }) k1 fun h2 m1 sb => ?_⟩
    have m2 : h2.get? s.heap.objs.size = some { cls := .type "tuple", data := .seq #[x1, x2] } := (sb.2 _ (Nat.ne_of_gt zl)).trans k5
    have ok : ObjOk X.prog X.w (upd H s.heap.objs.size (.tup [u, v])) h2 s.heap.objs.size (.tup [u, v]) :=
      ⟨show 2 ≤ sizeLine by decide, [x1, x2], .cons rub (.cons rvc .nil), _, m2, rfl, _, rfl⟩
    have out : ∀ c o, c ∉ [z, TI, TO, j1, j2] → s.heap.get? c = some o → h2.get? c = some o := fun c o hn e => by
      simp only [List.mem_cons, List.not_mem_nil, or_false, not_or] at hn
      exact (sb.2 c hn.1).trans (k7 c o hn.1 hn.2.2.1 hn.2.2.2.1 hn.2.2.2.2 e)
    have J : Inv X pins σ (upd H s.heap.objs.size (.tup [u, v])) { s with heap := h2, toks := tk } := I.turnedNew (t' := tk) (ch := [z, TI, TO, j1, j2]) out fp (Nat.le_refl _) ok
    refine ⟨.ref s.heap.objs.size, _, J, rfl, ⟨_, u, v, rfl, I.hok.fresh (Nat.le_refl _), rfl, fun ys hy => ?_, fun ys hy => ?_⟩, ⟨m1, ?_, ⟨x1, x2, ?_⟩, ?_, ?_⟩, fun c hm => ?_⟩
    · rw [I.list_inj hy qu]; exact eu
    · rw [I.tuple_inj hy qv]; exact ev
    · exact (sb.2 _ S.TIz).trans (k7 _ _ S.TIz S.TITO S.TIi1 S.TIi2 a2)
    · exact (sb.2 _ S.TOz).trans k2
    · exact k3.1.at fun o e => (sb.2 _ (Ne.symm S.zi1)).trans e
    · exact k4.1.at fun o e => (sb.2 _ (Ne.symm S.zi2)).trans e
    · have lt : c < s.heap.objs.size := by
        simp only [List.mem_cons, List.not_mem_nil, or_false] at hm
        rcases hm with rfl | rfl | rfl | rfl | rfl
        · exact zl
        · exact Heap.lt_size a2
        · exact Heap.lt_size a3
        · exact Heap.lt_size a4.choose_spec.1
        · exact Heap.lt_size a5.choose_spec.1
      rw [upd_ne (Nat.ne_of_lt lt)]
      exact (fp c hm).1
  done := by
    rintro X rfl rfl rfl calm i pins s σ H E I fp ⟨a1, a2, ⟨x0, y0, a3⟩, a4, a5⟩ ⟨us, vs, qu, qv, en⟩
    obtain ⟨bs, rb, pb, _⟩ := I.list qu
    obtain ⟨cs, rc, pc, _⟩ := I.tuple qv
    have hd : X.A.in1.handled = none := I.ok.hd calm
    have l1 := rb.length
    have l2 := rc.length
    refine wpAny_pyNext_zipD2_end (i := i) S (Draws.list hd j1 l n1 bs.toArray) (Draws.tuple hd j2 t n2 cs.toArray) a1 a2 a3 ⟨a4, pb.isList⟩ ⟨a5, pc⟩ (by simp; omega) (by simp; omega) (by simp; omega) fun h1 tk kp => ⟨rfl, ?_⟩
    refine I.turnedL (t' := tk) (ch := [z, TI, TO, j1, j2]) (fun c o hn e => ?_) fp
    simp only [List.mem_cons, List.not_mem_nil, or_false, not_or] at hn
    exact kp c o hn.1 hn.2.2.1 hn.2.2.2.1 hn.2.2.2.2 e
  self := fun A i s Q E st h => wpAny_pyIter_zip st.1 h
end
theorem apart_M {n l t : Nat} (hl : l < n) (ht : t < n) : ZipSep2 (n + 4) (n + 2) (n + 3) n (n + 1) [n, l] [n + 1, t] := by
  have k1 : ∀ a b c : Nat, a ≠ b → a ≠ c → a ∉ [b, c] := fun a b c h1 h2 h => by
    simp only [List.mem_cons, List.not_mem_nil, or_false] at h
    rcases h with h | h
    · exact h1 h
    · exact h2 h
  have a1 : n + 2 ≠ n + 4 := by omega
  have a2 : n + 3 ≠ n + 4 := by omega
  have a3 : n + 2 ≠ n + 3 := by omega
  have a4 : n + 2 ≠ n := by omega
  have a5 : n + 4 ∉ [n, l] := k1 _ _ _ (by omega) (by omega)
  have a6 : n + 3 ∉ [n, l] := k1 _ _ _ (by omega) (by omega)
  have a7 : n + 2 ≠ n + 1 := by omega
  have a8 : n + 4 ∉ [n + 1, t] := k1 _ _ _ (by omega) (by omega)
  have a9 : n + 3 ∉ [n + 1, t] := k1 _ _ _ (by omega) (by omega)
  have b1 : n ∉ [n + 1, t] := k1 _ _ _ (by omega) (by omega)
  have b2 : n + 1 ∉ [n, l] := k1 _ _ _ (by omega) (by omega)
  exact ⟨a1, a2, a3, a4, List.mem_cons_self .., a5, a6, a7, List.mem_cons_self .., a8, a9, b1, b2⟩
theorem five_M {n b : Nat} (h : b ∈ [n + 4, n + 2, n + 3, n, n + 1]) : n ≤ b := by
  simp only [List.mem_cons, List.not_mem_nil, or_false] at h
  omega
section
variable {X : Cx} {pos : Pos}
def iZipM (K : PySem.W.Frag) (ta : TA) : TI := fun σ H R => ta σ H fun zs H1 => ∃ l t us vs, zs = [.ref l, .ref t] ∧ SqL K H1 l us ∧ SqT K H1 t vs ∧ R (ItM K l t) H1
theorem pi_zipM {e e2 : Expr} {ta : TA} {p tpos : Pos} {elts : List Expr} {kk : Nat} (hg : Gl X "zip") (hm : X.mg "zip" = none) (ha : PA X [e, e2] ta)
    (hs : starEach [e, e2] X.env = (false, eval e X.env) :: starEach [e2] X.env) (hpl : (backTo pos (starEach [e2] X.env)).any (·.1) = false) : PI X (.Tuple elts kk tpos) (.Call (.Name "zip" p) [e, e2] [] pos) (iZipM X.K ta) := by
  constructor
  intro pins s σ H R I h
  refine Call_ (ld_blt I hg hm PyProof.Rows.boot_zip (PyProof.Rows.callWith_type1 (thn (ha.run pos pins s σ H _ I h) ?_) hs hpl))
  rintro us s1 ⟨zs, H1, I1, r1, l, t, as, bs, rfl, qa, qb, q⟩
  cases r1 with
  | cons ra rest =>
    cases rest with
    | cons rb rest =>
      cases rest
      cases ra
      cases rb
      obtain ⟨xs, _, pa, _⟩ := I1.list qa
      obtain ⟨ys, _, pb, _⟩ := I1.tuple qb
      have la : l < s1.heap.objs.size := pa.lt
      have lb : t < s1.heap.objs.size := by obtain ⟨o, ho, _⟩ := id pb; exact Heap.lt_size ho
      refine zip_begins2 (begins_list l xs.toArray) (begins_tuple t ys.toArray) pa.isList pb fun h' k1 k2 k3 k4 k5 k6 k7 => wpAny_pyIter_zip k1 ?_
      refine ⟨s1.heap.objs.size + 4, [s1.heap.objs.size + 4, s1.heap.objs.size + 2, s1.heap.objs.size + 3, s1.heap.objs.size, s1.heap.objs.size + 1], _, _, H1, rfl, I1.kept (t' := s1.toks) k7, turn_M (apart_M la lb) (Nat.ne_of_lt la) (Nat.ne_of_lt (Nat.lt_succ_of_lt lb)), ⟨k1, k2, ⟨_, _, k3⟩, ⟨_, k4, rfl, rfl⟩, ⟨_, k5, rfl, rfl⟩⟩, fun b hb => ?_, q⟩
      have := five_M hb
      exact I1.fpOk this (I1.hok.fresh this)
/-- zip of a list and a tuple -/
def diZipM (ta : DTA) : DTI := fun S G R => ta S G fun ds G1 => match ds with
  | [.lst xs, .tup ys] => R (List.zipWith (fun a b => .tup [a, b]) xs ys) dNoGuard G1
  | _ => False
theorem di_zipM {e e2 : Expr} {ta : DTA} {p tpos : Pos} {elts : List Expr} {kk : Nat} (hg : Gl X "zip") (hm : X.mg "zip" = none) (ha : DA X [e, e2] ta)
    (hs : starEach [e, e2] X.env = (false, eval e X.env) :: starEach [e2] X.env := by rfl) (hpl : (backTo pos (starEach [e2] X.env)).any (·.1) = false := by rfl) : DI X (.Tuple elts kk tpos) (.Call (.Name "zip" p) [e, e2] [] pos) (diZipM ta) := by
  obtain ⟨t, p1, r⟩ := ha.ex
  refine ⟨_, pi_zipM hg hm p1 hs hpl, fun F H σ S G o R' h R k => ?_⟩
  refine r F H σ S G o _ h _ fun F1 H1 vs ds G1 e1 g1 q1 h1 => ?_
  dsimp only at h1
  split at h1
  · rename_i xs ys
    cases q1 with
    | cons a b =>
      cases b with
      | cons c d =>
        cases d
        cases a with
        | lst ha ra =>
          cases c with
          | tup hb rb =>
            rename_i la va tb vb
            have seqs : ∀ F2 H2 G2, Ex F1 F2 → Gok X.K F2 H2 G2 → SqL X.K H2 la va ∧ SqT X.K H2 tb vb := fun F2 H2 G2 e2 g2 => ⟨.inl (.inl (g2.ex _ _ (e2 _ _ ha))), .inl (.inl (g2.ex _ _ (e2 _ _ hb)))⟩
            obtain ⟨s1, s2⟩ := seqs F1 H1 G1 (fun _ _ z => z) g1
            refine ⟨la, tb, va, vb, rfl, s1, s2, k F1 H1 G1 _ _ _ e1 g1 ⟨fun F2 H2 G2 i d e2 g2 _ hd => ?_, fun F2 H2 G2 e2 g2 _ => ?_⟩ h1⟩
            · obtain ⟨sa, sb⟩ := seqs F2 H2 G2 e2 g2
              obtain ⟨x, y, ex, ey, rfl⟩ : ∃ x y, xs[i]? = some x ∧ ys[i]? = some y ∧ d = .tup [x, y] := by
                rw [List.getElem?_zipWith] at hd
                cases ea : xs[i]? with
                | none => simp [ea] at hd
                | some x =>
                  cases eb : ys[i]? with
                  | none => simp [ea, eb] at hd
                  | some y =>
                    simp only [ea, eb] at hd
                    cases hd
                    exact ⟨x, y, rfl, rfl, rfl⟩
              obtain ⟨u, hu, ru⟩ := ra.get ex
              obtain ⟨v, hv, rv⟩ := rb.get ey
              refine ⟨⟨va, vb, u, v, sa, sb, hu, hv⟩, fun r H3 hy => ?_⟩
              obtain ⟨T, u', v', rfl, hT, rfl, z1, z2⟩ := hy
              have z1 := z1 va sa
              have z2 := z2 vb sb
              rw [hu] at z1
              rw [hv] at z2
              cases z1
              cases z2
              have gr := Gr.new (u := .tup [u, v]) g2.ex hT
              exact ⟨_, gr.go, g2.grow gr, .tup upd_same (.cons ((ru.mono e2).mono gr.ff) (.cons ((rv.mono e2).mono gr.ff) .nil))⟩
            · obtain ⟨sa, sb⟩ := seqs F2 H2 G2 e2 g2
              have l1 := ra.length
              have l2 := rb.length
              refine ⟨va, vb, sa, sb, ?_, ?_, ?_⟩ <;> rw [List.length_zipWith] <;> omega
  · exact h1.elim
end
end DL
end
section
set_option Elab.async false
set_option linter.all false
set_option maxRecDepth 100000
set_option maxHeartbeats 4000000
namespace DL
open PySem PySem.Spec PyProof.Rows L2
end DL
end
section
set_option Elab.async false
set_option linter.all false
set_option maxRecDepth 100000
set_option maxHeartbeats 4000000
namespace DL
open PySem PySem.Spec PyProof.Rows L2
end DL
end
section
set_option Elab.async false
set_option linter.all false
set_option maxRecDepth 100000
set_option maxHeartbeats 4000000
namespace PySem.W
open Lean Elab Tactic Meta PySem PySem.Calls PyProof.Rows PyProof.V PySem.Spec
end PySem.W
namespace DL
open PySem PySem.Spec PyProof.Rows L2
end DL
end
section
set_option Elab.async false
set_option linter.all false
set_option maxRecDepth 100000
set_option maxHeartbeats 4000000
namespace DL
open PySem PySem.Spec PyProof.Rows L2
def okVal (p : Key × D) : Bool := p.2.pl && decide (p.2.py.depth ≤ 60)
def hitK (b : List (Key × D)) : List (Key × D) → Bool
  | [] => true
  | p :: r => match valD b p.1 with
    | none => false
    | some y => D.eqv p.2 y && hitK b r
def eqvK (a b : List (Key × D)) : Bool := a.length == b.length && hitK b a
section
variable {X : Cx}
theorem okVal_of {p : Key × D} (h : okVal p = true) : p.2.pl = true ∧ p.2.py.depth ≤ 60 := by
  unfold okVal at h
  simp only [Bool.and_eq_true, decide_eq_true_eq] at h
  exact h
theorem hits_of {pins : List (Addr × Obj)} {σ : L2.St} {H F : Hp} {s : Shared} (I : Inv X pins σ H s) (hu : X.A.units + 100 < cLine) (ex : Ex F H) {lb : List (Key × V)} {db : List (Key × D)} {vb : List (Key × Value)} (kb : KR X.K F lb db) (rb : KV lb vb) (ob : db.all okVal = true) :
    ∀ {la : List (Key × V)} {da : List (Key × D)} {va : List (Key × Value)}, KR X.K F la da → KV la va → da.all okVal = true → PySem.W.KeqHits X.A.in1 s vb va (hitK db da)
  | [], da, va, ka, ra, oa => by
    have := ka.ks
    have e : da = [] := by simpa using this.symm
    subst e
    cases ra
    exact .nil
  | p :: la, da, va, ka, ra, oa => by
    cases da with
    | nil => have := ka.ks; simp at this
    | cons q da =>
      have h1 := ka.ks
      have h2 := ka.vs
      rw [List.map_cons, List.map_cons] at h1
      injection h1 with e1 e2
      rw [List.map_cons, List.map_cons] at h2
      cases h2 with
      | cons r rs =>
        have ra' : Paired (fun (p : Key × V) (q : Key × Value) => p.1 = q.1 ∧ RelV p.2 q.2) (p :: la) va := ra
        cases ra' with
        | @cons _ z _ zs hz ht =>
          obtain ⟨z1, z2⟩ := hz
          rw [List.all_cons, Bool.and_eq_true] at oa
          obtain ⟨pl1, dp1⟩ := okVal_of oa.1
          have ih := hits_of I hu ex kb rb ob (la := la) (da := da) (va := zs) ⟨e2, rs⟩ ht oa.2
          obtain ⟨k, v⟩ := z
          have z1 : p.1 = k := z1
          subst z1
          have rv := rb.val p.1
          have kv := kb.val (k := p.1)
          unfold hitK
          rw [← e1]
          cases ed : valD db p.1 with
          | none =>
            have ev := kv.2 ed
            rw [ev] at rv
            cases eo : valueAt vb p.1 with
            | none => exact .miss eo
            | some u => rw [eo] at rv; exact rv.elim
          | some y =>
            obtain ⟨y2, ev, ry⟩ := kv.1 y ed
            rw [ev] at rv
            cases eo : valueAt vb p.1 with
            | none => rw [eo] at rv; exact rv.elim
            | some u =>
                rw [eo] at rv
                have oy : okVal (p.1, y) = true := by
                  have hm : ∃ t ∈ db, t.2 = y := by
                    unfold valD at ed
                    rw [Option.map_eq_some_iff] at ed
                    obtain ⟨t, h1, h2⟩ := ed
                    exact ⟨t, List.mem_of_find?_eq_some h1, h2⟩
                  obtain ⟨t, t1, t2⟩ := hm
                  have := List.all_eq_true.mp ob t t1
                  unfold okVal at this ⊢
                  rw [← t2]
                  exact this
                obtain ⟨pl2, dp2⟩ := okVal_of oy
                obtain ⟨as, r1⟩ := Dp.reads I _ _ _ (Dp.mono' ex _ (Rep.dp _ r pl1)) z2
                obtain ⟨bs, r2⟩ := Dp.reads I _ _ _ (Dp.mono' ex _ (Rep.dp _ ry pl2)) rv
                refine .hit eo (SeqAt.eqAt_plain _ _ X.A.in1 s _ _ _ _ r1 r2 (D.py_plain _ pl1) (D.py_plain _ pl2) ?_) ih
                have : X.A.in1.units ≤ X.A.units + 1 := by simp [Around.in1]
                omega
def vNeK (K : PySem.W.Frag) (f : Bool → Bool) : R2 := fun x y H Q => ∃ a b la lb da db F, x = .ref a ∧ y = .ref b ∧ H a = some (.dK la) ∧ H b = some (.dK lb) ∧ Ex F H ∧ KR K F la da ∧ KR K F lb db ∧ da.all okVal = true ∧ db.all okVal = true ∧ Q (.bl (f (eqvK da db))) H
theorem kr_len {K : PySem.W.Frag} {F : Hp} {la : List (Key × V)} {da : List (Key × D)} (k : KR K F la da) : la.length = da.length := by
  have := congrArg List.length k.ks
  simpa using this
theorem op_neK (hu : X.A.units + 100 < cLine) : OpR X (compareOp .NotEq) (vNeK X.K (!·)) := by
  intro pins s σ H x y v u Q I rx ry h
  obtain ⟨a, b, la, lb, da, db, F, rfl, rfl, ha, hb, ex, ka, kb, oa, ob, q⟩ := h
  cases rx
  cases ry
  obtain ⟨_, sA, va, ra, dA⟩ := I.hok a _ ha
  obtain ⟨_, sB, vb, rb, dB⟩ := I.hok b _ hb
  refine PySem.W.keq_ne sA sB dA dB (by omega) (fun _ => hits_of I hu ex kb rb ob ka ra oa) ?_
  refine ⟨.bl (!eqvK da db), H, I, ?_, q⟩
  show Value.bool _ = _
  unfold eqvK
  rw [← ra.length, ← rb.length, kr_len ka, kr_len kb]
def rNeK (f : Bool → Bool) : DR2 := fun x y G Q => ∃ a b, x.cur G = .dK a ∧ y.cur G = .dK b ∧ a.all okVal = true ∧ b.all okVal = true ∧ Q (.bl (f (eqvK a b))) G
theorem od_neK (hu : X.A.units + 100 < cLine) : OpD X (compareOp .NotEq) (rNeK (!·)) := ⟨_, op_neK hu, fun F H G x y dx dy g rx ry Q' h Q k => by
  obtain ⟨la, lb, e1, e2, o1, o2, h⟩ := h
  obtain ⟨a, va, rfl, ha, ra⟩ := cur_dK g rx e1
  obtain ⟨b, vb, rfl, hb, rb⟩ := cur_dK g ry e2
  exact ⟨a, b, va, vb, la, lb, F, rfl, rfl, ha, hb, g.ex, ra, rb, o1, o2, k F H _ _ G Go.refl g (.bl _) h⟩⟩
end
end DL
end
section
set_option Elab.async false
set_option linter.all false
set_option maxRecDepth 100000
set_option maxHeartbeats 4000000
namespace DL
open PySem PySem.Spec PyProof.Rows L2
section
variable {X : Cx} {pos : Pos}
/-- is it the bool b -/
def D.isBl : D → Bool → Option Bool
  | .bl a, b => some (decide (a = b))
  | .non, _ => some false
  | .obj _ _, _ => some false
  | .tup _, _ => some false
  | .lst _, _ => some false
  | .rf _, _ => some false
  | _, _ => none
def rIsBl2 (f : Bool → Bool) : DR2 := fun x y G Q => match y with
  | .bl b => (match x.isBl b with
    | some c => Q (.bl (f c)) G
    | none => False)
  | _ => False
theorem od_isB2 : OpD X (compareOp .Is) (rIsBl2 id) := by
  refine ⟨fun x y H Q => ∃ b, y = .bl b ∧ ((∃ a, x = .bl a ∧ Q (.bl (decide (a = b))) H) ∨ ((x = .non ∨ ∃ a, x = .ref a) ∧ Q (.bl false) H)), ?_, ?_⟩
  · intro pins s σ H x y v u Q I rx ry h
    obtain ⟨b, rfl, h⟩ := h
    cases (show u = Value.bool b from ry)
    rcases h with ⟨a, rfl, q⟩ | ⟨h, q⟩
    · cases (show v = Value.bool a from rx)
      by_cases e : a = b
      · subst e
        exact wpAny_is_self rfl ⟨.bl true, H, I, rfl, by simpa using q⟩
      · exact wpAny_is_other rfl (fun z => e (Value.bool.inj z)) ⟨.bl false, H, I, rfl, by simpa [e] using q⟩
    · rcases h with rfl | ⟨a, rfl⟩
      · cases (show v = Value.none from rx)
        exact wpAny_is_other rfl (fun z => by cases z) ⟨.bl false, H, I, rfl, q⟩
      · cases (show v = Value.ref a from rx)
        exact wpAny_is_other rfl (fun z => by cases z) ⟨.bl false, H, I, rfl, q⟩
  · intro F H G x y dx dy g rx ry Q' h Q k
    unfold rIsBl2 at h
    split at h
    · rename_i b
      cases ry
      refine ⟨b, rfl, ?_⟩
      have kk : ∀ c, Q' (.bl c) G → Q (.bl c) H := fun c h => k F H _ _ G Go.refl g (.bl _) h
      cases dx <;> simp only [D.isBl] at h <;> cases rx <;> first
        | exact .inl ⟨_, rfl, kk _ h⟩
        | exact .inr ⟨.inl rfl, kk _ h⟩
        | exact .inr ⟨.inr ⟨_, rfl⟩, kk _ h⟩
        | exact h.elim
    · exact h.elim
end
end DL
end
section
set_option Elab.async false
set_option linter.all false
set_option maxRecDepth 100000
set_option maxHeartbeats 4000000
namespace DL
open PySem PySem.Spec PyProof.Rows L2
section
variable {X : Cx} {pos : Pos} {tg : Expr}
def diKeysK (te : DTE) : DTI := fun S G R => te S G fun d G1 => match d with
  | .rf p => (match G1 p with
    | some (.lkK o kvs kds) => R (kds.map fun kv => keyD kv.1) (fun G => G p = some (.lkK o kvs kds)) G1
    | _ => False)
  | _ => False
theorem di_keysK {e : Expr} {te : DTE} (h : DE X e te) : DI X tg e (diKeysK te) := by
  obtain ⟨t, p, r⟩ := h.ex
  refine ⟨_, pi_keys p, fun F H σ S G o R' h R k => ?_⟩
  refine r F H σ S G o _ h _ fun F1 H1 v d G1 e1 g1 q1 h1 => ?_
  dsimp only at h1
  split at h1
  · rename_i a
    split at h1
    · rename_i ob kvs kds ea
      cases q1
      obtain ⟨_, hh, hk, hr⟩ := g1.at_ a _ ea
      refine ⟨a, ob, rfl, .inl ⟨kvs, hh, k F1 H1 G1 _ _ _ e1 g1 ⟨fun F2 H2 G2 i d e2 g2 gd hd => ?_, fun F2 H2 G2 e2 g2 gd => ?_⟩ h1⟩⟩
      · obtain ⟨_, hh2, hk2, _⟩ := g2.at_ a _ gd
        rw [List.getElem?_map] at hd
        have hlen : kvs.length = kds.length := by simpa using congrArg List.length hk2
        cases ei : kds[i]? with
        | none => rw [ei] at hd; cases hd
        | some kv =>
          rw [ei] at hd
          cases hd
          have hi := (List.getElem?_eq_some_iff.mp ei).1
          refine ⟨⟨hh2, by omega⟩, fun x H3 hy => ?_⟩
          obtain ⟨rfl, kk, vv, hkv, rfl⟩ := hy
          have ek : kk = kv.1 := by
            have z := congrArg (fun l => l[i]?) hk2
            simp only [List.getElem?_map, hkv, ei, Option.map_some, Option.some.injEq] at z
            exact z
          subst ek
          exact ⟨F2, Go.refl, g2, keyD_rep _⟩
      · obtain ⟨_, hh2, hk2, _⟩ := g2.at_ a _ gd
        have hlen : kvs.length = kds.length := by simpa using congrArg List.length hk2
        exact ⟨hh2, by simp; omega⟩
    · exact h1.elim
  · exact h1.elim
/-- the dict at p is locked while the statement runs -/
def dLockK (t : DTS) : DTS := fun D' S G => ∃ p kds, G p = some (.dK kds) ∧ ∀ o kvs, t ⟨fun S' G' => G' p = some (.lkK o kvs kds) ∧ D'.nx S' (gput G' p (.dK kds)), fun d G' => G' p = some (.lkK o kvs kds) ∧ D'.rt d (gput G' p (.dK kds)),
  fun S' G' => G' p = some (.lkK o kvs kds) ∧ D'.bk S' (gput G' p (.dK kds)), fun S' G' => G' p = some (.lkK o kvs kds) ∧ D'.ct S' (gput G' p (.dK kds))⟩ S (gput G p (.lkK o kvs kds))
theorem dp_lockK {st : Stmt} {t' : DTS} (h : DP X st t') : DP X st (dLockK t') := by
  obtain ⟨t, p, r⟩ := h.ex
  refine ⟨_, ps_lock p, fun F H σ S G o D' h D0 k => ?_⟩
  obtain ⟨a, kds, ga, h⟩ := h
  obtain ⟨fa, kvs, ha, hk, hr⟩ := o.g.at_ a _ ga
  refine ⟨a, .dK kvs, ha, trivial, fun od => ?_⟩
  have g1 : Gok X.K F (upd H a (.frz od (.dK kvs))) (gput G a (.lkK od kvs kds)) := o.g.put ga rfl rfl ⟨upd_same, hk, hr⟩
  have back : ∀ F' H' G', Go F (upd H a (.frz od (.dK kvs))) (gput G a (.lkK od kvs kds)) F' H' G' → Gok X.K F' H' G' → G' a = some (.lkK od kvs kds) →
      H' a = some (.frz od (.dK kvs)) ∧ Gok X.K F' (upd H' a (.dK kvs)) (gput G' a (.dK kds)) ∧ Go F H G F' (upd H' a (.dK kvs)) (gput G' a (.dK kds)) := fun F' H' G' go g2 ga2 => by
    obtain ⟨fa2, hh2, hk2, hr2⟩ := g2.at_ a _ ga2
    exact ⟨hh2, g2.put ga2 rfl rfl ⟨kvs, upd_same, hk2, hr2⟩, ((Go.put (u := .frz od (.dK kvs)) ga).trans go).trans (Go.put ga2)⟩
  refine r F _ σ S _ ⟨g1, o.s⟩ _ (h od kvs) _ ⟨fun F' H' σ' S' G' go o2 q => ?_, fun F' H' v d G' go g2 rv q => ?_, fun F' H' σ' S' G' go o2 q => ?_, fun F' H' σ' S' G' go o2 q => ?_⟩
  · obtain ⟨b1, b2, b3⟩ := back F' H' G' go o2.g q.1
    exact ⟨b1, k.nx F' _ σ' S' _ b3 ⟨b2, o2.s⟩ q.2⟩
  · obtain ⟨b1, b2, b3⟩ := back F' H' G' go g2 q.1
    exact ⟨b1, k.rt F' _ v d _ b3 b2 rv q.2⟩
  · obtain ⟨b1, b2, b3⟩ := back F' H' G' go o2.g q.1
    exact ⟨b1, k.bk F' _ σ' S' _ b3 ⟨b2, o2.s⟩ q.2⟩
  · obtain ⟨b1, b2, b3⟩ := back F' H' G' go o2.g q.1
    exact ⟨b1, k.ct F' _ σ' S' _ b3 ⟨b2, o2.s⟩ q.2⟩
def rItemK : DR2 := fun x y G Q => match x with
  | .rf p => (match G p with
    | some (.lkK _ _ kds) => (match y.key with
      | some k => (match valD kds k with
        | some d => Q d G
        | none => False)
      | none => False)
    | _ => False)
  | _ => False
theorem de_ixK {a b : Expr} {ta tb : DTE} (hu : X.A.units + 100 < cLine) (ha : DE X a ta) (hb : DE X b tb) (hs : PlainIx b := by intro _ _; rfl) : DE X (.Subscript a b pos) (dOp rItemK ta tb) := by
  obtain ⟨t1, p1, r1⟩ := ha.ex
  obtain ⟨t2, p2, r2⟩ := hb.ex
  refine ⟨_, pe_ix (ix_dict hu) p1 p2 hs, dop_of (a := a) (b := b) ?_ r1 r2⟩
  intro F H G x y dx dy g rx ry Q' h Q k
  unfold rItemK at h
  split at h
  · rename_i p
    split at h
    · rename_i o kvs kds gp
      split at h
      · rename_i kk ek
        split at h
        · rename_i d ed
          obtain ⟨_, hh, hk, hr⟩ := g.at_ p _ gp
          cases rx
          have ey := ry.key ek
          subst ey
          have kr : KR X.K F kvs kds := ⟨hk, hr⟩
          obtain ⟨z, h1, h2⟩ := kr.val.1 d ed
          exact ⟨p, z, rfl, .inl ⟨kvs, kk, .inr ⟨o, hh⟩, rfl, h1.symm⟩, k F H _ _ G Go.refl g h2 h⟩
        · exact h.elim
      · exact h.elim
    · exact h.elim
  · exact h.elim
end
end DL
end
section
set_option Elab.async false
set_option linter.all false
set_option maxRecDepth 100000
set_option maxHeartbeats 4000000
namespace DL
open PySem PySem.Spec PyProof.Rows L2
section
variable {X : Cx} {pos : Pos}
theorem dex_binR {a b : Expr} {op : Operator} {C : Addr} {m : Str} {k : Nat} {ps : List Str} {sp : SpX} {ta tb : DTE} (n : NeO X.K C) (c : CalMX X.prog X.w X.K X.mg X.base C m k ps sp) (hop : PySem.dunder op.info.2 = m) (hA : X.A.guards = some []) (hr : Room k X.A) (ha : DE X a ta) (hb : DE X b tb) :
    DEX X (.BinOp a op b pos) (fun S G Q E => ta S G fun x G1 => tb S G1 fun y G2 => match x.cur G2, y.cur G2 with
      | .obj C1 _, .obj C2 _ => C1 = C ∧ C2 = C ∧ sp [x, y] G2 (fun d G' => match d.cur G' with
        | .obj _ _ => Q d G'
        | _ => False) E
      | _, _ => False) := ⟨fun W tk => by
  obtain ⟨f, fd, M, Fn, hbd⟩ := c.ex
  obtain ⟨t1, p1, r1⟩ := ha.ex
  obtain ⟨t2, p2, r2⟩ := hb.ex
  refine ⟨fun σ H Q => t1 σ H fun x H1 => t2 σ H1 fun y H2 => ∃ a b dx dy fs gs, x = .ref a ∧ y = .ref b ∧ H2 a = some (.ins C dx fs) ∧ H2 b = some (.ins C dy gs) ∧ SpOfX X.K sp [.ref a, .ref b] H2 (fun v H' => (∃ c, v = .ref c) ∧ Q v H') (WE W σ),
    ⟨fun pins s σ H Q I h => ?_⟩, fun F H σ S G o Q' E' h Q k kx => ?_⟩
  · refine wpAny_BinOp (binT p1 p2 I h fun v u s2 x y H2 I2 rx ry q => ?_)
    obtain ⟨a, b, dx, dy, fs, gs, rfl, rfl, ha, hb', q⟩ := q
    cases rx
    cases ry
    obtain ⟨mA, J, _⟩ := ins_get I2.hok ha
    obtain ⟨mB, J', _⟩ := ins_get I2.hok hb'
    obtain ⟨od, J, _⟩ := J.look
    obtain ⟨od', J', _⟩ := J'.look
    obtain ⟨m', hF⟩ := I2.fr
    refine PySem.W.binop_K hF I2.ok.mod.kin J J'.type n.sf (hop ▸ M.at_) M.fn ?_
    have rr : Vals [V.ref a, V.ref b] [Value.ref a, Value.ref b] := .cons rfl (.cons rfl .nil)
    refine wpAny_mono (goes_fnS (us := [.ref a, .ref b]) Fn hA hr (fun s2 i l => by simpa using hbd s2 [.ref a, .ref b] i (by simpa using l)) tk I2 rr q) (fun w s' z => ?_) fun _ _ z => z
    obtain ⟨v', H', I', rv, ⟨b0, rfl⟩, q'⟩ := z
    cases rv
    exact ⟨.ref b0, H', I', rfl, q'⟩
  · refine r1 F H σ S G o _ h _ fun F1 H1 v d G1 e1 g1 q1 h1 => ?_
    refine r2 F1 H1 σ S G1 (o.go e1 g1) _ h1 _ fun F2 H2 u d2 G2 e2 g2 q2 h2 => ?_
    dsimp only at h2
    split at h2
    · rename_i C1 fs1 C2 fs2 x1 x2
      obtain ⟨rfl, rfl, h2⟩ := h2
      obtain ⟨a, d1, k1, rfl, ha, _⟩ := cur_obj g2 (q1.mono e2.ex) x1
      obtain ⟨b, d2', k2, rfl, hb, _⟩ := cur_obj g2 q2 x2
      refine ⟨a, b, d1, d2', k1, k2, rfl, rfl, ha, hb, F2, G2, [d, d2], _, E', g2, .cons (q1.mono e2.ex) (.cons q2 .nil), h2, ?_, fun F' H' G' cls d C fs a b c q => kx F' H' G' cls d C fs ((e1.trans e2).trans a) b c q⟩
      intro F' H' v d G' a b c z
      split at z
      · rename_i C3 fs3 e3
        obtain ⟨c', d3, k3, rfl, hc, _⟩ := cur_obj b c e3
        exact ⟨⟨_, rfl⟩, k F' H' _ _ G' ((e1.trans e2).trans a) b c z⟩
      · exact z.elim
    · exact h2.elim⟩
end
end DL
end
section
set_option Elab.async false
set_option linter.all false
set_option maxRecDepth 100000
set_option maxHeartbeats 4000000
namespace DL
open PySem PySem.Spec PyProof.Rows L2
def ItLL (K : PySem.W.Frag) (l t : Addr) : It where
  go := fun j H => ∃ (us vs : List V) (u v : V), SqL K H l us ∧ SqL K H t vs ∧ us[j]? = some u ∧ vs[j]? = some v
  yld := fun j H r H' => ∃ T u v, r = .ref T ∧ H T = none ∧ H' = upd H T (.tup [u, v]) ∧ (∀ us, SqL K H l us → us[j]? = some u) ∧ ∀ vs, SqL K H t vs → vs[j]? = some v
  stop := fun j H => ∃ us vs : List V, SqL K H l us ∧ SqL K H t vs ∧ j ≤ us.length ∧ j ≤ vs.length ∧ (j = us.length ∨ j = vs.length)
section
variable {P : Program} {w : World} {K : PySem.W.Frag} {elts : List Expr} {kk : Nat} {tpos : Pos} {l t z TI TO j1 j2 : Addr}
theorem turn_LL (S : ZipSep2 z TI TO j1 j2 [j1, l] [j2, t]) (n1 : l ≠ j1) (n2 : t ≠ j2) :
    Turn P w K (.Tuple elts kk tpos) (ItLL K l t) [z, TI, TO, j1, j2] z (fun i h => IsZip h z TI TO .none ∧ IsPair h TI (.ref j1) (.ref j2) ∧ (∃ x y, IsPair h TO x y) ∧ h.IsListIter j1 l i ∧ h.IsListIter j2 t i) where
  mem := List.mem_cons_self ..
  obj := by
    rintro i h ⟨a1, a2, ⟨x, y, a3⟩, ⟨o4, a4, _, d4⟩, ⟨o5, a5, _, d5⟩⟩ b hb
    simp only [List.mem_cons, List.not_mem_nil, or_false] at hb
    rcases hb with rfl | rfl | rfl | rfl | rfl
    · exact ⟨_, a1, fun v q => by cases q⟩
    · exact ⟨_, a2, fun v q => by cases q⟩
    · exact ⟨_, a3, fun v q => by cases q⟩
    · exact ⟨_, a4, fun v q => by rw [d4] at q; cases q⟩
    · exact ⟨_, a5, fun v q => by rw [d5] at q; cases q⟩
  keep := by
    rintro i h h' ⟨a1, a2, ⟨x, y, a3⟩, a4, a5⟩ kp
    exact ⟨kp _ (by simp) _ a1, kp _ (by simp) _ a2, ⟨x, y, kp _ (by simp) _ a3⟩, a4.at (kp _ (by simp)), a5.at (kp _ (by simp))⟩
  item := by
    rintro X rfl rfl rfl calm i pins s σ H E I fp ⟨a1, a2, ⟨x0, y0, a3⟩, a4, a5⟩ ⟨us, vs, u, v, qu, qv, eu, ev⟩
    obtain ⟨bs, rb, pb, _⟩ := I.list qu
    obtain ⟨cs, rc, pc, _⟩ := I.list qv
    obtain ⟨b, hb, rub⟩ := rb.get eu
    obtain ⟨c, hc, rvc⟩ := rc.get ev
    have hd : X.A.in1.handled = none := I.ok.hd calm
    have zl : z < s.heap.objs.size := Heap.lt_size a1
    have l1 := (List.getElem?_eq_some_iff.mp hb).1
    have l2 := (List.getElem?_eq_some_iff.mp hc).1
    refine wpAny_pyNext_zipD2_item (i := i) S (Draws.list hd j1 l n1 bs.toArray) (Draws.list hd j2 t n2 cs.toArray) a1 a2 a3 ⟨a4, pb.isList⟩ ⟨a5, pc.isList⟩ (by simpa using l1) (by simpa using l2)
      fun x1 x2 h1 tk e1 e2 k1 k2 k3 k4 k5 k6 k7 => ?_
    have f1 : x1 = b := by
      have : bs[i]? = some x1 := by simpa using e1
      rw [hb] at this
      exact (Option.some.inj this).symm
    have f2 : x2 = c := by
      have : cs[i]? = some x2 := by simpa using e2
      rw [hc] at this
      exact (Option.some.inj this).symm
    subst f1
    subst f2
    refine ⟨_, rfl, wpAny_letOwnedTupleGo_zip (s := { s with heap := h1, toks := tk }) k1 fun h2 m1 sb => ?_⟩
    have m2 : h2.get? s.heap.objs.size = some { cls := .type "tuple", data := .seq #[x1, x2] } := (sb.2 _ (Nat.ne_of_gt zl)).trans k5
    have ok : ObjOk X.prog X.w (upd H s.heap.objs.size (.tup [u, v])) h2 s.heap.objs.size (.tup [u, v]) :=
      ⟨show 2 ≤ sizeLine by decide, [x1, x2], .cons rub (.cons rvc .nil), _, m2, rfl, _, rfl⟩
    have out : ∀ c o, c ∉ [z, TI, TO, j1, j2] → s.heap.get? c = some o → h2.get? c = some o := fun c o hn e => by
      simp only [List.mem_cons, List.not_mem_nil, or_false, not_or] at hn
      exact (sb.2 c hn.1).trans (k7 c o hn.1 hn.2.2.1 hn.2.2.2.1 hn.2.2.2.2 e)
    have J : Inv X pins σ (upd H s.heap.objs.size (.tup [u, v])) { s with heap := h2, toks := tk } := I.turnedNew (t' := tk) (ch := [z, TI, TO, j1, j2]) out fp (Nat.le_refl _) ok
    refine ⟨.ref s.heap.objs.size, _, J, rfl, ⟨_, u, v, rfl, I.hok.fresh (Nat.le_refl _), rfl, fun ys hy => ?_, fun ys hy => ?_⟩, ⟨m1, ?_, ⟨x1, x2, ?_⟩, ?_, ?_⟩, fun c hm => ?_⟩
    · rw [I.list_inj hy qu]; exact eu
    · rw [I.list_inj hy qv]; exact ev
    · exact (sb.2 _ S.TIz).trans (k7 _ _ S.TIz S.TITO S.TIi1 S.TIi2 a2)
    · exact (sb.2 _ S.TOz).trans k2
    · exact k3.1.at fun o e => (sb.2 _ (Ne.symm S.zi1)).trans e
    · exact k4.1.at fun o e => (sb.2 _ (Ne.symm S.zi2)).trans e
    · have lt : c < s.heap.objs.size := by
        simp only [List.mem_cons, List.not_mem_nil, or_false] at hm
        rcases hm with rfl | rfl | rfl | rfl | rfl
        · exact zl
        · exact Heap.lt_size a2
        · exact Heap.lt_size a3
        · exact Heap.lt_size a4.choose_spec.1
        · exact Heap.lt_size a5.choose_spec.1
      rw [upd_ne (Nat.ne_of_lt lt)]
      exact (fp c hm).1
  done := by
    rintro X rfl rfl rfl calm i pins s σ H E I fp ⟨a1, a2, ⟨x0, y0, a3⟩, a4, a5⟩ ⟨us, vs, qu, qv, en⟩
    obtain ⟨bs, rb, pb, _⟩ := I.list qu
    obtain ⟨cs, rc, pc, _⟩ := I.list qv
    have hd : X.A.in1.handled = none := I.ok.hd calm
    have l1 := rb.length
    have l2 := rc.length
    refine wpAny_pyNext_zipD2_end (i := i) S (Draws.list hd j1 l n1 bs.toArray) (Draws.list hd j2 t n2 cs.toArray) a1 a2 a3 ⟨a4, pb.isList⟩ ⟨a5, pc.isList⟩ (by simp; omega) (by simp; omega) (by simp; omega) fun h1 tk kp => ⟨rfl, ?_⟩
    refine I.turnedL (t' := tk) (ch := [z, TI, TO, j1, j2]) (fun c o hn e => ?_) fp
    simp only [List.mem_cons, List.not_mem_nil, or_false, not_or] at hn
    exact kp c o hn.1 hn.2.2.1 hn.2.2.2.1 hn.2.2.2.2 e
  self := fun A i s Q E st h => wpAny_pyIter_zip st.1 h
end
section
variable {X : Cx} {pos : Pos}
def iZipLL (K : PySem.W.Frag) (ta : TA) : TI := fun σ H R => ta σ H fun zs H1 => ∃ l t us vs, zs = [.ref l, .ref t] ∧ SqL K H1 l us ∧ SqL K H1 t vs ∧ R (ItLL K l t) H1
theorem pi_zipLL {e e2 : Expr} {ta : TA} {p tpos : Pos} {elts : List Expr} {kk : Nat} (hg : Gl X "zip") (hm : X.mg "zip" = none) (ha : PA X [e, e2] ta)
    (hs : starEach [e, e2] X.env = (false, eval e X.env) :: starEach [e2] X.env) (hpl : (backTo pos (starEach [e2] X.env)).any (·.1) = false) : PI X (.Tuple elts kk tpos) (.Call (.Name "zip" p) [e, e2] [] pos) (iZipLL X.K ta) := by
  constructor
  intro pins s σ H R I h
  refine Call_ (ld_blt I hg hm PyProof.Rows.boot_zip (PyProof.Rows.callWith_type1 (thn (ha.run pos pins s σ H _ I h) ?_) hs hpl))
  rintro us s1 ⟨zs, H1, I1, r1, l, t, as, bs, rfl, qa, qb, q⟩
  cases r1 with
  | cons ra rest =>
    cases rest with
    | cons rb rest =>
      cases rest
      cases ra
      cases rb
      obtain ⟨xs, _, pa, _⟩ := I1.list qa
      obtain ⟨ys, _, pb, _⟩ := I1.list qb
      have la : l < s1.heap.objs.size := pa.lt
      have lb : t < s1.heap.objs.size := pb.lt
      refine zip_begins2 (begins_list l xs.toArray) (begins_list t ys.toArray) pa.isList pb.isList fun h' k1 k2 k3 k4 k5 k6 k7 => wpAny_pyIter_zip k1 ?_
      refine ⟨s1.heap.objs.size + 4, [s1.heap.objs.size + 4, s1.heap.objs.size + 2, s1.heap.objs.size + 3, s1.heap.objs.size, s1.heap.objs.size + 1], _, _, H1, rfl, I1.kept (t' := s1.toks) k7, turn_LL (apart_M la lb) (Nat.ne_of_lt la) (Nat.ne_of_lt (Nat.lt_succ_of_lt lb)), ⟨k1, k2, ⟨_, _, k3⟩, ⟨_, k4, rfl, rfl⟩, ⟨_, k5, rfl, rfl⟩⟩, fun b hb => ?_, q⟩
      have := five_M hb
      exact I1.fpOk this (I1.hok.fresh this)
/-- zip of a list and a tuple -/
def diZipLL (ta : DTA) : DTI := fun S G R => ta S G fun ds G1 => match ds with
  | [.lst xs, .lst ys] => R (List.zipWith (fun a b => .tup [a, b]) xs ys) dNoGuard G1
  | _ => False
theorem di_zipLL {e e2 : Expr} {ta : DTA} {p tpos : Pos} {elts : List Expr} {kk : Nat} (hg : Gl X "zip") (hm : X.mg "zip" = none) (ha : DA X [e, e2] ta)
    (hs : starEach [e, e2] X.env = (false, eval e X.env) :: starEach [e2] X.env := by rfl) (hpl : (backTo pos (starEach [e2] X.env)).any (·.1) = false := by rfl) : DI X (.Tuple elts kk tpos) (.Call (.Name "zip" p) [e, e2] [] pos) (diZipLL ta) := by
  obtain ⟨t, p1, r⟩ := ha.ex
  refine ⟨_, pi_zipLL hg hm p1 hs hpl, fun F H σ S G o R' h R k => ?_⟩
  refine r F H σ S G o _ h _ fun F1 H1 vs ds G1 e1 g1 q1 h1 => ?_
  dsimp only at h1
  split at h1
  · rename_i xs ys
    cases q1 with
    | cons a b =>
      cases b with
      | cons c d =>
        cases d
        cases a with
        | lst ha ra =>
          cases c with
          | lst hb rb =>
            rename_i la va tb vb
            have seqs : ∀ F2 H2 G2, Ex F1 F2 → Gok X.K F2 H2 G2 → SqL X.K H2 la va ∧ SqL X.K H2 tb vb := fun F2 H2 G2 e2 g2 => ⟨.inl (.inl (g2.ex _ _ (e2 _ _ ha))), .inl (.inl (g2.ex _ _ (e2 _ _ hb)))⟩
            obtain ⟨s1, s2⟩ := seqs F1 H1 G1 (fun _ _ z => z) g1
            refine ⟨la, tb, va, vb, rfl, s1, s2, k F1 H1 G1 _ _ _ e1 g1 ⟨fun F2 H2 G2 i d e2 g2 _ hd => ?_, fun F2 H2 G2 e2 g2 _ => ?_⟩ h1⟩
            · obtain ⟨sa, sb⟩ := seqs F2 H2 G2 e2 g2
              obtain ⟨x, y, ex, ey, rfl⟩ : ∃ x y, xs[i]? = some x ∧ ys[i]? = some y ∧ d = .tup [x, y] := by
                rw [List.getElem?_zipWith] at hd
                cases ea : xs[i]? with
                | none => simp [ea] at hd
                | some x =>
                  cases eb : ys[i]? with
                  | none => simp [ea, eb] at hd
                  | some y =>
                    simp only [ea, eb] at hd
                    cases hd
                    exact ⟨x, y, rfl, rfl, rfl⟩
              obtain ⟨u, hu, ru⟩ := ra.get ex
              obtain ⟨v, hv, rv⟩ := rb.get ey
              refine ⟨⟨va, vb, u, v, sa, sb, hu, hv⟩, fun r H3 hy => ?_⟩
              obtain ⟨T, u', v', rfl, hT, rfl, z1, z2⟩ := hy
              have z1 := z1 va sa
              have z2 := z2 vb sb
              rw [hu] at z1
              rw [hv] at z2
              cases z1
              cases z2
              have gr := Gr.new (u := .tup [u, v]) g2.ex hT
              exact ⟨_, gr.go, g2.grow gr, .tup upd_same (.cons ((ru.mono e2).mono gr.ff) (.cons ((rv.mono e2).mono gr.ff) .nil))⟩
            · obtain ⟨sa, sb⟩ := seqs F2 H2 G2 e2 g2
              have l1 := ra.length
              have l2 := rb.length
              refine ⟨va, vb, sa, sb, ?_, ?_, ?_⟩ <;> rw [List.length_zipWith] <;> omega
  · exact h1.elim
end
end DL
end
section
set_option Elab.async false
set_option linter.all false
set_option maxRecDepth 100000
set_option maxHeartbeats 4000000
namespace Pace
open PySem PySem.Spec PyProof.Rows L2 DL
section
variable {P : Program} {w : World} {K : PySem.W.Frag} {mg : Str → Option Value} {base : Heap} {C : Addr}
abbrev dk (n : Nat) : MO := .deck "cells" "stirred" "draws" n
def spDraw : SpD := fun ds G Q => ∃ (p : Addr) (n b : Nat), ds = [.rf p, .int (n : Int)] ∧ 1 ≤ n ∧ n ≤ 1000 ∧ G p = some (dk (b + 1)) ∧ ∀ r : Nat, r < n → Q (.int (r : Int)) (gput G p (dk b))
abbrev N__law_draw : List Str := ["_law_deck_here", "_law_below", "_law_turn", "_law_figure", "_law_cell"]
theorem sc__law_draw : FnScope N__law_draw ["_law_deck_here", "_law_below"] (defScope s__law_draw) := ⟨rfl, rfl, rfl, by decide +kernel, rfl, by decide +kernel, by decide +kernel⟩
theorem c__law_draw (T : Txt K mg C) (d : Def K mg "_law_draw" s__law_draw) : Cal P w K mg base "_law_draw" 1 ["_law_deck_here", "_law_below"] (spDraw) := by
  refine cal_mk (N := N__law_draw) d sc__law_draw (fun ds G Q h => ?_) (fun _ _ _ _ _ _ us hl => match us, hl with | [_, _], _ => rfl) (fun f cdv A outer s H E hg hr => ?_)
  · obtain ⟨p, n, b, rfl, _⟩ := h
    rfl
  · have hu := hu100 hr
    have nd := sc__law_draw.nd
    have hA := deeper_guards (env := envOfC "_law_draw" (defScope s__law_draw) s.heap.objs.size f cdv) hg
    refine ⟨_, (dps_out (dps_in (dps_cons (dp_asg (de_op od_add (de_ix hu (de_var 0) de_str) de_int) (dg_sub hu (de_var 0) de_str))
  (dps_cons (dp_par (i := 2) (j := 3) rfl nd (ha := (da_cons (de_ix hu (de_var 0) de_str) (da_cons (de_ix hu (de_var 0) de_str) da_nil))))
  (dps_cons (dp_if (dt_cmp (od_ne hu) (de_ix hu (de_var 0) de_str) (de_lst da_nil) (nomark _))
  (dps_cons (dp_asg (de_bm0 PySem.F.plainAttrs_list PySem.F.slot_list_pop PySem.F.type_list_pop md_pop (de_ix hu (de_var 0) de_str)) (dg_name 4 nd))
  (dps_cons (dp_if (dt_cmp (od_ge hu) (de_var 4) (de_op od_pow de_int de_int) (nomark _))
  (dps_cons (dp_expr (de_bm PySem.F.plainAttrs_list PySem.F.slot_list_append PySem.F.type_list_append md_append (de_ix hu (de_var 0) de_str) (da_cons (de_op od_fdiv (de_var 4) (de_var 1)) da_nil)))
  (dps_one (dp_ret (de_op od_mod (de_callTy cd_int rfl T.f_int (by decide +kernel) (da_cons (de_var 4) da_nil)) (de_var 1)))))
  dps_nil)
  (dps_one (dp_asg (de_op od_add (de_var 3) (de_op od_mod (de_callTy cd_int rfl T.f_int (by decide +kernel) (da_cons (de_var 4) da_nil)) de_int)) (dg_name 3 nd)))))
  dps_nil)
  (dps_cons (dp_asg (de_op od_mod (de_op od_mul (de_callTy cd_int rfl T.f_int (by decide +kernel) (da_cons (de_op od_add (de_op od_add (de_op od_mod (de_callTy cd_int rfl T.f_int (by decide +kernel) (da_cons (de_var 3) da_nil)) de_int) (de_op od_mul (de_op od_mul de_int (de_var 2)) (de_var 2))) de_int) da_nil)) de_int) de_int) (dg_name 3 nd))
  (dps_cons (dp_asg (de_op od_mod (de_callTy cd_int rfl T.f_int (by decide +kernel) (da_cons (de_op od_add (de_op od_add (de_op od_mul (de_var 3) (de_var 3)) (de_op od_mul de_int (de_var 2))) de_int) da_nil)) de_int) (dg_name 3 nd))
  (dps_one (dp_ret (de_op od_mod (de_op od_fdiv (de_op od_mod (de_callTy cd_int rfl T.f_int (by decide +kernel) (da_cons (de_op od_mul (de_var 3) de_int) da_nil)) de_int) de_int) (de_var 1))))))))))), fun ds G Q h => ?_⟩
    obtain ⟨p, n, b, rfl, n1, n2, gp, q⟩ := h
    rw [show dstart N__law_draw [.rf p, .int (n : Int)] = [some (.rf p), some (.int (n : Int)), none, none, none] from rfl]
    simp only [dx2]
    refine ⟨Deck, _, _, deck_open gp, ?_⟩
    rintro x ⟨ok, gc, ne, nd0⟩
    have fin0 : ∀ (r : Int) (x' : Deck) (G' : GH), x'.c = x.c → G' = openG G p "cells" "stirred" "draws" x' → x'.ok b → 0 ≤ r → r < n → (outE (fin Q)).rt (.int r) G' := by
      rintro r x' G' e rfl ok' h0 h1
      refine ⟨_, deck_close gp (by rw [e]; exact gc) (by rw [e]; exact ne) nd0 ok', _, Sub.refl _, ?_⟩
      obtain ⟨k, rfl⟩ := Int.eq_ofNat_of_zero_le h0
      exact q k (by omega)
    obtain ⟨c, g, t, ns⟩ := x
    obtain ⟨o1, o2, o3, o4, o5⟩ := ok
    have hu1 : ∀ G0 o, gput G0 p o c = G0 c := fun _ _ => gput_ne ne
    unfold openG
    simp only at gc ne hu1 o1 o2 o3 o4 o5 ⊢
    have e1 : ∀ u : D, D.item (.dK [(.inr "cells", .rf c), (.inr "stirred", .int g), (.inr "draws", u)]) (.str "cells") = some (.rf c) := fun u => rfl
    have e2 : ∀ u : D, D.item (.dK [(.inr "cells", .rf c), (.inr "stirred", .int g), (.inr "draws", u)]) (.str "draws") = some u := fun u => rfl
    have e3 : ∀ u : D, putD ([(.inr "cells", .rf c), (.inr "stirred", .int g), (.inr "draws", .int t)] : List (Key × D)) (.inr "draws") u = ([(.inr "cells", .rf c), (.inr "stirred", .int g), (.inr "draws", u)] : List (Key × D)) := fun u => rfl
    have e4 : ∀ u : D, D.item (.dK [(.inr "cells", .rf c), (.inr "stirred", .int g), (.inr "draws", u)]) (.str "stirred") = some (.int g) := fun u => rfl
    have hc : G c = some .dcell := gc
    simp only [dxs, dl, e1, e2, e4, hu1, dx3, D.key, e3, gput_gput]
    refine ⟨szl (by decide), Nat.zero_le _, intL_ok ns, ?_⟩
    rw [intL_eqv]
    have cm1 : ∀ i j : Int, (-4294967296 ≤ i ∧ i ≤ 4294967296) ∨ (-4294967296 ≤ j ∧ j ≤ 4294967296) → CMul i j := fun i j h => by
      rcases h with h | h
      · exact .inl (by omega)
      · exact .inr (by omega)
    rcases List.eq_nil_or_concat ns with rfl | ⟨ns', a, rfl⟩
    · rw [if_neg (by simp)]
      refine ⟨by omega, cm1 _ _ (.inl (by omega)), .inr (by omega), cm1 _ _ (.inr (by omega)), by omega, cm1 _ _ (.inl (by omega)), cm1 _ _ (.inl (by omega)), by omega, cm1 _ _ (.inl (by omega)), by omega, ⟨by omega, by omega⟩, by omega, ?_⟩
      refine fin0 _ ⟨c, g, t + 1, []⟩ _ rfl ?_ ⟨by simp only; omega, by simp only; omega, o3, o4, by simp⟩ (Int.emod_nonneg _ (by omega)) (Int.emod_lt_of_pos _ (by omega))
      rfl
    · rw [List.concat_eq_append] at *
      rw [if_pos (by simp)]
      have o6 : ns'.length + 1 ≤ 63 := by simpa using o5
      refine ⟨rfl, ?_⟩
      simp only [rPopD, hu1, dl, pop_last, pop_rest, gput_under ne, dx3, dxs, okL_int, DL.lt_int, true_and, e1, beq_self_eq_true, rAppendD]
      refine ⟨⟨by omega, by omega, by decide⟩, ?_⟩
      by_cases han : a < 10 ^ Int.toNat 18
      · rw [if_neg (by simpa using han)]
        refine ⟨by omega, by omega, cm1 _ _ (.inl (by omega)), .inr (by omega), cm1 _ _ (.inr (by omega)), by omega, cm1 _ _ (.inl (by omega)), cm1 _ _ (.inl (by omega)), by omega, cm1 _ _ (.inl (by omega)), by omega, ⟨by omega, by omega⟩, by omega, ?_⟩
        exact fin0 _ ⟨c, g, t + 1, ns'⟩ _ rfl rfl ⟨by simp only; omega, by simp only; omega, o3, o4, by simp only; omega⟩ (Int.emod_nonneg _ (by omega)) (Int.emod_lt_of_pos _ (by omega))
      · rw [if_pos (by simpa using han)]
        refine ⟨⟨by omega, by omega⟩, szl (by simp; omega), by omega, fin0 _ ⟨c, g, t + 1, ns' ++ [a / (n : Int)]⟩ _ rfl ?_ ⟨by simp only; omega, by simp only; omega, o3, o4, by simp; omega⟩ (Int.emod_nonneg _ (by omega)) (Int.emod_lt_of_pos _ (by omega))⟩
        simp [openG]
end
end Pace
end
section
set_option Elab.async false
set_option linter.all false
set_option maxRecDepth 100000
set_option maxHeartbeats 4000000
namespace Pace
open PySem PySem.Spec PyProof.Rows L2 DL
section
variable {P : Program} {w : World} {K : PySem.W.Frag} {mg : Str → Option Value} {base : Heap} {C : Addr}
def Src (src : D) (xs : List D) : Prop := src = .lst xs ∨ ∃ cs : List Nat, src = .str (strOf cs) ∧ xs = cs.map fun c => .str (sgn c)
def spPick : SpD := fun ds G Q => ∃ (p : Addr) (b : Nat) (src : D) (xs : List D), ds = [.rf p, src] ∧ Src src xs ∧ 1 ≤ xs.length ∧ xs.length ≤ 1000 ∧ G p = some (dk (b + 1)) ∧ ∀ x ∈ xs, Q x (gput G p (dk b))
abbrev N__law_pick : List Str := ["_law_deck_here", "_law_some_here"]
theorem sc__law_pick : FnScope N__law_pick ["_law_deck_here", "_law_some_here"] (defScope s__law_pick) := ⟨rfl, rfl, rfl, by decide +kernel, rfl, by decide +kernel, by decide +kernel⟩
theorem c__law_pick (T : Txt K mg C) (d : Def K mg "_law_pick" s__law_pick) (C__law_draw : Cal P w K mg base "_law_draw" 1 ["_law_deck_here", "_law_below"] (spDraw)) : Cal P w K mg base "_law_pick" 2 ["_law_deck_here", "_law_some_here"] (spPick) := by
  refine cal_mk (N := N__law_pick) d sc__law_pick (fun ds G Q h => ?_) (fun _ _ _ _ _ _ us hl => match us, hl with | [_, _], _ => rfl) (fun f cdv A outer s H E hg hr => ?_)
  · obtain ⟨p, b, src, xs, rfl, _⟩ := h
    rfl
  · have hu := hu100 hr
    have nd := sc__law_pick.nd
    have hA := deeper_guards (env := envOfC "_law_pick" (defScope s__law_pick) s.heap.objs.size f cdv) hg
    refine ⟨_, (dps_one (dp_ret (de_ix hu (de_var 1) (de_cal C__law_draw hA (hr.mono (by decide)) (da_cons (de_var 0) (da_cons (de_callB cd_len rfl T.f_len (by decide +kernel) (da_cons (de_var 1) da_nil)) da_nil)))))), fun ds G Q h => ?_⟩
    obtain ⟨p, b, src, xs, rfl, hs, n1, n2, gp, q⟩ := h
    rcases hs with rfl | ⟨cs, rfl, rfl⟩
    · rw [show dstart N__law_pick [.rf p, .lst xs] = [some (.rf p), some (.lst xs)] from rfl]
      simp only [dxs, dl, dx3]
      refine ⟨p, xs.length, b, rfl, n1, n2, gp, fun r hr => ?_⟩
      obtain ⟨x, hx⟩ : ∃ x, xs[r]? = some x := ⟨_, List.getElem?_eq_getElem hr⟩
      simp only [dxs, dl, item_lst, atI_nat hx]
      exact ⟨_, Sub.refl _, q x (List.mem_of_getElem? hx)⟩
    · rw [show dstart N__law_pick [.rf p, .str (strOf cs)] = [some (.rf p), some (.str (strOf cs))] from rfl]
      have n1' : 1 ≤ cs.length := by simpa using n1
      have n2' : cs.length ≤ 1000 := by simpa using n2
      have hsz : (strOf cs).length ≤ sizeLine := by rw [strOf_len]; exact sz (by omega)
      simp only [dxs, dl, len_str hsz, strOf_len]
      refine ⟨p, cs.length, b, rfl, n1', n2', gp, fun r hr => ?_⟩
      obtain ⟨x, hx⟩ : ∃ x, cs[r]? = some x := ⟨_, List.getElem?_eq_getElem hr⟩
      have e : D.item (.str (strOf cs)) (.int (r : Int)) = some (.str (sgn x)) := by
        show (if (strOf cs).length ≤ sizeLine then _ else _) = _
        rw [if_pos hsz]
        have : atI (strOf cs).cps.toList (r : Int) = some x := atI_nat (by simpa [strOf] using hx)
        rw [this]
        rfl
      simp only [dxs, dl, e]
      exact ⟨_, Sub.refl _, q _ (List.mem_map.mpr ⟨x, List.mem_of_getElem? hx, rfl⟩)⟩
end
section
variable {P : Program} {w : World} {K : PySem.W.Frag} {mg : Str → Option Value} {base : Heap} {C : Addr}
def spDeck : SpD := fun ds G Q => ∃ ns : List Int, ds = [.scr ns] ∧ NoDeck G ∧ ∀ p c, G p = none → G c = none → c ≠ p → Q (.rf p) (shutG G p c "cells" "stirred" "draws" 1000000)
abbrev N__law_deck : List Str := ["_law_script", "_law_cells", "_law_stirred", "_law_cell"]
theorem sc__law_deck : FnScope N__law_deck ["_law_script"] (defScope s__law_deck) := ⟨rfl, rfl, rfl, by decide +kernel, rfl, by decide +kernel, by decide +kernel⟩
theorem c__law_deck (T : Txt K mg C) (d : Def K mg "_law_deck" s__law_deck) : Cal P w K mg base "_law_deck" 1 ["_law_script"] (spDeck) := by
  refine cal_mk (N := N__law_deck) d sc__law_deck (fun ds G Q h => ?_) (fun _ _ _ _ _ _ us hl => match us, hl with | [_], _ => rfl) (fun f cdv A outer s H E hg hr => ?_)
  · obtain ⟨ns, rfl, _⟩ := h
    rfl
  · have hu := hu100 hr
    have nd := sc__law_deck.nd
    have hA := deeper_guards (env := envOfC "_law_deck" (defScope s__law_deck) s.heap.objs.size f cdv) hg
    refine ⟨_, (dps_out (dps_cons (dp_par (i := 1) (j := 2) rfl nd (ha := (da_cons (de_callTy cd_list rfl T.f_list (by decide +kernel) (da_cons (de_slice (de_var 0) do_none (do_some de_int)) da_nil)) (da_cons de_int da_nil))))
  (dps_cons (dp_for PassesOwn.never rfl (di_list (de_var 1)) (dg_name 3 nd)
  (dps_one (dp_asg (de_op od_mod (de_callTy cd_int rfl T.f_int (by decide +kernel) (da_cons (de_op od_add (de_op od_add (de_op od_mul (de_var 2) de_int) (de_op od_mod (de_callTy cd_int rfl T.f_int (by decide +kernel) (da_cons (de_var 3) da_nil)) de_int)) de_int) da_nil)) de_int) (dg_name 2 nd))))
  (dps_one (dp_ret (de_dispM (dpp_cons de_str (de_revLM (de_var 1)) (dpp_cons de_str (de_var 2) (dpp_cons de_str de_int dpp_nil))))))))), fun ds G Q h => ?_⟩
    obtain ⟨ns, rfl, nd0, q⟩ := h
    rw [show dstart N__law_deck [.scr ns] = [some (.scr ns), none, none, none] from rfl]
    have hcut : (DL.cutD ns none (some 63)).length ≤ 63 := by
      unfold DL.cutD
      rw [List.length_take]
      have : HT.sIx ns.length ns.length (some 63) = min 63 ns.length := HT.sIx_nat ns.length ns.length 63
      rw [this]
      omega
    generalize hcs : DL.cutD ns none (some 63) = cells at hcut
    have lst : ∀ (xs : List D) (G : GH) (Q : DQ), rListD [.lst xs] G Q = Q (.lst xs) G := fun _ _ _ => rfl
    simp only [dx2, dxs, dl, dx3, hcs, lst]
    refine ⟨fun i S' G' => ∃ (b : Int) (x2 : Option D), S' = [some (.scr ns), some (.lst (cells.map .int)), some (.int b), x2] ∧ G' = G ∧ 0 ≤ b ∧ b < 2147483587, ⟨_, none, rfl, rfl, by omega, by omega⟩, fun _ _ _ _ => trivial, ?_, ?_⟩
    · rintro i S' G' dd ⟨b, x2, rfl, rfl, h1, h2⟩ hd
      obtain ⟨v, hv, rfl⟩ := map_get hd
      simp only [dxs, dl, dx3]
      refine ⟨.inl (by omega), by omega, by omega, _, _, rfl, trivial, Int.emod_nonneg _ (by omega), Int.emod_lt_of_pos _ (by omega)⟩
    · rintro S' G' ⟨b, x2, rfl, rfl, h1, h2⟩
      simp only [dxs, dl, dx3, hcs]
      intro c hc
      refine ⟨by show (3 : Nat) ≤ 15; decide, fun p hp => ?_⟩
      have hcp : c ≠ p := fun z => by rw [← z, gput_same] at hp; cases hp
      have hp' : G' p = none := by rw [gput_ne (fun z => hcp z.symm)] at hp; exact hp
      have ndG : NoDeck (openG G' p "cells" "stirred" "draws" ⟨c, b, 0, cells.reverse⟩) := open_nodeck fun a _ => nd0 a
      refine ⟨_, deck_shut (x := ⟨c, b, 0, cells.reverse⟩) (n := 1000000) (k1 := "cells") (k2 := "stirred") (k3 := "draws") (p := p) ?_ ?_ ?_ ⟨by simp only; omega, by simp only; omega, h1, by simp only; omega, by simp; omega⟩, _, Sub.refl _, ?_⟩
      · have e : openG G' p "cells" "stirred" "draws" ⟨c, b, 0, cells.reverse⟩ = gput (gput G' c (.lst (cells.map D.int).reverse)) p (.dK [(.inr "cells", .rf c), (.inr "stirred", .int b), (.inr "draws", .int 0)]) := by
          unfold openG
          rw [List.map_reverse]
        rw [e] at ndG
        exact ndG
      · exact gput_same
      · rw [gput_ne hcp, gput_same, List.map_reverse]
      · have e : ∀ o1 o2, shutG (gput (gput G' c o1) p o2) p c "cells" "stirred" "draws" 1000000 = shutG G' p c "cells" "stirred" "draws" 1000000 := fun o1 o2 => by
          funext a
          unfold shutG
          by_cases z1 : a = p
          · subst z1; rw [gput_same, gput_same]
          · rw [gput_ne z1, gput_ne z1]
            by_cases z2 : a = c
            · subst z2; rw [gput_same, gput_same]
            · rw [gput_ne z2, gput_ne z2, gput_ne z1, gput_ne z2]
        show Q _ (shutG (gput (gput G' c _) p _) p c _ _ _ _)
        rw [e]
        exact q p c hp' hc hcp
end
end Pace
end
section
set_option Elab.async false
set_option linter.all false
set_option maxRecDepth 100000
set_option maxHeartbeats 4000000
namespace Pace
open PySem PySem.Spec PyProof.Rows L2 DL
section
variable {P : Program} {w : World} {K : PySem.W.Frag} {mg : Str → Option Value} {base : Heap} {C : Addr}
def wK (hs ws : List Nat) (rs : List (List Mv)) : List (Key × D) := [(.inr "heard", .str (strOf hs)), (.inr "written", .str (strOf ws)), (.inr "rows", rowsD rs)]
def spWorld66 : SpD := fun ds G Q => ∃ (p : Addr) (size n : Nat) (hs ws : List Nat) (tot : Bool), ds = [.rf p, .int (size : Int), .str (strOf hs), .str (strOf ws), .bl tot] ∧ 1 ≤ size ∧ size ≤ 5 ∧ lettersB hs = true ∧ lettersB ws = true ∧ hs.length ≤ 3 ∧ ws.length ≤ 3 ∧ G p = some (dk (n + 200)) ∧
  ∀ (rs : List (List Mv)) (m : Nat) (z : Addr), n ≤ m → rs.length = size → Wor 5 tot hs ws rs → G z = none → Q (.rf z) (gput (gput G p (dk m)) z (.dK (wK hs ws rs)))
abbrev N__law_world : List Str := ["_law_deck_here", "_law_size", "_law_heard", "_law_written", "_law_is_total", "_law_rows", "_law_here", "_law_moves", "_law_h", "_law_sure", "_law_c"]
theorem sc__law_world : FnScope N__law_world ["_law_deck_here", "_law_size", "_law_heard", "_law_written", "_law_is_total"] (defScope s__law_world) := ⟨rfl, rfl, rfl, by decide +kernel, rfl, by decide +kernel, by decide +kernel⟩
theorem c__law_world (T : Txt K mg C) (d : Def K mg "_law_world" s__law_world) (C__law_pick : Cal P w K mg base "_law_pick" 2 ["_law_deck_here", "_law_some_here"] (spPick)) (C__law_draw : Cal P w K mg base "_law_draw" 1 ["_law_deck_here", "_law_below"] (spDraw)) : Cal P w K mg base "_law_world" 3 ["_law_deck_here", "_law_size", "_law_heard", "_law_written", "_law_is_total"] (spWorld66) := by
  refine cal_mk (N := N__law_world) d sc__law_world (fun ds G Q h => ?_) (fun _ _ _ _ _ _ us hl => match us, hl with | [_, _, _, _, _], _ => rfl) (fun f cdv A outer s H E hg hr => ?_)
  · obtain ⟨p, size, n, hs, ws, tot, rfl, _⟩ := h
    rfl
  · have hu := hu100 hr
    have nd := sc__law_world.nd
    have hA := deeper_guards (env := envOfC "_law_world" (defScope s__law_world) s.heap.objs.size f cdv) hg
    refine ⟨_, (dps_cons (dp_asg (de_lstM da_nil) (dg_name 5 nd))
  (dps_cons (dp_for PassesOwn.never rfl (di_range1 rfl T.f_range (da_cons (de_var 1) da_nil)) (dg_name 6 nd)
  (dps_cons (dp_asg (de_lstM da_nil) (dg_name 7 nd))
  (dps_cons (dp_for PassesOwn.never rfl (di_str (de_var 2)) (dg_name 8 nd)
  (dps_cons (dp_asg (de_if (dt_val (de_var 4)) (de_cal C__law_pick hA (hr.mono (by decide)) (da_cons (de_var 0) (da_cons (de_var 3) da_nil))) de_str) (dg_name 9 nd))
  (dps_one (dp_expr (de_bm PySem.F.plainAttrs_list PySem.F.slot_list_extend PySem.F.type_list_extend md_extend (de_var 7) (da_cons (de_lc (own := [("_law_c", 10)]) (p := (.nm 10)) rfl nd (di_str (de_var 3)) (blkOk_by (by show blkC N__law_world (defScope s__law_world) _ _ = true; decide +kernel)) (by decide) (fun _ _ _ _ _ => pg_name (i := 10) nd rfl (Or.inl rfl)) (fun _ _ _ _ _ => (dts_one (DW.dt (dw_or (dt_cmp (od_eq hu) (de_var 10) (de_var 9) (nomark _)) (dw_or1 (dt_cmp (od_eq hu) (de_cal C__law_draw hA (hr.mono (by decide)) (da_cons (de_var 0) (da_cons de_int da_nil))) de_int (nomark _))))))) (fun _ _ _ _ _ => (de_tup (da_cons (de_var 8) (da_cons (de_var 10) (da_cons (de_cal C__law_draw hA (hr.mono (by decide)) (da_cons (de_var 0) (da_cons (de_var 1) da_nil))) da_nil)))))) da_nil))))))
  (dps_one (dp_expr (de_bm PySem.F.plainAttrs_list PySem.F.slot_list_append PySem.F.type_list_append md_append (de_var 5) (da_cons (de_callTy cd_tuple rfl T.f_tuple (by decide +kernel) (da_cons (de_var 7) da_nil)) da_nil)))))))
  (dps_one (dp_ret (de_dispM (dpp_cons de_str (de_var 2) (dpp_cons de_str (de_var 3) (dpp_cons de_str (de_callTy cd_tuple rfl T.f_tuple (by decide +kernel) (da_cons (de_var 5) da_nil)) dpp_nil)))))))), fun ds G Q h => ?_⟩
    obtain ⟨p, size, n, hs, ws, tot, rfl, t1, t5, lh, lw, hs3, ws3, gp, q⟩ := h
    rw [show dstart N__law_world [.rf p, .int (size : Int), .str (strOf hs), .str (strOf ws), .bl tot] = [some (.rf p), some (.int (size : Int)), some (.str (strOf hs)), some (.str (strOf ws)), some (.bl tot), none, none, none, none, none, none] from rfl]
    simp only [dxs, dl]
    refine ⟨Nat.zero_le _, fun z hz => ?_⟩
    have hzp : z ≠ p := fun e => by rw [e, gp] at hz; cases hz
    have hpz : p ≠ z := fun e => hzp e.symm
    have rd : ∀ {m : Nat} {o2 : MO} {G' : GH}, Sub (gput (gput G p (dk m)) z o2) G' → G' p = some (dk m) ∧ G' z = some o2 := fun sb =>
      ⟨sb.le p _ (by rw [gput_ne hpz, gput_same]), sb.le z _ gput_same⟩
    have wr : ∀ {m m' : Nat} {o2 : MO} {G' : GH}, Sub (gput (gput G p (dk m)) z o2) G' → Sub (gput (gput G p (dk m')) z o2) (gput G' p (dk m')) := fun {m m' o2 G'} sb => by
      have := sb.put p (dk m')
      rw [gput_under hpz] at this
      exact this
    have wz : ∀ {m : Nat} {o2 o3 : MO} {G' : GH}, Sub (gput (gput G p (dk m)) z o2) G' → Sub (gput (gput G p (dk m)) z o3) (gput G' z o3) := fun {m o2 o3 G'} sb => by
      have := sb.put z o3
      rw [gput_gput] at this
      exact this
    have e00 : gput (gput G p (dk (n + 200))) z (.lst []) = gput G z (.lst []) := by rw [gput_self gp]
    refine ⟨by omega, by omega, fun i S' G' => ∃ (m : Nat) (rows : List (List Mv)) (x6 x7 x8 x9 x10 : Option D), S' = [some (.rf p), some (.int (size : Int)), some (.str (strOf hs)), some (.str (strOf ws)), some (.bl tot), some (.rf z), x6, x7, x8, x9, x10] ∧
      Sub (gput (gput G p (dk m)) z (.lst (rows.map rowD))) G' ∧ rows.length = i ∧ n + 200 ≤ m + 30 * i ∧ ∀ r1 ∈ rows, Pace.rowB hs ws size r1 = true ∧ r1.length ≤ 9 ∧ (tot = true → ∀ h ∈ hs, ∃ m ∈ r1, m.h = h),
      ⟨n + 200, [], _, _, _, _, _, rfl, by rw [List.map_nil, e00]; exact Sub.refl _, rfl, by omega, by simp⟩, fun _ _ _ _ => trivial, ?_, ?_⟩
    · rintro i S' G' dd ⟨m, rows, x6, x7, x8, x9, x10, rfl, sb, hrl, hm, hrows⟩ hd
      obtain ⟨hi, rfl⟩ := range_get hd
      obtain ⟨gp1, gz1⟩ := rd sb
      simp only [dxs, dl]
      refine ⟨Nat.zero_le _, fun y hy => ?_⟩
      have hyz : z ≠ y := fun e => by rw [← e, gz1] at hy; cases hy
      have hyp : p ≠ y := fun e => by rw [← e, gp1] at hy; cases hy
      refine ⟨fun j S' G2 => ∃ (m' : Nat) (row : List Mv) (G1 : GH) (x8 x9 x10 : Option D), S' = [some (.rf p), some (.int (size : Int)), some (.str (strOf hs)), some (.str (strOf ws)), some (.bl tot), some (.rf z), some (.int (i : Int)), some (.rf y), x8, x9, x10] ∧
        G2 = gput G1 y (.lst (row.map Mv.d)) ∧ G1 y = none ∧ Sub (gput (gput G p (dk m')) z (.lst (rows.map rowD))) G1 ∧ m ≤ m' + 8 * j ∧ j ≤ hs.length ∧ RowP hs ws size tot j row,
        ⟨m, [], G', _, _, _, rfl, rfl, hy, sb, by omega, Nat.zero_le _, RowP.start⟩, fun _ _ _ _ => trivial, ?_, ?_⟩
      · rintro j S' G2 dd ⟨m', row, G1, x8, x9, x10, rfl, rfl, hy1, sb1, hm', hj, rp⟩ hd
        obtain ⟨h, hh, rfl⟩ := signs_get hd
        obtain ⟨gp2, gz2⟩ := rd sb1
        have hj1 := (List.getElem?_eq_some_iff.mp hh).1
        simp only [x_gname, dl]
        refine dseqP (fun S' G' => ∃ (m2 : Nat) (sD : D), S' = [some (.rf p), some (.int (size : Int)), some (.str (strOf hs)), some (.str (strOf ws)), some (.bl tot), some (.rf z), some (.int (i : Int)), some (.rf y), some (.str (sgn h)), some sD, x10] ∧ G' = gput (gput G1 p (dk m2)) y (.lst (row.map Mv.d)) ∧ m' ≤ m2 + 1 ∧ sD.si = true ∧ (∀ (G : GH), D.cur G sD = sD) ∧ (tot = true → ∃ c0 ∈ ws, sD = .str (sgn c0))) ?_ ?_
        · rintro S' G' ⟨m2, sD, rfl, rfl, hm2, sSi, sC, sT⟩
          simp only [dxs, dl]
          refine ⟨rfl, sz (by rw [signs_len]; omega), fun k acc G3 => ∃ (ts : List Mv) (m3 : Nat), acc = ts.map Mv.d ∧ (ts.map (·.c)).Sublist (ws.take k) ∧ k ≤ ws.length ∧ (∀ t ∈ ts, t.h = h ∧ t.t < size) ∧ (∀ c0 ∈ ws.take k, sD = .str (sgn c0) → c0 ∈ ts.map (·.c)) ∧ m2 ≤ m3 + 2 * k ∧ G3 = gput (gput G1 p (dk m3)) y (.lst (row.map Mv.d)),
            ⟨[], m2, rfl, by simp, Nat.zero_le _, by simp, by simp, by omega, rfl⟩, fun _ _ _ _ => trivial, ?_, ?_⟩
          · rintro k acc G3 d ⟨ts, m3, rfl, sl, hk, ht, hc0, hm3, rfl⟩ hd3
            obtain ⟨c, hc, rfl⟩ := signs_get hd3
            have hk1 := (List.getElem?_eq_some_iff.mp hc).1
            have tk := take_snoc hc
            obtain ⟨m4, rfl⟩ : ∃ m4, m3 = m4 + 2 := ⟨m3 - 2, by omega⟩
            have ind : ∀ m5 : Nat, m2 ≤ m5 + 1 + 2 * k + 1 → spDraw [.rf p, .int (size : Int)] (gput (gput G1 p (dk (m5 + 1))) y (.lst (row.map Mv.d))) (fun d G2 => 0 + 1 + 1 + 1 ≤ sizeLine ∧ ∃ (ts2 : List Mv) (m3 : Nat), ts.map Mv.d ++ [.tup [.str (sgn h), .str (sgn c), d]] = ts2.map Mv.d ∧ (ts2.map (·.c)).Sublist (ws.take (k + 1)) ∧ k + 1 ≤ ws.length ∧ (∀ t ∈ ts2, t.h = h ∧ t.t < size) ∧ (∀ c0 ∈ ws.take (k + 1), sD = .str (sgn c0) → c0 ∈ ts2.map (·.c)) ∧ m2 ≤ m3 + 2 * (k + 1) ∧ G2 = gput (gput G1 p (dk m3)) y (.lst (row.map Mv.d))) := fun m5 h5 => by
              refine ⟨p, size, m5, rfl, by omega, by omega, by rw [gput_ne hyp, gput_same], fun r hr => ⟨sz (by decide), ts ++ [⟨h, c, r⟩], m5, by simp [Mv.d], ?_, hk1, fun t ht' => ?_, fun c0 h0 e0 => ?_, by omega, by rw [gput_under hyp]⟩⟩
              · rw [tk, List.map_append]
                exact sl.append (List.Sublist.refl _)
              · rcases List.mem_append.mp ht' with h1 | h1
                · exact ht t h1
                · rw [List.mem_singleton] at h1
                  subst h1
                  exact ⟨rfl, hr⟩
              · rw [tk] at h0
                rw [List.map_append]
                rcases List.mem_append.mp h0 with h1 | h1
                · exact List.mem_append_left _ (hc0 c0 h1 e0)
                · rw [List.mem_singleton] at h1
                  subst h1
                  simp
            refine ⟨_, rfl, ?_⟩
            simp only [dxs, dl, dwipe, List.map_cons, List.map_nil, sC]
            refine ⟨okE_si rfl sSi (Nat.zero_le _), ?_⟩
            cases hb : D.eqv (.str (sgn c)) sD with
            | true =>
              rw [if_pos rfl]
              exact ind (m4 + 1) (by omega)
            | false =>
              rw [if_neg Bool.false_ne_true]
              refine ⟨p, 4, m4 + 1, rfl, by decide, by decide, by rw [gput_ne hyp, gput_same], fun r hr => ?_⟩
              have ei : ∀ (G : GH) (x : Int), D.cur G (.int x) = .int x := fun _ _ => rfl
              rw [gput_under hyp]
              simp only [ei, okE_int, eqv_int, true_and]
              by_cases hr0 : (r : Int) = 0
              · rw [if_pos (by simpa using hr0)]
                exact ind m4 (by omega)
              · rw [if_neg (by simpa using hr0)]
                refine ⟨ts, m4 + 1, rfl, by rw [tk]; exact sl.trans (List.sublist_append_left _ _), hk1, ht, fun c0 h0 e0 => ?_, by omega, rfl⟩
                rw [tk] at h0
                rcases List.mem_append.mp h0 with h1 | h1
                · exact hc0 c0 h1 e0
                · rw [List.mem_singleton] at h1
                  subst h1
                  rw [e0] at hb
                  rw [(eqv_si rfl rfl).mpr rfl] at hb
                  cases hb
          · rintro acc G3 ⟨ts, m3, rfl, sl, hk, ht, hc0, hm3, rfl⟩
            rw [signs_len, List.take_length] at sl hc0
            rw [signs_len] at hm3
            have rl := rp.len
            have tsl : ts.length ≤ 3 := by
              have := sl.length_le
              rw [List.length_map] at this
              omega
            simp only [rExtendD, dxs, dl, gput_gput, ← List.map_append]
            refine ⟨sz (by simp; omega), m3, row ++ ts, gput G1 p (dk m3), _, _, _, rfl, rfl, by rw [gput_ne (fun e => hyp e.symm)]; exact hy1, wr sb1, by omega, hj1, rp.step (letters_lt lh) (letters_lt lw) ws3 hh sl (fun ht0 => ?_) rfl ht⟩
            obtain ⟨c0, h0, e0⟩ := sT ht0
            exact List.ne_nil_of_mem (hc0 c0 h0 e0)
        · intro X hX
          simp only [dxs, dl]
          cases htot : tot with
          | true =>
            rw [if_pos rfl]
            obtain ⟨m4, rfl⟩ : ∃ m4, m' = m4 + 1 := ⟨m' - 1, by omega⟩
            refine ⟨p, m4, _, _, rfl, .inr ⟨ws, rfl, rfl⟩, by rw [List.length_map]; exact letters_pos lw, by rw [List.length_map]; omega, by rw [gput_ne hyp]; exact gp2, fun x hx => ?_⟩
            obtain ⟨c0, h0, rfl⟩ := List.mem_map.mp hx
            rw [htot] at hX
            refine hX _ _ ⟨m4, .str (sgn c0), rfl, ?_, by omega, rfl, fun _ => rfl, fun _ => ⟨c0, h0, rfl⟩⟩
            rw [gput_comm (fun e => hyp e.symm)]
          | false =>
            rw [if_neg Bool.false_ne_true]
            rw [htot] at hX
            refine hX _ _ ⟨m', .str (Str.ofString ""), rfl, ?_, by omega, rfl, fun _ => rfl, fun z => by cases z⟩
            rw [gput_self gp2]
      · rintro S' G2 ⟨m', row, G1, x8, x9, x10, rfl, rfl, hy1, sb1, hm', hj, rp⟩
        rw [signs_len] at rp hm'
        have sb2 : Sub (gput (gput G p (dk m')) z (.lst (rows.map rowD))) (gput G1 y (.lst (row.map Mv.d))) := sb1.trans (sub_new hy1 rfl)
        have rl := rp.len
        obtain ⟨gp2, gz2⟩ := rd sb2
        simp only [dxs, dl, rTupleD, gz2, rAppendD, gput_same, beq_self_eq_true, true_and]
        refine ⟨szl (by simp; omega), m', rows ++ [row], _, _, _, _, _, rfl, ?_, by simp [hrl], by omega, fun r1 hr1 => ?_⟩
        · have := wz (o3 := .lst (rows.map rowD ++ [.tup (row.map Mv.d)])) sb2
          rw [List.map_append]
          exact this
        · rcases List.mem_append.mp hr1 with hr1 | hr1
          · exact hrows r1 hr1
          · rw [List.mem_singleton.mp hr1]
            exact ⟨rp.row, by omega, fun ht x hx => rp.full ht x (by rw [List.take_length]; exact hx)⟩
    · rintro S' G' ⟨m, rows, x6, x7, x8, x9, x10, rfl, sb, hrl, hm, hrows⟩
      rw [range_len] at hrl hm
      obtain ⟨gp1, gz1⟩ := rd sb
      simp only [dxs, dl, rTupleD, gz1]
      refine ⟨by show (3 : Nat) ≤ 15; decide, fun u hu => ?_⟩
      have gu : G u = none := by
        cases e : G u with
        | none => rfl
        | some o =>
          exfalso
          by_cases h1 : u = p
          · subst h1; rw [gp1] at hu; cases hu
          · have := sb.le u o (by rw [gput_ne (fun e2 => by subst e2; rw [hz] at e; cases e), gput_ne h1]; exact e)
            rw [this] at hu; cases hu
      have hup : u ≠ p := fun e => by rw [e, gp1] at hu; cases hu
      refine ⟨gput (gput G p (dk m)) u (.dK (wK hs ws rows)), ?_, ?_⟩
      · refine Sub.put ?_ u _
        exact (sub_new (by rw [gput_ne hzp]; exact hz) rfl).trans sb
      · refine q rows m u (by omega) hrl ⟨⟨lh, lw, by omega, by omega, by omega, by omega, fun r1 hr1 => ?_⟩, by omega, hs3, ws3, fun r1 hr1 => (hrows r1 hr1).2.1, fun ht r1 hr1 => (hrows r1 hr1).2.2 ht⟩ gu
        obtain ⟨a, b, _⟩ := hrows r1 hr1
        rw [hrl]
        exact ⟨a, by omega⟩
end
end Pace
end
section
set_option Elab.async false
set_option linter.all false
set_option maxRecDepth 100000
set_option maxHeartbeats 4000000
namespace Pace
open PySem PySem.Spec PyProof.Rows L2 DL
section
variable {P : Program} {w : World} {K : PySem.W.Frag} {mg : Str → Option Value} {base : Heap} {C : Addr}
def spReach64 : SpD := fun ds G Q => ∃ (z : Addr) (hs ws : List Nat) (rs : Rows) (p : List Nat), ds = [.rf z, .str (strOf p)] ∧ G z = some (.dK (wK hs ws rs)) ∧ Steps rs ∧ rs.length ≤ 5 ∧ (∀ r ∈ rs, r.length ≤ 9) ∧ p.length ≤ 1000 ∧ Q (classD rs p) G
abbrev N__law_reach : List Str := ["_law_w", "_law_said", "_law_found", "_law_begun", "_law_some_here", "_law_h", "_law_later", "_law_here", "_law_sign", "_law_c", "_law_there"]
theorem sc__law_reach : FnScope N__law_reach ["_law_w", "_law_said"] (defScope s__law_reach) := ⟨rfl, rfl, rfl, by decide +kernel, rfl, by decide +kernel, by decide +kernel⟩
theorem c__law_reach (T : Txt K mg C) (d : Def K mg "_law_reach" s__law_reach) : Cal P w K mg base "_law_reach" 1 ["_law_w", "_law_said"] (spReach64) := by
  refine cal_mk (N := N__law_reach) d sc__law_reach (fun ds G Q h => ?_) (fun _ _ _ _ _ _ us hl => match us, hl with | [_, _], _ => rfl) (fun f cdv A outer s H E hg hr => ?_)
  · obtain ⟨z, hs, ws, rs, p, rfl, _⟩ := h
    rfl
  · have hu := hu100 hr
    have nd := sc__law_reach.nd
    have hA := deeper_guards (env := envOfC "_law_reach" (defScope s__law_reach) s.heap.objs.size f cdv) hg
    refine ⟨_, (dps_cons (dp_asg (de_lstM da_nil) (dg_name 2 nd))
  (dps_cons (dp_for PassesOwn.never rfl (di_range1 rfl T.f_range (da_cons (de_callB cd_len rfl T.f_len (by decide +kernel) (da_cons (de_ix hu (de_var 0) de_str) da_nil)) da_nil)) (dg_name 3 nd)
  (dps_cons (dp_asg (de_lst (da_cons (de_var 3) da_nil)) (dg_name 4 nd))
  (dps_cons (dp_for PassesOwn.never rfl (di_str (de_var 1)) (dg_name 5 nd)
  (dps_cons (dp_asg (de_lstM da_nil) (dg_name 6 nd))
  (dps_cons (dp_for PassesOwn.never rfl (di_list (de_var 4)) (dg_name 7 nd)
  (dps_one (dp_expr (de_bm PySem.F.plainAttrs_list PySem.F.slot_list_extend PySem.F.type_list_extend md_extend (de_var 6) (da_cons (de_lc (own := [("_law_sign", 8), ("_law_c", 9), ("_law_there", 10)]) (p := (.tp [8, 9, 10])) rfl nd (di_tup (de_ix hu (de_ix hu (de_var 0) de_str) (de_var 7))) (blkOk_by (by show blkC N__law_reach (defScope s__law_reach) _ _ = true; decide +kernel)) (by decide) (fun _ _ _ _ _ => pg_tup rfl (pgs_cons (pg_name (i := 8) nd rfl (Or.inl rfl)) (pgs_cons (pg_name (i := 9) nd rfl (Or.inl rfl)) (pgs_cons (pg_name (i := 10) nd rfl (Or.inl rfl)) pgs_nil)))) (fun _ _ _ _ _ => (dts_one (dt_cmp (od_eq hu) (de_var 8) (de_var 5) (nomark _)))) (fun _ _ _ _ _ => (de_var 10))) da_nil)))))
  (dps_one (dp_asg (de_sortSet rfl rfl T.f_sorted rfl T.f_set (de_var 6)) (dg_name 4 nd))))))
  (dps_one (dp_expr (de_bm PySem.F.plainAttrs_list PySem.F.slot_list_append PySem.F.type_list_append md_append (de_var 2) (da_cons (de_callTy cd_tuple rfl T.f_tuple (by decide +kernel) (da_cons (de_var 4) da_nil)) da_nil)))))))
  (dps_one (dp_ret (de_callTy cd_tuple rfl T.f_tuple (by decide +kernel) (da_cons (de_var 2) da_nil)))))), fun ds G Q h => ?_⟩
    obtain ⟨z, hs, ws, rs, p, rfl, gz, st, r5, r9, pl, zz⟩ := h
    rw [show dstart N__law_reach [.rf z, .str (strOf p)] = [some (.rf z), some (.str (strOf p)), none, none, none, none, none, none, none, none, none] from rfl]
    have i2 : D.item (.dK (wK hs ws rs)) (.str (Str.ofString "rows")) = some (rowsD rs) := rfl
    have ec : ∀ (G : GH), D.cur G (rowsD rs) = rowsD rs := fun _ => rfl
    have cl := st.cl
    have eS : ∀ (G : GH) (x : Str), D.cur G (.str x) = .str x := fun _ _ => rfl
    have few : Few rs := ⟨9, r9, by omega⟩
    have mt : ∀ r ∈ rs, ∀ m ∈ r, m.t < rs.length := st.cl.2
    have gne : ∀ {a : Addr} {G' : GH}, G' a = none → G' z = some (.dK (wK hs ws rs)) → z ≠ a := fun {a G'} h1 h2 e => by rw [e, h1] at h2; cases h2
    have rat : ∀ s, s < rs.length → D.item (rowsD rs) (.int (s : Int)) = some (rowD (rowS rs s)) := fun s hs => by
      refine atI_nat ?_
      rw [List.getElem?_map, List.getElem?_eq_getElem hs]
      unfold rowS rowD
      simp [List.getD, hs]
    simp only [dxs, dl, dx3]
    refine ⟨Nat.zero_le _, fun a ha => ?_⟩
    have za := gne ha gz
    have gz1 : ∀ o, gput G a o z = some (.dK (wK hs ws rs)) := fun o => by rw [gput_ne za]; exact gz
    simp only [gz1, i2]
    rw [rows_len_]
    simp only
    refine ⟨by omega, by omega, ?_⟩
    rw [Int.toNat_natCast]
    refine ⟨fun b S' G' => ∃ x3 x4 x5 x6 x7 x8 x9 x10, S' = [some (.rf z), some (.str (strOf p)), some (.rf a), x3, x4, x5, x6, x7, x8, x9, x10] ∧ Sub G G' ∧ G' a = some (.lst ((List.range b).map fun s => .tup (natsD (run rs [s] p)))),
      ⟨_, _, _, _, _, _, _, _, rfl, sub_new ha rfl, gput_same⟩, fun _ _ _ _ => trivial, ?_, ?_⟩
    · rintro b S' G' d ⟨x3, x4, x5, x6, x7, x8, x9, x10, rfl, sb, ga⟩ hd
      obtain ⟨hb, rfl⟩ := range_get2 hd
      simp only [x_gname, dxs, dl, dx3]
      refine ⟨sz (by decide), ?_⟩
      refine ⟨fun i S' G' => ∃ x5 x6 x7 x8 x9 x10, S' = [some (.rf z), some (.str (strOf p)), some (.rf a), some (.int (b : Nat)), some (.lst (natsD (run rs [b] (p.take i)))), x5, x6, x7, x8, x9, x10] ∧ Sub G G' ∧ G' a = some (.lst ((List.range b).map fun s => .tup (natsD (run rs [s] p)))),
        ⟨_, _, _, _, _, _, rfl, sb, ga⟩, fun _ _ _ _ => trivial, ?_, ?_⟩
      · rintro i S' G' d ⟨x5, x6, x7, x8, x9, x10, rfl, sb, ga⟩ hd
        obtain ⟨c, hc, rfl⟩ := signs_get hd
        simp only [dxs, dl]
        have hlt2 : ∀ k ∈ run rs [b] (p.take i), k < rs.length := run_lt mt (by simpa using hb)
        have nd2 : (run rs [b] (p.take i)).Nodup := run_nodup (by simp)
        have e : p.take (i + 1) = p.take i ++ [c] := by rw [List.take_add_one, hc]; rfl
        rw [e, run_snoc]
        generalize run rs [b] (p.take i) = ts at hlt2 nd2 ⊢
        have h64 := few.len nd2 hlt2 c
        refine ⟨Nat.zero_le _, fun q hq => ?_⟩
        have aq : a ≠ q := fun h => by rw [h, hq] at ga; cases ga
        have zq := gne hq (sb.le _ _ gz)
        have gzq : ∀ o, gput G' q o z = some (.dK (wK hs ws rs)) := fun o => by rw [gput_ne zq]; exact sb.le _ _ gz
        refine ⟨fun j S' G2 => ∃ x7 x8 x9 x10, S' = [some (.rf z), some (.str (strOf p)), some (.rf a), some (.int (b : Nat)), some (.lst (natsD ts)), some (.str (sgn c)), some (.rf q), x7, x8, x9, x10] ∧
          G2 = gput G' q (.lst (natsD ((ts.take j).flatMap fun s => hits rs s c))), ⟨_, _, _, _, rfl, rfl⟩, fun _ _ _ _ => trivial, ?_, ?_⟩
        · rintro j S' G2 dd ⟨x7, x8, x9, x10, rfl, rfl⟩ hd
          obtain ⟨s1, hs1, rfl⟩ := natsD_get hd
          have h1 := hlt2 s1 (List.mem_of_getElem? hs1)
          simp only [dxs, dl, dx3, gzq, i2, ec, rat s1 h1]
          refine ⟨rfl, ?_⟩
          show LcB ((rowS rs s1).map Mv.d) _ _ _ _ _ _ _ _
          refine lc_someA (rowS rs s1) Mv.d (fun m => m.h == c) (fun m => .int (m.t : Int)) rfl (sz (by have := (st.row s1).2; omega)) trivial (fun m _ => ⟨_, rfl, fun Q zz => ?_, fun hb2 Q zz => ?_⟩) ?_
          · simp only [dxs, dl, dwipe, List.map_cons, List.map_nil, Mv.d, eS, sgn_okE, sgn_eqv, true_and]
            exact zz
          · simp only [dxs, dl, dwipe, List.map_cons, List.map_nil, Mv.d]
            exact zz
          have e4 : hits rs s1 c = ((rowS rs s1).filter fun m => m.h == c).map (·.t) := rfl
          have e3 : ts.take (j + 1) = ts.take j ++ [s1] := take_step hs1
          have e5 : ((rowS rs s1).filter fun m => m.h == c).map (fun m => D.int (m.t : Int)) = natsD (hits rs s1 c) := by rw [e4]; simp [natsD]
          rw [e5]
          have hb := few.len (ss := ts.take (j + 1)) (nd2.sublist (List.take_sublist _ _)) (fun s hs => hlt2 s (List.mem_of_mem_take hs)) c
          rw [e3, List.flatMap_append, List.length_append] at hb
          simp only [List.flatMap_cons, List.flatMap_nil, List.append_nil] at hb
          simp only [rExtendD, dxs, dl, gput_gput]
          refine ⟨sz (by rw [natsD_len, natsD_len]; omega), some (.int (s1 : Int)), x8, x9, x10, rfl, ?_⟩
          rw [e3, natsD_app, List.flatMap_append]
          simp
        · rintro S' G2 ⟨x7, x8, x9, x10, rfl, rfl⟩
          have hl : (natsD ts).length = ts.length := by simp [natsD]
          rw [hl, List.take_length]
          simp only [dxs, dl, dx2, intsD_nats, isort1_nat, List.length_map]
          refine ⟨h64, _, _, _, _, _, _, rfl, sb.over (by
            cases e : G q with
            | none => rfl
            | some u => rw [sb.le _ _ e] at hq; cases hq) rfl, by rw [gput_ne aq]; exact ga⟩
      · rintro S' G' ⟨x5, x6, x7, x8, x9, x10, rfl, sb, ga⟩
        rw [signs_len, List.take_length]
        simp only [dxs, dl, dx3, ga]
        refine ⟨rfl, ?_⟩
        simp only [rAppendD, ga]
        refine ⟨szl (by rw [List.length_map, List.length_range]; omega), _, _, _, _, _, _, _, _, rfl, sb.over ha rfl, ?_⟩
        rw [gput_same, List.range_succ, List.map_append]
        rfl
    · rintro S' G' ⟨x3, x4, x5, x6, x7, x8, x9, x10, rfl, sb, ga⟩
      rw [List.length_map, List.length_range] at ga
      have ca : D.cur G' (.rf a) = .lst ((List.range rs.length).map fun s => .tup (natsD (run rs [s] p))) := cur_l ga
      simp only [dxs, dl, dx3, rTupleD, ca]
      have ez : D.tup ((List.range rs.length).map fun s => .tup (natsD (run rs [s] p))) = classD rs p := by
        unfold classD classOf
        rw [List.map_map]
        rfl
      rw [ez]
      exact ⟨G, sb, zz⟩
end
end Pace
end
section
set_option Elab.async false
set_option linter.all false
set_option maxRecDepth 100000
set_option maxHeartbeats 4000000
namespace Pace
open PySem PySem.Spec PyProof.Rows L2 DL
section
variable {P : Program} {w : World} {K : PySem.W.Frag} {mg : Str → Option Value} {base : Heap} {C : Addr}
def spCosts64 : SpD := fun ds G Q => ∃ (z : Addr) (hs ws : List Nat) (rs : Rows) (s : Nat) (p q : List Nat), ds = [.rf z, .int (s : Nat), .str (strOf p), .str (strOf q)] ∧ G z = some (.dK (wK hs ws rs)) ∧ Steps rs ∧ s < rs.length ∧ rs.length ≤ 10 ∧ p.length = q.length ∧ p.length ≤ 1000 ∧ Q (.tup (rowDs (rowF rs s (p.zip q)))) G
abbrev N__law_costs_from : List Str := ["_law_w", "_law_begun", "_law_said", "_law_shown", "_law_found", "_law_h", "_law_c", "_law_later", "_law_here", "_law_sign", "_law_mark", "_law_there", "_law_cost"]
theorem sc__law_costs_from : FnScope N__law_costs_from ["_law_w", "_law_begun", "_law_said", "_law_shown"] (defScope s__law_costs_from) := ⟨rfl, rfl, rfl, by decide +kernel, rfl, by decide +kernel, by decide +kernel⟩
theorem c__law_costs_from (T : Txt K mg C) (d : Def K mg "_law_costs_from" s__law_costs_from) : Cal P w K mg base "_law_costs_from" 1 ["_law_w", "_law_begun", "_law_said", "_law_shown"] (spCosts64) := by
  refine cal_mk (N := N__law_costs_from) d sc__law_costs_from (fun ds G Q h => ?_) (fun _ _ _ _ _ _ us hl => match us, hl with | [_, _, _, _], _ => rfl) (fun f cdv A outer s H E hg hr => ?_)
  · obtain ⟨z, hs, ws, rs, s, p, q, rfl, _⟩ := h
    rfl
  · have hu := hu100 hr
    have nd := sc__law_costs_from.nd
    have hA := deeper_guards (env := envOfC "_law_costs_from" (defScope s__law_costs_from) s.heap.objs.size f cdv) hg
    refine ⟨_, (dps_cons (dp_asg (de_dispM (dpp_cons (de_var 1) de_int dpp_nil)) (dg_name 4 nd))
  (dps_cons (dp_for PassesOwn.never rfl (di_zipS rfl T.f_zip (da_cons (de_var 2) (da_cons (de_var 3) da_nil))) (dg_tup (n := 2) rfl (dgs_cons (dg_name 5 nd) (dgs_cons (dg_name 6 nd) dgs_nil)))
  (dps_cons (dp_asg de_newK (dg_name 7 nd))
  (dps_cons (dp_lockK (dp_for PassesOwn.never rfl (di_keysK (de_var 4)) (dg_name 8 nd)
  (dps_one (dp_for PassesOwn.never rfl (di_tup (de_ix hu (de_ix hu (de_var 0) de_str) (de_var 8))) (dg_tup (n := 3) rfl (dgs_cons (dg_name 9 nd) (dgs_cons (dg_name 10 nd) (dgs_cons (dg_name 11 nd) dgs_nil))))
  (dps_one (dp_if (dt_cmp (od_eq hu) (de_var 9) (de_var 5) (nomark _))
  (dps_cons (dp_asg (de_op od_add (de_ixK hu (de_var 4) (de_var 8)) (de_callTy cd_int rfl T.f_int (by decide +kernel) (da_cons (de_cmp (od_ne hu) (de_var 10) (de_var 6) (nomark _)) da_nil))) (dg_name 12 nd))
  (dps_one (dp_asg (de_callB (cd_min2 rfl) rfl T.f_min (by decide +kernel) (da_cons (de_var 12) (da_cons (de_get2 hu (de_var 7) (de_var 11) (de_var 12)) da_nil))) (dg_sub hu (de_var 7) (de_var 11)))))
  dps_nil))))))
  (dps_one (dp_asg (de_var 7) (dg_name 4 nd))))))
  (dps_one (dp_ret (de_callTy cd_tuple rfl T.f_tuple (by decide +kernel) (da_cons (de_lc (own := [("_law_here", 8)]) (p := (.nm 8)) rfl nd (di_range1 rfl T.f_range (da_cons (de_callB cd_len rfl T.f_len (by decide +kernel) (da_cons (de_ix hu (de_var 0) de_str) da_nil)) da_nil)) (blkOk_by (by show blkC N__law_costs_from (defScope s__law_costs_from) _ _ = true; decide +kernel)) (by decide) (fun _ _ _ _ _ => pg_name (i := 8) nd rfl (Or.inl rfl)) (fun _ _ _ _ _ => dts_nil) (fun _ _ _ _ _ => (de_get2 hu (de_var 4) (de_var 8) de_non))) da_nil)))))), fun ds G Q h => ?_⟩
    obtain ⟨z, hs, ws, rs, s0, p, q, rfl, gz, st, sl, n10, pq, pl, zz⟩ := h
    rw [show dstart N__law_costs_from [.rf z, .int (s0 : Nat), .str (strOf p), .str (strOf q)] = [some (.rf z), some (.int (s0 : Nat)), some (.str (strOf p)), some (.str (strOf q)), none, none, none, none, none, none, none, none, none] from rfl]
    have n999 := st.n
    have zl : (p.zip q).length = p.length := by rw [List.length_zip]; omega
    have eS : ∀ (G : GH) (x : Str), D.cur G (.str x) = .str x := fun _ _ => rfl
    have ec : ∀ (G : GH), D.cur G (rowsD rs) = rowsD rs := fun _ => rfl
    have eI : ∀ (G : GH) (n : Int), D.cur G (.int n) = .int n := fun _ _ => rfl
    have i2 : D.item (.dK (wK hs ws rs)) (.str (Str.ofString "rows")) = some (rowsD rs) := rfl
    have rat : ∀ s, s < rs.length → D.item (rowsD rs) (.int (s : Int)) = some (rowD (rowS rs s)) := fun s hs => by
      refine atI_nat ?_
      rw [List.getElem?_map, List.getElem?_eq_getElem hs]
      unfold rowS rowD
      simp [List.getD, hs]
    generalize hw : p.zip q = w at zz zl ⊢
    have k0 : keyed [(D.int (s0 : Nat), D.int 0)] = some (cdD [(s0, 0)]) := rfl
    have mg : mergeD [] (cdD [(s0, 0)]) = cdD [(s0, 0)] := rfl
    have gne : ∀ {G' : GH} {a b : Addr}, G' a = none → (∃ o, G' b = some o) → b ≠ a := fun {G' a b} h1 h2 e => by
      obtain ⟨o, h2⟩ := h2
      rw [e, h1] at h2
      cases h2
    simp only [dxs, dl, dx3, k0, mg]
    refine ⟨Nat.succ_le_succ (Nat.zero_le _), fun a0 ha0 => ?_⟩
    have ew : List.zipWith (fun a b => D.tup [D.str (sgn a), D.str (sgn b)]) (strOf p).cps.toList (strOf q).cps.toList = w.map fun k => .tup [.str (sgn k.1), .str (sgn k.2)] := by
      rw [zip_map, ← hw]
      rfl
    rw [ew]
    refine ⟨fun i S' G' => ∃ (a : Addr) (L : CL) (x5 x6 x7 x8 x9 x10 x11 x12 : Option D), S' = [some (.rf z), some (.int (s0 : Nat)), some (.str (strOf p)), some (.str (strOf q)), some (.rf a), x5, x6, x7, x8, x9, x10, x11, x12] ∧ Sub G G' ∧ G' a = some (.dK (cdD L)) ∧ CD L (rowF rs s0 (w.take i)),
      ⟨a0, [(s0, 0)], _, _, _, _, _, _, _, _, rfl, sub_new ha0 rfl, gput_same, CD.start sl⟩, fun _ _ _ _ => trivial, ?_, ?_⟩
    · rintro i S' G' d ⟨a, L0, x5, x6, x7, x8, x9, x10, x11, x12, rfl, sb, ga, cd⟩ hd
      obtain ⟨k, hk, rfl⟩ := map_get hd
      have hi := (List.getElem?_eq_some_iff.mp hk).1
      have gz' := sb.le _ _ gz
      simp only [dxs, dl, dx3]
      refine ⟨trivial, fun b hb => ?_⟩
      have ab := gne hb ⟨_, ga⟩
      have zb := gne hb ⟨_, gz'⟩
      have zaN : z ≠ a := fun e => by
        rw [e, ga] at gz'
        have e2 : cdD L0 = wK hs ws rs := by injection gz' with gz'; injection gz'
        have e3 := congrArg (fun l : List (Key × D) => (l.map (·.1)).head?) e2
        cases L0 with
        | nil => cases e3
        | cons x l => cases e3
      have ik : ∀ t : Int, (D.int t).key = some (.inl t) := fun _ => rfl
      show dLockK _ _ _ _
      refine ⟨a, cdD L0, by rw [gput_ne ab]; exact ga, fun o kvs => ?_⟩
      have gA : ∀ L, gput (gput G' b (.dK (cdD L))) a (.lkK o kvs (cdD L0)) a = some (.lkK o kvs (cdD L0)) := fun L => gput_same
      have gB : ∀ L, gput (gput G' b (.dK (cdD L))) a (.lkK o kvs (cdD L0)) b = some (.dK (cdD L)) := fun L => by rw [gput_ne (Ne.symm ab), gput_same]
      have gZ : ∀ L, gput (gput G' b (.dK (cdD L))) a (.lkK o kvs (cdD L0)) z = some (.dK (wK hs ws rs)) := fun L => by rw [gput_ne zaN, gput_ne zb, gz']
      have gW : ∀ L L', gput (gput (gput G' b (.dK (cdD L))) a (.lkK o kvs (cdD L0))) b (.dK (cdD L')) = gput (gput G' b (.dK (cdD L'))) a (.lkK o kvs (cdD L0)) := fun L L' => gput_under (Ne.symm ab)
      have ed : (MO.dK []) = .dK (cdD []) := rfl
      rw [ed]
      have al0 : (rowF rs s0 (w.take i)).length = rs.length := rowF_len _ _ _
      simp only [diKeysK, dxs, dl, gA, rNegD]
      refine ⟨fun j S' G'' => ∃ (L : CL) (x8 x9 x10 x11 x12 : Option D), S' = [some (.rf z), some (.int (s0 : Nat)), some (.str (strOf p)), some (.str (strOf q)), some (.rf a), some (.str (sgn k.1)), some (.str (sgn k.2)), some (.rf b), x8, x9, x10, x11, x12] ∧ G'' = gput (gput G' b (.dK (cdD L))) a (.lkK o kvs (cdD L0)) ∧ CK rs.length L ∧ ∀ s, IsMin (lkC L s) fun n => StepL rs L0 k j [] s n,
        ⟨[], _, _, _, _, _, rfl, rfl, CK.nil _, fun s => isMin_none fun n => StepL.zero⟩, fun _ _ _ ⟨L, _, _, _, _, _, _, h, _⟩ => by rw [h]; exact gA L, ?_, ?_⟩
      · rintro j S' G'' d ⟨L, x8, x9, x10, x11, x12, rfl, rfl, ck, mn⟩ hd
        obtain ⟨s, x, hj, rfl⟩ : ∃ s x, L0[j]? = some (s, x) ∧ d = .int (s : Int) := by
          unfold cdD at hd
          rw [List.map_map, List.getElem?_map] at hd
          cases e : L0[j]? with
          | none => rw [e] at hd; cases hd
          | some y => rw [e] at hd; cases hd; exact ⟨y.1, y.2, rfl, rfl⟩
        have hs : s < rs.length := by
          rw [← al0]
          exact cd.ck.lt s (List.mem_map.mpr ⟨_, List.mem_of_getElem? hj, rfl⟩)
        have hv : valD (cdD L0) (.inl (s : Int)) = some (.int (x : Int)) := by
          rw [cdD_val, cd.ck.mem.mp (List.mem_of_getElem? hj)]
          rfl
        simp only [dxs, dl, dx3, gZ, i2, ec, rat s hs]
        refine ⟨fun l S' G'' => ∃ (L : CL) (x9 x10 x11 x12 : Option D), S' = [some (.rf z), some (.int (s0 : Nat)), some (.str (strOf p)), some (.str (strOf q)), some (.rf a), some (.str (sgn k.1)), some (.str (sgn k.2)), some (.rf b), some (.int (s : Int)), x9, x10, x11, x12] ∧ G'' = gput (gput G' b (.dK (cdD L))) a (.lkK o kvs (cdD L0)) ∧ CK rs.length L ∧ ∀ t, IsMin (lkC L t) fun n => StepL rs L0 k j ((rowS rs s).take l) t n,
          ⟨L, _, _, _, _, rfl, rfl, ck, mn⟩, fun _ _ _ _ => trivial, ?_, ?_⟩
        · rintro l S' G'' d ⟨L, x9, x10, x11, x12, rfl, rfl, ck, mn⟩ hd
          obtain ⟨m, hm, rfl⟩ := map_get hd
          have mt : m.t < rs.length := st.cl.t (List.mem_of_getElem? hm)
          have stp : ∀ t n, StepL rs L0 k j ((rowS rs s).take (l + 1)) t n ↔ StepL rs L0 k j ((rowS rs s).take l) t n ∨ (m.h = k.1 ∧ t = m.t ∧ n = x + b2n (decide (m.c ≠ k.2))) := fun t n => by
            rw [take_step hm]
            exact StepL.move hj
          simp only [dxs, dl, dx3, Mv.d, eS, sgn_okE, sgn_eqv, true_and]
          by_cases e : m.h = k.1
          · rw [if_pos (by simpa using e)]
            have eb : (!decide (m.c = k.2)) = decide (m.c ≠ k.2) := by by_cases e : m.c = k.2 <;> simp [e]
            have cst : ∀ b : Bool, ((x : Nat) : Int) + (if b = true then 1 else 0) = ((x + b2n b : Nat) : Int) := fun b => by
              unfold b2n
              cases b <;> simp
            have hty : D.hasTy "dict" (.dK (cdD L)) = true := rfl
            simp only [rItemK, gA, ik, hv, x_intB, eb, rAddD, eI, cst, gB, D.look, Option.map_some, cdD_val, hty, true_and]
            have mnp := IsMin.put (t := m.t) (x := x + b2n (decide (m.c ≠ k.2))) (fun s => mn s)
            have fin_ : ∀ t, IsMin (lkC (putC L m.t (min (x + b2n (decide (m.c ≠ k.2))) ((lkC L m.t).getD (x + b2n (decide (m.c ≠ k.2)))))) t) fun n => StepL rs L0 k j ((rowS rs s).take (l + 1)) t n := fun t => (mnp t).congr fun n => by
              rw [stp]
              simp [e]
            have ll := ck.len
            have cl0 : (cdD L).length = L.length := by unfold cdD; rw [List.length_map]
            have eo : ((lkC L m.t).map fun n : Nat => D.int (n : Int)).getD (.int ((x + b2n (decide (m.c ≠ k.2)) : Nat) : Int)) = .int (((lkC L m.t).getD (x + b2n (decide (m.c ≠ k.2))) : Nat) : Int) := by cases lkC L m.t <;> rfl
            have em : ∀ u v : Nat, (if ((v : Nat) : Int) < ((u : Nat) : Int) then ((v : Nat) : Int) else ((u : Nat) : Int)) = ((min u v : Nat) : Int) := fun u v => by
              split
              · rw [Nat.min_eq_right (by omega)]
              · rw [Nat.min_eq_left (by omega)]
            simp only [eo, rMin2D, em, gB, cl0, cdD_put, gW]
            refine ⟨sz (by omega), _, _, _, _, _, rfl, rfl, ck.put mt, fin_⟩
          · rw [if_neg (by simpa using e)]
            exact ⟨L, _, _, _, _, rfl, rfl, ck, fun t => (mn t).congr fun n => by rw [stp]; simp [e]⟩
        · rintro S' G'' ⟨L, x9, x10, x11, x12, rfl, rfl, ck, mn⟩
          rw [List.length_map, List.take_length] at mn
          exact ⟨L, _, _, _, _, _, rfl, rfl, ck, fun t => (mn t).congr fun n => StepL.next hj⟩
      · rintro S' G'' ⟨L, x8, x9, x10, x11, x12, rfl, rfl, ck, mn⟩
        have el : ((cdD L0).map fun kv => keyD kv.1).length = L0.length := by unfold cdD; simp
        rw [el] at mn
        have cdn := CD.next (A := rs) (k := k) (fun s _ m hm => st.cl.t hm) al0 cd ck mn
        rw [← rowF_snoc, ← take_step hk] at cdn
        refine ⟨gA L, ?_⟩
        have back : gput (gput (gput G' b (.dK (cdD L))) a (.lkK o kvs (cdD L0))) a (.dK (cdD L0)) = gput G' b (.dK (cdD L)) := by
          rw [gput_gput]
          exact gput_self (by rw [gput_ne ab]; exact ga)
        have hGb : G b = none := by
          cases e : G b with
          | none => rfl
          | some u => rw [sb.le _ _ e] at hb; cases hb
        simp only [dxs, dl, dx3, back]
        exact ⟨b, L, _, _, _, _, _, _, _, _, rfl, sb.over hGb rfl, gput_same, cdn⟩
    · rintro S' G' ⟨a, L, x5, x6, x7, x8, x9, x10, x11, x12, rfl, sb, ga, cd⟩
      rw [List.length_map, List.take_length] at cd
      simp only [dxs, dl, dx3, sb.le _ _ gz, i2]
      rw [rows_len_]
      simp only
      refine ⟨by omega, by omega, ?_⟩
      rw [Int.toNat_natCast]
      have hty : D.hasTy "dict" (.dK (cdD L)) = true := rfl
      have ik : ∀ t : Int, (D.int t).key = some (.inl t) := fun _ => rfl
      refine lc_mapA (List.range rs.length) (fun i : Nat => .int (i : Int)) (fun i => natO ((rowF rs s0 w).getD i none)) rfl (sz (by rw [List.length_range]; omega)) trivial (fun i hi => ⟨_, rfl, fun Q zz => ?_⟩) ?_
      · simp only [dxs, dl, dx3, dwipe, List.map_cons, List.map_nil, ga, D.look, ik, Option.map_some, cdD_val, hty, true_and, cd.at_]
        have eo : ∀ o : Option Nat, (o.map fun n : Nat => D.int (n : Int)).getD .non = natO o := fun o => by cases o <;> rfl
        rw [eo]
        exact zz
      · simp only [rTupleD, dxs]
        have er : (List.range rs.length).map (fun i => natO ((rowF rs s0 w).getD i none)) = rowDs (rowF rs s0 w) := by
          have : rowF rs s0 w = (List.range rs.length).map fun i => (rowF rs s0 w).getD i none := by
            apply List.ext_getElem?
            intro j
            rw [List.getElem?_map]
            by_cases hj : j < rs.length
            · rw [List.getElem?_range hj, List.getElem?_eq_getElem (by rw [rowF_len]; exact hj)]
              simp [List.getD, List.getElem?_eq_getElem (show j < (rowF rs s0 w).length by rw [rowF_len]; exact hj)]
            · rw [List.getElem?_eq_none (by rw [rowF_len]; omega), List.getElem?_eq_none (by simp; omega)]
              rfl
          conv => rhs; rw [this]
          unfold rowDs
          rw [List.map_map]
          rfl
        rw [er]
        exact ⟨G, sb, zz⟩
end
end Pace
end
section
set_option Elab.async false
set_option linter.all false
set_option maxRecDepth 100000
set_option maxHeartbeats 4000000
namespace Pace
open PySem PySem.Spec PyProof.Rows L2 DL
section
variable {P : Program} {w : World} {K : PySem.W.Frag} {mg : Str → Option Value} {base : Heap} {C : Addr}
def spLed66 : SpD := fun ds G Q => ∃ (z : Addr) (hs ws : List Nat) (rs : Rows) (s : Nat) (p q : List Nat), ds = [.rf z, .int (s : Int), .str (strOf p), .str (strOf q)] ∧ G z = some (.dK (wK hs ws rs)) ∧ Steps rs ∧ s < rs.length ∧ p.length = q.length ∧ p.length ≤ 1000 ∧ Q (natO (ledN rs s (p.zip q))) G
abbrev N__law_led : List Str := ["_law_w", "_law_here", "_law_said", "_law_shown", "_law_h", "_law_c", "_law_some_here", "_law_sign", "_law_mark", "_law_there"]
theorem sc__law_led : FnScope N__law_led ["_law_w", "_law_here", "_law_said", "_law_shown"] (defScope s__law_led) := ⟨rfl, rfl, rfl, by decide +kernel, rfl, by decide +kernel, by decide +kernel⟩
theorem c__law_led (T : Txt K mg C) (d : Def K mg "_law_led" s__law_led) : Cal P w K mg base "_law_led" 1 ["_law_w", "_law_here", "_law_said", "_law_shown"] (spLed66) := by
  refine cal_mk (N := N__law_led) d sc__law_led (fun ds G Q h => ?_) (fun _ _ _ _ _ _ us hl => match us, hl with | [_, _, _, _], _ => rfl) (fun f cdv A outer s H E hg hr => ?_)
  · obtain ⟨z, hs, ws, rs, s, p, q, rfl, _⟩ := h
    rfl
  · have hu := hu100 hr
    have nd := sc__law_led.nd
    have hA := deeper_guards (env := envOfC "_law_led" (defScope s__law_led) s.heap.objs.size f cdv) hg
    refine ⟨_, (dps_cons (dp_for PassesOwn.never rfl (di_zipS rfl T.f_zip (da_cons (de_var 2) (da_cons (de_var 3) da_nil))) (dg_tup (n := 2) rfl (dgs_cons (dg_name 4 nd) (dgs_cons (dg_name 5 nd) dgs_nil)))
  (dps_cons (dp_setLc (i := 6) (own := [("_law_sign", 7), ("_law_mark", 8), ("_law_there", 9)]) (p := (.tp [7, 8, 9])) rfl nd rfl rfl (sw_true rfl rfl rfl (by decide +kernel)) (di_tup (de_ix hu (de_ix hu (de_var 0) de_str) (de_var 1))) (blkOk_by (by show blkC N__law_led (defScope s__law_led) _ _ = true; decide +kernel)) (by decide) (fun _ _ _ _ _ => pg_tup rfl (pgs_cons (pg_name (i := 7) nd rfl (Or.inl rfl)) (pgs_cons (pg_name (i := 8) nd rfl (Or.inl rfl)) (pgs_cons (pg_name (i := 9) nd rfl (Or.inl rfl)) pgs_nil)))) (fun _ _ _ _ _ => (dts_one (dt_cmp (od_eq hu) (de_tup (da_cons (de_var 7) (da_cons (de_var 8) da_nil))) (de_tup (da_cons (de_var 4) (da_cons (de_var 5) da_nil))) (nomark _)))) (fun _ _ _ _ _ => (de_var 9)))
  (dps_cons (dp_if (dt_cmp (od_eq hu) (de_var 6) (de_lst da_nil) (nomark _))
  (dps_one (dp_ret de_non))
  dps_nil)
  (dps_one (dp_asg (de_ix hu (de_var 6) de_int) (dg_name 1 nd))))))
  (dps_one (dp_ret (de_if (dt_cmp (od_eq hu) (de_callB cd_len rfl T.f_len (by decide +kernel) (da_cons (de_var 2) da_nil)) (de_callB cd_len rfl T.f_len (by decide +kernel) (da_cons (de_var 3) da_nil)) (nomark _)) (de_var 1) de_non)))), fun ds G Q h => ?_⟩
    obtain ⟨z, hs, ws, rs, s, p, q, rfl, gz, st, sl, pe, pl, zz⟩ := h
    rw [show dstart N__law_led [.rf z, .int (s : Int), .str (strOf p), .str (strOf q)] = [some (.rf z), some (.int (s : Int)), some (.str (strOf p)), some (.str (strOf q)), none, none, none, none, none, none] from rfl]
    have i2 : D.item (.dK (wK hs ws rs)) (.str (Str.ofString "rows")) = some (rowsD rs) := rfl
    have ec : ∀ (G : GH), D.cur G (rowsD rs) = rowsD rs := fun _ => rfl
    have rat : ∀ s, s < rs.length → D.item (rowsD rs) (.int (s : Int)) = some (.tup ((rowS rs s).map Mv.d)) := fun s hs => by
      refine atI_nat ?_
      rw [List.getElem?_map, List.getElem?_eq_getElem hs]
      unfold rowS rowD
      simp [List.getD, hs]
    have eT : ∀ (G : GH) (xs : List D), D.cur G (.tup xs) = .tup xs := fun _ _ => rfl
    have l1 : (strOf p).length ≤ sizeLine := by rw [strOf_len]; exact sz (by omega)
    have l2 : (strOf q).length ≤ sizeLine := by rw [strOf_len]; exact sz (by omega)
    have eI : ∀ (G : GH) (x : Int), D.cur G (.int x) = .int x := fun _ _ => rfl
    simp only [dxs, dl, zipS_eq]
    refine ⟨fun j S' G' => ∃ (t : Nat) (x4 x5 x6 x7 x8 x9 : Option D), S' = [some (.rf z), some (.int (t : Int)), some (.str (strOf p)), some (.str (strOf q)), x4, x5, x6, x7, x8, x9] ∧ G' = G ∧ ledN rs s ((p.zip q).take j) = some t,
      ⟨s, _, _, _, _, _, _, rfl, rfl, rfl⟩, fun _ _ _ _ => trivial, ?_, ?_⟩
    · rintro j S' G' d ⟨t, x4, x5, x6, x7, x8, x9, rfl, rfl, hl⟩ hd
      rw [List.getElem?_map] at hd
      cases ek : (p.zip q)[j]? with
      | none => rw [ek] at hd; cases hd
      | some k =>
        rw [ek] at hd
        cases hd
        have tl := ledN_lt st.cl.2 sl _ hl
        have rl := (st.row t).2
        have e1 := take_snoc ek
        simp only [dxs, dl, gz, i2, ec, rat t tl, true_and]
        refine lc_someA (rowS rs t) Mv.d (fun m => m.h == k.1 && m.c == k.2) (fun m => .int (m.t : Int)) rfl (sz (by omega)) trivial (fun m _ => ⟨_, rfl, fun Q zz => ?_, fun hb2 Q zz => ?_⟩) ?_
        · simp only [dxs, dl, dwipe, List.map_cons, List.map_nil, Mv.d, eT, eqv_pair]
          exact ⟨sz (by decide), sz (by decide), okE_si rfl rfl (by simp [D.dp, D.dps]), zz⟩
        · simp only [dxs, dl, dwipe, List.map_cons, List.map_nil, Mv.d]
          exact zz
        have es : step1 rs t k.1 k.2 = ((rowS rs t).filter fun m => m.h == k.1 && m.c == k.2).head?.map (·.t) := by
          rw [← find_filter]
          rfl
        have ls : ledN rs s ((p.zip q).take (j + 1)) = step1 rs t k.1 k.2 := by rw [e1, ledN_snoc, hl]; rfl
        have en : ((rowS rs t).filter fun m => m.h == k.1 && m.c == k.2).map (fun m => D.int (m.t : Int)) = natsD (((rowS rs t).filter fun m => m.h == k.1 && m.c == k.2).map (·.t)) := by simp [natsD]
        rw [en]
        have eN : ∀ (G : GH) (l : List Nat), D.cur G (.lst (natsD l)) = .lst (natsD l) := fun _ _ => rfl
        have e0 : ∀ (G : GH), D.cur G (.lst []) = .lst [] := fun _ => rfl
        simp only [dxs, dl, eN, e0, natsD_okEL0, natsD_eqvL0, true_and]
        refine ⟨Nat.zero_le _, ?_⟩
        generalize (rowS rs t).filter (fun m => m.h == k.1 && m.c == k.2) = fl at *
        cases fl with
        | nil =>
          rw [if_pos (by simp)]
          have hn : ledN rs s ((p.zip q).take (j + 1)) = none := by rw [ls, es]; rfl
          have := ledN_stop hn
          rw [this] at zz
          exact ⟨G', Sub.refl _, zz⟩
        | cons m fl =>
          rw [if_neg (by simp)]
          have it0 : D.item (.lst (natsD ((m :: fl).map (·.t)))) (.int 0) = some (.int (m.t : Int)) := atI_nat (j := 0) (by simp [natsD])
          simp only [it0]
          exact ⟨m.t, _, _, _, _, _, _, rfl, by rw [ls, es]; rfl⟩
    · rintro S' G' ⟨t, x4, x5, x6, x7, x8, x9, rfl, rfl, hl⟩
      rw [List.length_map, List.take_length] at hl
      rw [hl] at zz
      simp only [dxs, dl, len_str l1, len_str l2, strOf_len, eI, okE_int, eqv_int, pe, beq_self_eq_true, true_and, if_true]
      exact ⟨_, Sub.refl _, zz⟩
end
end Pace
end
section
set_option Elab.async false
set_option linter.all false
set_option maxRecDepth 100000
set_option maxHeartbeats 4000000
namespace Pace
open PySem PySem.Spec PyProof.Rows L2 DL
section
variable {P : Program} {w : World} {K : PySem.W.Frag} {mg : Str → Option Value} {base : Heap} {C : Addr}
def spPiece64 : SpD := fun ds G Q => ∃ (z : Addr) (hs ws : List Nat) (rs : Rows) (p q : List Nat), ds = [.rf z, .str (strOf p), .str (strOf q)] ∧ G z = some (.dK (wK hs ws rs)) ∧ Steps rs ∧ rs.length ≤ 5 ∧ (∀ r ∈ rs, r.length ≤ 9) ∧ p.length = q.length ∧ p.length ≤ 1000 ∧ Q (.tup [.tup (rowDs (leadsW rs (p.zip q))), .tup ((costsW rs (p.zip q)).map fun r => D.tup (rowDs r)), classD rs p]) G
abbrev N__law_piece : List Str := ["_law_w", "_law_said", "_law_shown", "_law_spots", "_law_costs", "_law_here"]
theorem sc__law_piece : FnScope N__law_piece ["_law_w", "_law_said", "_law_shown"] (defScope s__law_piece) := ⟨rfl, rfl, rfl, by decide +kernel, rfl, by decide +kernel, by decide +kernel⟩
theorem c__law_piece (T : Txt K mg C) (d : Def K mg "_law_piece" s__law_piece) (C__law_costs_from : Cal P w K mg base "_law_costs_from" 1 ["_law_w", "_law_begun", "_law_said", "_law_shown"] (spCosts64)) (C__law_led : Cal P w K mg base "_law_led" 1 ["_law_w", "_law_here", "_law_said", "_law_shown"] (spLed66)) (C__law_reach : Cal P w K mg base "_law_reach" 1 ["_law_w", "_law_said"] (spReach64)) : Cal P w K mg base "_law_piece" 2 ["_law_w", "_law_said", "_law_shown"] (spPiece64) := by
  refine cal_mk (N := N__law_piece) d sc__law_piece (fun ds G Q h => ?_) (fun _ _ _ _ _ _ us hl => match us, hl with | [_, _, _], _ => rfl) (fun f cdv A outer s H E hg hr => ?_)
  · obtain ⟨z, hs, ws, rs, p, q, rfl, _⟩ := h
    rfl
  · have hu := hu100 hr
    have nd := sc__law_piece.nd
    have hA := deeper_guards (env := envOfC "_law_piece" (defScope s__law_piece) s.heap.objs.size f cdv) hg
    refine ⟨_, (dps_cons (dp_asg (de_listRg1 rfl rfl T.f_list rfl T.f_range (de_callB cd_len rfl T.f_len (by decide +kernel) (da_cons (de_ix hu (de_var 0) de_str) da_nil))) (dg_name 3 nd))
  (dps_cons (dp_asg (de_callTy cd_tuple rfl T.f_tuple (by decide +kernel) (da_cons (de_lc (own := [("_law_here", 5)]) (p := (.nm 5)) rfl nd (di_list (de_var 3)) (blkOk_by (by show blkC N__law_piece (defScope s__law_piece) _ _ = true; decide +kernel)) (by decide) (fun _ _ _ _ _ => pg_name (i := 5) nd rfl (Or.inl rfl)) (fun _ _ _ _ _ => dts_nil) (fun _ _ _ _ _ => (de_cal C__law_costs_from hA (hr.mono (by decide)) (da_cons (de_var 0) (da_cons (de_var 5) (da_cons (de_var 1) (da_cons (de_var 2) da_nil))))))) da_nil)) (dg_name 4 nd))
  (dps_one (dp_ret (de_tup (da_cons (de_callTy cd_tuple rfl T.f_tuple (by decide +kernel) (da_cons (de_lc (own := [("_law_here", 5)]) (p := (.nm 5)) rfl nd (di_list (de_var 3)) (blkOk_by (by show blkC N__law_piece (defScope s__law_piece) _ _ = true; decide +kernel)) (by decide) (fun _ _ _ _ _ => pg_name (i := 5) nd rfl (Or.inl rfl)) (fun _ _ _ _ _ => dts_nil) (fun _ _ _ _ _ => (de_cal C__law_led hA (hr.mono (by decide)) (da_cons (de_var 0) (da_cons (de_var 5) (da_cons (de_var 1) (da_cons (de_var 2) da_nil))))))) da_nil)) (da_cons (de_var 4) (da_cons (de_cal C__law_reach hA (hr.mono (by decide)) (da_cons (de_var 0) (da_cons (de_var 1) da_nil))) da_nil)))))))), fun ds G Q h => ?_⟩
    obtain ⟨z, hs, ws, rs, p, q, rfl, gz, st, r5, r9, pq, pl, zz⟩ := h
    rw [show dstart N__law_piece [.rf z, .str (strOf p), .str (strOf q)] = [some (.rf z), some (.str (strOf p)), some (.str (strOf q)), none, none, none] from rfl]
    have i2 : D.item (.dK (wK hs ws rs)) (.str (Str.ofString "rows")) = some (rowsD rs) := rfl
    simp only [dxs, dl, dx3, gz, i2]
    have e0 : ∀ (S : DS) (Q : DQ), S[0]? = some (some (.rf z)) → (-2 ^ 62 ≤ (rs.length : Int) → (rs.length : Int) < 2 ^ 62 → Q (.lst (natsD (List.range rs.length))) G) → dListRg1 (dCB rLenD (dCons (dOp rItem (dVar 0) (dC (D.str (Str.ofString "rows")))) dNil)) S G Q := fun S Q h0 hq => by
      simp only [dListRg1, dxs, h0, gz, i2]
      rw [rows_len_]
      simp only [Int.toNat_natCast]
      exact ⟨RgOk.of_le (by omega) (by omega) (by omega) (by omega), hq (by omega) (by omega)⟩
    refine e0 _ _ rfl fun _ _ => ?_
    simp only
    have en : natsD (List.range rs.length) = (List.range rs.length).map fun i : Nat => D.int (i : Nat) := rfl
    rw [en]
    refine lc_mapA (List.range rs.length) (fun i : Nat => .int (i : Int)) (fun i => .tup (rowDs (rowF rs i (p.zip q)))) rfl (sz (by rw [List.length_range]; omega)) trivial (fun i hi => ⟨_, rfl, fun Q zz => ?_⟩) ?_
    · have hir := List.mem_range.mp hi
      simp only [dxs, dl, dx3, dwipe, List.map_cons, List.map_nil]
      exact ⟨z, hs, ws, rs, i, p, q, rfl, gz, st, hir, by omega, pq, pl, zz⟩
    simp only [rTupleD, dxs]
    refine lc_mapA (List.range rs.length) (fun i : Nat => .int (i : Int)) (fun i => natO (ledN rs i (p.zip q))) rfl (sz (by rw [List.length_range]; omega)) trivial (fun i hi => ⟨_, rfl, fun Q zz => ?_⟩) ?_
    · have hir := List.mem_range.mp hi
      simp only [dxs, dl, dx3, dwipe, List.map_cons, List.map_nil]
      exact ⟨z, hs, ws, rs, i, p, q, rfl, gz, st, hir, pq, pl, zz⟩
    simp only [rTupleD, dxs]
    refine ⟨z, hs, ws, rs, p, rfl, gz, st, r5, r9, pl, ?_⟩
    have x1 : (List.range rs.length).map (fun i => natO (ledN rs i (p.zip q))) = rowDs (leadsW rs (p.zip q)) := by
      unfold leadsW rowDs
      rw [List.map_map]
      rfl
    have x2 : (List.range rs.length).map (fun i => D.tup (rowDs (rowF rs i (p.zip q)))) = (costsW rs (p.zip q)).map fun r => D.tup (rowDs r) := by
      unfold costsW
      rw [List.map_map]
      rfl
    rw [x1, x2]
    exact ⟨sz (by decide), _, Sub.refl _, zz⟩
end
end Pace
end
section
set_option Elab.async false
set_option linter.all false
set_option maxRecDepth 100000
set_option maxHeartbeats 4000000
namespace Pace
open PySem PySem.Spec PyProof.Rows L2 DL
section
variable {P : Program} {w : World} {K : PySem.W.Frag} {mg : Str → Option Value} {base : Heap} {C : Addr}
def spPieInit (W : Addr) : SpD := fun ds G Q => ∃ (y : Addr) (r s c a b d : D), ds = [.rf y, r, s, c, .tup [a, b, d]] ∧ G y = some (.ins W []) ∧ Q .non (gput G y (.ins W [("rules", r), ("speech_there", s), ("caption_there", c), ("leads_kept", a), ("costs_kept", b), ("class_kept", d)]))
abbrev N_Piece_u__init_u_ : List Str := ["self", "rules", "speech", "caption", "told"]
theorem sc_Piece_u__init_u_ : FnScope N_Piece_u__init_u_ ["self", "rules", "speech", "caption", "told"] (defScope s_Piece_u__init_u_) := ⟨rfl, rfl, rfl, by decide +kernel, rfl, by decide +kernel, by decide +kernel⟩
theorem c_Piece_u__init_u_ (T : Txt K mg C) (d : DefI K (He.ga K "Piece") "Piece.__init__" s_Piece_u__init_u_) : Mak P w K mg base "Piece" (He.ga K "Piece") 1 ["self", "rules", "speech", "caption", "told"] (spPieInit (He.ga K "Piece")) := by
  refine mak_mk (N := N_Piece_u__init_u_) d T.mg_Piece sc_Piece_u__init_u_ (fun ds G Q h => ?_) (fun _ _ _ _ _ _ us hl => match us, hl with | [_, _, _, _, _], _ => rfl) (fun f cdv A outer s H E hg hr => ?_)
  · obtain ⟨y, r, s, c, a, b, d, rfl, _⟩ := h
    rfl
  · have hu := hu100 hr
    have nd := sc_Piece_u__init_u_.nd
    have hA := deeper_guards (env := envOfC "Piece.__init__" (defScope s_Piece_u__init_u_) s.heap.objs.size f cdv) hg
    refine ⟨_, (dps_cons (dp_setFld T.cl_Piece T.no_Piece_rules (de_var 0) (de_var 1))
  (dps_cons (dp_setFld T.cl_Piece T.no_Piece_speech_there (de_var 0) (de_var 2))
  (dps_cons (dp_setFld T.cl_Piece T.no_Piece_caption_there (de_var 0) (de_var 3))
  (dps_one (dp_asg (de_var 4) (dg_tup (n := 3) rfl (dgs_cons (dg_fld T.cl_Piece T.no_Piece_leads_kept (de_var 0)) (dgs_cons (dg_fld T.cl_Piece T.no_Piece_costs_kept (de_var 0)) (dgs_cons (dg_fld T.cl_Piece T.no_Piece_class_kept (de_var 0)) dgs_nil))))))))), fun ds G Q h => ?_⟩
    obtain ⟨y, r, s, c, a, b, d, rfl, gy, z⟩ := h
    rw [show dstart N_Piece_u__init_u_ [.rf y, r, s, c, .tup [a, b, d]] = [some (.rf y), some (r), some (s), some (c), some (.tup [a, b, d])] from rfl]
    simp only [dxs, dl, dx3, gy, dgFld, gput_same, gput_gput]
    exact ⟨trivial, by decide, trivial, by exact (show 1 < 1000 by decide), trivial, by exact (show 2 < 1000 by decide), trivial, trivial, by exact (show 3 < 1000 by decide), trivial, by exact (show 4 < 1000 by decide), trivial, by exact (show 5 < 1000 by decide), _, Sub.refl _, z⟩
end
section
variable {P : Program} {w : World} {K : PySem.W.Frag} {mg : Str → Option Value} {base : Heap} {C : Addr}
def spPie_leads_to (C W : Addr) : SpD := fun ds G Q => ∃ (R : Rul) (p q : List Nat), ds = [pieD C W R p q] ∧ Q (.tup (rowDs (leadsW R.rows (p.zip q)))) G
abbrev N_Piece_leads_to : List Str := ["self"]
theorem sc_Piece_leads_to : FnScope N_Piece_leads_to ["self"] (defScope s_Piece_leads_to) := ⟨rfl, rfl, rfl, by decide +kernel, rfl, by decide +kernel, by decide +kernel⟩
theorem c_Piece_leads_to (T : Txt K mg C) (d : DefP K (He.ga K "Piece") "leads_to" "Piece.leads_to" s_Piece_leads_to) : CalP P w K mg base (He.ga K "Piece") "leads_to" 1 ["self"] (spPie_leads_to C (He.ga K "Piece")) := by
  refine calP_mk (N := N_Piece_leads_to) d sc_Piece_leads_to (fun ds G Q h => ?_) (fun _ _ _ _ _ _ us hl => match us, hl with | [_], _ => rfl) (fun f cdv A outer s H E hg hr => ?_)
  · obtain ⟨R, p, q, rfl, _⟩ := h
    rfl
  · have hu := hu100 hr
    have nd := sc_Piece_leads_to.nd
    have hA := deeper_guards (env := envOfC "Piece.leads_to" (defScope s_Piece_leads_to) s.heap.objs.size f cdv) hg
    refine ⟨_, (dps_one (dp_ret (de_fld T.cl_Piece T.no_Piece_leads_kept (de_var 0)))), fun ds G Q h => ?_⟩
    obtain ⟨R, p, q, rfl, z⟩ := h
    rw [show dstart N_Piece_leads_to [pieD C (He.ga K "Piece") R p q] = [some (pieD C (He.ga K "Piece") R p q)] from rfl]
    have lk : List.lookup (Str.ofString "leads_kept") (pieF C R p q) = some (.tup (rowDs (leadsW R.rows (p.zip q)))) := rfl
    have ec : ∀ G : GH, D.cur G (pieD C (He.ga K "Piece") R p q) = .obj (He.ga K "Piece") (pieF C R p q) := fun _ => rfl
    simp only [dxs, dl, dx3, ec, lk]
    exact ⟨trivial, _, Sub.refl _, z⟩
end
section
variable {P : Program} {w : World} {K : PySem.W.Frag} {mg : Str → Option Value} {base : Heap} {C : Addr}
def spPie_costs (C W : Addr) : SpD := fun ds G Q => ∃ (R : Rul) (p q : List Nat), ds = [pieD C W R p q] ∧ Q (.tup ((costsW R.rows (p.zip q)).map fun r => D.tup (rowDs r))) G
abbrev N_Piece_costs : List Str := ["self"]
theorem sc_Piece_costs : FnScope N_Piece_costs ["self"] (defScope s_Piece_costs) := ⟨rfl, rfl, rfl, by decide +kernel, rfl, by decide +kernel, by decide +kernel⟩
theorem c_Piece_costs (T : Txt K mg C) (d : DefP K (He.ga K "Piece") "costs" "Piece.costs" s_Piece_costs) : CalP P w K mg base (He.ga K "Piece") "costs" 1 ["self"] (spPie_costs C (He.ga K "Piece")) := by
  refine calP_mk (N := N_Piece_costs) d sc_Piece_costs (fun ds G Q h => ?_) (fun _ _ _ _ _ _ us hl => match us, hl with | [_], _ => rfl) (fun f cdv A outer s H E hg hr => ?_)
  · obtain ⟨R, p, q, rfl, _⟩ := h
    rfl
  · have hu := hu100 hr
    have nd := sc_Piece_costs.nd
    have hA := deeper_guards (env := envOfC "Piece.costs" (defScope s_Piece_costs) s.heap.objs.size f cdv) hg
    refine ⟨_, (dps_one (dp_ret (de_fld T.cl_Piece T.no_Piece_costs_kept (de_var 0)))), fun ds G Q h => ?_⟩
    obtain ⟨R, p, q, rfl, z⟩ := h
    rw [show dstart N_Piece_costs [pieD C (He.ga K "Piece") R p q] = [some (pieD C (He.ga K "Piece") R p q)] from rfl]
    have lk : List.lookup (Str.ofString "costs_kept") (pieF C R p q) = some (.tup ((costsW R.rows (p.zip q)).map fun r => D.tup (rowDs r))) := rfl
    have ec : ∀ G : GH, D.cur G (pieD C (He.ga K "Piece") R p q) = .obj (He.ga K "Piece") (pieF C R p q) := fun _ => rfl
    simp only [dxs, dl, dx3, ec, lk]
    exact ⟨trivial, _, Sub.refl _, z⟩
end
section
variable {P : Program} {w : World} {K : PySem.W.Frag} {mg : Str → Option Value} {base : Heap} {C : Addr}
def spPie_class (C W : Addr) : SpD := fun ds G Q => ∃ (R : Rul) (p q : List Nat), ds = [pieD C W R p q] ∧ Q (classD R.rows p) G
abbrev N_Piece_led_class : List Str := ["self"]
theorem sc_Piece_led_class : FnScope N_Piece_led_class ["self"] (defScope s_Piece_led_class) := ⟨rfl, rfl, rfl, by decide +kernel, rfl, by decide +kernel, by decide +kernel⟩
theorem c_Piece_led_class (T : Txt K mg C) (d : DefP K (He.ga K "Piece") "led_class" "Piece.led_class" s_Piece_led_class) : CalP P w K mg base (He.ga K "Piece") "led_class" 1 ["self"] (spPie_class C (He.ga K "Piece")) := by
  refine calP_mk (N := N_Piece_led_class) d sc_Piece_led_class (fun ds G Q h => ?_) (fun _ _ _ _ _ _ us hl => match us, hl with | [_], _ => rfl) (fun f cdv A outer s H E hg hr => ?_)
  · obtain ⟨R, p, q, rfl, _⟩ := h
    rfl
  · have hu := hu100 hr
    have nd := sc_Piece_led_class.nd
    have hA := deeper_guards (env := envOfC "Piece.led_class" (defScope s_Piece_led_class) s.heap.objs.size f cdv) hg
    refine ⟨_, (dps_one (dp_ret (de_fld T.cl_Piece T.no_Piece_class_kept (de_var 0)))), fun ds G Q h => ?_⟩
    obtain ⟨R, p, q, rfl, z⟩ := h
    rw [show dstart N_Piece_led_class [pieD C (He.ga K "Piece") R p q] = [some (pieD C (He.ga K "Piece") R p q)] from rfl]
    have lk : List.lookup (Str.ofString "class_kept") (pieF C R p q) = some (classD R.rows p) := rfl
    have ec : ∀ G : GH, D.cur G (pieD C (He.ga K "Piece") R p q) = .obj (He.ga K "Piece") (pieF C R p q) := fun _ => rfl
    simp only [dxs, dl, dx3, ec, lk]
    exact ⟨trivial, _, Sub.refl _, z⟩
end
section
variable {P : Program} {w : World} {K : PySem.W.Frag} {mg : Str → Option Value} {base : Heap} {C : Addr}
/-- what a piece tells -/
def toldD (A : Rows) (p q : List Nat) : D := .tup [.tup (rowDs (leadsW A (p.zip q))), .tup ((costsW A (p.zip q)).map fun r => D.tup (rowDs r)), classD A p]
theorem natO_si69 (o : Option Nat) : (natO o).si = true := by cases o <;> rfl
theorem natO_dp69 (o : Option Nat) : (natO o).dp = 0 := by cases o <;> rfl
theorem rowT_si69 (r : List Cost) : (D.tup (rowDs r)).si = true := sis_all.mpr fun x hx => by
  obtain ⟨o, _, rfl⟩ := List.mem_map.mp hx
  exact natO_si69 o
theorem rowT_dp69 (r : List Cost) : (D.tup (rowDs r)).dp ≤ 1 := Nat.succ_le_succ (dps_le fun x hx => by
  obtain ⟨o, _, rfl⟩ := List.mem_map.mp hx
  exact Nat.le_of_eq (natO_dp69 o))
theorem rows_si69 (rs : List (List Cost)) : (D.tup (rs.map fun r => D.tup (rowDs r))).si = true := sis_all.mpr fun x hx => by
  obtain ⟨r, _, rfl⟩ := List.mem_map.mp hx
  exact rowT_si69 r
theorem rows_dp69 (rs : List (List Cost)) : (D.tup (rs.map fun r => D.tup (rowDs r))).dp ≤ 2 := Nat.succ_le_succ (dps_le fun x hx => by
  obtain ⟨r, _, rfl⟩ := List.mem_map.mp hx
  exact rowT_dp69 r)
theorem class_dp69 (A : Rows) (p : List Nat) : (classD A p).dp ≤ 2 := Nat.succ_le_succ (dps_le fun x hx => by
  obtain ⟨ss, _, rfl⟩ := List.mem_map.mp hx
  exact Nat.succ_le_succ (natsD_dps ss))
theorem told_si (A : Rows) (p q : List Nat) : (toldD A p q).si = true := by
  simp only [toldD, D.si, D.sis]
  have h1 := rowT_si69 (leadsW A (p.zip q))
  have h2 := rows_si69 (costsW A (p.zip q))
  have h3 := classD_si A p
  simp only [D.si] at h1 h2
  rw [h1, h2, h3]
  rfl
theorem told_dp (A : Rows) (p q : List Nat) : (toldD A p q).dp ≤ 3 := Nat.succ_le_succ (dps_le fun x hx => by
  have h1 := rowT_dp69 (leadsW A (p.zip q))
  have h2 := rows_dp69 (costsW A (p.zip q))
  have h3 := class_dp69 A p
  simp only [List.mem_cons, List.mem_nil_iff, or_false] at hx
  rcases hx with rfl | rfl | rfl
  · exact Nat.le_trans h1 (by decide)
  · exact h2
  · exact h3)
def spPieTold (C W : Addr) : SpD := fun ds G Q => ∃ (R : Rul) (p q : List Nat), ds = [pieD C W R p q] ∧ Q (toldD R.rows p q) G
abbrev N_Piece_told : List Str := ["self"]
theorem sc_Piece_told : FnScope N_Piece_told ["self"] (defScope s_Piece_told) := ⟨rfl, rfl, rfl, by decide +kernel, rfl, by decide +kernel, by decide +kernel⟩
theorem c_Piece_told (T : Txt K mg C) (d : DefM K (He.ga K "Piece") "told" "Piece.told" s_Piece_told) : CalM P w K mg base (He.ga K "Piece") "told" 1 ["self"] (spPieTold C (He.ga K "Piece")) := by
  refine calM_mk (N := N_Piece_told) d sc_Piece_told (fun ds G Q h => ?_) (fun _ _ _ _ _ _ us hl => match us, hl with | [_], _ => rfl) (fun f cdv A outer s H E hg hr => ?_)
  · obtain ⟨R, p, q, rfl, _⟩ := h
    rfl
  · have hu := hu100 hr
    have nd := sc_Piece_told.nd
    have hA := deeper_guards (env := envOfC "Piece.told" (defScope s_Piece_told) s.heap.objs.size f cdv) hg
    refine ⟨_, (dps_one (dp_ret (de_tup (da_cons (de_fld T.cl_Piece T.no_Piece_leads_kept (de_var 0)) (da_cons (de_fld T.cl_Piece T.no_Piece_costs_kept (de_var 0)) (da_cons (de_fld T.cl_Piece T.no_Piece_class_kept (de_var 0)) da_nil)))))), fun ds G Q h => ?_⟩
    obtain ⟨R, p, q, rfl, z⟩ := h
    rw [show dstart N_Piece_told [pieD C (He.ga K "Piece") R p q] = [some (pieD C (He.ga K "Piece") R p q)] from rfl]
    have lk1 : List.lookup (Str.ofString "leads_kept") (pieF C R p q) = some (.tup (rowDs (leadsW R.rows (p.zip q)))) := rfl
    have lk2 : List.lookup (Str.ofString "costs_kept") (pieF C R p q) = some (.tup ((costsW R.rows (p.zip q)).map fun r => D.tup (rowDs r))) := rfl
    have lk3 : List.lookup (Str.ofString "class_kept") (pieF C R p q) = some (classD R.rows p) := rfl
    have ec : ∀ G : GH, D.cur G (pieD C (He.ga K "Piece") R p q) = .obj (He.ga K "Piece") (pieF C R p q) := fun _ => rfl
    simp only [dxs, dl, dx3, ec, lk1, lk2, lk3]
    exact ⟨trivial, trivial, trivial, sz (by decide), _, Sub.refl _, z⟩
end
section
variable {P : Program} {w : World} {K : PySem.W.Frag} {mg : Str → Option Value} {base : Heap} {C : Addr}
def spPieLen (C W : Addr) : SpD := fun ds G Q => ∃ (R : Rul) (p q : List Nat), ds = [pieD C W R p q] ∧ p.length ≤ 1000 ∧ Q (.int (p.length : Nat)) G
abbrev N_Piece_u__len_u_ : List Str := ["self"]
theorem sc_Piece_u__len_u_ : FnScope N_Piece_u__len_u_ ["self"] (defScope s_Piece_u__len_u_) := ⟨rfl, rfl, rfl, by decide +kernel, rfl, by decide +kernel, by decide +kernel⟩
theorem c_Piece_u__len_u_ (T : Txt K mg C) (d : DefM K (He.ga K "Piece") "__len__" "Piece.__len__" s_Piece_u__len_u_) : CalM P w K mg base (He.ga K "Piece") "__len__" 1 ["self"] (spPieLen C (He.ga K "Piece")) := by
  refine calM_mk (N := N_Piece_u__len_u_) d sc_Piece_u__len_u_ (fun ds G Q h => ?_) (fun _ _ _ _ _ _ us hl => match us, hl with | [_], _ => rfl) (fun f cdv A outer s H E hg hr => ?_)
  · obtain ⟨R, p, q, rfl, _⟩ := h
    rfl
  · have hu := hu100 hr
    have nd := sc_Piece_u__len_u_.nd
    have hA := deeper_guards (env := envOfC "Piece.__len__" (defScope s_Piece_u__len_u_) s.heap.objs.size f cdv) hg
    refine ⟨_, (dps_one (dp_ret (de_callB cd_len rfl T.f_len (by decide +kernel) (da_cons (de_fld T.cl_Piece T.no_Piece_speech_there (de_var 0)) da_nil)))), fun ds G Q h => ?_⟩
    obtain ⟨R, p, q, rfl, pl, z⟩ := h
    rw [show dstart N_Piece_u__len_u_ [pieD C (He.ga K "Piece") R p q] = [some (pieD C (He.ga K "Piece") R p q)] from rfl]
    have ec : ∀ (G : GH) (p q : List Nat), D.cur G (pieD C (He.ga K "Piece") R p q) = .obj (He.ga K "Piece") (pieF C R p q) := fun _ _ _ => rfl
    have l1 : ∀ p q, List.lookup (Str.ofString "speech_there") (pieF C R p q) = some (.str (strOf p)) := fun _ _ => rfl
    have hl : (strOf p).length ≤ sizeLine := by rw [strOf_len]; exact sz (by omega)
    simp only [dxs, dl, dx3, ec, l1, len_str hl, strOf_len]
    exact ⟨trivial, _, Sub.refl _, z⟩
end
end Pace
end
section
set_option Elab.async false
set_option linter.all false
set_option maxRecDepth 100000
set_option maxHeartbeats 4000000
namespace Pace
open PySem PySem.Spec PyProof.Rows L2 DL
section
variable {P : Program} {w : World} {K : PySem.W.Frag} {mg : Str → Option Value} {base : Heap} {C : Addr}
def spTold64 (C W : Addr) : SpD := fun ds G Q => ∃ (R : Rul) (p q : List Nat), ds = [pieD C W R p q] ∧ p.length ≤ 1000 ∧ Q (told64 R.rows p q) G
abbrev N__law_told : List Str := ["_law_it"]
theorem sc__law_told : FnScope N__law_told ["_law_it"] (defScope s__law_told) := ⟨rfl, rfl, rfl, by decide +kernel, rfl, by decide +kernel, by decide +kernel⟩
theorem c__law_told (T : Txt K mg C) (d : Def K mg "_law_told" s__law_told) (Mm__u_len_u_ : CalM P w K mg base (He.ga K "Piece") "__len__" 1 ["self"] (spPieLen C (He.ga K "Piece"))) (Pp_Piece_leads_to : CalP P w K mg base (He.ga K "Piece") "leads_to" 1 ["self"] (spPie_leads_to C (He.ga K "Piece"))) (Pp_Piece_costs : CalP P w K mg base (He.ga K "Piece") "costs" 1 ["self"] (spPie_costs C (He.ga K "Piece"))) (Pp_Piece_led_class : CalP P w K mg base (He.ga K "Piece") "led_class" 1 ["self"] (spPie_class C (He.ga K "Piece"))) : Cal P w K mg base "_law_told" 3 ["_law_it"] (spTold64 C (He.ga K "Piece")) := by
  refine cal_mk (N := N__law_told) d sc__law_told (fun ds G Q h => ?_) (fun _ _ _ _ _ _ us hl => match us, hl with | [_], _ => rfl) (fun f cdv A outer s H E hg hr => ?_)
  · obtain ⟨R, p, q, rfl, _⟩ := h
    rfl
  · have hu := hu100 hr
    have nd := sc__law_told.nd
    have hA := deeper_guards (env := envOfC "_law_told" (defScope s__law_told) s.heap.objs.size f cdv) hg
    refine ⟨_, (dps_one (dp_ret (de_tup (da_cons (de_fld T.cl_Piece T.no_Piece_speech_there (de_var 0)) (da_cons (de_fld T.cl_Piece T.no_Piece_caption_there (de_var 0)) (da_cons (de_callB (cd_lenO Mm__u_len_u_ hA (hr.mono (by decide))) rfl T.f_len (by decide +kernel) (da_cons (de_var 0) da_nil)) (da_cons (de_prop T.cl_Piece Pp_Piece_leads_to hA (hr.mono (by decide)) (de_var 0)) (da_cons (de_prop T.cl_Piece Pp_Piece_costs hA (hr.mono (by decide)) (de_var 0)) (da_cons (de_prop T.cl_Piece Pp_Piece_led_class hA (hr.mono (by decide)) (de_var 0)) da_nil))))))))), fun ds G Q h => ?_⟩
    obtain ⟨R, p, q, rfl, pl, z⟩ := h
    rw [show dstart N__law_told [pieD C (He.ga K "Piece") R p q] = [some (pieD C (He.ga K "Piece") R p q)] from rfl]
    have ec : ∀ (G : GH) (p q : List Nat), D.cur G (pieD C (He.ga K "Piece") R p q) = .obj (He.ga K "Piece") (pieF C R p q) := fun _ _ _ => rfl
    have l1 : ∀ p q, List.lookup (Str.ofString "speech_there") (pieF C R p q) = some (.str (strOf p)) := fun _ _ => rfl
    have l2 : ∀ p q, List.lookup (Str.ofString "caption_there") (pieF C R p q) = some (.str (strOf q)) := fun _ _ => rfl
    simp only [dProp, dxs, dl, dx3, ec, l1, l2, rLenO]
    refine ⟨trivial, trivial, trivial, R, p, q, rfl, pl, ?_⟩
    refine ⟨by omega, by omega, trivial, R, p, q, rfl, trivial, R, p, q, rfl, trivial, R, p, q, rfl, sz (by decide), _, Sub.refl _, z⟩
end
end Pace
end
section
set_option Elab.async false
set_option linter.all false
set_option maxRecDepth 100000
set_option maxHeartbeats 4000000
namespace Pace
open PySem PySem.Spec PyProof.Rows L2 DL
section
variable {P : Program} {w : World} {K : PySem.W.Frag} {mg : Str → Option Value} {base : Heap} {C : Addr}
def spCuts64 : SpD := fun ds G Q => ∃ (p : Addr) (b size : Nat), ds = [.rf p, .int (size : Nat)] ∧ size ≤ 100 ∧ G p = some (dk (b + 10)) ∧ ∀ (cs : List Nat) (m : Nat), b ≤ m → cs.length ≤ 5 → (0 :: cs ++ [size]).Pairwise (· ≤ ·) → Q (.lst ((0 :: cs ++ [size]).map fun n : Nat => D.int (n : Nat))) (gput G p (dk m))
abbrev N__law_cuts : List Str := ["_law_deck_here", "_law_size", "_law_go"]
theorem sc__law_cuts : FnScope N__law_cuts ["_law_deck_here", "_law_size"] (defScope s__law_cuts) := ⟨rfl, rfl, rfl, by decide +kernel, rfl, by decide +kernel, by decide +kernel⟩
theorem c__law_cuts (T : Txt K mg C) (d : Def K mg "_law_cuts" s__law_cuts) (C__law_draw : Cal P w K mg base "_law_draw" 1 ["_law_deck_here", "_law_below"] (spDraw)) : Cal P w K mg base "_law_cuts" 2 ["_law_deck_here", "_law_size"] (spCuts64) := by
  refine cal_mk (N := N__law_cuts) d sc__law_cuts (fun ds G Q h => ?_) (fun _ _ _ _ _ _ us hl => match us, hl with | [_, _], _ => rfl) (fun f cdv A outer s H E hg hr => ?_)
  · obtain ⟨p, b, size, rfl, _⟩ := h
    rfl
  · have hu := hu100 hr
    have nd := sc__law_cuts.nd
    have hA := deeper_guards (env := envOfC "_law_cuts" (defScope s__law_cuts) s.heap.objs.size f cdv) hg
    refine ⟨_, (dps_one (dp_ret (de_op od_add (de_op od_add (de_lst (da_cons de_int da_nil)) (de_callB (cd_sorted hu rfl) rfl T.f_sorted (by decide +kernel) (da_cons (de_lc (own := [("_law_go", 2)]) (p := (.nm 2)) rfl nd (di_range1 rfl T.f_range (da_cons (de_cal C__law_draw hA (hr.mono (by decide)) (da_cons (de_var 0) (da_cons de_int da_nil))) da_nil)) (blkOk_by (by show blkC N__law_cuts (defScope s__law_cuts) _ _ = true; decide +kernel)) (by decide) (fun _ _ _ _ _ => pg_name (i := 2) nd rfl (Or.inl rfl)) (fun _ _ _ _ _ => dts_nil) (fun _ _ _ _ _ => (de_cal C__law_draw hA (hr.mono (by decide)) (da_cons (de_var 0) (da_cons (de_op od_add (de_var 1) de_int) da_nil))))) da_nil))) (de_lst (da_cons (de_var 1) da_nil))))), fun ds G Q h => ?_⟩
    obtain ⟨p, b, size, rfl, s100, gp, q⟩ := h
    rw [show dstart N__law_cuts [.rf p, .int (size : Nat)] = [some (.rf p), some (.int (size : Nat)), none] from rfl]
    simp only [dxs, dl, dx3]
    have e1 : ((size : Nat) : Int) + 1 = ((size + 1 : Nat) : Int) := by omega
    refine ⟨sz (by decide), p, 6, b + 9, rfl, by decide, by decide, gp, fun k hk => ?_⟩
    refine ⟨by omega, by omega, ?_⟩
    rw [Int.toNat_natCast]
    refine ⟨sz (by rw [List.length_map, List.length_range]; omega), fun j acc G' => ∃ ns : List Nat, acc = ns.map (fun n : Nat => D.int (n : Nat)) ∧ ns.length = j ∧ (∀ n ∈ ns, n ≤ size) ∧ G' = gput G p (dk (b + 9 - j)), ⟨[], rfl, rfl, by simp, rfl⟩, fun _ _ _ _ => trivial, ?_, ?_⟩
    · rintro j acc G' d ⟨ns, rfl, nl, nb, rfl⟩ hd
      obtain ⟨hj, rfl⟩ := range_get hd
      refine ⟨_, rfl, ?_⟩
      simp only [dxs, dl, dx3, dwipe, List.map_cons, List.map_nil, e1, if_true]
      obtain ⟨m, hm⟩ : ∃ m, b + 9 - j = m + 1 := ⟨b + 8 - j, by omega⟩
      refine ⟨p, size + 1, m, rfl, by omega, by omega, by rw [gput_same, hm], fun r hr => ?_⟩
      refine ⟨ns ++ [r], by simp, by simp [nl], fun n hn => ?_, ?_⟩
      · rcases List.mem_append.mp hn with h | h
        · exact nb n h
        · rw [List.mem_singleton] at h; omega
      · rw [gput_gput, show b + 9 - (j + 1) = m by omega]
    · rintro acc G' ⟨ns, rfl, nl, nb, rfl⟩
      rw [List.length_map, List.length_range] at nl
      have eL : ∀ (G : GH) (xs : List D), D.cur G (.lst xs) = .lst xs := fun _ _ => rfl
      have en : ns.map (fun n : Nat => D.int (n : Nat)) = natsD ns := rfl
      rw [en]
      simp only [rSortD, eL, okS_ns, sortD_ns, rAddD]
      have ek : (List.map (fun i : Nat => D.int (i : Nat)) (List.range k)).length = k := by simp
      have nl2 : (nsort ns).length = ns.length := (nsort_perm ns).length_eq
      have l1 : (natsD (nsort ns)).length = k := by rw [natsD_len, nl2, nl]
      have hm : ∀ n, n ∈ nsort ns → n ≤ size := fun n hn => nb n ((nsort_perm ns).mem_iff.mp hn)
      refine ⟨trivial, sz (by rw [l1]; simp; omega), sz (by decide), sz (by rw [List.length_append, l1]; simp; omega), ?_⟩
      rw [ek]
      have el : [D.int 0] ++ natsD (nsort ns) ++ [D.int (size : Nat)] = (0 :: nsort ns ++ [size]).map fun n : Nat => D.int (n : Nat) := by
        simp [natsD]
      rw [el]
      refine ⟨_, Sub.refl _, q (nsort ns) _ (by omega) (by omega) ?_⟩
      rw [List.cons_append, List.pairwise_cons]
      refine ⟨fun _ _ => Nat.zero_le _, ?_⟩
      rw [List.pairwise_append]
      refine ⟨nsort_le ns, List.pairwise_singleton _ _, fun a ha b hb => ?_⟩
      rw [List.mem_singleton] at hb
      subst hb
      exact hm a ha
end
end Pace
end
section
set_option Elab.async false
set_option linter.all false
set_option maxRecDepth 100000
set_option maxHeartbeats 4000000
namespace Pace
open PySem PySem.Spec PyProof.Rows L2 DL
section
variable {P : Program} {w : World} {K : PySem.W.Frag} {mg : Str → Option Value} {base : Heap} {C : Addr}
def spLess : SpD := fun ds G Q => ∃ a b : Cost, ds = [natO a, natO b] ∧ Q (natO (lessO a b)) G
abbrev N_less : List Str := ["one", "other"]
theorem sc_less : FnScope N_less ["one", "other"] (defScope s_less) := ⟨rfl, rfl, rfl, by decide +kernel, rfl, by decide +kernel, by decide +kernel⟩
theorem c_less (T : Txt K mg C) (d : Def K mg "less" s_less) : Cal P w K mg base "less" 1 ["one", "other"] (spLess) := by
  refine cal_mk (N := N_less) d sc_less (fun ds G Q h => ?_) (fun _ _ _ _ _ _ us hl => match us, hl with | [_, _], _ => rfl) (fun f cdv A outer s H E hg hr => ?_)
  · obtain ⟨a, b, rfl, _⟩ := h
    rfl
  · have hu := hu100 hr
    have nd := sc_less.nd
    have hA := deeper_guards (env := envOfC "less" (defScope s_less) s.heap.objs.size f cdv) hg
    refine ⟨_, (dps_cons (dp_if (DW.dt (dw_or (dt_cmp od_isN (de_var 0) de_non (nomark _)) (dw_or1 (dt_cmp od_isN (de_var 1) de_non (nomark _)))))
  (dps_one (dp_ret (de_if (dt_cmp od_isN (de_var 0) de_non (nomark _)) (de_var 1) (de_var 0))))
  dps_nil)
  (dps_one (dp_ret (de_callB (cd_min2 rfl) rfl T.f_min (by decide +kernel) (da_cons (de_var 0) (da_cons (de_var 1) da_nil)))))), fun ds G Q h => ?_⟩
    obtain ⟨a, b, rfl, q⟩ := h
    rw [show dstart N_less [natO a, natO b] = [some (natO a), some (natO b)] from rfl]
    have nn : D.non.isNon = true := rfl
    have ni : ∀ n : Int, (D.int n).isNon = false := fun _ => rfl
    cases a <;> cases b <;> simp only [dxs, dl, dx3, natO, nn, ni, if_true, Bool.false_eq_true, if_false, rMin2D]
    · exact ⟨_, Sub.refl _, q⟩
    · exact ⟨_, Sub.refl _, q⟩
    · exact ⟨_, Sub.refl _, q⟩
    · rename_i a b
      have e : (if ((b : Nat) : Int) < ((a : Nat) : Int) then ((b : Nat) : Int) else ((a : Nat) : Int)) = ((min a b : Nat) : Int) := by split <;> omega
      rw [e]
      exact ⟨_, Sub.refl _, q⟩
end
end Pace
end
section
set_option Elab.async false
set_option linter.all false
set_option maxRecDepth 100000
set_option maxHeartbeats 4000000
namespace Pace
open PySem PySem.Spec PyProof.Rows L2 DL
section
variable {P : Program} {w : World} {K : PySem.W.Frag} {mg : Str → Option Value} {base : Heap} {C : Addr}
def spJoined : SpD := fun ds G Q => ∃ (a b : List (List Cost)) (n : Nat), ds = [.tup (a.map fun r => .tup (rowDs r)), .tup (b.map fun r => .tup (rowDs r))] ∧ n ≤ 900 ∧ a.length ≤ 900 ∧ (∀ r ∈ a, r.length = n) ∧ (∀ r ∈ b, r.length = n) ∧ Q (.tup ((a.map fun r => joinR r b).map fun r => D.tup (rowDs r))) G
abbrev N_joined_costs : List Str := ["one", "other", "found", "row", "sums", "costs", "further", "sum_now", "more"]
theorem sc_joined_costs : FnScope N_joined_costs ["one", "other"] (defScope s_joined_costs) := ⟨rfl, rfl, rfl, by decide +kernel, rfl, by decide +kernel, by decide +kernel⟩
theorem c_joined_costs (T : Txt K mg C) (d : Def K mg "joined_costs" s_joined_costs) (C_less : Cal P w K mg base "less" 1 ["one", "other"] (spLess)) : Cal P w K mg base "joined_costs" 3 ["one", "other"] (spJoined) := by
  refine cal_mk (N := N_joined_costs) d sc_joined_costs (fun ds G Q h => ?_) (fun _ _ _ _ _ _ us hl => match us, hl with | [_, _], _ => rfl) (fun f cdv A outer s H E hg hr => ?_)
  · obtain ⟨a, b, n, rfl, _⟩ := h
    rfl
  · have hu := hu100 hr
    have nd := sc_joined_costs.nd
    have hA := deeper_guards (env := envOfC "joined_costs" (defScope s_joined_costs) s.heap.objs.size f cdv) hg
    refine ⟨_, (dps_cons (dp_asg (de_lstM da_nil) (dg_name 2 nd))
  (dps_cons (dp_for PassesOwn.never rfl (di_tup (de_var 0)) (dg_name 3 nd)
  (dps_cons (dp_asg (de_op od_mulL (de_lst (da_cons de_non da_nil)) (de_callB cd_len rfl T.f_len (by decide +kernel) (da_cons (de_var 3) da_nil))) (dg_name 4 nd))
  (dps_cons (dp_for PassesOwn.never rfl (di_zipT rfl T.f_zip (da_cons (de_var 3) (da_cons (de_var 1) da_nil))) (dg_tup (n := 2) rfl (dgs_cons (dg_name 5 nd) (dgs_cons (dg_name 6 nd) dgs_nil)))
  (dps_one (dp_if (dt_cmp od_notN (de_var 5) de_non (nomark _))
  (dps_one (dp_setLc (i := 4) (own := [("sum_now", 7), ("more", 8)]) (p := (.tp [7, 8])) rfl nd rfl rfl (sw_true rfl rfl rfl (by decide +kernel)) (di_zipM rfl T.f_zip (da_cons (de_var 4) (da_cons (de_var 6) da_nil))) (blkOk_by (by show blkC N_joined_costs (defScope s_joined_costs) _ _ = true; decide +kernel)) (by decide) (fun _ _ _ _ _ => pg_tup rfl (pgs_cons (pg_name (i := 7) nd rfl (Or.inl rfl)) (pgs_cons (pg_name (i := 8) nd rfl (Or.inl rfl)) pgs_nil))) (fun _ _ _ _ _ => dts_nil) (fun _ _ _ _ _ => (de_cal C_less hA (hr.mono (by decide)) (da_cons (de_var 7) (da_cons (de_if (dt_cmp od_isN (de_var 8) de_non (nomark _)) de_non (de_op od_add (de_var 5) (de_var 8))) da_nil))))))
  dps_nil)))
  (dps_one (dp_expr (de_bm PySem.F.plainAttrs_list PySem.F.slot_list_append PySem.F.type_list_append md_append (de_var 2) (da_cons (de_callTy cd_tuple rfl T.f_tuple (by decide +kernel) (da_cons (de_var 4) da_nil)) da_nil)))))))
  (dps_one (dp_ret (de_callTy cd_tuple rfl T.f_tuple (by decide +kernel) (da_cons (de_var 2) da_nil)))))), fun ds G Q h => ?_⟩
    obtain ⟨a, b, n, rfl, n9, al, ha, hb, z⟩ := h
    rw [show dstart N_joined_costs [.tup (a.map fun r => .tup (rowDs r)), .tup (b.map fun r => .tup (rowDs r))] = [some (.tup (a.map fun r => .tup (rowDs r))), some (.tup (b.map fun r => .tup (rowDs r))), none, none, none, none, none, none, none] from rfl]
    have natc : ∀ (G : GH) (o : Cost), D.cur G (natO o) = natO o := fun _ o => by cases o <;> rfl
    have ecL : ∀ (G : GH) (xs : List D), D.cur G (.lst xs) = .lst xs := fun _ _ => rfl
    simp only [dxs, dl, dx3]
    refine ⟨Nat.zero_le _, fun pa hp => ?_⟩
    refine ⟨fun i S' G' => ∃ (x3 x4 x5 x6 x7 x8 : Option D), S' = [some (.tup (a.map fun r => .tup (rowDs r))), some (.tup (b.map fun r => .tup (rowDs r))), some (.rf pa), x3, x4, x5, x6, x7, x8] ∧ G' = gput G pa (.lst (((a.take i).map fun r => joinR r b).map fun r => D.tup (rowDs r))),
      ⟨_, _, _, _, _, _, rfl, rfl⟩, fun _ _ _ _ => trivial, ?_, ?_⟩
    · rintro i S' G' d ⟨x3, x4, x5, x6, x7, x8, rfl, rfl⟩ hd
      obtain ⟨r, hr, rfl⟩ := map_get hd
      have hil := (List.getElem?_eq_some_iff.mp hr).1
      have rn := ha r (List.mem_of_getElem? hr)
      have rp1 : ∀ m : Nat, (List.replicate m [D.non]).flatten = rowDs (List.replicate m none) := fun m => by
        rw [rep_one2 m]
        simp [rowDs, natO]
      have rl : rLenD [D.tup (rowDs r)] = fun G Q => Q (.int (r.length : Nat)) G := by
        funext G Q
        show Q (.int ((rowDs r).length : Nat)) G = _
        unfold rowDs
        rw [List.length_map]
      simp only [dxs, dl, dx3, rl, rMulL, Int.toNat_natCast, rp1, rowDs_len]
      refine ⟨sz (by decide), by omega, by omega, by simp, ?_⟩
      have ez : List.zipWith (fun x y => D.tup [x, y]) (rowDs r) (b.map fun r => D.tup (rowDs r)) = (r.zip b).map fun x => .tup [natO x.1, .tup (rowDs x.2)] := by
        unfold rowDs
        rw [zip_map, List.zip_map, List.map_map]
        rfl
      rw [ez]
      refine ⟨fun j S' G' => ∃ (x5 x6 x7 x8 : Option D), S' = [some (.tup (a.map fun r => .tup (rowDs r))), some (.tup (b.map fun r => .tup (rowDs r))), some (.rf pa), some (.tup (rowDs r)), some (.lst (rowDs (((r.zip b).take j).foldl joinS (List.replicate r.length none)))), x5, x6, x7, x8] ∧ G' = gput G pa (.lst (((a.take i).map fun r => joinR r b).map fun r => D.tup (rowDs r))),
        ⟨_, _, _, _, rfl, rfl⟩, fun _ _ _ _ => trivial, ?_, ?_⟩
      · rintro j S' G' d ⟨x5, x6, x7, x8, rfl, rfl⟩ hd
        obtain ⟨x, hx, rfl⟩ := map_get hd
        have xm := List.of_mem_zip (List.mem_of_getElem? hx)
        have xl := hb x.2 xm.2
        have tk := take_step hx
        have sl : (((r.zip b).take j).foldl joinS (List.replicate r.length none)).length = n := joinF_len _ _ (fun y hy => hb _ (List.of_mem_zip (List.mem_of_mem_take hy)).2) (by rw [List.length_replicate]; exact rn)
        generalize hsums : ((r.zip b).take j).foldl joinS (List.replicate r.length none) = sums at sl ⊢
        simp only [dxs, dl, dx3, natO_non]
        refine ⟨trivial, ?_⟩
        obtain ⟨o, row2⟩ := x
        cases o with
        | none =>
          rw [if_neg (by simp)]
          exact ⟨_, _, _, _, by rw [tk, List.foldl_append, hsums]; rfl, trivial⟩
        | some c =>
          rw [if_pos (by simp)]
          have ez2 : List.zipWith (fun x y => D.tup [x, y]) (rowDs sums) (rowDs row2) = (sums.zip row2).map fun y => .tup [natO y.1, natO y.2] := by
            unfold rowDs
            rw [zip_map, List.zip_map, List.map_map]
            rfl
          simp only [diZipM, dxs, dl]
          rw [ez2]
          refine lc_mapA (sums.zip row2) (fun y => .tup [natO y.1, natO y.2]) (fun y => natO (lessO y.1 (y.2.map (c + ·)))) rfl (sz (by rw [List.length_zip]; omega)) trivial (fun y hy => ⟨_, rfl, fun Q zz => ?_⟩) ?_
          · obtain ⟨u, v⟩ := y
            simp only [dxs, dl, dwipe, List.map_cons, List.map_nil, natO_non]
            cases v with
            | none =>
              rw [if_pos (show (none : Cost).isNone = true from rfl)]
              exact ⟨u, none, rfl, zz⟩
            | some v =>
              rw [if_neg (by simp)]
              have eI : ∀ (G : GH) (n : Int), D.cur G (.int n) = .int n := fun _ _ => rfl
              have enx : ∀ x : Nat, natO (some x) = .int (x : Int) := fun _ => rfl
              have ea : ((c : Nat) : Int) + ((v : Nat) : Int) = ((c + v : Nat) : Int) := by omega
              simp only [enx, rAddD, eI, ea]
              exact ⟨u, some (c + v), rfl, zz⟩
          · have ef : (D.lst ((sums.zip row2).map fun y => natO (lessO y.1 (y.2.map (c + ·))))) = .lst (rowDs (((r.zip b).take (j + 1)).foldl joinS (List.replicate r.length none))) := by
              rw [tk, List.foldl_append, hsums]
              show _ = D.lst (rowDs ((sums.zip row2).map fun y => lessO y.1 (y.2.map (c + ·))))
              unfold rowDs
              rw [List.map_map]
              rfl
            exact ⟨_, _, _, _, by rw [ef], rfl⟩
      · rintro S' G' ⟨x5, x6, x7, x8, rfl, rfl⟩
        rw [List.length_map, List.take_length]
        simp only [dxs, dl, dx3, rTupleD, ecL, rAppendD, gput_gput]
        refine ⟨rfl, szl (by rw [List.length_map, List.length_map, List.length_take]; omega), _, _, _, _, _, _, rfl, ?_⟩
        rw [take_step hr, List.map_append, List.map_append]
        rfl
    · rintro S' G' ⟨x3, x4, x5, x6, x7, x8, rfl, rfl⟩
      rw [List.length_map, List.take_length]
      simp only [dxs, dl, dx3, rTupleD, gput_same]
      exact ⟨G, sub_new hp rfl, z⟩
end
end Pace
end
section
set_option Elab.async false
set_option linter.all false
set_option maxRecDepth 100000
set_option maxHeartbeats 4000000
namespace Pace
open PySem PySem.Spec PyProof.Rows L2 DL
section
variable {P : Program} {w : World} {K : PySem.W.Frag} {mg : Str → Option Value} {base : Heap} {C : Addr}
def spLonger : SpD := fun ds G Q => ∃ (rs : List (List Mv)) (a b : List Nat), ds = [classD rs a, classD rs b] ∧ (∀ r ∈ rs, ∀ m ∈ r, m.t < rs.length) ∧ rs.length ≤ 7 ∧ Q (classD rs (a ++ b)) G
abbrev N_longer_class : List Str := ["one", "letter_class", "found", "states", "onward", "state"]
theorem sc_longer_class : FnScope N_longer_class ["one", "letter_class"] (defScope s_longer_class) := ⟨rfl, rfl, rfl, by decide +kernel, rfl, by decide +kernel, by decide +kernel⟩
theorem c_longer_class (T : Txt K mg C) (d : Def K mg "longer_class" s_longer_class) : Cal P w K mg base "longer_class" 1 ["one", "letter_class"] (spLonger) := by
  refine cal_mk (N := N_longer_class) d sc_longer_class (fun ds G Q h => ?_) (fun _ _ _ _ _ _ us hl => match us, hl with | [_, _], _ => rfl) (fun f cdv A outer s H E hg hr => ?_)
  · obtain ⟨rs, a, b, rfl, _⟩ := h
    rfl
  · have hu := hu100 hr
    have nd := sc_longer_class.nd
    have hA := deeper_guards (env := envOfC "longer_class" (defScope s_longer_class) s.heap.objs.size f cdv) hg
    refine ⟨_, (dps_cons (dp_asg (de_lstM da_nil) (dg_name 2 nd))
  (dps_cons (dp_for PassesOwn.never rfl (di_tup (de_var 0)) (dg_name 3 nd)
  (dps_cons (dp_asg (de_lstM da_nil) (dg_name 4 nd))
  (dps_cons (dp_for PassesOwn.never rfl (di_tup (de_var 3)) (dg_name 5 nd)
  (dps_one (dp_expr (de_bm PySem.F.plainAttrs_list PySem.F.slot_list_extend PySem.F.type_list_extend md_extT (de_var 4) (da_cons (de_ix hu (de_var 1) (de_var 5)) da_nil)))))
  (dps_one (dp_expr (de_bm PySem.F.plainAttrs_list PySem.F.slot_list_append PySem.F.type_list_append md_append (de_var 2) (da_cons (de_callTy cd_tuple rfl T.f_tuple (by decide +kernel) (da_cons (de_sortSet rfl rfl T.f_sorted rfl T.f_set (de_var 4)) da_nil)) da_nil)))))))
  (dps_one (dp_ret (de_callTy cd_tuple rfl T.f_tuple (by decide +kernel) (da_cons (de_var 2) da_nil)))))), fun ds G Q h => ?_⟩
    obtain ⟨rs, a, b, rfl, tl, n64, z⟩ := h
    rw [show dstart N_longer_class [classD rs a, classD rs b] = [some (classD rs a), some (classD rs b), none, none, none, none] from rfl]
    have eA : classD rs a = .tup ((classOf rs a).map fun ss => .tup (natsD ss)) := rfl
    have cB : ∀ s, s < rs.length → D.item (classD rs b) (.int (s : Int)) = some (.tup (natsD (run rs [s] b))) := fun s hs => by
      refine atI_nat ?_
      unfold classOf
      rw [List.map_map, List.getElem?_map, List.getElem?_range hs]
      rfl
    have ecB : ∀ G : GH, D.cur G (classD rs b) = classD rs b := fun _ => rfl
    simp only [dxs, dl, dx3, eA]
    refine ⟨Nat.zero_le _, fun p hp => ?_⟩
    have cl : (classOf rs a).length = rs.length := by simp [classOf]
    refine ⟨fun i S' G' => ∃ (x3 x4 x5 : Option D), S' = [some (.tup ((classOf rs a).map fun ss => .tup (natsD ss))), some (classD rs b), some (.rf p), x3, x4, x5] ∧ Sub G G' ∧ G' p = some (.lst ((((classOf rs a).take i).map fun ss => run rs ss b).map fun ss => D.tup (natsD ss))),
      ⟨_, _, _, rfl, sub_new hp rfl, gput_same⟩, fun _ _ _ _ => trivial, ?_, ?_⟩
    · rintro i S' G1 d ⟨x3, x4, x5, rfl, sb, gp⟩ hd
      obtain ⟨ss, hss, rfl⟩ := map_get hd
      obtain ⟨s0, hs0, ess⟩ : ∃ s0, s0 < rs.length ∧ ss = run rs [s0] a := by
        unfold classOf at hss
        obtain ⟨s0, h0, e0⟩ := List.mem_map.mp (List.mem_of_getElem? hss)
        exact ⟨s0, List.mem_range.mp h0, e0.symm⟩
      have so : ss.Pairwise (· < ·) := by rw [ess]; exact run_sorted a
      have lt : ∀ s ∈ ss, s < rs.length := by
        rw [ess]
        exact run_lt tl (by simpa using hs0)
      have sl : ss.length ≤ rs.length := nodup_lt_len (so.imp fun h => by omega) lt
      have rb : ∀ s, s < rs.length → (run rs [s] b).length ≤ rs.length := fun s hs => nodup_lt_len ((run_sorted b).imp fun h => by omega) (run_lt tl (by simpa using hs))
      simp only [dxs, dl, dx3]
      refine ⟨Nat.zero_le _, fun r hr => ?_⟩
      have pr : p ≠ r := fun e => by rw [← e, gp] at hr; cases hr
      have hGr : G r = none := by
        cases e : G r with
        | none => rfl
        | some u => rw [sb.le _ _ e] at hr; cases hr
      have gW : ∀ Y Z : MO, gput (gput G1 r Y) r Z = gput G1 r Z := fun _ _ => gput_gput
      have gR : ∀ Y : MO, gput G1 r Y r = some Y := fun _ => gput_same
      have gP : ∀ Y : MO, gput G1 r Y p = some (.lst ((((classOf rs a).take i).map fun ss => run rs ss b).map fun ss => D.tup (natsD ss))) := fun Y => by rw [gput_ne pr]; exact gp
      refine ⟨fun j S' G' => ∃ (x5 : Option D), S' = [some (.tup ((classOf rs a).map fun ss => .tup (natsD ss))), some (classD rs b), some (.rf p), some (.tup (natsD ss)), some (.rf r), x5] ∧ G' = gput G1 r (.lst (natsD ((ss.take j).flatMap fun s => run rs [s] b))) ∧ ((ss.take j).flatMap fun s => run rs [s] b).length ≤ 7 * j,
        ⟨_, rfl, rfl, Nat.le_refl _⟩, fun _ _ _ _ => trivial, ?_, ?_⟩
      · rintro j S' G' d ⟨x5, rfl, rfl, lj⟩ hd
        obtain ⟨s, hs, rfl⟩ := natsD_get hd
        have jl := (List.getElem?_eq_some_iff.mp hs).1
        have sl' := lt s (List.mem_of_getElem? hs)
        have rbs := rb s sl'
        have ef : (ss.take (j + 1)).flatMap (fun s => run rs [s] b) = ((ss.take j).flatMap fun s => run rs [s] b) ++ run rs [s] b := by
          rw [take_step hs, List.flatMap_append]
          simp
        simp only [dxs, dl, dx3, ecB, cB s sl', rExtT, gR, gW]
        rw [ef]
        refine ⟨rfl, ?_, _, rfl, ?_, ?_⟩
        · unfold natsD
          rw [List.length_map, List.length_map]
          exact szB (by omega)
        · unfold natsD
          rw [List.map_append]
        · rw [List.length_append]
          omega
      · rintro S' G' ⟨x5, rfl, rfl, lj⟩
        have nl : (natsD ss).length = ss.length := by unfold natsD; rw [List.length_map]
        rw [nl] at lj
        rw [nl, List.take_length] at *
        have en : nsort (firstsF (ss.flatMap fun s => run rs [s] b)) = run rs ss b := by
          refine sorted_ext (nsort_nd (firstsF_nodup _)) (run_sorted_ so b) fun k => ?_
          rw [(nsort_perm _).mem_iff, firstsF_mem, run_mem, List.mem_flatMap]
        simp only [dxs, dl, dx2, dx3, gR, intsD_nats, isort1_nat, List.length_map, en, rTupleD, rAppendD, gP]
        have l49 : (ss.flatMap fun s => run rs [s] b).length < 64 := by omega
        refine ⟨rfl, l49, szl (by rw [List.length_take]; omega), _, _, _, rfl, (sb.over hGr rfl).over hp rfl, ?_⟩
        rw [take_step hss, List.map_append, List.map_append]
        rfl
    · rintro S' G1 ⟨x3, x4, x5, rfl, sb, gp⟩
      rw [List.length_map, List.take_length, class_app tl] at gp
      simp only [dxs, dl, dx3, rTupleD, gp]
      exact ⟨G, sb, z⟩
end
end Pace
end
section
set_option Elab.async false
set_option linter.all false
set_option maxRecDepth 100000
set_option maxHeartbeats 4000000
namespace Pace
open PySem PySem.Spec PyProof.Rows L2 DL
section
variable {P : Program} {w : World} {K : PySem.W.Frag} {mg : Str → Option Value} {base : Heap} {C : Addr}
def spPieWith (C W : Addr) : SpD := fun ds G Q => ∃ (R : Rul) (p q s t : List Nat), ds = [pieD C W R p q, pieD C W R s t] ∧ Steps R.rows ∧ R.rows.length ≤ 7 ∧ p.length = q.length ∧ p.length ≤ 1000 ∧ s.length = t.length ∧ s.length ≤ 1000 ∧ Q (pieD C W R (p ++ s) (q ++ t)) G
abbrev N_Piece_with_behind : List Str := ["self", "other", "leads", "state", "told"]
theorem sc_Piece_with_behind : FnScope N_Piece_with_behind ["self", "other"] (defScope s_Piece_with_behind) := ⟨rfl, rfl, rfl, by decide +kernel, rfl, by decide +kernel, by decide +kernel⟩
theorem c_Piece_with_behind (T : Txt K mg C) (d : DefM K (He.ga K "Piece") "with_behind" "Piece.with_behind" s_Piece_with_behind) (C_joined_costs : Cal P w K mg base "joined_costs" 3 ["one", "other"] (spJoined)) (C_longer_class : Cal P w K mg base "longer_class" 1 ["one", "letter_class"] (spLonger)) (M_Piece : Mak P w K mg base "Piece" (He.ga K "Piece") 1 ["self", "rules", "speech", "caption", "told"] (spPieInit (He.ga K "Piece"))) : CalM P w K mg base (He.ga K "Piece") "with_behind" 4 ["self", "other"] (spPieWith C (He.ga K "Piece")) := by
  refine calM_mk (N := N_Piece_with_behind) d sc_Piece_with_behind (fun ds G Q h => ?_) (fun _ _ _ _ _ _ us hl => match us, hl with | [_, _], _ => rfl) (fun f cdv A outer s H E hg hr => ?_)
  · obtain ⟨R, p, q, s, t, rfl, _⟩ := h
    rfl
  · have hu := hu100 hr
    have nd := sc_Piece_with_behind.nd
    have hA := deeper_guards (env := envOfC "Piece.with_behind" (defScope s_Piece_with_behind) s.heap.objs.size f cdv) hg
    refine ⟨_, (dps_cons (dp_asg (de_callTy cd_tuple rfl T.f_tuple (by decide +kernel) (da_cons (de_lc (own := [("state", 3)]) (p := (.nm 3)) rfl nd (di_tup (de_fld T.cl_Piece T.no_Piece_leads_kept (de_var 0))) (blkOk_by (by show blkC N_Piece_with_behind (defScope s_Piece_with_behind) _ _ = true; decide +kernel)) (by decide) (fun _ _ _ _ _ => pg_name (i := 3) nd rfl (Or.inl rfl)) (fun _ _ _ _ _ => dts_nil) (fun _ _ _ _ _ => (de_if (dt_cmp od_isN (de_var 3) de_non (nomark _)) de_non (de_ix hu (de_fld T.cl_Piece T.no_Piece_leads_kept (de_var 1)) (de_var 3))))) da_nil)) (dg_name 2 nd))
  (dps_cons (dp_asg (de_tup (da_cons (de_var 2) (da_cons (de_cal C_joined_costs hA (hr.mono (by decide)) (da_cons (de_fld T.cl_Piece T.no_Piece_costs_kept (de_var 0)) (da_cons (de_fld T.cl_Piece T.no_Piece_costs_kept (de_var 1)) da_nil))) (da_cons (de_cal C_longer_class hA (hr.mono (by decide)) (da_cons (de_fld T.cl_Piece T.no_Piece_class_kept (de_var 0)) (da_cons (de_fld T.cl_Piece T.no_Piece_class_kept (de_var 1)) da_nil))) da_nil)))) (dg_name 4 nd))
  (dps_one (dp_ret (de_mak M_Piece hA (hr.mono (by decide)) (da_cons (de_fld T.cl_Piece T.no_Piece_rules (de_var 0)) (da_cons (de_op od_add (de_fld T.cl_Piece T.no_Piece_speech_there (de_var 0)) (de_fld T.cl_Piece T.no_Piece_speech_there (de_var 1))) (da_cons (de_op od_add (de_fld T.cl_Piece T.no_Piece_caption_there (de_var 0)) (de_fld T.cl_Piece T.no_Piece_caption_there (de_var 1))) (da_cons (de_var 4) da_nil))))))))), fun ds G Q h => ?_⟩
    obtain ⟨R, p, q, s, t, rfl, st, n64, pq, pl, stl, sl, z⟩ := h
    rw [show dstart N_Piece_with_behind [pieD C (He.ga K "Piece") R p q, pieD C (He.ga K "Piece") R s t] = [some (pieD C (He.ga K "Piece") R p q), some (pieD C (He.ga K "Piece") R s t), none, none, none] from rfl]
    have n1 := st.cl.1
    have ec : ∀ (G : GH) (p q : List Nat), D.cur G (pieD C (He.ga K "Piece") R p q) = .obj (He.ga K "Piece") (pieF C R p q) := fun _ _ _ => rfl
    have l1 : ∀ p q, List.lookup (Str.ofString "rules") (pieF C R p q) = some (rulD C R) := fun _ _ => rfl
    have l2 : ∀ p q, List.lookup (Str.ofString "speech_there") (pieF C R p q) = some (.str (strOf p)) := fun _ _ => rfl
    have l3 : ∀ p q, List.lookup (Str.ofString "caption_there") (pieF C R p q) = some (.str (strOf q)) := fun _ _ => rfl
    have l4 : ∀ p q : List Nat, List.lookup (Str.ofString "leads_kept") (pieF C R p q) = some (.tup (rowDs (leadsW R.rows (p.zip q)))) := fun _ _ => rfl
    have l5 : ∀ p q : List Nat, List.lookup (Str.ofString "costs_kept") (pieF C R p q) = some (.tup ((costsW R.rows (p.zip q)).map fun r => D.tup (rowDs r))) := fun _ _ => rfl
    have l6 : ∀ p q, List.lookup (Str.ofString "class_kept") (pieF C R p q) = some (classD R.rows p) := fun _ _ => rfl
    have eS : ∀ (G : GH) (x : Str), D.cur G (.str x) = .str x := fun _ _ => rfl
    have ecL : ∀ (G : GH) (xs : List D), D.cur G (.lst xs) = .lst xs := fun _ _ => rfl
    have ecT : ∀ (G : GH) (xs : List D), D.cur G (.tup xs) = .tup xs := fun _ _ => rfl
    have ez : (p ++ s).zip (q ++ t) = p.zip q ++ s.zip t := List.zip_append pq
    have jl := join_leads st (p.zip q) (s.zip t)
    have jc := join_costs st (p.zip q) (s.zip t)
    have n999 := st.n
    simp only [dxs, dl, dx3, ec, l1, l2, l3, l4, l5, l6]
    refine ⟨trivial, ?_⟩
    refine lc_mapA (leadsW R.rows (p.zip q)) natO (fun o => natO (o.bind fun u => (leadsW R.rows (s.zip t)).getD u none)) rfl (sz (by rw [leadsW_len]; omega)) trivial (fun o ho => ⟨_, rfl, fun Q zz => ?_⟩) ?_
    · simp only [dxs, dl, dx3, dwipe, List.map_cons, List.map_nil, natO_non]
      cases o with
      | none =>
        rw [if_pos (show (none : Cost).isNone = true from rfl)]
        exact zz
      | some u =>
        rw [if_neg (by simp)]
        have hu : u < R.rows.length := by
          obtain ⟨s0, h0, e0⟩ := List.mem_map.mp ho
          exact ledN_lt st.cl.2 (List.mem_range.mp h0) _ e0
        have enx : natO (some u) = .int (u : Int) := rfl
        simp only [ec, l4, ecT, enx, rowDs_atT (show u < (leadsW R.rows (s.zip t)).length by rw [leadsW_len]; exact hu)]
        exact ⟨trivial, zz⟩
    have e1 : (leadsW R.rows (p.zip q)).map (fun o => natO (o.bind fun u => (leadsW R.rows (s.zip t)).getD u none)) = rowDs (leadsW R.rows ((p ++ s).zip (q ++ t))) := by
      rw [ez, ← jl]
      unfold rowDs
      rw [List.map_map]
      rfl
    simp only [rTupleD, ecL, e1, ec, l1, l2, l3, l4, l5, l6]
    refine ⟨trivial, trivial, _, _, R.rows.length, rfl, by omega, by rw [costsW_len]; omega, costsW_row, costsW_row, ?_⟩
    rw [jc, ← ez]
    refine ⟨trivial, trivial, R.rows, p, s, rfl, st.cl.2, n64, sz (by decide), trivial, trivial, trivial, ?_⟩
    refine ⟨by rw [strOf_len, strOf_len]; exact szB (by omega), trivial, trivial, by rw [strOf_len, strOf_len]; exact szB (by omega), fun y hy => ⟨y, _, _, _, _, _, _, rfl, gput_same, ?_⟩⟩
    simp only [gput_gput, gput_same, MO.cold, gdel_gput hy, strOf_app]
    exact ⟨_, Sub.refl _, z⟩
end
end Pace
end
section
set_option Elab.async false
set_option linter.all false
set_option maxRecDepth 100000
set_option maxHeartbeats 4000000
namespace Pace
open PySem PySem.Spec PyProof.Rows L2 DL
section
variable {P : Program} {w : World} {K : PySem.W.Frag} {mg : Str → Option Value} {base : Heap} {C : Addr}
def spREq (C : Addr) : SpD := fun ds G Q => ∃ (R1 R2 : Rul), ds = [rulD C R1, rulD C R2] ∧ ∀ b : Bool, (b = true ↔ R1 = R2) → Q (.bl b) G
abbrev N_Rules_u__eq_u_ : List Str := ["self", "other"]
theorem sc_Rules_u__eq_u_ : FnScope N_Rules_u__eq_u_ ["self", "other"] (defScope s_Rules_u__eq_u_) := ⟨rfl, rfl, rfl, by decide +kernel, rfl, by decide +kernel, by decide +kernel⟩
theorem c_Rules_u__eq_u_ (T : Txt K mg C) (d : DefM K C "__eq__" "Rules.__eq__" s_Rules_u__eq_u_) : CalM P w K mg base C "__eq__" 1 ["self", "other"] (spREq C) := by
  refine calM_mk (N := N_Rules_u__eq_u_) d sc_Rules_u__eq_u_ (fun ds G Q h => ?_) (fun _ _ _ _ _ _ us hl => match us, hl with | [_, _], _ => rfl) (fun f cdv A outer s H E hg hr => ?_)
  · obtain ⟨R1, R2, rfl, _⟩ := h
    rfl
  · have hu := hu100 hr
    have nd := sc_Rules_u__eq_u_.nd
    have hA := deeper_guards (env := envOfC "Rules.__eq__" (defScope s_Rules_u__eq_u_) s.heap.objs.size f cdv) hg
    refine ⟨_, (dps_cons (dp_if (dt_not (dt_val (de_callB (cd_isC T.insR) rfl T.f_isinstance (by decide +kernel) (da_cons (de_var 1) (da_cons (de_cls rfl T.mgR) da_nil)))))
  (dps_one (dp_ret de_bl))
  dps_nil)
  (dps_one (dp_ret (de_cmp (od_eq hu) (de_tup (da_cons (de_fld T.clR T.no_heard (de_var 0)) (da_cons (de_fld T.clR T.no_written (de_var 0)) (da_cons (de_fld T.clR T.no_rows (de_var 0)) da_nil)))) (de_tup (da_cons (de_fld T.clR T.no_heard (de_var 1)) (da_cons (de_fld T.clR T.no_written (de_var 1)) (da_cons (de_fld T.clR T.no_rows (de_var 1)) da_nil)))) (nomark _))))), fun ds G Q h => ?_⟩
    obtain ⟨R1, R2, rfl, q⟩ := h
    rw [show dstart N_Rules_u__eq_u_ [rulD C R1, rulD C R2] = [some (rulD C R1), some (rulD C R2)] from rfl]
    have e0 : ∀ (R : Rul) (G : GH), D.cur G (.obj C (rulF R)) = .obj C (rulF R) := fun _ _ => rfl
    simp only [dxs, dl, rulD, rIsC, e0, true_and, Bool.not_true, if_false, rulF_heard, rulF_written, rulF_rows, if_true]
    have si : ∀ R : Rul, (D.tup [.str R.heard, .str R.written, rowsD R.rows]).si = true := fun R => by
      have := rowsD_si R.rows
      simp [D.si, D.sis, this]
    have dpp : ∀ R : Rul, (D.tup [.str R.heard, .str R.written, rowsD R.rows]).dp ≤ 60 := fun R => by
      have := rowsD_dp R.rows
      simp only [D.dp, D.dps]; omega
    refine ⟨sz (by simp), sz (by simp), okE_si (si R1) (si R2) (dpp R1), G, Sub.refl _, q _ ?_⟩
    refine (eqv_si (si R1) (si R2)).trans ?_
    obtain ⟨h1, w1, r1⟩ := R1
    obtain ⟨h2, w2, r2⟩ := R2
    simp only [D.tup.injEq, List.cons.injEq, D.str.injEq, and_true, Rul.mk.injEq]
    exact ⟨fun ⟨a, b, c⟩ => ⟨a, b, rowsD_inj c⟩, fun ⟨a, b, c⟩ => ⟨a, b, by rw [c]⟩⟩
end
end Pace
end
section
set_option Elab.async false
set_option linter.all false
set_option maxRecDepth 100000
set_option maxHeartbeats 4000000
namespace Pace
open PySem PySem.Spec PyProof.Rows L2 DL
section
variable {P : Program} {w : World} {K : PySem.W.Frag} {mg : Str → Option Value} {base : Heap} {C : Addr}
def spPieAdd (C W : Addr) : SpD := fun ds G Q => ∃ (R : Rul) (p q s t : List Nat), ds = [pieD C W R p q, pieD C W R s t] ∧ R.Ok ∧ Steps R.rows ∧ R.rows.length ≤ 7 ∧ p.length = q.length ∧ p.length ≤ 1000 ∧ s.length = t.length ∧ s.length ≤ 1000 ∧ Q (pieD C W R (p ++ s) (q ++ t)) G
abbrev N_Piece_u__add_u_ : List Str := ["self", "other"]
theorem sc_Piece_u__add_u_ : FnScope N_Piece_u__add_u_ ["self", "other"] (defScope s_Piece_u__add_u_) := ⟨rfl, rfl, rfl, by decide +kernel, rfl, by decide +kernel, by decide +kernel⟩
theorem c_Piece_u__add_u_ (T : Txt K mg C) (d : DefM K (He.ga K "Piece") "__add__" "Piece.__add__" s_Piece_u__add_u_) (Mm_with_behind : CalM P w K mg base (He.ga K "Piece") "with_behind" 4 ["self", "other"] (spPieWith C (He.ga K "Piece"))) (Mm__u_eq_u_ : CalM P w K mg base C "__eq__" 1 ["self", "other"] (spREq C)) : CalM P w K mg base (He.ga K "Piece") "__add__" 5 ["self", "other"] (spPieAdd C (He.ga K "Piece")) := by
  refine calM_mk (N := N_Piece_u__add_u_) d sc_Piece_u__add_u_ (fun ds G Q h => ?_) (fun _ _ _ _ _ _ us hl => match us, hl with | [_, _], _ => rfl) (fun f cdv A outer s H E hg hr => ?_)
  · obtain ⟨R, p, q, s, t, rfl, _⟩ := h
    rfl
  · have hu := hu100 hr
    have nd := sc_Piece_u__add_u_.nd
    have hA := deeper_guards (env := envOfC "Piece.__add__" (defScope s_Piece_u__add_u_) s.heap.objs.size f cdv) hg
    refine ⟨_, (dps_cons (dp_if (dt_not (dt_cmp (od_eqO Mm__u_eq_u_ hA (hr.mono (by decide))) (de_fld T.cl_Piece T.no_Piece_rules (de_var 0)) (de_fld T.cl_Piece T.no_Piece_rules (de_var 1)) (nomark _)))
  (dps_one dp_never)
  dps_nil)
  (dps_one (dp_ret (de_calM T.cl_Piece Mm_with_behind hA (hr.mono (by decide)) (de_var 0) (da_cons (de_var 1) da_nil))))), fun ds G Q h => ?_⟩
    obtain ⟨R, p, q, s, t, rfl, ok, st, n64, pq, pl, stl, sl, z⟩ := h
    rw [show dstart N_Piece_u__add_u_ [pieD C (He.ga K "Piece") R p q, pieD C (He.ga K "Piece") R s t] = [some (pieD C (He.ga K "Piece") R p q), some (pieD C (He.ga K "Piece") R s t)] from rfl]
    have ec : ∀ (G : GH) (p q : List Nat), D.cur G (pieD C (He.ga K "Piece") R p q) = .obj (He.ga K "Piece") (pieF C R p q) := fun _ _ _ => rfl
    have l1 : ∀ p q, List.lookup (Str.ofString "rules") (pieF C R p q) = some (rulD C R) := fun _ _ => rfl
    have lw : ∀ p q : List Nat, List.lookup (Str.ofString "with_behind") (pieF C R p q) = none := fun _ _ => rfl
    simp only [dxs, dl, dx3, ec, l1]
    have eR : ∀ G : GH, D.cur G (rulD C R) = .obj C (rulF R) := fun _ => rfl
    simp only [rEqO, eR]
    refine ⟨trivial, trivial, trivial, trivial, R, R, rfl, fun b hb => ?_⟩
    have : b = true := hb.mpr rfl
    subst this
    simp only [Bool.not_true, Bool.false_eq_true, if_false]
    exact ⟨trivial, lw _ _, R, p, q, s, t, rfl, st, n64, pq, pl, stl, sl, _, Sub.refl _, z⟩
end
end Pace
end
section
set_option Elab.async false
set_option linter.all false
set_option maxRecDepth 100000
set_option maxHeartbeats 4000000
namespace Pace
open PySem PySem.Spec PyProof.Rows L2 DL
section
variable {P : Program} {w : World} {K : PySem.W.Frag} {mg : Str → Option Value} {base : Heap} {C : Addr}
def spJoined64 (C W : Addr) : SpD := fun ds G Q => ∃ (p : Addr) (b : Nat) (R : Rul) (xs : List (List Nat × List Nat)), ds = [.rf p, .lst (xs.map fun x => pieD C W R x.1 x.2)] ∧ 1 ≤ xs.length ∧ xs.length ≤ 20 ∧ G p = some (dk (b + 20)) ∧ R.Ok ∧ Steps R.rows ∧ R.rows.length ≤ 7 ∧ (∀ x ∈ xs, x.1.length = x.2.length) ∧ (catP xs).1.length ≤ 900 ∧ ∀ m, b ≤ m → Q (pieD C W R (catP xs).1 (catP xs).2) (gput G p (dk m))
abbrev N__law_joined : List Str := ["_law_deck_here", "_law_pieces", "_law_left", "_law_go", "_law_at"]
theorem sc__law_joined : FnScope N__law_joined ["_law_deck_here", "_law_pieces"] (defScope s__law_joined) := ⟨rfl, rfl, rfl, by decide +kernel, rfl, by decide +kernel, by decide +kernel⟩
theorem c__law_joined (T : Txt K mg C) (d : Def K mg "_law_joined" s__law_joined) (C__law_draw : Cal P w K mg base "_law_draw" 1 ["_law_deck_here", "_law_below"] (spDraw)) (Mm__u_add_u_ : CalM P w K mg base (He.ga K "Piece") "__add__" 5 ["self", "other"] (spPieAdd C (He.ga K "Piece"))) : Cal P w K mg base "_law_joined" 6 ["_law_deck_here", "_law_pieces"] (spJoined64 C (He.ga K "Piece")) := by
  refine cal_mk (N := N__law_joined) d sc__law_joined (fun ds G Q h => ?_) (fun _ _ _ _ _ _ us hl => match us, hl with | [_, _], _ => rfl) (fun f cdv A outer s H E hg hr => ?_)
  · obtain ⟨p, b, R, xs, rfl, _⟩ := h
    rfl
  · have hu := hu100 hr
    have nd := sc__law_joined.nd
    have hA := deeper_guards (env := envOfC "_law_joined" (defScope s__law_joined) s.heap.objs.size f cdv) hg
    refine ⟨_, (dps_cons (dp_asg (de_callTy cd_list rfl T.f_list (by decide +kernel) (da_cons (de_var 1) da_nil)) (dg_name 2 nd))
  (dps_cons (dp_for PassesOwn.never rfl (di_range1 rfl T.f_range (da_cons (de_op od_sub (de_callB cd_len rfl T.f_len (by decide +kernel) (da_cons (de_var 1) da_nil)) de_int) da_nil)) (dg_name 3 nd)
  (dps_cons (dp_asg (de_cal C__law_draw hA (hr.mono (by decide)) (da_cons (de_var 0) (da_cons (de_op od_sub (de_callB cd_len rfl T.f_len (by decide +kernel) (da_cons (de_var 2) da_nil)) de_int) da_nil))) (dg_name 4 nd))
  (dps_one (dp_asg (de_op od_add (de_op od_add (de_slice (de_var 2) do_none (do_some (de_var 4))) (de_lst (da_cons (de_op (od_binO (op := .Add) T.ne_Piece Mm__u_add_u_ (by rfl) hA (hr.mono (by decide))) (de_ix hu (de_var 2) (de_var 4)) (de_ix hu (de_var 2) (de_op od_add (de_var 4) de_int))) da_nil))) (de_slice (de_var 2) (do_some (de_op od_add (de_var 4) de_int)) do_none)) (dg_name 2 nd)))))
  (dps_one (dp_ret (de_ix hu (de_var 2) de_int))))), fun ds G Q h => ?_⟩
    obtain ⟨p, b, R, xs, rfl, x1, x20, gp, ok, st, n7, xe, xl, q⟩ := h
    rw [show dstart N__law_joined [.rf p, .lst (xs.map fun x => pieD C (He.ga K "Piece") R x.1 x.2)] = [some (.rf p), some (.lst (xs.map fun x => pieD C (He.ga K "Piece") R x.1 x.2)), none, none, none] from rfl]
    have eL : ∀ (G : GH) (xs : List D), D.cur G (.lst xs) = .lst xs := fun _ _ => rfl
    have ec : ∀ (G : GH) p q, D.cur G (pieD C (He.ga K "Piece") R p q) = .obj (He.ga K "Piece") (pieF C R p q) := fun _ _ _ => rfl
    simp only [dxs, dl, dx3, DL.rListD, eL, List.length_map]
    have e1 : ((xs.length : Nat) : Int) - 1 = ((xs.length - 1 : Nat) : Int) := by omega
    rw [e1, Int.toNat_natCast]
    refine ⟨trivial, by omega, by omega, ?_⟩
    refine ⟨fun j S' G' => ∃ (ys : List (List Nat × List Nat)) (x3 x4 : Option D), S' = [some (.rf p), some (.lst (xs.map fun x => pieD C (He.ga K "Piece") R x.1 x.2)), some (.lst (ys.map fun x => pieD C (He.ga K "Piece") R x.1 x.2)), x3, x4] ∧ ys.length + j = xs.length ∧ (∀ x ∈ ys, x.1.length = x.2.length) ∧ catP ys = catP xs ∧ ∃ m, b + 20 ≤ m + j ∧ G' p = some (dk m) ∧ (j = 0 ∧ G' = G ∨ G' = gput G p (dk m)),
      ⟨xs, _, _, rfl, rfl, xe, rfl, b + 20, Nat.le_refl _, gp, .inl ⟨rfl, rfl⟩⟩, fun _ _ _ _ => trivial, ?_, ?_⟩
    · rintro j S' G' d ⟨ys, x3, x4, rfl, yl, ye, yc, m, hm, gp', hG⟩ hd
      obtain ⟨hj, rfl⟩ := range_get2 hd
      obtain ⟨m2, rfl⟩ : ∃ m2, m = m2 + 1 := ⟨m - 1, by omega⟩
      have e2 : ((ys.length : Nat) : Int) - 1 = ((ys.length - 1 : Nat) : Int) := by omega
      simp only [x_gname, dxs, dl, dx3, eL, List.length_map, e2]
      refine ⟨trivial, p, ys.length - 1, m2, rfl, by omega, by omega, gp', fun i hi => ?_⟩
      obtain ⟨x, hx⟩ : ∃ x, ys[i]? = some x := ⟨_, List.getElem?_eq_getElem (by omega)⟩
      obtain ⟨y, hy⟩ : ∃ y, ys[i + 1]? = some y := ⟨_, List.getElem?_eq_getElem (by omega)⟩
      have ix : D.item (.lst (ys.map fun x => pieD C (He.ga K "Piece") R x.1 x.2)) (.int (i : Int)) = some (pieD C (He.ga K "Piece") R x.1 x.2) := atI_nat (by rw [List.getElem?_map, hx]; rfl)
      have iy : D.item (.lst (ys.map fun x => pieD C (He.ga K "Piece") R x.1 x.2)) (.int ((i + 1 : Nat) : Int)) = some (pieD C (He.ga K "Piece") R y.1 y.2) := atI_nat (by rw [List.getElem?_map, hy]; rfl)
      have c1 : ((i : Nat) : Int) + 1 = ((i + 1 : Nat) : Int) := by omega
      have c2 : ((i : Nat) : Int) + 2 = ((i + 2 : Nat) : Int) := by omega
      have lx : (catP ys).1.length ≤ 900 := by rw [yc]; exact xl
      have lxy : x.1.length ≤ 900 ∧ y.1.length ≤ 900 ∧ (x.1 ++ y.1).length ≤ 900 := by
        have h := catP_join hx hy
        have h1 : (catP ys).1.length = (catP (ys.take i)).1.length + (x.1.length + y.1.length) + (catP (ys.drop (i + 2))).1.length := by
          rw [← h, catP_app, catP_app, catP_one]
          simp
          omega
        rw [List.length_append]
        omega
      simp only [ix, iy, c1, c2, dx3, rBinO, ec]
      refine ⟨trivial, trivial, R, x.1, x.2, y.1, y.2, rfl, ok, st, n7, ye x (List.mem_of_getElem? hx), by omega, ye y (List.mem_of_getElem? hy), by omega, ?_⟩
      simp only [ec, rAddD, eL, cut_take, cut_drop]
      have l0 := join_len (xs := ys) (i := i) (x := (x.1 ++ y.1, x.2 ++ y.2)) (by omega)
      refine ⟨sz (by decide), sz (by rw [List.length_take, List.length_map, List.length_singleton]; omega), sz (by rw [List.length_append, List.length_take, List.length_drop, List.length_map, List.length_singleton]; omega), ?_⟩
      refine ⟨ys.take i ++ [(x.1 ++ y.1, x.2 ++ y.2)] ++ ys.drop (i + 2), some (.int (j : Nat)), some (.int (i : Nat)), ?_, by omega, ?_, ?_, m2, by omega, gput_same, .inr ?_⟩
      · rw [List.map_append, List.map_append, List.map_take, List.map_drop]
        rfl
      · intro u hu
        rcases List.mem_append.mp hu with hu | hu
        · rcases List.mem_append.mp hu with hu | hu
          · exact ye u (List.mem_of_mem_take hu)
          · rw [List.mem_singleton] at hu
            subst hu
            show (x.1 ++ y.1).length = (x.2 ++ y.2).length
            rw [List.length_append, List.length_append, ye x (List.mem_of_getElem? hx), ye y (List.mem_of_getElem? hy)]
        · exact ye u (List.mem_of_mem_drop hu)
      · rw [catP_join hx hy, yc]
      · rcases hG with ⟨_, rfl⟩ | rfl
        · rfl
        · rw [gput_gput]
    · rintro S' G' ⟨ys, x3, x4, rfl, yl, ye, yc, m, hm, gp', hG⟩
      rw [List.length_map, List.length_range] at yl hm
      obtain ⟨x, rfl⟩ : ∃ x, ys = [x] := by
        cases ys with
        | nil => simp at yl; omega
        | cons x l =>
          cases l with
          | nil => exact ⟨x, rfl⟩
          | cons y l => simp at yl; omega
      rw [catP_one] at yc
      have ix : D.item (.lst ([x].map fun x => pieD C (He.ga K "Piece") R x.1 x.2)) (.int 0) = some (pieD C (He.ga K "Piece") R x.1 x.2) := rfl
      simp only [dxs, dl, dx3, eL, ix]
      refine ⟨_, Sub.refl _, ?_⟩
      rcases hG with ⟨h0, rfl⟩ | rfl
      · have h2 := q (b + 20) (by omega)
        rw [gput_self gp, ← yc] at h2
        exact h2
      · rw [← yc] at q
        exact q m (by omega)
end
end Pace
end
section
set_option Elab.async false
set_option linter.all false
set_option maxRecDepth 100000
set_option maxHeartbeats 4000000
namespace Pace
open PySem PySem.Spec PyProof.Rows L2 DL
section
variable {P : Program} {w : World} {K : PySem.W.Frag} {mg : Str → Option Value} {base : Heap} {C : Addr}
/-- pieces put one behind the other: by unlike rules OtherRules -/
def spPieAddX (C W : Addr) (K : PySem.W.Frag) : SpX := fun ds G Q E => ∃ (R R' : Rul) (p q s t : List Nat), ds = [pieD C W R p q, pieD C W R' s t] ∧ Steps R.rows ∧ R.rows.length ≤ 7 ∧ p.length = q.length ∧ p.length ≤ 1000 ∧ s.length = t.length ∧ s.length ≤ 1000 ∧ (R = R' → Q (pieD C W R (p ++ s) (q ++ t)) G) ∧ (R ≠ R' → E (He.ga K "OtherRules") [] G)
theorem x_Piece_u__add_u_ (T : Txt K mg C) (d : DefM K (He.ga K "Piece") "__add__" "Piece.__add__" s_Piece_u__add_u_) (Er : ErT P K mg) (Mm_with_behind : CalM P w K mg base (He.ga K "Piece") "with_behind" 4 ["self", "other"] (spPieWith C (He.ga K "Piece"))) (Mm__u_eq_u_ : CalM P w K mg base C "__eq__" 1 ["self", "other"] (spREq C)) : CalMX P w K mg base (He.ga K "Piece") "__add__" 5 ["self", "other"] (spPieAddX C (He.ga K "Piece") K) := by
  refine calMX_mk (N := N_Piece_u__add_u_) d sc_Piece_u__add_u_ (fun ds G Q E h => ?_) (fun _ _ _ _ _ _ us hl => match us, hl with | [_, _], _ => rfl) (fun f cdv A outer s H E hg hr => ?_)
  · obtain ⟨R, R', p, q, s, t, rfl, _⟩ := h
    rfl
  · have hu := hu100 hr
    have nd := sc_Piece_u__add_u_.nd
    have hA := deeper_guards (env := envOfC "Piece.__add__" (defScope s_Piece_u__add_u_) s.heap.objs.size f cdv) hg
    refine ⟨_, (dpsx_cons (dpx_if (dt_not (dt_cmp (od_eqO Mm__u_eq_u_ hA (hr.mono (by decide))) (de_fld T.cl_Piece T.no_Piece_rules (de_var 0)) (de_fld T.cl_Piece T.no_Piece_rules (de_var 1)) (nomark _)))
  (dpsx_one (dpx_raise0 rfl (err0 (k := 0) (st := s_OtherRules_u__init_u_) Er.e_OtherRules (hr.mono (by decide)) (by rfl) (by rfl) (by intros; rfl) (by rfl) (by rfl) (by rfl) (by rfl) (by decide +kernel) (by rfl) (by rfl) (by exact fun env => ⟨_, rfl⟩))))
  (dpsx_of dps_nil))
  (dpsx_of (dps_one (dp_ret (de_calM T.cl_Piece Mm_with_behind hA (hr.mono (by decide)) (de_var 0) (da_cons (de_var 1) da_nil)))))), fun ds G Q E2 h => ?_⟩
    obtain ⟨R, R', p, q, s, t, rfl, st, n64, pq, pl, stl, sl, z1, z2⟩ := h
    rw [show dstart N_Piece_u__add_u_ [pieD C (He.ga K "Piece") R p q, pieD C (He.ga K "Piece") R' s t] = [some (pieD C (He.ga K "Piece") R p q), some (pieD C (He.ga K "Piece") R' s t)] from rfl]
    have ec : ∀ (G : GH) (R : Rul) (p q : List Nat), D.cur G (pieD C (He.ga K "Piece") R p q) = .obj (He.ga K "Piece") (pieF C R p q) := fun _ _ _ _ => rfl
    have l1 : ∀ (R : Rul) p q, List.lookup (Str.ofString "rules") (pieF C R p q) = some (rulD C R) := fun _ _ _ => rfl
    have lw : ∀ (R : Rul) (p q : List Nat), List.lookup (Str.ofString "with_behind") (pieF C R p q) = none := fun _ _ _ => rfl
    simp only [dxs, dl, dx3, xS, xE, finX, dSeqX, ec, l1, lw]
    have eR : ∀ (G : GH) (R : Rul), D.cur G (rulD C R) = .obj C (rulF R) := fun _ _ => rfl
    simp only [rEqO, eR]
    refine ⟨trivial, trivial, trivial, trivial, R, R', rfl, fun b hb => ?_⟩
    cases b with
    | false =>
      have hne : ¬ R = R' := fun e => by simpa using hb.mpr e
      simp only [Bool.not_false, if_true]
      exact ⟨_, Sub.refl _, z2 hne⟩
    | true =>
      obtain rfl := hb.mp rfl
      simp only [Bool.not_true, Bool.false_eq_true, if_false]
      exact ⟨trivial, trivial, R, p, q, s, t, rfl, st, n64, pq, pl, stl, sl, _, Sub.refl _, z1 rfl⟩
end
end Pace
end
section
set_option Elab.async false
set_option linter.all false
set_option maxRecDepth 100000
set_option maxHeartbeats 4000000
namespace Pace
open PySem PySem.Spec PyProof.Rows L2 DL
section
variable {P : Program} {w : World} {K : PySem.W.Frag} {mg : Str → Option Value} {base : Heap} {C : Addr}
def spRefused64 (C W : Addr) : SpD := fun ds G Q => ∃ (R R' : Rul) (p q s t : List Nat), ds = [pieD C W R p q, pieD C W R' s t] ∧ Steps R.rows ∧ R.rows.length ≤ 7 ∧ p.length = q.length ∧ p.length ≤ 1000 ∧ s.length = t.length ∧ s.length ≤ 1000 ∧ ∀ b : Bool, (b = true ↔ R ≠ R') → Q (.bl b) G
abbrev N__law_refused : List Str := ["_law_one", "_law_mate", "_law_found", "e"]
theorem sc__law_refused : FnScope N__law_refused ["_law_one", "_law_mate"] (defScope s__law_refused) := ⟨rfl, rfl, rfl, by decide +kernel, rfl, by decide +kernel, by decide +kernel⟩
theorem c__law_refused (T : Txt K mg C) (d : Def K mg "_law_refused" s__law_refused) (Er : ErT P K mg) (XM__u_add_u_ : CalMX P w K mg base (He.ga K "Piece") "__add__" 5 ["self", "other"] (spPieAddX C (He.ga K "Piece") K)) : Cal P w K mg base "_law_refused" 7 ["_law_one", "_law_mate"] (spRefused64 C (He.ga K "Piece")) := by
  refine cal_mk (N := N__law_refused) d sc__law_refused (fun ds G Q h => ?_) (fun _ _ _ _ _ _ us hl => match us, hl with | [_, _], _ => rfl) (fun f cdv A outer s H E hg hr => ?_)
  · obtain ⟨R, R', p, q, s, t, rfl, _⟩ := h
    rfl
  · have hu := hu100 hr
    have nd := sc__law_refused.nd
    have hA := deeper_guards (env := envOfC "_law_refused" (defScope s__law_refused) s.heap.objs.size f cdv) hg
    refine ⟨_, (dps_cons (dp_asg de_bl (dg_name 2 nd))
  (dps_cons (dp_try_as (x := "OtherRules") (n := "e") (i := 3) (fun _ _ => Iff.rfl) rfl rfl nd rfl rfl rfl Er.e_OtherRules.mg_ (by decide) (fun pn xe => (dpsx_one (dpx_asg (dex_binR (op := .Add) T.ne_Piece XM__u_add_u_ (by rfl) hA (hr.mono (by decide)) (de_var 0) (de_var 1)) (dg_name 2 nd)))) (fun a oe d pn C1 fs hz hf => (dpse_asg (dee_isE Er.i_OtherRules.c Er.i_OtherRules.k hz hf rfl T.f_isinstance (da_cons (de_var 3) (da_cons (de_cls rfl Er.mg_CaptionError) da_nil))) (dg_name 2 nd))))
  (dps_one (dp_ret (de_cmp od_isB2 (de_var 2) de_bl (nomark _)))))), fun ds G Q h => ?_⟩
    obtain ⟨R, R', p, q, s, t, rfl, st, n7, pq, pl, stl, sl, z⟩ := h
    rw [show dstart N__law_refused [pieD C (He.ga K "Piece") R p q, pieD C (He.ga K "Piece") R' s t] = [some (pieD C (He.ga K "Piece") R p q), some (pieD C (He.ga K "Piece") R' s t), none, none] from rfl]
    simp only [dTryAs, dxs, dl, dx3]
    have ec : ∀ (G : GH) (R : Rul) p q, D.cur G (pieD C (He.ga K "Piece") R p q) = .obj (He.ga K "Piece") (pieF C R p q) := fun _ _ _ _ => rfl
    simp only [ec]
    refine ⟨trivial, trivial, R, R', p, q, s, t, rfl, st, n7, pq, pl, stl, sl, fun e => ?_, fun e => ?_⟩
    · subst e
      simp only [ec, rIsBl2, pieD, D.isBl]
      exact ⟨_, Sub.refl _, z false (by simp)⟩
    · exact ⟨Er.i_OtherRules.m, fun a => ⟨rfl, rfl, rfl, _, Sub.refl _, z true (by simp [e])⟩⟩
end
end Pace
end
section
set_option Elab.async false
set_option linter.all false
set_option maxRecDepth 100000
set_option maxHeartbeats 4000000
namespace Pace
open PySem PySem.Spec PyProof.Rows L2 DL
section
variable {P : Program} {w : World} {K : PySem.W.Frag} {mg : Str → Option Value} {base : Heap} {C : Addr}
/-- pieces compared: equal rules, equal told things -/
def spPieEq64 (C W : Addr) : SpD := fun ds G Q => ∃ (R R' : Rul) (p q s t : List Nat), ds = [pieD C W R p q, pieD C W R' s t] ∧ ∀ b : Bool, (b = true ↔ R = R' ∧ toldD R.rows p q = toldD R.rows s t) → Q (.bl b) G
abbrev N_Piece_u__eq_u_ : List Str := ["self", "other"]
theorem sc_Piece_u__eq_u_ : FnScope N_Piece_u__eq_u_ ["self", "other"] (defScope s_Piece_u__eq_u_) := ⟨rfl, rfl, rfl, by decide +kernel, rfl, by decide +kernel, by decide +kernel⟩
theorem c_Piece_u__eq_u_ (T : Txt K mg C) (d : DefM K (He.ga K "Piece") "__eq__" "Piece.__eq__" s_Piece_u__eq_u_) (Mm__u_eq_u_ : CalM P w K mg base C "__eq__" 1 ["self", "other"] (spREq C)) (Mm_told : CalM P w K mg base (He.ga K "Piece") "told" 1 ["self"] (spPieTold C (He.ga K "Piece"))) : CalM P w K mg base (He.ga K "Piece") "__eq__" 3 ["self", "other"] (spPieEq64 C (He.ga K "Piece")) := by
  refine calM_mk (N := N_Piece_u__eq_u_) d sc_Piece_u__eq_u_ (fun ds G Q h => ?_) (fun _ _ _ _ _ _ us hl => match us, hl with | [_, _], _ => rfl) (fun f cdv A outer s H E hg hr => ?_)
  · obtain ⟨R, R', p, q, s, t, rfl, _⟩ := h
    rfl
  · have hu := hu100 hr
    have nd := sc_Piece_u__eq_u_.nd
    have hA := deeper_guards (env := envOfC "Piece.__eq__" (defScope s_Piece_u__eq_u_) s.heap.objs.size f cdv) hg
    refine ⟨_, (dps_one (dp_ret (de_and (de_callB (cd_isC T.ins_Piece) rfl T.f_isinstance (by decide +kernel) (da_cons (de_var 1) (da_cons (de_cls rfl T.mg_Piece) da_nil))) (de_and (de_cmp (od_eqO Mm__u_eq_u_ hA (hr.mono (by decide))) (de_fld T.cl_Piece T.no_Piece_rules (de_var 0)) (de_fld T.cl_Piece T.no_Piece_rules (de_var 1)) (nomark _)) (de_one (de_cmp (od_eq hu) (de_calM0 T.cl_Piece Mm_told hA (hr.mono (by decide)) (de_var 0)) (de_calM0 T.cl_Piece Mm_told hA (hr.mono (by decide)) (de_var 1)) (nomark _))))))), fun ds G Q h => ?_⟩
    obtain ⟨R, R', p, q, s, t, rfl, z⟩ := h
    rw [show dstart N_Piece_u__eq_u_ [pieD C (He.ga K "Piece") R p q, pieD C (He.ga K "Piece") R' s t] = [some (pieD C (He.ga K "Piece") R p q), some (pieD C (He.ga K "Piece") R' s t)] from rfl]
    have lkr : ∀ (R : Rul) p q, List.lookup (Str.ofString "rules") (pieF C R p q) = some (rulD C R) := fun _ _ _ => rfl
    have lkt : ∀ (R : Rul) p q, List.lookup (Str.ofString "told") (pieF C R p q) = none := fun _ _ _ => rfl
    have ec : ∀ (G : GH) (R : Rul) p q, D.cur G (pieD C (He.ga K "Piece") R p q) = .obj (He.ga K "Piece") (pieF C R p q) := fun _ _ _ _ => rfl
    simp only [dxs, dl, dx3, ec, lkr, lkt]
    simp only [rIsC, ec, dxs, dl, dx3, lkr, lkt]
    have eR : ∀ (G : GH) (R : Rul), D.cur G (rulD C R) = .obj C (rulF R) := fun _ _ => rfl
    have eT : ∀ (G : GH) (R : Rul) p q, D.cur G (toldD R.rows p q) = toldD R.rows p q := fun _ _ _ _ => rfl
    simp only [rEqO, eR, if_true]
    refine ⟨trivial, trivial, trivial, trivial, trivial, trivial, R, R', rfl, fun b hb => ?_⟩
    cases b with
    | false =>
      have hne : ¬ R = R' := fun e => by simpa using hb.mpr e
      simp only [Bool.false_eq_true, if_false]
      exact ⟨_, Sub.refl _, z false (by simp [hne])⟩
    | true =>
      obtain rfl := hb.mp rfl
      simp only [if_true]
      refine ⟨trivial, trivial, R, p, q, rfl, trivial, trivial, R, s, t, rfl, ?_⟩
      simp only [eT]
      refine ⟨okE_si (told_si _ _ _) (told_si _ _ _) (Nat.le_trans (told_dp _ _ _) (by decide)), _, Sub.refl _, z _ ?_⟩
      rw [eqv_si (told_si _ _ _) (told_si _ _ _)]
      simp
end
end Pace
end
section
set_option Elab.async false
set_option linter.all false
set_option maxRecDepth 100000
set_option maxHeartbeats 4000000
namespace Pace
open PySem PySem.Spec PyProof.Rows L2 DL
section
variable {P : Program} {w : World} {K : PySem.W.Frag} {mg : Str → Option Value} {base : Heap} {C : Addr}
def spBehind (C : Addr) : SpD := fun ds G Q => ∃ (R : Rul) (ss : List Nat) (c : Nat), ds = [rulD C R, .tup (natsD ss), .str (sgn c)] ∧ R.Ok ∧ (∀ s ∈ ss, s < R.rows.length) ∧ R.rows.length < 64 ∧
  Q (.tup (natsD (behind R.rows ss c))) G
abbrev N_states_behind : List Str := ["rules", "states", "letter", "found", "state", "sign", "written", "target"]
theorem sc_states_behind : FnScope N_states_behind ["rules", "states", "letter"] (defScope s_states_behind) := ⟨rfl, rfl, rfl, by decide +kernel, rfl, by decide +kernel, by decide +kernel⟩
theorem c_states_behind (T : Txt K mg C) (d : Def K mg "states_behind" s_states_behind) : Cal P w K mg base "states_behind" 1 ["rules", "states", "letter"] (spBehind C) := by
  refine cal_mk (N := N_states_behind) d sc_states_behind (fun ds G Q h => ?_) (fun _ _ _ _ _ _ us hl => match us, hl with | [_, _, _], _ => rfl) (fun f cdv A outer s H E hg hr => ?_)
  · obtain ⟨R, ss, c, rfl, _⟩ := h
    rfl
  · have hu := hu100 hr
    have nd := sc_states_behind.nd
    have hA := deeper_guards (env := envOfC "states_behind" (defScope s_states_behind) s.heap.objs.size f cdv) hg
    refine ⟨_, (dps_cons (dp_asg de_newK (dg_name 3 nd))
  (dps_cons (dp_for PassesOwn.never rfl (di_tup (de_var 1)) (dg_name 4 nd)
  (dps_one (dp_for PassesOwn.never rfl (di_tup (de_ix hu (de_fld T.clR T.no_rows (de_var 0)) (de_var 4))) (dg_tup (n := 3) rfl (dgs_cons (dg_name 5 nd) (dgs_cons (dg_name 6 nd) (dgs_cons (dg_name 7 nd) dgs_nil))))
  (dps_one (dp_if (dt_cmp (od_eq hu) (de_var 5) (de_var 2) (nomark _))
  (dps_one (dp_asg de_bl (dg_sub hu (de_var 3) (de_var 7))))
  dps_nil)))))
  (dps_one (dp_ret (de_callTy cd_tuple rfl T.f_tuple (by decide +kernel) (da_cons (de_callB (cd_sorted hu rfl) rfl T.f_sorted (by decide +kernel) (da_cons (de_var 3) da_nil)) da_nil)))))), fun ds G Q h => ?_⟩
    obtain ⟨R, ss, c, rfl, ok, hs, h64, q⟩ := h
    intro p hp
    -- for state in states
    refine ⟨fun i S' G' => ∃ st sg wr tg ks, S' = [some (rulD C R), some (.tup (natsD ss)), some (.str (sgn c)), some (.rf p), st, sg, wr, tg] ∧
      G' = gput G p (.dK (kds ks)) ∧ ks = ((ss.take i).flatMap fun s => hits R.rows s c).foldl addF [] ∧ ks.Nodup ∧ ∀ k ∈ ks, k < R.rows.length,
      ⟨none, none, none, none, [], rfl, rfl, rfl, by simp, by simp⟩, fun _ _ _ _ => trivial, ?_, ?_⟩
    · rintro i S' G' dd ⟨st, sg, wr, tg, ks, rfl, rfl, hks, hnd, hlt⟩ hd
      obtain ⟨s0, hs0, rfl⟩ := natsD_get hd
      have hsl : s0 < R.rows.length := hs s0 (List.mem_of_getElem? hs0)
      obtain ⟨row, hrow⟩ : ∃ row, R.rows[s0]? = some row := ⟨_, List.getElem?_eq_getElem hsl⟩
      have hrok := ok.at_ row (List.mem_of_getElem? hrow)
      -- for sign, written, target in rules.rows[state]
      have e1 : D.item (rowsD R.rows) (.int (s0 : Int)) = some (rowD row) := by
        exact atI_nat (by rw [List.getElem?_map, hrow]; rfl)
      have e2 : ∀ G0, D.cur G0 (rowsD R.rows) = rowsD R.rows := fun _ => rfl
      simp only [dxs, dl, rulD, rulF_rows, e2, e1, true_and, rowD]
      refine ⟨fun j S' G' => ∃ sg wr tg ks, S' = [some (rulD C R), some (.tup (natsD ss)), some (.str (sgn c)), some (.rf p), some (.int (s0 : Int)), sg, wr, tg] ∧
        G' = gput G p (.dK (kds ks)) ∧ ks = (((ss.take i).flatMap fun s => hits R.rows s c) ++ ((row.take j).filter fun m => m.h == c).map (·.t)).foldl addF [] ∧ ks.Nodup ∧ ∀ k ∈ ks, k < R.rows.length,
        ⟨sg, wr, tg, ks, rfl, rfl, by rw [hks]; simp, hnd, hlt⟩, fun _ _ _ _ => trivial, ?_, ?_⟩
      · clear hks hnd hlt
        rintro j S' G' dd ⟨sg, wr, tg, ks, rfl, rfl, hks, hnd, hlt⟩ hd2
        rw [List.getElem?_map] at hd2
        cases hm : row[j]? with
        | none => rw [hm] at hd2; cases hd2
        | some m =>
          rw [hm] at hd2
          cases hd2
          have htk : row.take (j + 1) = row.take j ++ [m] := by rw [List.take_add_one, hm]; rfl
          have hmt : m.t < R.rows.length := hrok.2 m (List.mem_of_getElem? hm)
          simp only [Mv.d, dxs, dl, true_and, okE_str, eqv_str, sgn_beq]
          by_cases hc : m.h = c
          · simp only [hc, beq_self_eq_true, if_true, D.key, kds_put, gput_gput]
            refine ⟨?_, _, _, _, addF ks m.t, rfl, rfl, ?_, addF_nodup hnd, addF_lt hlt hmt⟩
            · have := nodup_lt_len hnd hlt
              simp only [kds, List.length_map]
              unfold sizeLine
              omega
            · rw [htk, hks, List.filter_append, List.map_append, ← List.append_assoc, List.foldl_append]
              simp [hc, hks]
          · have hb : (m.h == c) = false := by simp [hc]
            simp only [hb, Bool.false_eq_true, if_false]
            refine ⟨_, _, _, ks, rfl, rfl, ?_, hnd, hlt⟩
            rw [htk, hks, List.filter_append, List.map_append]
            simp [hc]
      · rintro S' G' ⟨sg, wr, tg, ks, rfl, rfl, hks, hnd, hlt⟩
        refine ⟨_, _, _, _, ks, rfl, rfl, ?_, hnd, hlt⟩
        rw [hks, List.length_map, List.take_length]
        have e3 : ss.take (i + 1) = ss.take i ++ [s0] := by rw [List.take_add_one, hs0]; rfl
        rw [e3, List.flatMap_append]
        have e4 : R.rows.getD s0 [] = row := by simp [List.getD, hrow]
        have e6 : hits R.rows s0 c = (row.filter fun m => m.h == c).map (·.t) := by unfold hits; rw [e4]
        simp [e6]
    · rintro S' G' ⟨st, sg, wr, tg, ks, rfl, rfl, hks, hnd, hlt⟩
      simp only [dxs, dl, rSortD, kds_ints]
      refine ⟨?_, ?_⟩
      · have := nodup_lt_len hnd hlt
        simp; omega
      · simp only [dxs, dl, rTupleD]
        rw [isort_nat]
        refine ⟨G, sub_new hp rfl, ?_⟩
        have e5 : nsort ks = behind R.rows ss c := by
          unfold behind firstsF
          rw [hks]
          have : (natsD ss).length = ss.length := by simp [natsD]
          rw [this, List.take_length]
        rw [e5]
        exact q
end
end Pace
end
section
set_option Elab.async false
set_option linter.all false
set_option maxRecDepth 100000
set_option maxHeartbeats 4000000
namespace Pace
open PySem PySem.Spec PyProof.Rows L2 DL
section
variable {P : Program} {w : World} {K : PySem.W.Frag} {mg : Str → Option Value} {base : Heap} {C : Addr}
def spReached (C : Addr) : SpD := fun ds G Q => ∃ (R : Rul) (s : Nat) (cs : List Nat), ds = [rulD C R, .int (s : Int), .str (strOf cs)] ∧ R.Ok ∧ s < R.rows.length ∧ R.rows.length < 64 ∧
  Q (.tup (natsD (run R.rows [s] cs))) G
abbrev N_reached : List Str := ["rules", "state", "speech", "found", "letter"]
theorem sc_reached : FnScope N_reached ["rules", "state", "speech"] (defScope s_reached) := ⟨rfl, rfl, rfl, by decide +kernel, rfl, by decide +kernel, by decide +kernel⟩
theorem c_reached (T : Txt K mg C) (d : Def K mg "reached" s_reached) (C_states_behind : Cal P w K mg base "states_behind" 1 ["rules", "states", "letter"] (spBehind C)) : Cal P w K mg base "reached" 2 ["rules", "state", "speech"] (spReached C) := by
  refine cal_mk (N := N_reached) d sc_reached (fun ds G Q h => ?_) (fun _ _ _ _ _ _ us hl => match us, hl with | [_, _, _], _ => rfl) (fun f cdv A outer s H E hg hr => ?_)
  · obtain ⟨R, s, cs, rfl, _⟩ := h
    rfl
  · have hu := hu100 hr
    have nd := sc_reached.nd
    have hA := deeper_guards (env := envOfC "reached" (defScope s_reached) s.heap.objs.size f cdv) hg
    refine ⟨_, (dps_cons (dp_asg (de_tup (da_cons (de_var 1) da_nil)) (dg_name 3 nd))
  (dps_cons (dp_for PassesOwn.never rfl (di_str (de_var 2)) (dg_name 4 nd)
  (dps_one (dp_asg (de_cal C_states_behind hA (hr.mono (by decide)) (da_cons (de_var 0) (da_cons (de_var 3) (da_cons (de_var 4) da_nil)))) (dg_name 3 nd))))
  (dps_one (dp_ret (de_var 3))))), fun ds G Q h => ?_⟩
    obtain ⟨R, s0, cs, rfl, ok, hs, h64, q⟩ := h
    refine ⟨sz (by simp), ?_⟩
    refine ⟨fun i S' G' => ∃ l, S' = [some (rulD C R), some (.int (s0 : Int)), some (.str (strOf cs)), some (.tup (natsD (run R.rows [s0] (cs.take i)))), l] ∧ G' = G,
      ⟨none, by simp [run]; rfl, rfl⟩, fun _ _ _ _ => trivial, ?_, ?_⟩
    · rintro i S' G' dd ⟨l, rfl, rfl⟩ hd
      obtain ⟨c, hc, rfl⟩ := signs_get hd
      simp only [dxs, dl]
      have hlt : ∀ k ∈ run R.rows [s0] (cs.take i), k < R.rows.length := run_lt (fun r hr => (ok.at_ r hr).2) (by simpa using hs)
      refine ⟨R, _, c, rfl, ok, hlt, h64, ?_⟩
      refine ⟨some (.str (sgn c)), ?_, rfl⟩
      have e : cs.take (i + 1) = cs.take i ++ [c] := by rw [List.take_add_one, hc]; rfl
      rw [e, run_snoc]
    · rintro S' G' ⟨l, rfl, rfl⟩
      simp only [dxs, dl]
      refine ⟨_, Sub.refl _, ?_⟩
      rw [signs_len, List.take_length]
      exact q
end
section
variable {P : Program} {w : World} {K : PySem.W.Frag} {mg : Str → Option Value} {base : Heap} {C : Addr}
def spRLen (C : Addr) : SpD := fun ds G Q => ∃ R : Rul, ds = [rulD C R] ∧ R.Ok ∧ Q (.int (R.rows.length : Nat)) G
abbrev N_Rules_u__len_u_ : List Str := ["self"]
theorem sc_Rules_u__len_u_ : FnScope N_Rules_u__len_u_ ["self"] (defScope s_Rules_u__len_u_) := ⟨rfl, rfl, rfl, by decide +kernel, rfl, by decide +kernel, by decide +kernel⟩
theorem c_Rules_u__len_u_ (T : Txt K mg C) (d : DefM K C "__len__" "Rules.__len__" s_Rules_u__len_u_) : CalM P w K mg base C "__len__" 1 ["self"] (spRLen C) := by
  refine calM_mk (N := N_Rules_u__len_u_) d sc_Rules_u__len_u_ (fun ds G Q h => ?_) (fun _ _ _ _ _ _ us hl => match us, hl with | [_], _ => rfl) (fun f cdv A outer s H E hg hr => ?_)
  · obtain ⟨R, rfl, _⟩ := h
    rfl
  · have hu := hu100 hr
    have nd := sc_Rules_u__len_u_.nd
    have hA := deeper_guards (env := envOfC "Rules.__len__" (defScope s_Rules_u__len_u_) s.heap.objs.size f cdv) hg
    refine ⟨_, (dps_one (dp_ret (de_callB cd_len rfl T.f_len (by decide +kernel) (da_cons (de_fld T.clR T.no_rows (de_var 0)) da_nil)))), fun ds G Q h => ?_⟩
    obtain ⟨R, rfl, ok, q⟩ := h
    rw [show dstart N_Rules_u__len_u_ [rulD C R] = [some (rulD C R)] from rfl]
    have fewR := ok.few
    have e0 : ∀ (G : GH), D.cur G (.obj C (rulF R)) = .obj C (rulF R) := fun _ => rfl
    simp only [dxs, dl, rulD, e0, rulF_rows, rows_len_]
    exact ⟨trivial, G, Sub.refl _, q⟩
end
section
variable {P : Program} {w : World} {K : PySem.W.Frag} {mg : Str → Option Value} {base : Heap} {C : Addr}
def spTClass (C : Addr) : SpD := fun ds G Q => ∃ (R : Rul) (cs : List Nat), ds = [rulD C R, .str (strOf cs)] ∧ R.Ok ∧ R.rows.length < 64 ∧ Q (classD R.rows cs) G
abbrev N_text_class : List Str := ["rules", "text", "state"]
theorem sc_text_class : FnScope N_text_class ["rules", "text"] (defScope s_text_class) := ⟨rfl, rfl, rfl, by decide +kernel, rfl, by decide +kernel, by decide +kernel⟩
theorem c_text_class (T : Txt K mg C) (d : Def K mg "text_class" s_text_class) (C_reached : Cal P w K mg base "reached" 2 ["rules", "state", "speech"] (spReached C)) (Mm__u_len_u_ : CalM P w K mg base C "__len__" 1 ["self"] (spRLen C)) : Cal P w K mg base "text_class" 3 ["rules", "text"] (spTClass C) := by
  refine cal_mk (N := N_text_class) d sc_text_class (fun ds G Q h => ?_) (fun _ _ _ _ _ _ us hl => match us, hl with | [_, _], _ => rfl) (fun f cdv A outer s H E hg hr => ?_)
  · obtain ⟨R, cs, rfl, _⟩ := h
    rfl
  · have hu := hu100 hr
    have nd := sc_text_class.nd
    have hA := deeper_guards (env := envOfC "text_class" (defScope s_text_class) s.heap.objs.size f cdv) hg
    refine ⟨_, (dps_one (dp_ret (de_callTy cd_tuple rfl T.f_tuple (by decide +kernel) (da_cons (de_lc (own := [("state", 2)]) (p := (.nm 2)) rfl nd (di_range1 rfl T.f_range (da_cons (de_callB (cd_lenO Mm__u_len_u_ hA (hr.mono (by decide))) rfl T.f_len (by decide +kernel) (da_cons (de_var 0) da_nil)) da_nil)) (blkOk_by (by show blkC N_text_class (defScope s_text_class) _ _ = true; decide +kernel)) (by decide) (fun _ _ _ _ _ => pg_name (i := 2) nd rfl (Or.inl rfl)) (fun _ _ _ _ _ => dts_nil) (fun _ _ _ _ _ => (de_cal C_reached hA (hr.mono (by decide)) (da_cons (de_var 0) (da_cons (de_var 2) (da_cons (de_var 1) da_nil)))))) da_nil)))), fun ds G Q h => ?_⟩
    obtain ⟨R, cs, rfl, ok, h64, q⟩ := h
    rw [show dstart N_text_class [rulD C R, .str (strOf cs)] = [some (rulD C R), some (.str (strOf cs)), none] from rfl]
    simp only [dxs, dl]
    have fewR := ok.few
    refine And.intro rfl ⟨R, rfl, ok, by omega, by omega, by omega, by omega, ?_⟩
    refine lc_mapA (List.range R.rows.length) (fun (i : Nat) => .int (i : Int)) (fun (i : Nat) => .tup (natsD (run R.rows [i] cs))) (by rw [Int.toNat_natCast]) (sz (by simp; omega)) trivial (fun i hi => ⟨_, rfl, fun Q z => ?_⟩) ?_
    · simp only [dxs, dl, dwipe, List.map_cons, List.map_nil]
      exact ⟨R, i, cs, rfl, ok, List.mem_range.mp hi, h64, z⟩
    · simp only [rTupleD, dxs]
      have e : D.tup ((List.range R.rows.length).map fun (i : Nat) => .tup (natsD (run R.rows [i] cs))) = classD R.rows cs := by
        unfold classD classOf
        rw [List.map_map]
        rfl
      rw [e]
      exact ⟨G, Sub.refl _, q⟩
end
end Pace
end
section
set_option Elab.async false
set_option linter.all false
set_option maxRecDepth 100000
set_option maxHeartbeats 4000000
namespace Pace
open PySem PySem.Spec PyProof.Rows L2 DL
section
variable {P : Program} {w : World} {K : PySem.W.Frag} {mg : Str → Option Value} {base : Heap} {C : Addr}
theorem valD_put {κ : Type} [DecidableEq κ] (kds : List (κ × D)) (k j : κ) (d : D) : valD (putD kds k d) j = if j = k then some d else valD kds j := by
  have app : ∀ l m : List (κ × D), valD (l ++ m) j = (valD l j).or (valD m j) := fun l m => by
    unfold valD
    rw [List.find?_append]
    cases l.find? fun kv => decide (kv.1 = j) <;> rfl
  unfold putD
  split
  · rename_i h
    have key : ∀ l : List (κ × D), valD (l.map fun kv => if kv.1 = k then (kv.1, d) else kv) j = if j = k then (valD l j).map fun _ => d else valD l j := fun l => by
      induction l with
      | nil => simp [valD]
      | cons x l ih =>
        unfold valD at ih ⊢
        rw [List.map_cons, List.find?_cons, List.find?_cons]
        by_cases e : x.1 = k
        · rw [if_pos e]
          by_cases e2 : j = k
          · subst e2
            subst e
            simp
          · rw [decide_eq_false (by rw [e]; exact fun z => e2 z.symm)]
            simpa [e2] using ih
        · rw [if_neg e]
          by_cases e2 : x.1 = j
          · have e3 : j ≠ k := fun z => e (e2.trans z)
            rw [decide_eq_true e2, if_neg e3]
          · rw [decide_eq_false e2]
            exact ih
    rw [key]
    by_cases e : j = k
    · rw [if_pos e, if_pos e]
      obtain ⟨x, hx, hk⟩ := List.any_eq_true.mp h
      unfold valD
      cases ef : kds.find? fun kv => decide (kv.1 = j) with
      | none =>
        rw [List.find?_eq_none] at ef
        exact absurd (by rw [e]; exact hk) (ef x hx)
      | some y => rfl
    · rw [if_neg e, if_neg e]
  · rename_i h
    rw [app]
    by_cases e : j = k
    · subst e
      rw [if_pos rfl]
      have : valD kds j = none := by
        unfold valD
        rw [Option.map_eq_none_iff, List.find?_eq_none]
        intro x hx hk
        exact h (List.any_eq_true.mpr ⟨x, hx, hk⟩)
      rw [this]
      simp [valD]
    · rw [if_neg e]
      have : valD [(k, d)] j = none := by
        unfold valD
        simp [Ne.symm e]
      rw [this]
      cases valD kds j <;> rfl
theorem valD_merge (j : Key) : ∀ (more acc : List (Key × D)), (more.map (·.1)).Nodup → valD (mergeD acc more) j = (valD more j).or (valD acc j)
  | [], acc, _ => rfl
  | x :: more, acc, nd => by
    rw [List.map_cons, List.nodup_cons] at nd
    show valD (mergeD (putD acc x.1 x.2) more) j = _
    rw [valD_merge j more _ nd.2, valD_put]
    have ec : valD (x :: more) j = if x.1 = j then some x.2 else valD more j := by
      unfold valD
      rw [List.find?_cons]
      by_cases e : x.1 = j
      · rw [decide_eq_true e, if_pos e]; rfl
      · rw [decide_eq_false e, if_neg e]
    rw [ec]
    by_cases e : x.1 = j
    · rw [if_pos e, if_pos e.symm]
      have : valD more j = none := by
        unfold valD
        rw [Option.map_eq_none_iff, List.find?_eq_none]
        intro y hy hk
        have hk : y.1 = j := of_decide_eq_true hk
        exact nd.1 (List.mem_map.mpr ⟨y, hy, hk.trans e.symm⟩)
      rw [this]
      rfl
    · rw [if_neg e, if_neg (Ne.symm e)]
/-- the dict of the signs of a letter -/
def sgMv (m : Mv) : Key × D := (.inr (sgn m.c), .int (m.t : Int))
theorem sg_val {A : Rows} (st : Steps A) (s h c : Nat) : valD (mergeD [] (((rowS A s).filter fun m => decide (m.h = h)).map sgMv)) (.inr (sgn c)) = (step1 A s h c).map fun t : Nat => D.int (t : Int) := by
  have pw := (st.row s).1
  have nd : ((((rowS A s).filter fun m => decide (m.h = h)).map sgMv).map (·.1)).Nodup := by
    rw [List.map_map, List.Nodup, List.pairwise_map]
    refine List.Pairwise.imp_of_mem (fun {a b} ha hb hab => ?_) (pw.filter _)
    have h1 : a.h = h := by simpa using (List.mem_filter.mp ha).2
    have h2 : b.h = h := by simpa using (List.mem_filter.mp hb).2
    intro e
    have e : (Sum.inr (sgn a.c) : Key) = .inr (sgn b.c) := e
    have e := sgn_inj (Sum.inr.inj e)
    unfold mvLt at hab
    rw [h1, h2, e] at hab
    simp at hab
  rw [valD_merge _ _ _ nd]
  have e0 : valD ([] : List (Key × D)) (.inr (sgn c)) = none := rfl
  rw [e0, Option.or_none]
  unfold valD step1
  rw [List.find?_map, Option.map_map, List.find?_filter, Option.map_map]
  have : (fun m : Mv => decide (decide (m.h = h) = true ∧ ((fun kv : Key × D => decide (kv.1 = .inr (sgn c))) ∘ sgMv) m = true)) = fun m => m.h == h && m.c == c := by
    funext m
    have e1 : decide (decide (m.h = h) = true ∧ ((fun kv : Key × D => decide (kv.1 = .inr (sgn c))) ∘ sgMv) m = true) = (decide (m.h = h) && decide ((Sum.inr (sgn m.c) : Key) = .inr (sgn c))) := by
      rw [Bool.eq_iff_iff, decide_eq_true_eq, Bool.and_eq_true]
      exact Iff.rfl
    rw [e1]
    have : decide ((Sum.inr (sgn m.c) : Key) = .inr (sgn c)) = (m.c == c) := by
      rw [Bool.eq_iff_iff, decide_eq_true_eq, beq_iff_eq]
      exact ⟨fun e => sgn_inj (Sum.inr.inj e), fun e => by rw [e]⟩
    rw [this]
    rfl
  rw [this]
  rfl
def spSignPiece (C W : Addr) : SpD := fun ds G Q => ∃ (R : Rul) (h c : Nat), ds = [rulD C R, .str (sgn h), .str (sgn c)] ∧ R.Ok ∧ Steps R.rows ∧ R.rows.length ≤ 7 ∧ (∀ r ∈ R.rows, r.length ≤ 31) ∧ Q (pieD C W R [h] [c]) G
abbrev N_sign_piece : List Str := ["rules", "letter", "shown", "leads", "costs", "row", "some", "heard", "sign", "target", "least"]
theorem sc_sign_piece : FnScope N_sign_piece ["rules", "letter", "shown"] (defScope s_sign_piece) := ⟨rfl, rfl, rfl, by decide +kernel, rfl, by decide +kernel, by decide +kernel⟩
theorem c_sign_piece (T : Txt K mg C) (d : Def K mg "sign_piece" s_sign_piece) (C_less : Cal P w K mg base "less" 1 ["one", "other"] (spLess)) (C_text_class : Cal P w K mg base "text_class" 3 ["rules", "text"] (spTClass C)) (M_Piece : Mak P w K mg base "Piece" (He.ga K "Piece") 1 ["self", "rules", "speech", "caption", "told"] (spPieInit (He.ga K "Piece"))) : Cal P w K mg base "sign_piece" 4 ["rules", "letter", "shown"] (spSignPiece C (He.ga K "Piece")) := by
  refine cal_mk (N := N_sign_piece) d sc_sign_piece (fun ds G Q h => ?_) (fun _ _ _ _ _ _ us hl => match us, hl with | [_, _, _], _ => rfl) (fun f cdv A outer s H E hg hr => ?_)
  · obtain ⟨R, h, c, rfl, _⟩ := h
    rfl
  · have hu := hu100 hr
    have nd := sc_sign_piece.nd
    have hA := deeper_guards (env := envOfC "sign_piece" (defScope s_sign_piece) s.heap.objs.size f cdv) hg
    refine ⟨_, (dps_cons (dp_par (i := 3) (j := 4) rfl nd (ha := (da_cons (de_lstM da_nil) (da_cons (de_lstM da_nil) da_nil))))
  (dps_cons (dp_for PassesOwn.never rfl (di_tup (de_fld T.clR T.no_rows (de_var 0))) (dg_name 5 nd)
  (dps_cons (dp_setLc (i := 6) (own := [("heard", 7), ("sign", 8), ("target", 9)]) (p := (.tp [7, 8, 9])) rfl nd rfl rfl (sw_true rfl rfl rfl (by decide +kernel)) (di_tup (de_var 5)) (blkOk_by (by show blkC N_sign_piece (defScope s_sign_piece) _ _ = true; decide +kernel)) (by decide) (fun _ _ _ _ _ => pg_tup rfl (pgs_cons (pg_name (i := 7) nd rfl (Or.inl rfl)) (pgs_cons (pg_name (i := 8) nd rfl (Or.inl rfl)) (pgs_cons (pg_name (i := 9) nd rfl (Or.inl rfl)) pgs_nil)))) (fun _ _ _ _ _ => (dts_one (dt_cmp (od_eq hu) (de_var 7) (de_var 1) (nomark _)))) (fun _ _ _ _ _ => (de_tup (da_cons (de_var 8) (da_cons (de_var 9) da_nil)))))
  (dps_cons (dp_expr (de_bm PySem.F.plainAttrs_list PySem.F.slot_list_append PySem.F.type_list_append md_append (de_var 3) (da_cons (de_get1 hu (de_callTy (cd_dictK rfl) rfl T.f_dict (by decide +kernel) (da_cons (de_var 6) da_nil)) (de_var 2)) da_nil)))
  (dps_cons (dp_asg (de_op od_mulLM (de_lst (da_cons de_non da_nil)) (de_callB cd_len rfl T.f_len (by decide +kernel) (da_cons (de_fld T.clR T.no_rows (de_var 0)) da_nil))) (dg_name 10 nd))
  (dps_cons (dp_for PassesOwn.never rfl (di_list (de_var 6)) (dg_tup (n := 2) rfl (dgs_cons (dg_name 8 nd) (dgs_cons (dg_name 9 nd) dgs_nil)))
  (dps_one (dp_asg (de_cal C_less hA (hr.mono (by decide)) (da_cons (de_ix hu (de_var 10) (de_var 9)) (da_cons (de_callTy cd_int rfl T.f_int (by decide +kernel) (da_cons (de_cmp (od_ne hu) (de_var 8) (de_var 2) (nomark _)) da_nil)) da_nil))) (dg_sub hu (de_var 10) (de_var 9)))))
  (dps_one (dp_expr (de_bm PySem.F.plainAttrs_list PySem.F.slot_list_append PySem.F.type_list_append md_append (de_var 4) (da_cons (de_callTy cd_tuple rfl T.f_tuple (by decide +kernel) (da_cons (de_var 10) da_nil)) da_nil)))))))))
  (dps_one (dp_ret (de_mak M_Piece hA (hr.mono (by decide)) (da_cons (de_var 0) (da_cons (de_var 1) (da_cons (de_var 2) (da_cons (de_tup (da_cons (de_callTy cd_tuple rfl T.f_tuple (by decide +kernel) (da_cons (de_var 3) da_nil)) (da_cons (de_callTy cd_tuple rfl T.f_tuple (by decide +kernel) (da_cons (de_var 4) da_nil)) (da_cons (de_cal C_text_class hA (hr.mono (by decide)) (da_cons (de_var 0) (da_cons (de_var 1) da_nil))) da_nil)))) da_nil))))))))), fun ds G Q h => ?_⟩
    obtain ⟨R, h, c, rfl, ok, st, n64, r31, z⟩ := h
    rw [show dstart N_sign_piece [rulD C R, .str (sgn h), .str (sgn c)] = [some (rulD C R), some (.str (sgn h)), some (.str (sgn c)), none, none, none, none, none, none, none, none] from rfl]
    have n1 := st.cl.1
    have eR : ∀ G : GH, D.cur G (rulD C R) = .obj C (rulF R) := fun _ => rfl
    have ec : ∀ (G : GH), D.cur G (rowsD R.rows) = rowsD R.rows := fun _ => rfl
    have eS : ∀ (G : GH) (x : Str), D.cur G (.str x) = .str x := fun _ _ => rfl
    have ecL : ∀ (G : GH) (xs : List D), D.cur G (.lst xs) = .lst xs := fun _ _ => rfl
    have er : rowsD R.rows = .tup (R.rows.map rowD) := rfl
    simp only [dxs, dl, dx3, eR, rulF_rows, er]
    refine ⟨Nat.zero_le _, fun pa ha => ⟨Nat.zero_le _, fun pb hb => ⟨trivial, ?_⟩⟩⟩
    have ab : pa ≠ pb := fun e => by rw [← e, gput_same] at hb; cases hb
    have hb0 : G pb = none := by rw [gput_ne (Ne.symm ab)] at hb; exact hb
    refine ⟨fun i S' G' => ∃ (x5 x6 x7 x8 x9 x10 : Option D), S' = [some (rulD C R), some (.str (sgn h)), some (.str (sgn c)), some (.rf pa), some (.rf pb), x5, x6, x7, x8, x9, x10] ∧ Sub G G' ∧ G' pa = some (.lst (rowDs ((leadsW R.rows [(h, c)]).take i))) ∧ G' pb = some (.lst (((costsW R.rows [(h, c)]).take i).map fun r => D.tup (rowDs r))),
      ⟨_, _, _, _, _, _, rfl, (sub_new ha rfl).trans (sub_new hb rfl), by rw [gput_ne ab, gput_same]; rfl, by rw [gput_same]; rfl⟩, fun _ _ _ _ => trivial, ?_, ?_⟩
    · rintro i S' G1 d ⟨x5, x6, x7, x8, x9, x10, rfl, sb, ga, gb⟩ hd
      obtain ⟨r, hr, rfl⟩ := map_get hd
      have hi := (List.getElem?_eq_some_iff.mp hr).1
      have erow : r = rowS R.rows i := by
        unfold rowS
        rw [List.getD_eq_getElem?_getD, hr]
        rfl
      have r31' : r.length ≤ 31 := r31 r (List.mem_of_getElem? hr)
      have erd : rowD r = .tup (r.map Mv.d) := rfl
      simp only [dxs, dl, dx3, erd]
      refine lc_someA r Mv.d (fun m => decide (m.h = h)) (fun m => .tup [.str (sgn m.c), .int (m.t : Int)]) rfl (sz (by omega)) trivial (fun m hm => ⟨_, rfl, fun Q zz => ?_, fun _ Q zz => ?_⟩) ?_
      · simp only [dxs, dl, dwipe, List.map_cons, List.map_nil, Mv.d, eS, sgn_okE, sgn_eqv, true_and]
        exact zz
      · simp only [dxs, dl, dwipe, List.map_cons, List.map_nil, Mv.d]
        exact ⟨sz (by decide), zz⟩
      simp only [dxs, dl, dx3, ecL]
      have ep : ∀ l : List Mv, prsK (l.map fun m => D.tup [.str (sgn m.c), .int (m.t : Int)]) = some (l.map sgMv) := fun l => by
        induction l with
        | nil => rfl
        | cons m l ih =>
          rw [List.map_cons, prsK, ih]
          rfl
      have ev : (valD (mergeD [] ((r.filter fun m => decide (m.h = h)).map sgMv)) (.inr (sgn c))).getD .non = natO (ledN R.rows i [(h, c)]) := by
        rw [erow, sg_val st, ledN_step]
        show _ = natO ((step1 R.rows i h c).bind fun x => some x)
        cases step1 R.rows i h c <;> rfl
      have edK : ∀ (G : GH) (x : List (Key × D)), D.cur G (.dK x) = .dK x := fun _ _ => rfl
      have elk : ∀ (x : List (Key × D)) (y : Str), D.look (.dK x) (.str y) = some (valD x (.inr y)) := fun _ _ => rfl
      have hty : ∀ x : List (Key × D), D.hasTy "dict" (.dK x) = true := fun _ => rfl
      have hi' : i < R.rows.length := hi
      have ll : leadsW R.rows [(h, c)] = leadsW R.rows [(h, c)] := rfl
      have tkl := take_step (leadsW_at (A := R.rows) (w := [(h, c)]) hi')
      have tkc := take_step (costsW_at (A := R.rows) (w := [(h, c)]) hi')
      have rp1 : ∀ m : Nat, (List.replicate m [D.non]).flatten = rowDs (List.replicate m none) := fun m => by
        rw [rep_one2 m]
        simp [rowDs, natO]
      simp only [ga, rDictK, ecL, ep, edK, hty, elk, ev, rAppendD, eR, rulF_rows, rows_len_, rMulLM, Int.toNat_natCast, rp1, true_and]
      refine ⟨rfl, szl (by unfold rowDs; rw [List.length_map, List.length_take]; omega), sz (by decide), by omega, by omega, by simp, fun q hq => ?_⟩
      obtain ⟨G2, hG2⟩ : ∃ G2, G2 = gput G1 pa (.lst (rowDs ((leadsW R.rows [(h, c)]).take i) ++ [natO (ledN R.rows i [(h, c)])])) := ⟨_, rfl⟩
      rw [← hG2] at hq ⊢
      have hqa : q ≠ pa := fun e => by rw [e, hG2, gput_same] at hq; cases hq
      have hqb : q ≠ pb := fun e => by rw [e, hG2, gput_ne (Ne.symm ab), gb] at hq; cases hq
      have hGq : G q = none := by
        cases e : G q with
        | none => rfl
        | some u =>
          rw [hG2, gput_ne hqa] at hq
          rw [sb.le _ _ e] at hq
          cases hq
      have gq : ∀ X, gput G2 q X q = some X := fun X => gput_same
      have gqq : ∀ X Y, gput (gput G2 q X) q Y = gput G2 q Y := fun X Y => gput_gput
      have gqb : ∀ X, gput G2 q X pb = some (.lst (((costsW R.rows [(h, c)]).take i).map fun r => D.tup (rowDs r))) := fun X => by rw [gput_ne (Ne.symm hqb), hG2, gput_ne (Ne.symm ab)]; exact gb
      have eI : ∀ (G : GH) (n : Int), D.cur G (.int n) = .int n := fun _ _ => rfl
      have fm : ∀ m ∈ r.filter (fun m => decide (m.h = h)), m.t < R.rows.length := fun m hm => by
        rw [erow] at hm
        exact st.cl.t (List.mem_filter.mp hm).1
      have sr : signR R.rows.length (h, c) r = rowF R.rows i [(h, c)] := by rw [erow]; exact signR_eq st hi' (h, c)
      have flen : ∀ (l : List Mv) (f : List Cost), (l.foldl (fun f m => f.set m.t (lessO (f.getD m.t none) (some (b2n (decide (m.c ≠ c)))))) f).length = f.length := fun l => by
        induction l with
        | nil => intro f; rfl
        | cons m l ih => intro f; rw [List.foldl_cons, ih, List.length_set]
      unfold signR at sr
      simp only at sr
      generalize hF : (r.filter fun m => decide (m.h = h)) = fl at fm sr ⊢
      refine ⟨fun j S' G' => ∃ (x8 x9 : Option D), S' = [some (rulD C R), some (.str (sgn h)), some (.str (sgn c)), some (.rf pa), some (.rf pb), some (.tup (r.map Mv.d)), some (.lst (fl.map fun m => .tup [.str (sgn m.c), .int (m.t : Int)])), x7, x8, x9, some (.rf q)] ∧ G' = gput G2 q (.lst (rowDs ((fl.take j).foldl (fun f m => f.set m.t (lessO (f.getD m.t none) (some (b2n (decide (m.c ≠ c)))))) (List.replicate R.rows.length none)))),
        ⟨_, _, rfl, rfl⟩, fun _ _ _ _ => trivial, ?_, ?_⟩
      · rintro j S' G' d ⟨x8, x9, rfl, rfl⟩ hd
        obtain ⟨m, hm, rfl⟩ := map_get hd
        have mt := fm m (List.mem_of_getElem? hm)
        have tk := take_step hm
        have ln := flen (fl.take j) (List.replicate R.rows.length none)
        rw [List.length_replicate] at ln
        have fs : (fl.take (j + 1)).foldl (fun f m => f.set m.t (lessO (f.getD m.t none) (some (b2n (decide (m.c ≠ c)))))) (List.replicate R.rows.length none) = ((fl.take j).foldl (fun f m => f.set m.t (lessO (f.getD m.t none) (some (b2n (decide (m.c ≠ c)))))) (List.replicate R.rows.length none)).set m.t (lessO (((fl.take j).foldl (fun f m => f.set m.t (lessO (f.getD m.t none) (some (b2n (decide (m.c ≠ c)))))) (List.replicate R.rows.length none)).getD m.t none) (some (b2n (decide (m.c ≠ c))))) := by
          rw [tk, List.foldl_append]
          rfl
        generalize (fl.take j).foldl (fun f m => f.set m.t (lessO (f.getD m.t none) (some (b2n (decide (m.c ≠ c)))))) (List.replicate R.rows.length none) = f at ln fs ⊢
        have cst : ∀ b : Bool, (if b = true then (1 : Int) else 0) = ((b2n b : Nat) : Int) := fun b => by
          unfold b2n
          cases b <;> simp
        have eb : (!decide (m.c = c)) = decide (m.c ≠ c) := by by_cases e : m.c = c <;> simp [e]
        have enx : ∀ x : Nat, D.int (x : Int) = natO (some x) := fun _ => rfl
        simp only [dxs, dl, dx3, gq, rowDs_at (show m.t < f.length by omega), eS, sgn_okE, sgn_eqv, true_and, x_intB, eb, cst]
        refine ⟨f.getD m.t none, some (b2n (decide (m.c ≠ c))), rfl, ?_⟩
        simp only [gq, rowDs_len, ixN_nat2 (show m.t < f.length by omega), rowDs_set, gqq]
        refine ⟨_, _, rfl, ?_⟩
        rw [fs]
      · rintro S' G' ⟨x8, x9, rfl, rfl⟩
        rw [List.length_map, List.take_length, sr]
        simp only [dxs, dl, dx3, gq, gqb, rTupleD, rAppendD]
        refine ⟨rfl, szl (by rw [List.length_map, List.length_take]; omega), _, _, _, _, _, _, rfl, ?_, ?_, ?_⟩
        · refine (Sub.over (Sub.over ?_ hGq rfl) hb0 rfl)
          rw [hG2]
          exact sb.over (by have := ha; exact this) rfl
        · rw [gput_ne ab, gput_ne (Ne.symm hqa), hG2, gput_same, tkl]
          unfold rowDs
          rw [List.map_append]
          rfl
        · rw [tkc, List.map_append]
          rfl
    · rintro S' G1 ⟨x5, x6, x7, x8, x9, x10, rfl, sb, ga, gb⟩
      have l1 : (R.rows.map rowD).length = R.rows.length := List.length_map ..
      rw [l1] at ga gb
      rw [List.take_of_length_le (by rw [leadsW_len]; exact Nat.le_refl _)] at ga
      rw [List.take_of_length_le (by rw [costsW_len]; exact Nat.le_refl _)] at gb
      have e1 : (Str.ofString "") = strOf [] := str_nil
      simp only [dxs, dl, dx3, rTupleD, ga, gb]
      refine ⟨R, [h], rfl, ok, by omega, sz (by decide), fun y hy => ⟨y, _, _, _, _, _, _, rfl, gput_same, ?_⟩⟩
      simp only [gput_gput, gput_same, MO.cold, gdel_gput hy]
      exact ⟨_, sb, z⟩
end
end Pace
end
section
set_option Elab.async false
set_option linter.all false
set_option maxRecDepth 100000
set_option maxHeartbeats 4000000
namespace Pace
open PySem PySem.Spec PyProof.Rows L2 DL
section
variable {P : Program} {w : World} {K : PySem.W.Frag} {mg : Str → Option Value} {base : Heap} {C : Addr}
def spEmptyPiece (C W : Addr) : SpD := fun ds G Q => ∃ (R : Rul), ds = [rulD C R] ∧ R.Ok ∧ Steps R.rows ∧ R.rows.length ≤ 7 ∧ Q (pieD C W R [] []) G
abbrev N_empty_piece : List Str := ["rules", "states", "costs", "other", "state"]
theorem sc_empty_piece : FnScope N_empty_piece ["rules"] (defScope s_empty_piece) := ⟨rfl, rfl, rfl, by decide +kernel, rfl, by decide +kernel, by decide +kernel⟩
theorem c_empty_piece (T : Txt K mg C) (d : Def K mg "empty_piece" s_empty_piece) (C_text_class : Cal P w K mg base "text_class" 3 ["rules", "text"] (spTClass C)) (M_Piece : Mak P w K mg base "Piece" (He.ga K "Piece") 1 ["self", "rules", "speech", "caption", "told"] (spPieInit (He.ga K "Piece"))) : Cal P w K mg base "empty_piece" 4 ["rules"] (spEmptyPiece C (He.ga K "Piece")) := by
  refine cal_mk (N := N_empty_piece) d sc_empty_piece (fun ds G Q h => ?_) (fun _ _ _ _ _ _ us hl => match us, hl with | [_], _ => rfl) (fun f cdv A outer s H E hg hr => ?_)
  · obtain ⟨R, rfl, _⟩ := h
    rfl
  · have hu := hu100 hr
    have nd := sc_empty_piece.nd
    have hA := deeper_guards (env := envOfC "empty_piece" (defScope s_empty_piece) s.heap.objs.size f cdv) hg
    refine ⟨_, (dps_cons (dp_asg (de_listRg1 rfl rfl T.f_list rfl T.f_range (de_callB cd_len rfl T.f_len (by decide +kernel) (da_cons (de_fld T.clR T.no_rows (de_var 0)) da_nil))) (dg_name 1 nd))
  (dps_cons (dp_asg (de_callTy cd_tuple rfl T.f_tuple (by decide +kernel) (da_cons (de_lc (own := [("state", 4)]) (p := (.nm 4)) rfl nd (di_list (de_var 1)) (blkOk_by (by show blkC N_empty_piece (defScope s_empty_piece) _ _ = true; decide +kernel)) (by decide) (fun _ _ _ _ _ => pg_name (i := 4) nd rfl (Or.inr rfl)) (fun _ _ _ _ _ => dts_nil) (fun _ _ _ _ _ => (de_callTy cd_tuple rfl T.f_tuple (by decide +kernel) (da_cons (de_lc (own := [("other", 3)]) (p := (.nm 3)) rfl nd (di_list (de_var 1)) (blkOk_by (by kernel_rfl)) (by decide) (fun _ _ _ _ _ => pg_name (i := 3) nd rfl (Or.inl rfl)) (fun _ _ _ _ _ => dts_nil) (fun _ _ _ _ _ => (de_if (dt_cmp (od_eq hu) (de_var 4) (de_var 3) (nomark _)) de_int de_non))) da_nil)))) da_nil)) (dg_name 2 nd))
  (dps_one (dp_ret (de_mak M_Piece hA (hr.mono (by decide)) (da_cons (de_var 0) (da_cons de_str (da_cons de_str (da_cons (de_tup (da_cons (de_callTy cd_tuple rfl T.f_tuple (by decide +kernel) (da_cons (de_var 1) da_nil)) (da_cons (de_var 2) (da_cons (de_cal C_text_class hA (hr.mono (by decide)) (da_cons (de_var 0) (da_cons de_str da_nil))) da_nil)))) da_nil))))))))), fun ds G Q h => ?_⟩
    obtain ⟨R, rfl, ok, st, n64, z⟩ := h
    rw [show dstart N_empty_piece [rulD C R] = [some (rulD C R), none, none, none, none] from rfl]
    have n1 := st.cl.1
    have eR : ∀ G : GH, D.cur G (rulD C R) = .obj C (rulF R) := fun _ => rfl
    have ec : ∀ (G : GH), D.cur G (rowsD R.rows) = rowsD R.rows := fun _ => rfl
    have eI : ∀ (G : GH) (n : Int), D.cur G (.int n) = .int n := fun _ _ => rfl
    have ecL : ∀ (G : GH) (xs : List D), D.cur G (.lst xs) = .lst xs := fun _ _ => rfl
    simp only [dListRg1, dxs, dl, dx3, eR, rulF_rows, rows_len_, Int.toNat_natCast]
    refine ⟨trivial, RgOk.of_le (by omega) (by omega) (by omega) (by omega), ?_⟩
    refine lc_mapA (List.range R.rows.length) (fun i : Nat => .int (i : Int)) (fun i : Nat => .tup (rowDs (rowF R.rows i []))) rfl (sz (by simp; omega)) trivial (fun i hi => ⟨_, rfl, fun Q zz => ?_⟩) ?_
    · simp only [dxs, dl, dx3, dwipe, List.map_cons, List.map_nil]
      refine lc_mapA (List.range R.rows.length) (fun i : Nat => .int (i : Int)) (fun t : Nat => natO (if t = i then some 0 else none)) rfl (sz (by simp; omega)) trivial (fun t ht => ⟨_, rfl, fun Q zz => ?_⟩) ?_
      · simp only [dxs, dl, dx3, dwipe, List.map_cons, List.map_nil, eI, eqv_int]
        refine ⟨okE_int _ _, ?_⟩
        by_cases e : t = i
        · subst e
          rw [if_pos (by simp)]
          rw [if_pos rfl] at zz
          exact zz
        · rw [if_neg (by simp; omega)]
          rw [if_neg e] at zz
          exact zz
      · simp only [rTupleD, ecL]
        have e : ((List.range R.rows.length).map fun t : Nat => natO (if t = i then some 0 else none)) = rowDs (rowF R.rows i []) := by
          show _ = rowDs (startR R.rows.length i)
          unfold rowDs startR
          rw [List.map_map]
          rfl
        rw [e]
        exact zz
    have e1 : ((List.range R.rows.length).map fun i : Nat => D.tup (rowDs (rowF R.rows i []))) = (costsW R.rows ([].zip [])).map fun r => D.tup (rowDs r) := by
      unfold costsW
      rw [List.map_map]
      rfl
    have e2 : ((List.range R.rows.length).map fun i : Nat => D.int (i : Int)) = rowDs (leadsW R.rows ([].zip [])) := by
      unfold leadsW rowDs
      rw [List.map_map]
      rfl
    simp only [rTupleD, ecL]
    rw [e1, e2, str_nil]
    refine ⟨R, [], rfl, ok, by omega, sz (by decide), fun y hy => ⟨y, _, _, _, _, _, _, rfl, gput_same, ?_⟩⟩
    simp only [gput_gput, gput_same, MO.cold, gdel_gput hy]
    exact ⟨_, Sub.refl _, z⟩
end
end Pace
end
section
set_option Elab.async false
set_option linter.all false
set_option maxRecDepth 100000
set_option maxHeartbeats 4000000
namespace Pace
open PySem PySem.Spec PyProof.Rows L2 DL
section
variable {P : Program} {w : World} {K : PySem.W.Frag} {mg : Str → Option Value} {base : Heap} {C : Addr}
def spJoinedAll (C W : Addr) : SpD := fun ds G Q => ∃ (R : Rul) (p q : List Nat), ds = [rulD C R, .str (strOf p), .str (strOf q)] ∧ R.Ok ∧ Steps R.rows ∧ R.rows.length ≤ 7 ∧ (∀ r ∈ R.rows, r.length ≤ 31) ∧ p.length = q.length ∧ p.length ≤ 1000 ∧ Q (pieD C W R p q) G
abbrev N_joined_all : List Str := ["rules", "speech", "caption", "found", "letter", "shown"]
theorem sc_joined_all : FnScope N_joined_all ["rules", "speech", "caption"] (defScope s_joined_all) := ⟨rfl, rfl, rfl, by decide +kernel, rfl, by decide +kernel, by decide +kernel⟩
theorem c_joined_all (T : Txt K mg C) (d : Def K mg "joined_all" s_joined_all) (C_empty_piece : Cal P w K mg base "empty_piece" 4 ["rules"] (spEmptyPiece C (He.ga K "Piece"))) (Mm_with_behind : CalM P w K mg base (He.ga K "Piece") "with_behind" 4 ["self", "other"] (spPieWith C (He.ga K "Piece"))) (C_sign_piece : Cal P w K mg base "sign_piece" 4 ["rules", "letter", "shown"] (spSignPiece C (He.ga K "Piece"))) : Cal P w K mg base "joined_all" 5 ["rules", "speech", "caption"] (spJoinedAll C (He.ga K "Piece")) := by
  refine cal_mk (N := N_joined_all) d sc_joined_all (fun ds G Q h => ?_) (fun _ _ _ _ _ _ us hl => match us, hl with | [_, _, _], _ => rfl) (fun f cdv A outer s H E hg hr => ?_)
  · obtain ⟨R, p, q, rfl, _⟩ := h
    rfl
  · have hu := hu100 hr
    have nd := sc_joined_all.nd
    have hA := deeper_guards (env := envOfC "joined_all" (defScope s_joined_all) s.heap.objs.size f cdv) hg
    refine ⟨_, (dps_cons (dp_asg (de_cal C_empty_piece hA (hr.mono (by decide)) (da_cons (de_var 0) da_nil)) (dg_name 3 nd))
  (dps_cons (dp_for PassesOwn.never rfl (di_zipS rfl T.f_zip (da_cons (de_var 1) (da_cons (de_var 2) da_nil))) (dg_tup (n := 2) rfl (dgs_cons (dg_name 4 nd) (dgs_cons (dg_name 5 nd) dgs_nil)))
  (dps_one (dp_asg (de_calM T.cl_Piece Mm_with_behind hA (hr.mono (by decide)) (de_var 3) (da_cons (de_cal C_sign_piece hA (hr.mono (by decide)) (da_cons (de_var 0) (da_cons (de_var 4) (da_cons (de_var 5) da_nil)))) da_nil)) (dg_name 3 nd))))
  (dps_one (dp_ret (de_var 3))))), fun ds G Q h => ?_⟩
    obtain ⟨R, p, q, rfl, ok, st, n64, r31, pq, pl, z⟩ := h
    rw [show dstart N_joined_all [rulD C R, .str (strOf p), .str (strOf q)] = [some (rulD C R), some (.str (strOf p)), some (.str (strOf q)), none, none, none] from rfl]
    have zl : (p.zip q).length = p.length := by rw [List.length_zip]; omega
    simp only [dxs, dl, dx3]
    refine ⟨R, rfl, ok, st, n64, ?_⟩
    have ew : List.zipWith (fun a b => D.tup [D.str (sgn a), D.str (sgn b)]) (strOf p).cps.toList (strOf q).cps.toList = (p.zip q).map fun k => .tup [.str (sgn k.1), .str (sgn k.2)] := zip_map _ _ _
    rw [ew]
    refine ⟨fun i S' G' => ∃ (x4 x5 : Option D), S' = [some (rulD C R), some (.str (strOf p)), some (.str (strOf q)), some (pieD C (He.ga K "Piece") R (p.take i) (q.take i)), x4, x5] ∧ G = G',
      ⟨_, _, rfl, rfl⟩, fun _ _ _ _ => trivial, ?_, ?_⟩
    · rintro i S' G' d ⟨x4, x5, rfl, rfl⟩ hd
      obtain ⟨k, hk, rfl⟩ := map_get hd
      have hi := (List.getElem?_eq_some_iff.mp hk).1
      obtain ⟨k1, k2⟩ := List.getElem?_zip_eq_some.mp hk
      have lk : ∀ m : Str, List.lookup m (pieF C R (p.take i) (q.take i)) = List.lookup m (pieF C R (p.take i) (q.take i)) := fun _ => rfl
      have ec : ∀ (G : GH) (p q : List Nat), D.cur G (pieD C (He.ga K "Piece") R p q) = .obj (He.ga K "Piece") (pieF C R p q) := fun _ _ _ => rfl
      have lw : ∀ p q : List Nat, List.lookup (Str.ofString "with_behind") (pieF C R p q) = none := fun _ _ => rfl
      simp only [dxs, dl, dx3, ec, lw, true_and]
      refine ⟨R, k.1, k.2, rfl, ok, st, n64, r31, ?_⟩
      refine ⟨R, p.take i, q.take i, [k.1], [k.2], rfl, st, n64, by rw [List.length_take, List.length_take, pq], by rw [List.length_take]; omega, rfl, by simp, ?_⟩
      rw [← take_step k1, ← take_step k2]
      exact ⟨_, _, rfl, rfl⟩
    · rintro S' G' ⟨x4, x5, rfl, rfl⟩
      have e : ((p.zip q).map fun k => D.tup [.str (sgn k.1), .str (sgn k.2)]).length = p.length := by rw [List.length_map, zl]
      rw [e, List.take_length, pq, List.take_length]
      simp only [dxs, dl]
      exact ⟨_, Sub.refl _, z⟩
end
end Pace
end
section
set_option Elab.async false
set_option linter.all false
set_option maxRecDepth 100000
set_option maxHeartbeats 4000000
namespace Pace
open PySem PySem.Spec PyProof.Rows L2 DL
section
variable {P : Program} {w : World} {K : PySem.W.Frag} {mg : Str → Option Value} {base : Heap} {C : Addr}
def spCheckPair (C : Addr) : SpD := fun ds G Q => ∃ (hs ws : List Nat) (rs : Rows) (p q : List Nat), ds = [rulD C (mkR hs ws rs), .str (strOf p), .str (strOf q)] ∧ p.length ≤ 1000 ∧ p.length = q.length ∧ (∀ c ∈ p, c ∈ hs) ∧ (∀ c ∈ q, c ∈ abc) ∧ Q .non G
abbrev N_check_pair : List Str := ["rules", "speech", "caption", "letter", "sign"]
theorem sc_check_pair : FnScope N_check_pair ["rules", "speech", "caption"] (defScope s_check_pair) := ⟨rfl, rfl, rfl, by decide +kernel, rfl, by decide +kernel, by decide +kernel⟩
theorem c_check_pair (T : Txt K mg C) (d : Def K mg "check_pair" s_check_pair) : Cal P w K mg base "check_pair" 1 ["rules", "speech", "caption"] (spCheckPair C) := by
  refine cal_mk (N := N_check_pair) d sc_check_pair (fun ds G Q h => ?_) (fun _ _ _ _ _ _ us hl => match us, hl with | [_, _, _], _ => rfl) (fun f cdv A outer s H E hg hr => ?_)
  · obtain ⟨hs, ws, rs, p, q, rfl, _⟩ := h
    rfl
  · have hu := hu100 hr
    have nd := sc_check_pair.nd
    have hA := deeper_guards (env := envOfC "check_pair" (defScope s_check_pair) s.heap.objs.size f cdv) hg
    refine ⟨_, (dps_cons (dp_if (DW.dt (dw_or (dt_not (dt_val (de_callB cd_isi rfl T.f_isinstance (by decide +kernel) (da_cons (de_var 1) (da_cons (de_ty (T := "str") rfl T.f_str (by decide +kernel)) da_nil))))) (dw_or1 (dt_not (dt_val (de_callB (cd_all rfl) rfl T.f_all (by decide +kernel) (da_cons (de_lc (own := [("letter", 3)]) (p := (.nm 3)) rfl nd (di_str (de_var 1)) (blkOk_by (by show blkC N_check_pair (defScope s_check_pair) _ _ = true; decide +kernel)) (by decide) (fun _ _ _ _ _ => pg_name (i := 3) nd rfl (Or.inl rfl)) (fun _ _ _ _ _ => dts_nil) (fun _ _ _ _ _ => (de_cmp (od_in hu) (de_var 3) (de_fld T.clR T.no_heard (de_var 0)) (by rfl)))) da_nil)))))))
  (dps_one dp_never)
  dps_nil)
  (dps_one (dp_if (DW.dt (dw_or (dt_not (dt_val (de_callB cd_isi rfl T.f_isinstance (by decide +kernel) (da_cons (de_var 2) (da_cons (de_ty (T := "str") rfl T.f_str (by decide +kernel)) da_nil))))) (dw_or (dt_cmp (od_ne hu) (de_callB cd_len rfl T.f_len (by decide +kernel) (da_cons (de_var 2) da_nil)) (de_callB cd_len rfl T.f_len (by decide +kernel) (da_cons (de_var 1) da_nil)) (nomark _)) (dw_or1 (dt_not (dt_val (de_callB (cd_all rfl) rfl T.f_all (by decide +kernel) (da_cons (de_lc (own := [("sign", 4)]) (p := (.nm 4)) rfl nd (di_str (de_var 2)) (blkOk_by (by show blkC N_check_pair (defScope s_check_pair) _ _ = true; decide +kernel)) (by decide) (fun _ _ _ _ _ => pg_name (i := 4) nd rfl (Or.inl rfl)) (fun _ _ _ _ _ => dts_nil) (fun _ _ _ _ _ => (de_cmp (od_in hu) (de_var 4) (de_gstr rfl T.c_LETTERS_pieces) (by rfl)))) da_nil))))))))
  (dps_one dp_never)
  dps_nil))), fun ds G Q h => ?_⟩
    obtain ⟨hs, ws, rs, p, q, rfl, pl, pe, ph, qh, z⟩ := h
    rw [show dstart N_check_pair [rulD C (mkR hs ws rs), .str (strOf p), .str (strOf q)] = [some (rulD C (mkR hs ws rs)), some (.str (strOf p)), some (.str (strOf q)), none, none] from rfl]
    have eR : ∀ G : GH, D.cur G (rulD C (mkR hs ws rs)) = .obj C (rulF (mkR hs ws rs)) := fun _ => rfl
    have eh : List.lookup (Str.ofString "heard") (rulF (mkR hs ws rs)) = some (.str (strOf hs)) := rfl
    have eS : ∀ (G : GH) (x : Str), D.cur G (.str x) = .str x := fun _ _ => rfl
    have eI : ∀ (G : GH) (x : Int), D.cur G (.int x) = .int x := fun _ _ => rfl
    have l1 : (strOf p).length ≤ sizeLine := by rw [strOf_len]; exact sz (by omega)
    have l2 : (strOf q).length ≤ sizeLine := by rw [strOf_len]; exact sz (by omega)
    simp only [dxs, dl, dx3]
    rw [if_neg (by simp), signs_map]
    refine lc_mapA p (fun c => .str (sgn c)) (fun c => .bl (decide (c ∈ hs))) rfl (sz (by omega)) trivial (fun c hc => ⟨_, rfl, fun Q z => ?_⟩) ?_
    · simp only [dxs, dl, dwipe, List.map_cons, List.map_nil, eR, eh, eS, inn_str, strIn_sgn, true_and]
      exact z
    rw [all_map (fun c => decide (c ∈ hs)), List.all_eq_true.mpr fun c hc => decide_eq_true (ph c hc)]
    simp only [dxs, dl, dx3, Bool.not_true, Bool.false_eq_true, if_false, len_str l1, len_str l2, strOf_len, eI, pe]
    refine ⟨okE_si rfl rfl (Nat.zero_le _), ?_⟩
    rw [show (D.int ((q.length : Nat) : Int)).eqv (D.int ((q.length : Nat) : Int)) = true from (eqv_si rfl rfl).mpr rfl]
    simp only [Bool.not_true, Bool.false_eq_true, if_false]
    rw [signs_map]
    refine lc_mapA q (fun c => .str (sgn c)) (fun c => .bl (decide (c ∈ abc))) rfl (sz (by omega)) trivial (fun c hc => ⟨_, rfl, fun Q z => ?_⟩) ?_
    · simp only [dxs, dl, dwipe, List.map_cons, List.map_nil, eS, abc_str, inn_str, strIn_sgn, true_and]
      exact z
    rw [all_map (fun c => decide (c ∈ abc)), List.all_eq_true.mpr fun c hc => decide_eq_true (qh c hc)]
    exact ⟨G, Sub.refl _, z⟩
end
end Pace
end
section
set_option Elab.async false
set_option linter.all false
set_option maxRecDepth 100000
set_option maxHeartbeats 4000000
namespace Pace
open PySem PySem.Spec PyProof.Rows L2 DL
section
variable {P : Program} {w : World} {K : PySem.W.Frag} {mg : Str → Option Value} {base : Heap} {C : Addr}
def spPieceOf (C W : Addr) : SpD := fun ds G Q => ∃ (hs ws : List Nat) (rs : Rows) (p q : List Nat), ds = [rulD C (mkR hs ws rs), .str (strOf p), .str (strOf q)] ∧ (mkR hs ws rs).Ok ∧ Steps rs ∧ rs.length ≤ 7 ∧ (∀ r ∈ rs, r.length ≤ 31) ∧ p.length = q.length ∧ p.length ≤ 1000 ∧ (∀ c ∈ p, c ∈ hs) ∧ (∀ c ∈ q, c ∈ abc) ∧ Q (pieD C W (mkR hs ws rs) p q) G
abbrev N_piece_of : List Str := ["rules", "speech", "caption"]
theorem sc_piece_of : FnScope N_piece_of ["rules", "speech", "caption"] (defScope s_piece_of) := ⟨rfl, rfl, rfl, by decide +kernel, rfl, by decide +kernel, by decide +kernel⟩
theorem c_piece_of (T : Txt K mg C) (d : Def K mg "piece_of" s_piece_of) (C_check_pair : Cal P w K mg base "check_pair" 1 ["rules", "speech", "caption"] (spCheckPair C)) (C_joined_all : Cal P w K mg base "joined_all" 5 ["rules", "speech", "caption"] (spJoinedAll C (He.ga K "Piece"))) : Cal P w K mg base "piece_of" 6 ["rules", "speech", "caption"] (spPieceOf C (He.ga K "Piece")) := by
  refine cal_mk (N := N_piece_of) d sc_piece_of (fun ds G Q h => ?_) (fun _ _ _ _ _ _ us hl => match us, hl with | [_, _, _], _ => rfl) (fun f cdv A outer s H E hg hr => ?_)
  · obtain ⟨hs, ws, rs, p, q, rfl, _⟩ := h
    rfl
  · have hu := hu100 hr
    have nd := sc_piece_of.nd
    have hA := deeper_guards (env := envOfC "piece_of" (defScope s_piece_of) s.heap.objs.size f cdv) hg
    refine ⟨_, (dps_cons (dp_expr (de_cal C_check_pair hA (hr.mono (by decide)) (da_cons (de_var 0) (da_cons (de_var 1) (da_cons (de_var 2) da_nil)))))
  (dps_one (dp_ret (de_cal C_joined_all hA (hr.mono (by decide)) (da_cons (de_var 0) (da_cons (de_var 1) (da_cons (de_var 2) da_nil))))))), fun ds G Q h => ?_⟩
    obtain ⟨hs, ws, rs, p, q, rfl, ok, st, n7, r31, pq, pl, ph, qa, z⟩ := h
    rw [show dstart N_piece_of [rulD C (mkR hs ws rs), .str (strOf p), .str (strOf q)] = [some (rulD C (mkR hs ws rs)), some (.str (strOf p)), some (.str (strOf q))] from rfl]
    simp only [dxs, dl, dx3]
    refine ⟨hs, ws, rs, p, q, rfl, pl, pq, ph, qa, ?_⟩
    exact ⟨mkR hs ws rs, p, q, rfl, ok, st, n7, r31, pq, pl, _, Sub.refl _, z⟩
end
end Pace
end
section
set_option Elab.async false
set_option linter.all false
set_option maxRecDepth 100000
set_option maxHeartbeats 4000000
namespace Pace
open PySem PySem.Spec PyProof.Rows L2 DL
section
variable {P : Program} {w : World} {K : PySem.W.Frag} {mg : Str → Option Value} {base : Heap} {C : Addr}
theorem strs66 {x : D} (h : x ∈ [D.str (Str.ofString "ab"), .str (Str.ofString "xy"), .str (Str.ofString "x"), .str (Str.ofString "xyz"), .str (Str.ofString "aq")] ∨ x ∈ [D.str (Str.ofString "ab"), .str (Str.ofString "ab"), .str (Str.ofString "a"), .str (Str.ofString "mz")]) :
    ∃ cs : List Nat, x = .str (strOf cs) ∧ lettersB cs = true ∧ cs.length ≤ 3 := by
  have e1 : Str.ofString "ab" = strOf [97, 98] := by decide +kernel
  have e2 : Str.ofString "xy" = strOf [120, 121] := by decide +kernel
  have e3 : Str.ofString "x" = strOf [120] := by decide +kernel
  have e4 : Str.ofString "xyz" = strOf [120, 121, 122] := by decide +kernel
  have e5 : Str.ofString "aq" = strOf [97, 113] := by decide +kernel
  have e6 : Str.ofString "a" = strOf [97] := by decide +kernel
  have e7 : Str.ofString "mz" = strOf [109, 122] := by decide +kernel
  simp only [List.mem_cons, List.not_mem_nil, or_false, e1, e2, e3, e4, e5, e6, e7] at h
  rcases h with (h | h | h | h | h) | (h | h | h | h)
  all_goals exact ⟨_, h, by decide +kernel, by decide⟩
def spSome66 : SpD := fun ds G Q => ∃ (p : Addr) (top n : Nat) (tot : Bool), ds = [.rf p, .int (top : Int), .bl tot] ∧ 1 ≤ top ∧ top ≤ 5 ∧ G p = some (dk (n + 210)) ∧
  ∀ (hs ws : List Nat) (rs : List (List Mv)) (m : Nat) (z : Addr), n ≤ m → rs.length ≤ top → Wor 5 tot hs ws rs → G z = none → Q (.rf z) (gput (gput G p (dk m)) z (.dK (wK hs ws rs)))
abbrev N__law_some : List Str := ["_law_deck_here", "_law_top", "_law_is_total", "_law_written"]
theorem sc__law_some : FnScope N__law_some ["_law_deck_here", "_law_top", "_law_is_total"] (defScope s__law_some) := ⟨rfl, rfl, rfl, by decide +kernel, rfl, by decide +kernel, by decide +kernel⟩
theorem c__law_some (T : Txt K mg C) (d : Def K mg "_law_some" s__law_some) (C__law_pick : Cal P w K mg base "_law_pick" 2 ["_law_deck_here", "_law_some_here"] (spPick)) (C__law_draw : Cal P w K mg base "_law_draw" 1 ["_law_deck_here", "_law_below"] (spDraw)) (C__law_world : Cal P w K mg base "_law_world" 3 ["_law_deck_here", "_law_size", "_law_heard", "_law_written", "_law_is_total"] (spWorld66)) : Cal P w K mg base "_law_some" 4 ["_law_deck_here", "_law_top", "_law_is_total"] (spSome66) := by
  refine cal_mk (N := N__law_some) d sc__law_some (fun ds G Q h => ?_) (fun _ _ _ _ _ _ us hl => match us, hl with | [_, _, _], _ => rfl) (fun f cdv A outer s H E hg hr => ?_)
  · obtain ⟨p, top, n, tot, rfl, _⟩ := h
    rfl
  · have hu := hu100 hr
    have nd := sc__law_some.nd
    have hA := deeper_guards (env := envOfC "_law_some" (defScope s__law_some) s.heap.objs.size f cdv) hg
    refine ⟨_, (dps_cons (dp_asg (de_cal C__law_pick hA (hr.mono (by decide)) (da_cons (de_var 0) (da_cons (de_lst (da_cons de_str (da_cons de_str (da_cons de_str (da_cons de_str (da_cons de_str da_nil)))))) da_nil))) (dg_name 3 nd))
  (dps_one (dp_ret (de_cal C__law_world hA (hr.mono (by decide)) (da_cons (de_var 0) (da_cons (de_op od_add de_int (de_cal C__law_draw hA (hr.mono (by decide)) (da_cons (de_var 0) (da_cons (de_var 1) da_nil)))) (da_cons (de_cal C__law_pick hA (hr.mono (by decide)) (da_cons (de_var 0) (da_cons (de_lst (da_cons de_str (da_cons de_str (da_cons de_str (da_cons de_str da_nil))))) da_nil))) (da_cons (de_var 3) (da_cons (de_var 2) da_nil))))))))), fun ds G Q h => ?_⟩
    obtain ⟨p, top, n, tot, rfl, t1, t5, gp, q⟩ := h
    rw [show dstart N__law_some [.rf p, .int (top : Int), .bl tot] = [some (.rf p), some (.int (top : Int)), some (.bl tot), none] from rfl]
    simp only [dxs, dl, dx3]
    refine ⟨sz (by decide), p, n + 209, _, _, rfl, .inl rfl, by simp, by simp, gp, fun x hx => ?_⟩
    obtain ⟨ws, rfl, lw, ws3⟩ := strs66 (.inl hx)
    refine ⟨p, top, n + 208, rfl, t1, by omega, gput_same, fun r hr => ⟨sz (by decide), ?_⟩⟩
    refine ⟨p, n + 207, _, _, rfl, .inl rfl, by simp, by simp, gput_same, fun x hx => ?_⟩
    obtain ⟨hs, rfl, lh, hs3⟩ := strs66 (.inr hx)
    have e1 : (1 : Int) + (r : Int) = ((1 + r : Nat) : Int) := by omega
    simp only [e1, gput_gput]
    refine ⟨p, 1 + r, n + 7, hs, ws, tot, rfl, by omega, by omega, lh, lw, hs3, ws3, gput_same, fun rs m z hm hl wor hz => ?_⟩
    have hzp : z ≠ p := fun e => by rw [e, gput_same] at hz; cases hz
    rw [gput_gput]
    exact ⟨_, Sub.refl _, q hs ws rs m z (by omega) (by omega) wor (by rw [gput_ne hzp] at hz; exact hz)⟩
end
end Pace
end
section
set_option Elab.async false
set_option linter.all false
set_option maxRecDepth 100000
set_option maxHeartbeats 4000000
namespace Pace
open PySem PySem.Spec PyProof.Rows L2 DL
section
variable {P : Program} {w : World} {K : PySem.W.Frag} {mg : Str → Option Value} {base : Heap} {C : Addr}
def spLetters : SpD := fun ds G Q => ∃ cs : List Nat, ds = [.str (strOf cs)] ∧ cs.length ≤ 1000 ∧ Q (.bl (lettersB cs)) G
abbrev N_are_letters : List Str := ["thing", "sign", "one", "other"]
theorem sc_are_letters : FnScope N_are_letters ["thing"] (defScope s_are_letters) := ⟨rfl, rfl, rfl, by decide +kernel, rfl, by decide +kernel, by decide +kernel⟩
theorem c_are_letters (T : Txt K mg C) (d : Def K mg "are_letters" s_are_letters) : Cal P w K mg base "are_letters" 1 ["thing"] (spLetters) := by
  refine cal_mk (N := N_are_letters) d sc_are_letters (fun ds G Q h => ?_) (fun _ _ _ _ _ _ us hl => match us, hl with | [_], _ => rfl) (fun f cdv A outer s H E hg hr => ?_)
  · obtain ⟨cs, rfl, _⟩ := h
    rfl
  · have hu := hu100 hr
    have nd := sc_are_letters.nd
    have hA := deeper_guards (env := envOfC "are_letters" (defScope s_are_letters) s.heap.objs.size f cdv) hg
    refine ⟨_, (dps_cons (dp_if (DW.dt (dw_or (dt_not (dt_val (de_callB cd_isi rfl T.f_isinstance (by decide +kernel) (da_cons (de_var 0) (da_cons (de_ty (T := "str") rfl T.f_str (by decide +kernel)) da_nil))))) (dw_or (dt_cmp (od_eq hu) (de_var 0) de_str (nomark _)) (dw_or1 (dt_not (dt_val (de_callB (cd_all rfl) rfl T.f_all (by decide +kernel) (da_cons (de_lc (own := [("sign", 1)]) (p := (.nm 1)) rfl nd (di_str (de_var 0)) (blkOk_by (by show blkC N_are_letters (defScope s_are_letters) _ _ = true; decide +kernel)) (by decide) (fun _ _ _ _ _ => pg_name (i := 1) nd rfl (Or.inl rfl)) (fun _ _ _ _ _ => dts_nil) (fun _ _ _ _ _ => (de_cmp (od_in hu) (de_var 1) (de_gstr rfl T.c_LETTERS_ruletexts) (by rfl)))) da_nil))))))))
  (dps_one (dp_ret de_bl))
  dps_nil)
  (dps_one (dp_ret (de_callB (cd_all rfl) rfl T.f_all (by decide +kernel) (da_cons (de_lc (own := [("one", 2), ("other", 3)]) (p := (.tp [2, 3])) rfl nd (di_zipS rfl T.f_zip (da_cons (de_slice (de_var 0) do_none (do_some (de_un ud_neg de_int))) (da_cons (de_slice (de_var 0) (do_some de_int) do_none) da_nil))) (blkOk_by (by show blkC N_are_letters (defScope s_are_letters) _ _ = true; decide +kernel)) (by decide) (fun _ _ _ _ _ => pg_tup rfl (pgs_cons (pg_name (i := 2) nd rfl (Or.inl rfl)) (pgs_cons (pg_name (i := 3) nd rfl (Or.inl rfl)) pgs_nil))) (fun _ _ _ _ _ => dts_nil) (fun _ _ _ _ _ => (de_cmp (od_lt hu) (de_var 2) (de_var 3) (nomark _)))) da_nil))))), fun ds G Q h => ?_⟩
    obtain ⟨cs, rfl, hl, q⟩ := h
    rw [show dstart N_are_letters [.str (strOf cs)] = [some (.str (strOf cs)), none, none, none] from rfl]
    simp only [dxs, dl, dx3, Bool.not_true, Bool.false_eq_true, if_false, okE_str, eqv_str, true_and]
    by_cases h0 : cs = []
    · subst h0
      rw [if_pos (by decide +kernel), if_pos trivial]
      exact ⟨_, Sub.refl _, q⟩
    · rw [if_neg (by
        intro z
        have z2 : strOf cs = strOf [] := by rw [← str_nil]; simpa using z
        exact h0 (strOf_inj z2))]
      have hsz : (strOf cs).length ≤ sizeLine := by rw [strOf_len]; exact sz (by omega)
      refine lc_mapA cs (fun c => .str (sgn c)) (fun c => .bl (decide (c ∈ abc))) (by simp [DL.signs, strOf, sgn]) (sz (by omega)) trivial (fun c _ => ⟨_, rfl, fun Q z => ?_⟩) ?_
      · simp only [dxs, dl, dwipe, List.map_cons, List.map_nil, inn_str, abc_str, strIn_sgn]
        exact z
      · rw [all_map]
        simp only
        by_cases ha : cs.all (fun c => decide (c ∈ abc)) = true
        · rw [if_neg (by simp [ha])]
          refine ⟨hsz, hsz, ?_⟩
          rw [cutS_strOf, cutS_strOf, cut_last, cut_tail]
          refine lc_mapA (cs.dropLast.zip cs.tail) (fun p => .tup [.str (sgn p.1), .str (sgn p.2)]) (fun p => .bl (decide (p.1 < p.2))) (by rw [zip_map]; simp [strOf]) (sz (by simp; omega)) trivial (fun p _ => ⟨_, rfl, fun Q z => ?_⟩) ?_
          · simp only [dxs, dl, dwipe, List.map_cons, List.map_nil, okL_str, sgn_lt, true_and]
            exact z
          · rw [all_map]
            refine ⟨_, Sub.refl _, ?_⟩
            have e : lettersB cs = (cs.dropLast.zip cs.tail).all fun p => decide (p.1 < p.2) := by
              unfold lettersB nbr
              rw [ha, zip_map]
              have : cs.isEmpty = false := by simpa using h0
              simp [this, List.all_map]
            rw [← e]
            exact q
        · rw [if_pos (by simpa using ha)]
          have e : lettersB cs = false := by
            unfold lettersB
            simp only [Bool.not_eq_true] at ha
            simp [ha]
          rw [e] at q
          exact ⟨_, Sub.refl _, q⟩
end
section
variable {P : Program} {w : World} {K : PySem.W.Frag} {mg : Str → Option Value} {base : Heap} {C : Addr}
def spInteger : SpD := fun ds G Q => ∃ n : Int, ds = [.int n] ∧ Q (.bl true) G
abbrev N_is_integer : List Str := ["thing"]
theorem sc_is_integer : FnScope N_is_integer ["thing"] (defScope s_is_integer) := ⟨rfl, rfl, rfl, by decide +kernel, rfl, by decide +kernel, by decide +kernel⟩
theorem c_is_integer (T : Txt K mg C) (d : Def K mg "is_integer" s_is_integer) : Cal P w K mg base "is_integer" 1 ["thing"] (spInteger) := by
  refine cal_mk (N := N_is_integer) d sc_is_integer (fun ds G Q h => ?_) (fun _ _ _ _ _ _ us hl => match us, hl with | [_], _ => rfl) (fun f cdv A outer s H E hg hr => ?_)
  · obtain ⟨n, rfl, _⟩ := h
    rfl
  · have hu := hu100 hr
    have nd := sc_is_integer.nd
    have hA := deeper_guards (env := envOfC "is_integer" (defScope s_is_integer) s.heap.objs.size f cdv) hg
    refine ⟨_, (dps_one (dp_ret (de_and (de_callB cd_isi rfl T.f_isinstance (by decide +kernel) (da_cons (de_var 0) (da_cons (de_ty (T := "int") rfl T.f_int (by decide +kernel)) da_nil))) (de_one (de_not (de_callB cd_isi rfl T.f_isinstance (by decide +kernel) (da_cons (de_var 0) (da_cons (de_ty (T := "bool") rfl T.f_bool (by decide +kernel)) da_nil)))))))), fun ds G Q h => ?_⟩
    obtain ⟨n, rfl, q⟩ := h
    exact ⟨_, Sub.refl _, q⟩
end
section
variable {P : Program} {w : World} {K : PySem.W.Frag} {mg : Str → Option Value} {base : Heap} {C : Addr}
def spLetterOf : SpD := fun ds G Q => ∃ (ls : List Nat) (c : Nat), ds = [.str (strOf ls), .str (sgn c)] ∧ Q (.bl (decide (c ∈ ls))) G
abbrev N_is_letter_of : List Str := ["letters", "thing"]
theorem sc_is_letter_of : FnScope N_is_letter_of ["letters", "thing"] (defScope s_is_letter_of) := ⟨rfl, rfl, rfl, by decide +kernel, rfl, by decide +kernel, by decide +kernel⟩
theorem c_is_letter_of (T : Txt K mg C) (d : Def K mg "is_letter_of" s_is_letter_of) : Cal P w K mg base "is_letter_of" 1 ["letters", "thing"] (spLetterOf) := by
  refine cal_mk (N := N_is_letter_of) d sc_is_letter_of (fun ds G Q h => ?_) (fun _ _ _ _ _ _ us hl => match us, hl with | [_, _], _ => rfl) (fun f cdv A outer s H E hg hr => ?_)
  · obtain ⟨ls, c, rfl, _⟩ := h
    rfl
  · have hu := hu100 hr
    have nd := sc_is_letter_of.nd
    have hA := deeper_guards (env := envOfC "is_letter_of" (defScope s_is_letter_of) s.heap.objs.size f cdv) hg
    refine ⟨_, (dps_one (dp_ret (de_and (de_callB cd_isi rfl T.f_isinstance (by decide +kernel) (da_cons (de_var 1) (da_cons (de_ty (T := "str") rfl T.f_str (by decide +kernel)) da_nil))) (de_and (de_cmp (od_eq hu) (de_callB cd_len rfl T.f_len (by decide +kernel) (da_cons (de_var 1) da_nil)) de_int (nomark _)) (de_one (de_cmp (od_in hu) (de_var 1) (de_var 0) (by rfl))))))), fun ds G Q h => ?_⟩
    obtain ⟨ls, c, rfl, q⟩ := h
    rw [show dstart N_is_letter_of [.str (strOf ls), .str (sgn c)] = [some (.str (strOf ls)), some (.str (sgn c))] from rfl]
    have e1 : rLenD [.str (sgn c)] = fun G Q => Q (.int (1 : Nat)) G := by
      funext G Q
      exact len_str (x := sgn c) (sz (by show (1 : Nat) ≤ 5000; decide)) G Q
    simp only [dxs, dl, dx3, e1, inn_str, strIn_sgn, okE_int, eqv_int, true_and, if_true, beq_self_eq_true, Int.ofNat_one]
    exact ⟨_, Sub.refl _, q⟩
end
end Pace
end
section
set_option Elab.async false
set_option linter.all false
set_option maxRecDepth 100000
set_option maxHeartbeats 4000000
namespace Pace
open PySem PySem.Spec PyProof.Rows L2 DL
section
variable {P : Program} {w : World} {K : PySem.W.Frag} {mg : Str → Option Value} {base : Heap} {C : Addr}
def spMove : SpD := fun ds G Q => ∃ (hs ws : List Nat) (n : Nat) (m : Mv), ds = [.str (strOf hs), .str (strOf ws), .int (n : Int), Mv.d m] ∧ Q (.bl (mvB hs ws n m)) G
abbrev N_is_move : List Str := ["heard", "written", "many", "thing"]
theorem sc_is_move : FnScope N_is_move ["heard", "written", "many", "thing"] (defScope s_is_move) := ⟨rfl, rfl, rfl, by decide +kernel, rfl, by decide +kernel, by decide +kernel⟩
theorem c_is_move (T : Txt K mg C) (d : Def K mg "is_move" s_is_move) (C_is_letter_of : Cal P w K mg base "is_letter_of" 1 ["letters", "thing"] (spLetterOf)) (C_is_integer : Cal P w K mg base "is_integer" 1 ["thing"] (spInteger)) : Cal P w K mg base "is_move" 2 ["heard", "written", "many", "thing"] (spMove) := by
  refine cal_mk (N := N_is_move) d sc_is_move (fun ds G Q h => ?_) (fun _ _ _ _ _ _ us hl => match us, hl with | [_, _, _, _], _ => rfl) (fun f cdv A outer s H E hg hr => ?_)
  · obtain ⟨hs, ws, n, m, rfl, _⟩ := h
    rfl
  · have hu := hu100 hr
    have nd := sc_is_move.nd
    have hA := deeper_guards (env := envOfC "is_move" (defScope s_is_move) s.heap.objs.size f cdv) hg
    refine ⟨_, (dps_cons (dp_if (DW.dt (dw_or (dt_not (dt_val (de_callB cd_isi rfl T.f_isinstance (by decide +kernel) (da_cons (de_var 3) (da_cons (de_ty (T := "tuple") rfl T.f_tuple (by decide +kernel)) da_nil))))) (dw_or1 (dt_cmp (od_ne hu) (de_callB cd_len rfl T.f_len (by decide +kernel) (da_cons (de_var 3) da_nil)) (de_gint rfl T.c_MOVE_PARTS_rules) (nomark _)))))
  (dps_one (dp_ret de_bl))
  dps_nil)
  (dps_cons (dp_if (DW.dt (dw_or (dt_not (dt_val (de_cal C_is_letter_of hA (hr.mono (by decide)) (da_cons (de_var 0) (da_cons (de_ix hu (de_var 3) de_int) da_nil))))) (dw_or1 (dt_not (dt_val (de_cal C_is_letter_of hA (hr.mono (by decide)) (da_cons (de_var 1) (da_cons (de_ix hu (de_var 3) de_int) da_nil))))))))
  (dps_one (dp_ret de_bl))
  dps_nil)
  (dps_one (dp_ret (de_and (de_cal C_is_integer hA (hr.mono (by decide)) (da_cons (de_ix hu (de_var 3) de_int) da_nil)) (de_one (de_chain (od_le hu) (od_lt hu) de_int (de_ix hu (de_var 3) de_int) (de_var 2)))))))), fun ds G Q h => ?_⟩
    obtain ⟨hs, ws, n, m, rfl, q⟩ := h
    rw [show dstart N_is_move [.str (strOf hs), .str (strOf ws), .int (n : Int), Mv.d m] = [some (.str (strOf hs)), some (.str (strOf ws)), some (.int (n : Int)), some (Mv.d m)] from rfl]
    simp only [Mv.d, dxs, dl, dx3, Bool.not_true, Bool.false_eq_true, if_false, okE_int, eqv_int, true_and, mv0, mv1, mv2]
    rw [if_neg (by decide)]
    refine ⟨hs, m.h, rfl, ?_⟩
    by_cases h1 : m.h ∈ hs
    · simp only [h1, decide_true, Bool.not_true, Bool.false_eq_true, if_false]
      refine ⟨ws, m.c, rfl, ?_⟩
      by_cases h2 : m.c ∈ ws
      · simp only [h2, decide_true, Bool.not_true, Bool.false_eq_true, if_false]
        refine ⟨_, rfl, ?_⟩
        simp only [dxs, dl, mv2, okL_int, DL.lt_int, true_and, if_true]
        have e1 : (!decide ((m.t : Int) < 0)) = true := by simp
        rw [e1, if_pos rfl]
        refine ⟨_, Sub.refl _, ?_⟩
        have e2 : decide ((m.t : Int) < (n : Int)) = mvB hs ws n m := by
          unfold mvB
          simp [h1, h2]
        rw [e2]
        exact q
      · simp only [h2, decide_false, Bool.not_false, if_true]
        refine ⟨_, Sub.refl _, ?_⟩
        have : mvB hs ws n m = false := by unfold mvB; simp [h2]
        rw [this] at q
        exact q
    · simp only [h1, decide_false, Bool.not_false, if_true]
      refine ⟨_, Sub.refl _, ?_⟩
      have : mvB hs ws n m = false := by unfold mvB; simp [h1]
      rw [this] at q
      exact q
end
section
variable {P : Program} {w : World} {K : PySem.W.Frag} {mg : Str → Option Value} {base : Heap} {C : Addr}
def spRow : SpD := fun ds G Q => ∃ (hs ws : List Nat) (n : Nat) (r : List Mv), ds = [.str (strOf hs), .str (strOf ws), .int (n : Int), rowD r] ∧ r.length ≤ 1000 ∧ Q (.bl (rowB hs ws n r)) G
abbrev N_is_row : List Str := ["heard", "written", "many", "thing", "move", "one", "other"]
theorem sc_is_row : FnScope N_is_row ["heard", "written", "many", "thing"] (defScope s_is_row) := ⟨rfl, rfl, rfl, by decide +kernel, rfl, by decide +kernel, by decide +kernel⟩
theorem c_is_row (T : Txt K mg C) (d : Def K mg "is_row" s_is_row) (C_is_move : Cal P w K mg base "is_move" 2 ["heard", "written", "many", "thing"] (spMove)) : Cal P w K mg base "is_row" 3 ["heard", "written", "many", "thing"] (spRow) := by
  refine cal_mk (N := N_is_row) d sc_is_row (fun ds G Q h => ?_) (fun _ _ _ _ _ _ us hl => match us, hl with | [_, _, _, _], _ => rfl) (fun f cdv A outer s H E hg hr => ?_)
  · obtain ⟨hs, ws, n, r, rfl, _⟩ := h
    rfl
  · have hu := hu100 hr
    have nd := sc_is_row.nd
    have hA := deeper_guards (env := envOfC "is_row" (defScope s_is_row) s.heap.objs.size f cdv) hg
    refine ⟨_, (dps_cons (dp_if (DW.dt (dw_or (dt_not (dt_val (de_callB cd_isi rfl T.f_isinstance (by decide +kernel) (da_cons (de_var 3) (da_cons (de_ty (T := "tuple") rfl T.f_tuple (by decide +kernel)) da_nil))))) (dw_or1 (dt_not (dt_val (de_callB (cd_all rfl) rfl T.f_all (by decide +kernel) (da_cons (de_lc (own := [("move", 4)]) (p := (.nm 4)) rfl nd (di_tup (de_var 3)) (blkOk_by (by show blkC N_is_row (defScope s_is_row) _ _ = true; decide +kernel)) (by decide) (fun _ _ _ _ _ => pg_name (i := 4) nd rfl (Or.inl rfl)) (fun _ _ _ _ _ => dts_nil) (fun _ _ _ _ _ => (de_cal C_is_move hA (hr.mono (by decide)) (da_cons (de_var 0) (da_cons (de_var 1) (da_cons (de_var 2) (da_cons (de_var 4) da_nil))))))) da_nil)))))))
  (dps_one (dp_ret de_bl))
  dps_nil)
  (dps_one (dp_ret (de_callB (cd_all rfl) rfl T.f_all (by decide +kernel) (da_cons (de_lc (own := [("one", 5), ("other", 6)]) (p := (.tp [5, 6])) rfl nd (di_zipT rfl T.f_zip (da_cons (de_slice (de_var 3) do_none (do_some (de_un ud_neg de_int))) (da_cons (de_slice (de_var 3) (do_some de_int) do_none) da_nil))) (blkOk_by (by show blkC N_is_row (defScope s_is_row) _ _ = true; decide +kernel)) (by decide) (fun _ _ _ _ _ => pg_tup rfl (pgs_cons (pg_name (i := 5) nd rfl (Or.inl rfl)) (pgs_cons (pg_name (i := 6) nd rfl (Or.inl rfl)) pgs_nil))) (fun _ _ _ _ _ => dts_nil) (fun _ _ _ _ _ => (de_cmp (od_lt hu) (de_slice (de_var 5) do_none (do_some de_int)) (de_slice (de_var 6) do_none (do_some de_int)) (nomark _)))) da_nil))))), fun ds G Q h => ?_⟩
    obtain ⟨hs, ws, n, r, rfl, hl, q⟩ := h
    rw [show dstart N_is_row [.str (strOf hs), .str (strOf ws), .int (n : Int), rowD r] = [some (.str (strOf hs)), some (.str (strOf ws)), some (.int (n : Int)), some (rowD r), none, none, none] from rfl]
    simp only [rowD, dxs, dl, dx3, Bool.not_true, Bool.false_eq_true, if_false, true_and]
    refine lc_mapA r Mv.d (fun m => .bl (mvB hs ws n m)) rfl (sz (by omega)) trivial (fun m _ => ⟨_, rfl, fun Q z => ?_⟩) ?_
    · simp only [dxs, dl, dwipe, List.map_cons, List.map_nil]
      exact ⟨hs, ws, n, m, rfl, z⟩
    · rw [all_map]
      simp only
      by_cases ha : r.all (mvB hs ws n) = true
      · rw [if_neg (by simp [ha])]
        rw [cut_last, cut_tail]
        refine lc_mapA (r.dropLast.zip r.tail) (fun p => .tup [Mv.d p.1, Mv.d p.2]) (fun p => .bl (mvLt p.1 p.2)) ?_ (sz (by simp; omega)) trivial (fun p _ => ⟨_, rfl, fun Q z => ?_⟩) ?_
        · rw [← List.map_dropLast, ← List.map_tail, List.zipWith_map, zip_map]
        · simp only [dxs, dl, dx3, dwipe, List.map_cons, List.map_nil, Mv.d, mv_cut, mv_okL, mv_lt, true_and]
          exact z
        · rw [all_map]
          refine ⟨_, Sub.refl _, ?_⟩
          have e : rowB hs ws n r = (r.dropLast.zip r.tail).all fun p => mvLt p.1 p.2 := by
            unfold rowB nbr
            rw [ha, zip_map]
            simp [List.all_map]
          rw [← e]
          exact q
      · rw [if_pos (by simpa using ha)]
        have e : rowB hs ws n r = false := by
          unfold rowB
          simp only [Bool.not_eq_true] at ha
          simp [ha]
        rw [e] at q
        exact ⟨_, Sub.refl _, q⟩
end
section
variable {P : Program} {w : World} {K : PySem.W.Frag} {mg : Str → Option Value} {base : Heap} {C : Addr}
def spSteps : SpD := fun ds G Q => ∃ (r : List Mv), ds = [rowD r] ∧ r.length ≤ 1000 ∧ mergeDT [] (r.map mvK) = r.map mvK ∧ Q (.dT (r.map mvK)) G
abbrev N_steps_of : List Str := ["row", "sign", "letter", "target"]
theorem sc_steps_of : FnScope N_steps_of ["row"] (defScope s_steps_of) := ⟨rfl, rfl, rfl, by decide +kernel, rfl, by decide +kernel, by decide +kernel⟩
theorem c_steps_of (T : Txt K mg C) (d : Def K mg "steps_of" s_steps_of) : Cal P w K mg base "steps_of" 1 ["row"] (spSteps) := by
  refine cal_mk (N := N_steps_of) d sc_steps_of (fun ds G Q h => ?_) (fun _ _ _ _ _ _ us hl => match us, hl with | [_], _ => rfl) (fun f cdv A outer s H E hg hr => ?_)
  · obtain ⟨r, rfl, _⟩ := h
    rfl
  · have hu := hu100 hr
    have nd := sc_steps_of.nd
    have hA := deeper_guards (env := envOfC "steps_of" (defScope s_steps_of) s.heap.objs.size f cdv) hg
    refine ⟨_, (dps_one (dp_ret (de_callTy (cd_dictT rfl hu) rfl T.f_dict (by decide +kernel) (da_cons (de_lc (own := [("sign", 1), ("letter", 2), ("target", 3)]) (p := (.tp [1, 2, 3])) rfl nd (di_tup (de_var 0)) (blkOk_by (by show blkC N_steps_of (defScope s_steps_of) _ _ = true; decide +kernel)) (by decide) (fun _ _ _ _ _ => pg_tup rfl (pgs_cons (pg_name (i := 1) nd rfl (Or.inl rfl)) (pgs_cons (pg_name (i := 2) nd rfl (Or.inl rfl)) (pgs_cons (pg_name (i := 3) nd rfl (Or.inl rfl)) pgs_nil)))) (fun _ _ _ _ _ => dts_nil) (fun _ _ _ _ _ => (de_tup (da_cons (de_tup (da_cons (de_var 1) (da_cons (de_var 2) da_nil))) (da_cons (de_var 3) da_nil))))) da_nil)))), fun ds G Q h => ?_⟩
    obtain ⟨r, rfl, hl, hm, q⟩ := h
    rw [show dstart N_steps_of [rowD r] = [some (rowD r), none, none, none] from rfl]
    simp only [rowD, dxs, dl]
    refine lc_mapA r Mv.d (fun m => .tup [.tup [.str (sgn m.h), .str (sgn m.c)], .int (m.t : Int)]) rfl (sz (by omega)) trivial (fun m _ => ⟨_, rfl, fun Q z => ?_⟩) ?_
    · simp only [dxs, dl, dwipe, List.map_cons, List.map_nil, Mv.d]
      exact ⟨sz (by simp), sz (by simp), z⟩
    · show (match prsT _ with | some ms => _ | none => False)
      rw [prsT_row]
      refine ⟨_, Sub.refl _, ?_⟩
      rw [hm]
      exact q
end
end Pace
end
section
set_option Elab.async false
set_option linter.all false
set_option maxRecDepth 100000
set_option maxHeartbeats 4000000
namespace Pace
open PySem PySem.Spec PyProof.Rows L2 DL
section
variable {P : Program} {w : World} {K : PySem.W.Frag} {mg : Str → Option Value} {base : Heap} {C : Addr}
def spInit (C : Addr) : SpD := fun ds G Q => ∃ (y : Addr) (hs ws : List Nat) (rs : List (List Mv)), ds = [.rf y, .str (strOf hs), .str (strOf ws), rowsD rs] ∧ G y = some (.ins C []) ∧ RulV hs ws rs ∧ Q .non (gput G y (.ins C (rulF (mkR hs ws rs))))
abbrev N_Rules_u__init_u_ : List Str := ["self", "heard", "written", "rows", "state", "row"]
theorem sc_Rules_u__init_u_ : FnScope N_Rules_u__init_u_ ["self", "heard", "written", "rows"] (defScope s_Rules_u__init_u_) := ⟨rfl, rfl, rfl, by decide +kernel, rfl, by decide +kernel, by decide +kernel⟩
theorem c_Rules_u__init_u_ (T : Txt K mg C) (d : DefI K C "Rules.__init__" s_Rules_u__init_u_) (C_are_letters : Cal P w K mg base "are_letters" 1 ["thing"] (spLetters)) (C_is_row : Cal P w K mg base "is_row" 3 ["heard", "written", "many", "thing"] (spRow)) (C_steps_of : Cal P w K mg base "steps_of" 1 ["row"] (spSteps)) : Mak P w K mg base "Rules" C 4 ["self", "heard", "written", "rows"] (spInit C) := by
  refine mak_mk (N := N_Rules_u__init_u_) d T.mgR sc_Rules_u__init_u_ (fun ds G Q h => ?_) (fun _ _ _ _ _ _ us hl => match us, hl with | [_, _, _, _], _ => rfl) (fun f cdv A outer s H E hg hr => ?_)
  · obtain ⟨y, hs, ws, rs, rfl, _⟩ := h
    rfl
  · have hu := hu100 hr
    have nd := sc_Rules_u__init_u_.nd
    have hA := deeper_guards (env := envOfC "Rules.__init__" (defScope s_Rules_u__init_u_) s.heap.objs.size f cdv) hg
    refine ⟨_, (dps_cons (dp_if (dt_not (dt_val (de_cal C_are_letters hA (hr.mono (by decide)) (da_cons (de_var 1) da_nil))))
  (dps_one dp_never)
  dps_nil)
  (dps_cons (dp_if (dt_not (dt_val (de_cal C_are_letters hA (hr.mono (by decide)) (da_cons (de_var 2) da_nil))))
  (dps_one dp_never)
  dps_nil)
  (dps_cons (dp_if (DW.dt (dw_or (dt_not (dt_val (de_callB cd_isi rfl T.f_isinstance (by decide +kernel) (da_cons (de_var 3) (da_cons (de_ty (T := "tuple") rfl T.f_tuple (by decide +kernel)) da_nil))))) (dw_or1 (dt_not (dt_chain (od_le hu) (od_le hu) de_int (de_callB cd_len rfl T.f_len (by decide +kernel) (da_cons (de_var 3) da_nil)) (de_gint rfl T.c_MOST_STATES))))))
  (dps_one dp_never)
  dps_nil)
  (dps_cons (dp_for PassesOwn.never rfl (di_enumT rfl T.f_enumerate (da_cons (de_var 3) da_nil)) (dg_tup (n := 2) rfl (dgs_cons (dg_name 4 nd) (dgs_cons (dg_name 5 nd) dgs_nil)))
  (dps_one (dp_if (dt_not (dt_val (de_cal C_is_row hA (hr.mono (by decide)) (da_cons (de_var 1) (da_cons (de_var 2) (da_cons (de_callB cd_len rfl T.f_len (by decide +kernel) (da_cons (de_var 3) da_nil)) (da_cons (de_var 5) da_nil)))))))
  (dps_one dp_never)
  dps_nil)))
  (dps_cons (dp_setFld T.clR T.no_heard (de_var 0) (de_var 1))
  (dps_cons (dp_setFld T.clR T.no_written (de_var 0) (de_var 2))
  (dps_cons (dp_setFld T.clR T.no_rows (de_var 0) (de_var 3))
  (dps_one (dp_setFld T.clR T.no_steps (de_var 0) (de_lc (own := [("row", 5)]) (p := (.nm 5)) rfl nd (di_tup (de_var 3)) (blkOk_by (by show blkC N_Rules_u__init_u_ (defScope s_Rules_u__init_u_) _ _ = true; decide +kernel)) (by decide) (fun _ _ _ _ _ => pg_name (i := 5) nd rfl (Or.inl rfl)) (fun _ _ _ _ _ => dts_nil) (fun _ _ _ _ _ => (de_cal C_steps_of hA (hr.mono (by decide)) (da_cons (de_var 5) da_nil))))))))))))), fun ds G Q h => ?_⟩
    obtain ⟨y, hs, ws, rs, rfl, hy, v, q⟩ := h
    rw [show dstart N_Rules_u__init_u_ [.rf y, .str (strOf hs), .str (strOf ws), rowsD rs] = [some (.rf y), some (.str (strOf hs)), some (.str (strOf ws)), some (rowsD rs), none, none] from rfl]
    simp only [rowsD, dxs, dl, dx3]
    refine ⟨hs, rfl, v.sh, ?_⟩
    rw [v.lh]
    simp only [dxs, dl, dx3, Bool.not_true, Bool.false_eq_true, if_false]
    refine ⟨ws, rfl, v.sw, ?_⟩
    rw [v.lw]
    simp only [dxs, dl, dx3, Bool.not_true, Bool.false_eq_true, if_false, okL_int, DL.lt_int, true_and, List.length_map]
    have n1 := v.n1
    have n2 := v.n2
    rw [if_pos (by simp; omega), if_neg (by simp; omega)]
    refine ⟨fun i S' G' => ∃ x4 x5, S' = [some (.rf y), some (.str (strOf hs)), some (.str (strOf ws)), some (.tup (rs.map rowD)), x4, x5] ∧ G' = G, ⟨none, none, rfl, rfl⟩, fun _ _ _ _ => trivial, ?_, ?_⟩
    · rintro i S' G' dd ⟨x4, x5, rfl, rfl⟩ hd
      rw [List.getElem?_mapIdx, List.getElem?_map] at hd
      cases er : rs[i]? with
      | none => rw [er] at hd; cases hd
      | some r =>
        rw [er] at hd
        cases hd
        obtain ⟨hr1, hr2⟩ := v.row r (List.mem_of_getElem? er)
        simp only [dxs, dl, dx3, true_and, List.length_map]
        refine ⟨hs, ws, rs.length, r, rfl, hr2, ?_⟩
        rw [hr1]
        exact ⟨_, _, rfl, rfl⟩
    · rintro S' G' ⟨x4, x5, rfl, rfl⟩
      simp only [dxs, dl, hy, pf1, pf2, pf3]
      refine ⟨trivial, by decide, trivial, by decide, trivial, by decide, ?_⟩
      refine lc_mapA rs rowD (fun r => .dT (r.map mvK)) rfl (sz (by omega)) trivial (fun r hr => ⟨_, rfl, fun Q z => ?_⟩) ?_
      · obtain ⟨hr1, hr2⟩ := v.row r hr
        simp only [dxs, dl, dwipe, List.map_cons, List.map_nil]
        exact ⟨r, rfl, hr2, merge_rowB hr1, z⟩
      · simp only [dxs, dl, gput_gput, pf4]
        exact ⟨trivial, by decide, _, Sub.refl _, q⟩
end
end Pace
end
section
set_option Elab.async false
set_option linter.all false
set_option maxRecDepth 100000
set_option maxHeartbeats 4000000
namespace Pace
open PySem PySem.Spec PyProof.Rows L2 DL
section
variable {P : Program} {w : World} {K : PySem.W.Frag} {mg : Str → Option Value} {base : Heap} {C : Addr}
def spCode66 (C : Addr) : SpD := fun ds G Q => ∃ (z : Addr) (hs ws : List Nat) (rs : List (List Mv)), ds = [.rf z] ∧ G z = some (.dK (wK hs ws rs)) ∧ RulV hs ws rs ∧ Q (rulD C (mkR hs ws rs)) G
abbrev N__law_code : List Str := ["_law_w"]
theorem sc__law_code : FnScope N__law_code ["_law_w"] (defScope s__law_code) := ⟨rfl, rfl, rfl, by decide +kernel, rfl, by decide +kernel, by decide +kernel⟩
theorem c__law_code (T : Txt K mg C) (d : Def K mg "_law_code" s__law_code) (M_Rules : Mak P w K mg base "Rules" C 4 ["self", "heard", "written", "rows"] (spInit C)) : Cal P w K mg base "_law_code" 6 ["_law_w"] (spCode66 C) := by
  refine cal_mk (N := N__law_code) d sc__law_code (fun ds G Q h => ?_) (fun _ _ _ _ _ _ us hl => match us, hl with | [_], _ => rfl) (fun f cdv A outer s H E hg hr => ?_)
  · obtain ⟨z, hs, ws, rs, rfl, _⟩ := h
    rfl
  · have hu := hu100 hr
    have nd := sc__law_code.nd
    have hA := deeper_guards (env := envOfC "_law_code" (defScope s__law_code) s.heap.objs.size f cdv) hg
    refine ⟨_, (dps_one (dp_ret (de_mak M_Rules hA (hr.mono (by decide)) (da_cons (de_ix hu (de_var 0) de_str) (da_cons (de_ix hu (de_var 0) de_str) (da_cons (de_ix hu (de_var 0) de_str) da_nil)))))), fun ds G Q h => ?_⟩
    obtain ⟨z, hs, ws, rs, rfl, gz, v, q⟩ := h
    rw [show dstart N__law_code [.rf z] = [some (.rf z)] from rfl]
    have i0 : D.item (.dK (wK hs ws rs)) (.str (Str.ofString "heard")) = some (.str (strOf hs)) := rfl
    have i1 : D.item (.dK (wK hs ws rs)) (.str (Str.ofString "written")) = some (.str (strOf ws)) := rfl
    have i2 : D.item (.dK (wK hs ws rs)) (.str (Str.ofString "rows")) = some (rowsD rs) := rfl
    simp only [dxs, dl, gz, i0, i1, i2]
    intro y hy
    refine ⟨y, hs, ws, rs, rfl, gput_same, v, ?_⟩
    simp only [dxs, dl, gput_gput, MO.cold, gdel_gput hy]
    exact ⟨_, Sub.refl _, q⟩
end
end Pace
end
section
set_option Elab.async false
set_option linter.all false
set_option maxRecDepth 100000
set_option maxHeartbeats 4000000
namespace Pace
open PySem PySem.Spec PyProof.Rows L2 DL
section
variable {P : Program} {w : World} {K : PySem.W.Frag} {mg : Str → Option Value} {base : Heap} {C : Addr}
def spPage42 : SpD := fun ds G Q => ∃ (p : Addr) (al : List Nat) (k n : Nat), ds = [.rf p, .str (strOf al), .int (k : Int)] ∧ al ≠ [] ∧ al.length ≤ 1000 ∧ k ≤ 1000 ∧ G p = some (dk (n + k)) ∧
  ∀ cs : List Nat, cs.length = k → (∀ c ∈ cs, c ∈ al) → Q (.str (strOf cs)) (gput G p (dk n))
abbrev N__law_page : List Str := ["_law_deck_here", "_law_signs", "_law_size", "_law_go"]
theorem sc__law_page : FnScope N__law_page ["_law_deck_here", "_law_signs", "_law_size"] (defScope s__law_page) := ⟨rfl, rfl, rfl, by decide +kernel, rfl, by decide +kernel, by decide +kernel⟩
theorem c__law_page (T : Txt K mg C) (d : Def K mg "_law_page" s__law_page) (C__law_pick : Cal P w K mg base "_law_pick" 2 ["_law_deck_here", "_law_some_here"] (spPick)) : Cal P w K mg base "_law_page" 3 ["_law_deck_here", "_law_signs", "_law_size"] (spPage42) := by
  refine cal_mk (N := N__law_page) d sc__law_page (fun ds G Q h => ?_) (fun _ _ _ _ _ _ us hl => match us, hl with | [_, _, _], _ => rfl) (fun f cdv A outer s H E hg hr => ?_)
  · obtain ⟨p, al, k, n, rfl, _⟩ := h
    rfl
  · have hu := hu100 hr
    have nd := sc__law_page.nd
    have hA := deeper_guards (env := envOfC "_law_page" (defScope s__law_page) s.heap.objs.size f cdv) hg
    refine ⟨_, (dps_one (dp_ret (de_bm PySem.F.plainAttrs_str PySem.F.slot_str_join PySem.F.type_str_join md_join de_str (da_cons (de_lc (own := [("_law_go", 3)]) (p := (.nm 3)) rfl nd (di_range1 rfl T.f_range (da_cons (de_var 2) da_nil)) (blkOk_by (by show blkC N__law_page (defScope s__law_page) _ _ = true; decide +kernel)) (by decide) (fun _ _ _ _ _ => pg_name (i := 3) nd rfl (Or.inl rfl)) (fun _ _ _ _ _ => dts_nil) (fun _ _ _ _ _ => (de_cal C__law_pick hA (hr.mono (by decide)) (da_cons (de_var 0) (da_cons (de_var 1) da_nil))))) da_nil)))), fun ds G Q h => ?_⟩
    obtain ⟨p, al, k, n, rfl, ne, al3, hk, gp, q⟩ := h
    rw [show dstart N__law_page [.rf p, .str (strOf al), .int (k : Int)] = [some (.rf p), some (.str (strOf al)), some (.int (k : Int)), none] from rfl]
    have n1 : 1 ≤ al.length := List.length_pos_iff.mpr ne
    simp only [dxs, dl, dx3]
    refine ⟨rfl, by omega, by omega, ?_⟩
    refine ⟨sz (by simp; omega), fun i acc G' => ∃ cs : List Nat, acc = cs.map (fun c => .str (sgn c)) ∧ cs.length = i ∧ i ≤ k ∧ (∀ c ∈ cs, c ∈ al) ∧ G' = gput G p (dk (n + k - i)), ⟨[], rfl, rfl, Nat.zero_le _, by simp, (gput_self gp).symm⟩, fun _ _ _ _ => trivial, ?_, ?_⟩
    · rintro i acc G' d ⟨cs, rfl, hl, hi, hin, rfl⟩ hd
      obtain ⟨hi2, rfl⟩ := range_get hd
      refine ⟨_, rfl, ?_⟩
      simp only [dxs, dl, dwipe, List.map_cons, List.map_nil, if_true]
      refine ⟨p, n + k - (i + 1), _, _, rfl, .inr ⟨al, rfl, rfl⟩, by rw [List.length_map]; exact n1, by rw [List.length_map]; exact al3, ?_, fun x hx => ?_⟩
      · rw [gput_same]
        congr 2
        have : i < k := by simpa using hi2
        omega
      · obtain ⟨c, hc, rfl⟩ := List.mem_map.mp hx
        refine ⟨cs ++ [c], by simp, by simp [hl], ?_, fun d hd => ?_, ?_⟩
        · have : i < k := by simpa using hi2
          omega
        · rcases List.mem_append.mp hd with hd | hd
          · exact hin d hd
          · rw [List.mem_singleton.mp hd]; exact hc
        · rw [gput_gput]
    · rintro acc G' ⟨cs, rfl, hl, hi, hin, rfl⟩
      rw [range_len] at hl ⊢
      simp only [rJoinD, dxs, dl, texts_sgn, join_sgn, sgn_sum]
      have h00 : (Str.ofString "").length = 0 := by rw [str_nil]; rfl
      refine ⟨by rw [h00]; simp; exact sz (by omega), _, Sub.refl _, ?_⟩
      have e : n + k - k = n := by omega
      rw [e]
      exact q cs hl hin
end
end Pace
end
section
set_option Elab.async false
set_option linter.all false
set_option maxRecDepth 100000
set_option maxHeartbeats 4000000
namespace DL
open PySem PySem.Spec PyProof.Rows L2
def spLaw (n : Nat) : SpD := fun ds G Q => ∃ ns : List Int, ds = [.scr ns] ∧ ns.length ≤ n ∧ (G = fun _ => none) ∧ ∀ G', Q (.bl true) G'
section
variable {P : Program} {w : World} {K : PySem.W.Frag} {mg mb : Str → Option Value} {k : Nat} {fa a : Addr} {fd : FuncData} {x : Str} {s₁ : Shared} {vs : List Value} {ns : List Int} {n : Nat}
theorem last_core (inn : K.In s₁.heap) (hns : s₁.heap.Ns mainGlobals mg) (hb : s₁.heap.Ns builtinsNs mb) (hbb : ∀ x : Str, x ≠ "__name__" → mb x = bootBuiltins x) (hlim : s₁.heap.NoLimit) (hg : s₁.gens = #[])
    (ha : s₁.heap.get? a = some { cls := .type "list", data := .seq vs.toArray }) (hl : ns.length ≤ n) (hr : Room k callerA)
    (Fn : ∀ base : Heap, K.In base → base.Ns mainGlobals mg → FnG P w K mg base CX0 k fa fd [x] (SpOf K (spLaw n))) (bd : ∀ (s : Shared) (u : Value), BindsTo s fd ⟨[u], []⟩ [(x, u)])
    (H : Hp) (hO : Only H) (hS : SqL K H a (ns.map V.int)) (hok : HOk P w H s₁.heap) (hA : ∀ b, H b ≠ none → b = a) (hK : H a ≠ none → K.lookup a = none) :
    codeAny (model P w) callerA (.call (.ref fa) ⟨[.ref a], []⟩) (fun r s' => r = .ok (.ret (.bool true)) ∧ OldK s₁.heap s'.heap ∧ s'.os = s₁.os ∧ AllBare s'.gens) s₁ := by
  have put : ∀ {b : Addr} {o : Obj}, s₁.heap.get? b = some o → H b = none → (hidT s₁.heap H).get? b = some o := by
    intro b o z y
    exact hidT_get z y
  have nod : ∀ {b : Addr} {o : Obj} {es : Array DictEntry} {ep : Nat}, s₁.heap.get? b = some o → o.data = .dict es ep → H b = none := by
    intro b o es ep z y
    cases q : H b with
    | none => rfl
    | some u =>
      obtain rfl : b = a := hA b (by rw [q]; simp)
      rw [ha] at z
      cases z
      exact absurd y (by intro c; cases c)
  have ns2 : ∀ {b : Addr} {m : Str → Option Value}, s₁.heap.Ns b m → (hidT s₁.heap H).Ns b m := by
    rintro b m ⟨o, es, ep, z, y, r⟩
    exact ⟨o, es, ep, put z (nod z y), y, r⟩
  have in2 : K.In (hidT s₁.heap H) := by
    intro b o z
    refine put (inn b o z) ?_
    cases q : H b with
    | none => rfl
    | some u =>
      have y : b = a := hA b (by rw [q]; simp)
      subst y
      have c := hK (by rw [q]; simp)
      rw [c] at z; cases z
  have md : Mod K mg (hidT s₁.heap H) := by
    obtain ⟨mc, l1, l2⟩ := hlim
    exact ⟨in2, ns2 hns, ⟨mb, ns2 hb, hbb⟩, ⟨mc, ns2 l1, l2⟩⟩
  have e0 : Env0 P w K mg (hidT s₁.heap H) callerA [] s₁ H := by
    refine ⟨rfl, md, fun b o z => of_hidT z, Nat.le_of_eq (hidT_size _ _), trivial, ?_, hok, .of_eq hg⟩
    intro b hb
    cases hb
  have sp0 : SpOf K (spLaw n) [.ref a] H (fun v _ => v = .bl true) (fun _ _ _ => False) := by
    refine ⟨H, fun _ => none, [.scr ns], fun d _ => d = .bl true, ⟨Ex.refl H, fun _ _ z => (nomatch z), fun _ _ _ _ _ _ _ _ _ _ z => (nomatch z)⟩, .one (.scr hS), ⟨ns, rfl, hl, rfl, fun _ => rfl⟩, ?_⟩
    intro F' H' v d G' _ _ r z
    subst z
    cases r
    rfl
  refine codeAny_mono ((Fn _ in2 (ns2 hns)).goes callerA [] s₁ H ⟨[.ref a], []⟩ [.ref a] [.ref a] _ _ rfl hr e0 (bd s₁ (.ref a)) (.cons rfl .nil) sp0) ?_
  intro r s' z
  match r, z with
  | .error er, z => exact z.elim
  | .ok .next, z => exact z.elim
  | .ok .brk, z => exact z.elim
  | .ok .cont, z => exact z.elim
  | .ok (.ret u), z =>
    obtain ⟨v, H', os, bare, un, hok', r', q⟩ := z
    have q' : v = .bl true := q
    subst q'
    obtain rfl : u = Value.bool true := r'
    refine ⟨rfl, OldK.of_keep ?_, os, bare⟩
    intro b o z
    cases q : H b with
    | none => exact un.keep b o z q (by intro c; cases c) (by simp)
    | some y =>
      rcases hO b with c | ⟨ob, xs, c⟩
      · rw [q] at c; cases c
      · have c2 := un.frzs b ob _ c
        have d1 := (hok b _ c).1
        have d2 := (hok' b _ c2).1
        rw [z] at d1
        cases d1
        exact d2
theorem last_call (inn : K.In s₁.heap) (hns : s₁.heap.Ns mainGlobals mg) (hb : s₁.heap.Ns builtinsNs mb) (hbb : ∀ x : Str, x ≠ "__name__" → mb x = bootBuiltins x) (hlim : s₁.heap.NoLimit) (hg : s₁.gens = #[])
    (ha : s₁.heap.get? a = some { cls := .type "list", data := .seq vs.toArray }) (hi : IntsAre vs ns) (hl : ns.length ≤ n) (hn : n ≤ sizeLine) (hr : Room k callerA)
    (Fn : ∀ base : Heap, K.In base → base.Ns mainGlobals mg → FnG P w K mg base CX0 k fa fd [x] (SpOf K (spLaw n))) (bd : ∀ (s : Shared) (u : Value), BindsTo s fd ⟨[u], []⟩ [(x, u)]) :
    codeAny (model P w) callerA (.call (.ref fa) ⟨[.ref a], []⟩) (fun r s' => r = .ok (.ret (.bool true)) ∧ OldK s₁.heap s'.heap ∧ s'.os = s₁.os ∧ AllBare s'.gens) s₁ := by
  have rv := vals_ints hi
  have lv := hi.length
  have hz : ns.length ≤ sizeLine := Nat.le_trans hl hn
  cases hk : K.lookup a with
  | some o =>
    have z := inn a o hk
    rw [ha] at z
    cases z
    refine last_core inn hns hb hbb hlim hg ha hl hr Fn bd (fun _ => none) (fun _ => .inl rfl) ?_ (fun b u z => (nomatch z)) (fun b z => absurd rfl z) (fun z => absurd rfl z)
    refine .inr ⟨_, vs.toArray, _, hk, rfl, rfl, rfl, ?_, by simpa using rv⟩
    rw [List.size_toArray, lv]
    exact hz
  | none =>
    let H : Hp := fun b => if b = a then some (.frz { cls := .type "list", data := .seq vs.toArray } (.lst (ns.map V.int))) else none
    have hy : H a = some (.frz { cls := .type "list", data := .seq vs.toArray } (.lst (ns.map V.int))) := if_pos rfl
    have hno : ∀ b, b ≠ a → H b = none := fun b z => if_neg z
    refine last_core inn hns hb hbb hlim hg ha hl hr Fn bd H (fun b => ?_) (.inl (.inr ⟨_, hy⟩)) (fun b u z => ?_) (fun b z => ?_) (fun _ => hk)
    · by_cases c : b = a
      · subst c; exact .inr ⟨_, _, hy⟩
      · exact .inl (hno b c)
    · by_cases c : b = a
      · subst c
        rw [hy] at z
        cases z
        exact ⟨ha, by rw [List.length_map]; exact hz, vs, _, rv, ha⟩
      · rw [hno b c] at z; cases z
    · by_cases c : b = a
      · exact c
      · exact absurd (hno b c) z
end
theorem walk_G {l : PySem.W.OpenLaw} {n k : Nat} {q : Program} {loose : List Str} {XP : (Str → Option Value) → Heap → Prop} {YP : World → Heap → Prop} {d : DefRec} {x : Str}
    (hn : l.most = some n) (hn2 : n ≤ sizeLine) (hdf : d.params.defaults = []) (hr : Room k callerA)
    (Fn : ∀ (w : World) (mg : Str → Option Value) (fa : Addr) (h : Heap), YP w h → h.Ns mainGlobals mg → mg d.name = some (.ref fa) →
      ∃ (K : PySem.W.Frag) (fd : FuncData), K.In h ∧ (∀ (s : Shared) (u : Value), BindsTo s fd ⟨[u], []⟩ [(x, u)]) ∧
        ∀ base : Heap, K.In base → base.Ns mainGlobals mg → FnG l.prog w K mg base CX0 k fa fd [x] (SpOf K (spLaw n))) :
    PySem.W.WalkO q loose XP YP l.row.toRowW d [] (fun f vs => PySem.call f vs) := by
  refine Att.attach_call hn hdf ?_
  intro w s₀ s₁ mg mb fa o pm cd doc a vs ns G Y ho hd hcd hmg hobj hints hlen hg
  obtain ⟨K, fd, inn, bd, hF⟩ := Fn w mg fa _ Y G.T.g hmg
  exact last_call inn G.T.g G.T.b G.T.builtins G.T.nolimit hg hobj hints hlen hn2 hr hF bd
end DL
end
section
set_option Elab.async false
set_option linter.all false
set_option maxRecDepth 100000
set_option maxHeartbeats 4000000
namespace Pace
open PySem PySem.Spec PyProof.Rows L2 DL
section
variable {P : Program} {w : World} {K : PySem.W.Frag} {mg : Str → Option Value} {base : Heap} {C : Addr}
theorem wK_eqv (hs ws : List Nat) (rs rs2 : Rows) : eqvK (wK hs ws rs2) (wK hs ws rs) = D.eqv (rowsD rs2) (rowsD rs) := by
  have h1 : valD (wK hs ws rs) (.inr (Str.ofString "heard")) = some (.str (strOf hs)) := rfl
  have h2 : valD (wK hs ws rs) (.inr (Str.ofString "written")) = some (.str (strOf ws)) := rfl
  have h3 : valD (wK hs ws rs) (.inr (Str.ofString "rows")) = some (rowsD rs) := rfl
  have es : ∀ x : Str, (D.str x).eqv (.str x) = true := fun x => (eqv_si rfl rfl).mpr rfl
  have e : wK hs ws rs2 = [(.inr (Str.ofString "heard"), .str (strOf hs)), (.inr (Str.ofString "written"), .str (strOf ws)), (.inr (Str.ofString "rows"), rowsD rs2)] := rfl
  rw [e]
  unfold eqvK
  simp only [hitK, h1, h2, h3, es, Bool.true_and, Bool.and_true]
  rfl
theorem wK_okVal (hs ws : List Nat) (rs : Rows) : (wK hs ws rs).all okVal = true := by
  have e : wK hs ws rs = [(.inr (Str.ofString "heard"), .str (strOf hs)), (.inr (Str.ofString "written"), .str (strOf ws)), (.inr (Str.ofString "rows"), rowsD rs)] := rfl
  rw [e]
  simp only [List.all_cons, List.all_nil, okVal, Bool.and_eq_true, decide_eq_true_eq, Bool.and_true]
  refine ⟨⟨rfl, Nat.zero_le _⟩, ⟨rfl, Nat.zero_le _⟩, D.si_pl _ (rowsD_si rs), Nat.le_trans (D.dp_ok _) (Nat.le_trans (rowsD_dp rs) (by decide))⟩
abbrev N_law : List Str := ["_law_script", "_law_deck_here", "_law_w", "_law_code_here", "_law_size", "_law_more", "_law_said", "_law_shown", "_law_cuts_here", "_law_due", "_law_pieces", "_law_near", "_law_far", "_law_was", "_law_it", "_law_go", "_law_whole_now", "_law_bare", "_law_v", "_law_refused_now"]
theorem sc_law : FnScope N_law ["_law_script"] (defScope s_law) := ⟨rfl, rfl, rfl, by decide +kernel, rfl, by decide +kernel, by decide +kernel⟩
theorem c_law {f0 : Addr} {fd0 : FuncData} (T : Txt K mg C) (d : Fun K "law" "law" s_law f0 fd0) (C__law_deck : Cal P w K mg base "_law_deck" 1 ["_law_script"] (spDeck)) (C__law_some : Cal P w K mg base "_law_some" 4 ["_law_deck_here", "_law_top", "_law_is_total"] (spSome66)) (C__law_draw : Cal P w K mg base "_law_draw" 1 ["_law_deck_here", "_law_below"] (spDraw)) (C__law_code : Cal P w K mg base "_law_code" 6 ["_law_w"] (spCode66 C)) (C__law_pick : Cal P w K mg base "_law_pick" 2 ["_law_deck_here", "_law_some_here"] (spPick)) (C__law_page : Cal P w K mg base "_law_page" 3 ["_law_deck_here", "_law_signs", "_law_size"] (spPage42)) (C__law_cuts : Cal P w K mg base "_law_cuts" 2 ["_law_deck_here", "_law_size"] (spCuts64)) (C__law_piece : Cal P w K mg base "_law_piece" 2 ["_law_w", "_law_said", "_law_shown"] (spPiece64)) (C_piece_of : Cal P w K mg base "piece_of" 6 ["rules", "speech", "caption"] (spPieceOf C (He.ga K "Piece"))) (C__law_told : Cal P w K mg base "_law_told" 3 ["_law_it"] (spTold64 C (He.ga K "Piece"))) (C__law_joined : Cal P w K mg base "_law_joined" 6 ["_law_deck_here", "_law_pieces"] (spJoined64 C (He.ga K "Piece"))) (Mm__u_eq_u_ : CalM P w K mg base (He.ga K "Piece") "__eq__" 3 ["self", "other"] (spPieEq64 C (He.ga K "Piece"))) (Mm__u_add_u_ : CalM P w K mg base (He.ga K "Piece") "__add__" 5 ["self", "other"] (spPieAdd C (He.ga K "Piece"))) (C__law_world : Cal P w K mg base "_law_world" 3 ["_law_deck_here", "_law_size", "_law_heard", "_law_written", "_law_is_total"] (spWorld66)) (C__law_refused : Cal P w K mg base "_law_refused" 7 ["_law_one", "_law_mate"] (spRefused64 C (He.ga K "Piece"))) : FnG P w K mg base CX0 12 f0 fd0 ["_law_script"] (SpOf K (spLaw 63)) := by
  refine fn_mk (N := N_law) d sc_law (fun ds G Q h => ?_) (fun cdv A outer s H E hg hr => ?_)
  · obtain ⟨ns, rfl, _⟩ := h
    rfl
  · have hu := hu100 hr
    have nd := sc_law.nd
    have hA := deeper_guards (env := envOfC "law" (defScope s_law) s.heap.objs.size f0 cdv) hg
    refine ⟨_, (dps_cons (dp_asg (de_cal C__law_deck hA (hr.mono (by decide)) (da_cons (de_var 0) da_nil)) (dg_name 1 nd))
  (dps_cons (dp_asg (de_cal C__law_some hA (hr.mono (by decide)) (da_cons (de_var 1) (da_cons de_int (da_cons (de_cmp (od_eq hu) (de_cal C__law_draw hA (hr.mono (by decide)) (da_cons (de_var 1) (da_cons de_int da_nil))) de_int (nomark _)) da_nil)))) (dg_name 2 nd))
  (dps_cons (dp_asg (de_tup (da_cons (de_cal C__law_code hA (hr.mono (by decide)) (da_cons (de_var 2) da_nil)) (da_cons (de_cal C__law_draw hA (hr.mono (by decide)) (da_cons (de_var 1) (da_cons de_int da_nil))) (da_cons (de_cal C__law_pick hA (hr.mono (by decide)) (da_cons (de_var 1) (da_cons (de_lst (da_cons de_str (da_cons de_str da_nil))) da_nil))) da_nil)))) (dg_tup (n := 3) rfl (dgs_cons (dg_name 3 nd) (dgs_cons (dg_name 4 nd) (dgs_cons (dg_name 5 nd) dgs_nil)))))
  (dps_cons (dp_asg (de_tup (da_cons (de_cal C__law_page hA (hr.mono (by decide)) (da_cons (de_var 1) (da_cons (de_ix hu (de_var 2) de_str) (da_cons (de_var 4) da_nil)))) (da_cons (de_cal C__law_page hA (hr.mono (by decide)) (da_cons (de_var 1) (da_cons (de_op od_add (de_ix hu (de_var 2) de_str) (de_var 5)) (da_cons (de_var 4) da_nil)))) da_nil))) (dg_tup (n := 2) rfl (dgs_cons (dg_name 6 nd) (dgs_cons (dg_name 7 nd) dgs_nil))))
  (dps_cons (dp_par (i := 8) (j := 9) rfl nd (ha := (da_cons (de_cal C__law_cuts hA (hr.mono (by decide)) (da_cons (de_var 1) (da_cons (de_var 4) da_nil))) (da_cons (de_op od_add (de_tup (da_cons (de_var 6) (da_cons (de_var 7) (da_cons (de_var 4) da_nil)))) (de_cal C__law_piece hA (hr.mono (by decide)) (da_cons (de_var 2) (da_cons (de_var 6) (da_cons (de_var 7) da_nil))))) da_nil))))
  (dps_cons (dp_setLc (i := 10) (own := [("_law_near", 11), ("_law_far", 12)]) (p := (.tp [11, 12])) rfl nd rfl rfl (sw_true rfl rfl rfl (by decide +kernel)) (di_zipLL rfl T.f_zip (da_cons (de_var 8) (da_cons (de_slice (de_var 8) (do_some de_int) do_none) da_nil))) (blkOk_by (by show blkC N_law (defScope s_law) _ _ = true; decide +kernel)) (by decide) (fun _ _ _ _ _ => pg_tup rfl (pgs_cons (pg_name (i := 11) nd rfl (Or.inl rfl)) (pgs_cons (pg_name (i := 12) nd rfl (Or.inl rfl)) pgs_nil))) (fun _ _ _ _ _ => dts_nil) (fun _ _ _ _ _ => (de_cal C_piece_of hA (hr.mono (by decide)) (da_cons (de_var 3) (da_cons (de_slice (de_var 6) (do_some (de_var 11)) (do_some (de_var 12))) (da_cons (de_slice (de_var 7) (do_some (de_var 11)) (do_some (de_var 12))) da_nil))))))
  (dps_cons (dp_setLc (i := 13) (own := [("_law_it", 14)]) (p := (.nm 14)) rfl nd rfl rfl (sw_true rfl rfl rfl (by decide +kernel)) (di_list (de_var 10)) (blkOk_by (by show blkC N_law (defScope s_law) _ _ = true; decide +kernel)) (by decide) (fun _ _ _ _ _ => pg_name (i := 14) nd rfl (Or.inl rfl)) (fun _ _ _ _ _ => dts_nil) (fun _ _ _ _ _ => (de_cal C__law_told hA (hr.mono (by decide)) (da_cons (de_var 14) da_nil))))
  (dps_cons (dp_for PassesOwn.never rfl (di_range1 rfl T.f_range (da_cons de_int da_nil)) (dg_name 15 nd)
  (dps_cons (dp_asg (de_cal C__law_joined hA (hr.mono (by decide)) (da_cons (de_var 1) (da_cons (de_var 10) da_nil))) (dg_name 16 nd))
  (dps_one (dp_if (DW.dt (dw_or (dt_cmp (od_ne hu) (de_callB (cd_reprG hu hA T.sysM) rfl T.f_repr (by decide +kernel) (da_cons (de_cal C__law_told hA (hr.mono (by decide)) (da_cons (de_var 16) da_nil)) da_nil)) (de_callB (cd_reprG hu hA T.sysM) rfl T.f_repr (by decide +kernel) (da_cons (de_var 9) da_nil)) (nomark _)) (dw_or1 (dt_not (dt_cmp (od_eqO Mm__u_eq_u_ hA (hr.mono (by decide))) (de_var 16) (de_cal C_piece_of hA (hr.mono (by decide)) (da_cons (de_var 3) (da_cons (de_var 6) (da_cons (de_var 7) da_nil)))) (nomark _))))))
  (dps_one (dp_ret de_bl))
  dps_nil))))
  (dps_cons (dp_asg (de_cal C_piece_of hA (hr.mono (by decide)) (da_cons (de_cal C__law_code hA (hr.mono (by decide)) (da_cons (de_var 2) da_nil)) (da_cons de_str (da_cons de_str da_nil)))) (dg_name 17 nd))
  (dps_cons (dp_if (dt_cmp (od_ne hu) (de_callB (cd_reprG hu hA T.sysM) rfl T.f_repr (by decide +kernel) (da_cons (de_lst (da_cons (de_cal C__law_told hA (hr.mono (by decide)) (da_cons (de_op (od_binO (op := .Add) T.ne_Piece Mm__u_add_u_ (by rfl) hA (hr.mono (by decide))) (de_var 17) (de_var 16)) da_nil)) (da_cons (de_cal C__law_told hA (hr.mono (by decide)) (da_cons (de_op (od_binO (op := .Add) T.ne_Piece Mm__u_add_u_ (by rfl) hA (hr.mono (by decide))) (de_var 16) (de_var 17)) da_nil)) da_nil))) da_nil)) (de_callB (cd_reprG hu hA T.sysM) rfl T.f_repr (by decide +kernel) (da_cons (de_lst (da_cons (de_var 9) (da_cons (de_var 9) da_nil))) da_nil)) (nomark _))
  (dps_one (dp_ret de_bl))
  dps_nil)
  (dps_cons (dp_asg (de_cal C__law_world hA (hr.mono (by decide)) (da_cons (de_var 1) (da_cons (de_callB cd_len rfl T.f_len (by decide +kernel) (da_cons (de_ix hu (de_var 2) de_str) da_nil)) (da_cons (de_ix hu (de_var 2) de_str) (da_cons (de_ix hu (de_var 2) de_str) (da_cons de_bl da_nil)))))) (dg_name 18 nd))
  (dps_cons (dp_asg (de_cal C_piece_of hA (hr.mono (by decide)) (da_cons (de_cal C__law_code hA (hr.mono (by decide)) (da_cons (de_var 18) da_nil)) (da_cons de_str (da_cons de_str da_nil)))) (dg_name 12 nd))
  (dps_cons (dp_asg (de_lst (da_cons (de_cal C__law_refused hA (hr.mono (by decide)) (da_cons (de_var 16) (da_cons (de_var 12) da_nil))) (da_cons (de_cal C__law_refused hA (hr.mono (by decide)) (da_cons (de_var 12) (da_cons (de_var 16) da_nil))) (da_cons (de_not (de_cmp (od_eqO Mm__u_eq_u_ hA (hr.mono (by decide))) (de_var 17) (de_var 12) (nomark _))) da_nil)))) (dg_name 19 nd))
  (dps_cons (dp_if (DW.dt (dw_and (dt_cmp (od_neK hu) (de_var 18) (de_var 2) (nomark _)) (dw_and1 (dt_cmp (od_ne hu) (de_var 19) (de_op od_mulL (de_lst (da_cons de_bl da_nil)) de_int) (nomark _)))))
  (dps_one (dp_ret de_bl))
  dps_nil)
  (dps_cons (dp_if (DW.dt (dw_or (dt_not (dt_cmp (od_eqO Mm__u_eq_u_ hA (hr.mono (by decide))) (de_cal C_piece_of hA (hr.mono (by decide)) (da_cons (de_cal C__law_code hA (hr.mono (by decide)) (da_cons (de_var 2) da_nil)) (da_cons (de_var 6) (da_cons (de_var 7) da_nil)))) (de_var 16) (nomark _))) (dw_or1 (dt_not (dt_cmp (od_eqO Mm__u_eq_u_ hA (hr.mono (by decide))) (de_var 17) (de_cal C_piece_of hA (hr.mono (by decide)) (da_cons (de_var 3) (da_cons de_str (da_cons de_str da_nil)))) (nomark _))))))
  (dps_one (dp_ret de_bl))
  dps_nil)
  (dps_one (dp_ret (de_cmp (od_eq hu) (de_lc (own := [("_law_it", 14)]) (p := (.nm 14)) rfl nd (di_list (de_var 10)) (blkOk_by (by show blkC N_law (defScope s_law) _ _ = true; decide +kernel)) (by decide) (fun _ _ _ _ _ => pg_name (i := 14) nd rfl (Or.inl rfl)) (fun _ _ _ _ _ => dts_nil) (fun _ _ _ _ _ => (de_cal C__law_told hA (hr.mono (by decide)) (da_cons (de_var 14) da_nil)))) (de_var 13) (nomark _))))))))))))))))))), fun ds G Q h => ?_⟩
    obtain ⟨ns, rfl, hl, rfl, q⟩ := h
    rw [show dstart N_law [.scr ns] = [some (.scr ns), none, none, none, none, none, none, none, none, none, none, none, none, none, none, none, none, none, none, none] from rfl]
    simp only [dxs, dl]
    refine ⟨ns, rfl, (fun _ _ _ _ _ z => by cases z), fun p c hp hc hcp => ?_⟩
    simp only
    have gp0 : shutG (fun _ => none) p c "cells" "stirred" "draws" 1000000 p = some (dk 1000000) := gput_same
    generalize shutG (fun _ => none) p c "cells" "stirred" "draws" 1000000 = G0 at gp0
    have ei : ∀ (G : GH) (y : Int), D.cur G (.int y) = .int y := fun _ _ => rfl
    refine ⟨p, 2, 999999, rfl, by decide, by decide, gp0, fun r0 hr0 => ⟨okE_int _ _, ?_⟩⟩
    refine ⟨p, 4, 999789, _, rfl, by decide, by decide, gput_same, fun hs ws rs m0 z hm0 rl4 wor hz => ?_⟩
    have hzp : z ≠ p := fun e => by rw [e, gput_same] at hz; cases hz
    have hpz : p ≠ z := fun e => hzp e.symm
    simp only [gput_gput]
    have v := wor.val
    have hs3 := wor.hs3
    have ws3 := wor.ws3
    have r9 := wor.row
    have n1 := v.n1
    have st := v.steps
    have gz : ∀ m, gput (gput G0 p (dk m)) z (.dK (wK hs ws rs)) z = some (.dK (wK hs ws rs)) := fun m => gput_same
    have gp : ∀ m, gput (gput G0 p (dk m)) z (.dK (wK hs ws rs)) p = some (dk m) := fun m => by rw [gput_ne hpz, gput_same]
    have wrp : ∀ m m', gput (gput (gput G0 p (dk m)) z (.dK (wK hs ws rs))) p (dk m') = gput (gput G0 p (dk m')) z (.dK (wK hs ws rs)) := fun m m' => gput_under hpz
    obtain ⟨m2, rfl⟩ : ∃ m2, m0 = m2 + 100000 := ⟨m0 - 100000, by omega⟩
    have r7 : rs.length ≤ 7 := by omega
    have r31 : ∀ r ∈ rs, r.length ≤ 31 := fun r hr => Nat.le_trans (r9 r hr) (by decide)
    have i0 : D.item (.dK (wK hs ws rs)) (.str (Str.ofString "heard")) = some (.str (strOf hs)) := rfl
    have i1 : D.item (.dK (wK hs ws rs)) (.str (Str.ofString "written")) = some (.str (strOf ws)) := rfl
    have i2 : D.item (.dK (wK hs ws rs)) (.str (Str.ofString "rows")) = some (rowsD rs) := rfl
    have cz : ∀ m, D.cur (gput (gput G0 p (dk m)) z (.dK (wK hs ws rs))) (.rf z) = .dK (wK hs ws rs) := fun m => by simp only [D.cur, gput_same]
    have eS : ∀ (G : GH) (x : Str), D.cur G (.str x) = .str x := fun _ _ => rfl
    have hs0 : hs ≠ [] := fun e => by have := letters_pos v.lh; rw [e] at this; simp at this
    have ws0 : ws ≠ [] := fun e => by have := letters_pos v.lw; rw [e] at this; simp at this
    have wabc : ∀ c ∈ ws, c ∈ abc := fun c hc => by
      have h := v.lw
      unfold lettersB at h
      simp only [Bool.and_eq_true, List.all_eq_true, decide_eq_true_eq] at h
      exact h.1.2 c hc
    refine ⟨z, hs, ws, rs, rfl, gz _, v, ?_⟩
    refine ⟨p, 13, m2 + 99999, rfl, by decide, by decide, gp _, fun size hsz => ?_⟩
    rw [wrp]
    refine ⟨sz (by decide), ?_⟩
    refine ⟨p, m2 + 99998, _, _, rfl, .inl rfl, by decide, by decide, gp _, fun more hmore => ?_⟩
    rw [wrp]
    obtain ⟨ms, rfl, msa, ms1⟩ : ∃ ms : List Nat, more = .str (strOf ms) ∧ (∀ c ∈ ms, c ∈ abc) ∧ ms.length ≤ 1 := by
      have e0 : Str.ofString "" = strOf [] := by decide +kernel
      have e1 : Str.ofString "q" = strOf [113] := by decide +kernel
      simp only [List.mem_cons, List.not_mem_nil, or_false, e0, e1] at hmore
      rcases hmore with rfl | rfl
      · exact ⟨[], rfl, by simp, by decide⟩
      · exact ⟨[113], rfl, by decide, by decide⟩
    obtain ⟨m3, hm3⟩ : ∃ m3, m2 + 99998 = m3 + size := ⟨m2 + 99998 - size, by omega⟩
    rw [hm3]
    refine ⟨sz (by decide), trivial, ?_⟩
    simp only [cz, i0, i1]
    refine ⟨p, hs, size, m3, rfl, hs0, by omega, by omega, gp _, fun said lsaid hsaid => ?_⟩
    rw [wrp]
    simp only [cz, i1]
    obtain ⟨m4, rfl⟩ : ∃ m4, m3 = m4 + size := ⟨m3 - size, by omega⟩
    refine rAdd_str (sz (by rw [strOf_len, strOf_len]; omega)) ?_
    rw [strOf_app]
    refine ⟨p, ws ++ ms, size, m4, rfl, by simp [ws0], by rw [List.length_append]; omega, by omega, gp _, fun shown lshown hshown => ?_⟩
    rw [wrp]
    have shabc : ∀ c ∈ shown, c ∈ abc := fun c hc => by
      rcases List.mem_append.mp (hshown c hc) with h | h
      · exact wabc c h
      · exact msa c h
    obtain ⟨m5, rfl⟩ : ∃ m5, m4 = m5 + 10 := ⟨m4 - 10, by omega⟩
    refine ⟨sz (by decide), trivial, p, m5, size, rfl, by omega, gp _, fun cs m6 hm6 cl5 cpw => ?_⟩
    rw [wrp]
    have lle : said.length = shown.length := by omega
    refine ⟨sz (by decide), z, hs, ws, rs, said, shown, rfl, gz _, st, by omega, r9, lle, by omega, ?_⟩
    refine rAdd_tup (sz (by show 3 + 3 ≤ 5000; decide)) ?_
    obtain ⟨cl, hcl⟩ : ∃ cl : List Nat, cl = 0 :: cs ++ [size] := ⟨_, rfl⟩
    rw [← hcl] at cpw ⊢
    have eL : ∀ (G : GH) (xs : List D), D.cur G (.lst xs) = .lst xs := fun _ _ => rfl
    have edue : D.tup ([D.str (strOf said), .str (strOf shown), .int (size : Nat)] ++ [D.tup (rowDs (leadsW rs (said.zip shown))), .tup ((costsW rs (said.zip shown)).map fun r => D.tup (rowDs r)), classD rs said]) = told64 rs said shown := by
      unfold told64
      rw [lsaid]
      rfl
    rw [edue]
    simp only [diZipLL, dxs, dl, dx3, eL, zip_cuts]
    have lcl : cl.length ≤ 7 := by rw [hcl]; simp; omega
    have lzip : (cl.zip cl.tail).length ≤ 7 := by rw [List.length_zip]; omega
    refine lc_mapA (cl.zip cl.tail) (fun c => .tup [.int (c.1 : Nat), .int (c.2 : Nat)]) (fun c => pieD C (He.ga K "Piece") (mkR hs ws rs) ((said.take c.2).drop c.1) ((shown.take c.2).drop c.1)) rfl (sz (by omega)) trivial (fun c _ => ⟨_, rfl, fun Q zz => ?_⟩) ?_
    · simp only [dxs, dl, dx3, dwipe, List.map_cons, List.map_nil, eS, cutS_strOf, cut_mid]
      refine ⟨by rw [strOf_len]; exact sz (by omega), by rw [strOf_len]; exact sz (by omega), hs, ws, rs, (said.take c.2).drop c.1, (shown.take c.2).drop c.1, rfl, v.ok, st, r7, r31, by simp [lle], by rw [List.length_drop, List.length_take]; omega, fun x hx => hsaid x (List.mem_of_mem_take (List.mem_of_mem_drop hx)), fun x hx => shabc x (List.mem_of_mem_take (List.mem_of_mem_drop hx)), zz⟩
    obtain ⟨xs, hxs⟩ : ∃ xs, xs = cutsP said shown cl := ⟨_, rfl⟩
    have exs : (cl.zip cl.tail).map (fun c => pieD C (He.ga K "Piece") (mkR hs ws rs) ((said.take c.2).drop c.1) ((shown.take c.2).drop c.1)) = xs.map fun x => pieD C (He.ga K "Piece") (mkR hs ws rs) x.1 x.2 := by
      rw [hxs]
      unfold cutsP
      rw [List.map_map]
      rfl
    have xcat : catP xs = (said, shown) := by
      rw [hxs, hcl, catP_cuts _ _ _ (by rw [← hcl]; exact cpw)]
      rw [List.drop_zero, List.drop_zero, ← lsaid, List.take_length, lle, List.take_length]
    have xlen : 1 ≤ xs.length ∧ xs.length ≤ 7 := by
      rw [hxs]
      unfold cutsP
      rw [List.length_map]
      refine ⟨?_, lzip⟩
      rw [List.length_zip, hcl]
      simp
    have xeq : ∀ x ∈ xs, x.1.length = x.2.length := fun x hx => by
      rw [hxs] at hx
      obtain ⟨c, _, rfl⟩ := List.mem_map.mp hx
      simp [lle]
    have l900 : ∀ x ∈ xs, x.1.length ≤ 900 := fun x hx => by
      rw [hxs] at hx
      obtain ⟨c, _, rfl⟩ := List.mem_map.mp hx
      show ((said.take c.2).drop c.1).length ≤ 900
      rw [List.length_drop, List.length_take]
      omega
    rw [exs]
    clear hxs exs
    simp only
    have ecP : ∀ (G : GH) (R : Rul) p q, D.cur G (pieD C (He.ga K "Piece") R p q) = .obj (He.ga K "Piece") (pieF C R p q) := fun _ _ _ _ => rfl
    refine lc_mapA xs (fun x => pieD C (He.ga K "Piece") (mkR hs ws rs) x.1 x.2) (fun x => told64 rs x.1 x.2) rfl (sz (by omega)) trivial (fun x hx => ⟨_, rfl, fun Q zz => ?_⟩) ?_
    · simp only [dxs, dl, dx3, dwipe, List.map_cons, List.map_nil]
      exact ⟨mkR hs ws rs, x.1, x.2, rfl, Nat.le_trans (l900 x hx) (by decide), zz⟩
    refine ⟨by decide, by decide, ?_⟩
    have abc_lt : ∀ c ∈ abc, c < 128 := by decide +kernel
    have hs128 : ∀ c ∈ hs, c < 128 := fun c hc => by
      have h := v.lh
      unfold lettersB at h
      simp only [Bool.and_eq_true, List.all_eq_true, decide_eq_true_eq] at h
      exact abc_lt c (h.1.2 c hc)
    have todd := told64_odd st r7 (p := said) (q := shown) (by omega) (by omega) (fun c hc => hs128 c (hsaid c hc)) (fun c hc => abc_lt c (shabc c hc))
    have okS : ∀ x : Str, okE (.str x) (.str x) = true := fun x => okE_si rfl rfl (by simp [D.dp])
    have es : ∀ x : Str, (D.str x).eqv (.str x) = true := fun x => (eqv_si rfl rfl).mpr rfl
    have m6l : 90000 ≤ m6 := by omega
    obtain ⟨ps, hps⟩ : ∃ ps, ps = xs.map fun x => pieD C (He.ga K "Piece") (mkR hs ws rs) x.1 x.2 := ⟨_, rfl⟩
    obtain ⟨ts, hts⟩ : ∃ ts, ts = xs.map fun x => told64 rs x.1 x.2 := ⟨_, rfl⟩
    rw [← hps, ← hts]
    refine ⟨fun j S' G' => ∃ (m : Nat) (x11 x12 x14 x15 x16 x17 x18 x19 : Option D), S' = [some (.scr ns), some (.rf p), some (.rf z), some (rulD C (mkR hs ws rs)), some (.int (size : Nat)), some (.str (strOf ms)), some (.str (strOf said)), some (.str (strOf shown)), some (.lst (cl.map fun n : Nat => D.int (n : Nat))), some (told64 rs said shown), some (.lst ps), x11, x12, some (.lst ts), x14, x15, x16, x17, x18, x19] ∧
      G' = gput (gput G0 p (dk m)) z (.dK (wK hs ws rs)) ∧ 90000 ≤ m + 100 * j ∧ (1 ≤ j → x16 = some (pieD C (He.ga K "Piece") (mkR hs ws rs) said shown)),
      ⟨m6, _, _, _, _, _, _, _, _, rfl, rfl, by omega, fun h => by omega⟩, fun _ _ _ _ => trivial, ?_, ?_⟩
    · rintro j S' G' d ⟨m, x11, x12, x14, x15, x16, x17, x18, x19, rfl, rfl, hm, _⟩ hd
      obtain ⟨hj, rfl⟩ := range_get2 hd
      have hj : j < 2 := hj
      obtain ⟨m7, rfl⟩ : ∃ m7, m = m7 + 20 := ⟨m - 20, by omega⟩
      simp only [x_gname, dxs, dl, dx3]
      refine ⟨p, m7, mkR hs ws rs, xs, by rw [hps], xlen.1, by omega, gp _, v.ok, st, r7, xeq, by rw [xcat]; show said.length ≤ 900; omega, fun m8 hm8 => ?_⟩
      rw [xcat, wrp]
      refine ⟨mkR hs ws rs, said, shown, rfl, by omega, ?_⟩
      refine Odd.repr todd (by decide) (by decide) (by decide) ?_
      refine Odd.repr todd (by decide) (by decide) (by decide) ?_
      simp only [eS, es, Bool.not_true, Bool.false_eq_true, if_false]
      refine ⟨okS _, hs, ws, rs, said, shown, rfl, v.ok, st, r7, r31, lle, by omega, hsaid, shabc, ?_⟩
      simp only [rEqO, ecP]
      refine ⟨trivial, trivial, mkR hs ws rs, mkR hs ws rs, said, shown, said, shown, rfl, fun b hb => ?_⟩
      have : b = true := hb.mpr ⟨rfl, rfl⟩
      subst this
      simp only [Bool.not_true, Bool.false_eq_true, if_false]
      exact ⟨m8, _, _, _, _, _, _, _, _, rfl, rfl, by omega, fun _ => rfl⟩
    · rintro S' G' ⟨m, x11, x12, x14, x15, x16, x17, x18, x19, rfl, rfl, hm, h16⟩
      have h16 := h16 (by decide)
      subst h16
      have hm : 90000 ≤ m + 100 * 2 := hm
      obtain ⟨m7, rfl⟩ : ∃ m7, m = m7 + 60000 := ⟨m - 60000, by omega⟩
      have est : Str.ofString "" = strOf [] := by decide +kernel
      simp only [dxs, dl, dx3, est]
      have bodd := told64_odd st r7 (p := []) (q := []) (by decide) (by decide) (by simp) (by simp)
      have two : Odd 0 5 4814 (D.lst [told64 rs said shown, told64 rs said shown]) := odd_seqL (m := 0) (n := 4) (k := 2406) (c := 2) (fun x hx => by
        simp only [List.mem_cons, List.mem_nil_iff, or_false] at hx
        rcases hx with rfl | rfl <;> exact todd) (by simp)
      refine ⟨z, hs, ws, rs, rfl, gz _, v, ?_⟩
      refine ⟨hs, ws, rs, [], [], rfl, v.ok, st, r7, r31, rfl, by simp, by simp, by simp, ?_⟩
      simp only [rBinO, ecP]
      refine ⟨trivial, trivial, mkR hs ws rs, [], [], said, shown, rfl, v.ok, st, r7, rfl, by simp, lle, by omega, ?_⟩
      simp only [ecP, List.nil_append]
      refine ⟨mkR hs ws rs, said, shown, rfl, by omega, ?_⟩
      refine ⟨trivial, trivial, mkR hs ws rs, said, shown, [], [], rfl, v.ok, st, r7, lle, by omega, rfl, by simp, ?_⟩
      simp only [ecP, List.append_nil]
      refine ⟨mkR hs ws rs, said, shown, rfl, by omega, sz (by decide), ?_⟩
      refine Odd.repr two (by decide) (by decide) (by decide) ⟨sz (by decide), ?_⟩
      refine Odd.repr two (by decide) (by decide) (by decide) ?_
      simp only [eS, es, Bool.not_true, Bool.false_eq_true, if_false, gz, i0, i1, i2]
      refine ⟨okS _, ?_⟩
      rw [rows_len_]
      simp only [gz, i0, i1, i2]
      refine ⟨p, rs.length, m7 + 59800, hs, ws, false, rfl, n1, by omega, v.lh, v.lw, hs3, ws3, gp _, fun rs2 m9 z2 hm9 rl2 wor2 hz2 => ?_⟩
      have v2 := wor2.val
      have st2 := v2.steps
      have r72 : rs2.length ≤ 7 := by omega
      have r312 : ∀ r ∈ rs2, r.length ≤ 31 := fun r hr => Nat.le_trans (wor2.row r hr) (by decide)
      rw [wrp]
      have z2z : z ≠ z2 := fun e => by rw [← e, gz] at hz2; cases hz2
      have gz2 : gput (gput (gput G0 p (dk m9)) z (.dK (wK hs ws rs))) z2 (.dK (wK hs ws rs2)) z2 = some (.dK (wK hs ws rs2)) := gput_same
      have gz3 : gput (gput (gput G0 p (dk m9)) z (.dK (wK hs ws rs))) z2 (.dK (wK hs ws rs2)) z = some (.dK (wK hs ws rs)) := by rw [gput_ne z2z]; exact gz _
      generalize gput (gput (gput G0 p (dk m9)) z (.dK (wK hs ws rs))) z2 (.dK (wK hs ws rs2)) = G2 at gz2 gz3 ⊢
      have cz2 : D.cur G2 (.rf z2) = .dK (wK hs ws rs2) := by simp only [D.cur, gz2]
      have cz3 : D.cur G2 (.rf z) = .dK (wK hs ws rs) := by simp only [D.cur, gz3]
      have reqv : D.eqv (rowsD rs2) (rowsD rs) = true ↔ rs2 = rs := (eqv_si (rowsD_si _) (rowsD_si _)).trans ⟨rowsD_inj, fun e => by rw [e]⟩
      have rne : mkR hs ws rs = mkR hs ws rs2 ↔ rs2 = rs := ⟨fun e => by injection e with _ _ e; exact e.symm, fun e => by rw [e]⟩
      refine ⟨z2, hs, ws, rs2, rfl, gz2, v2, ?_⟩
      refine ⟨hs, ws, rs2, [], [], rfl, v2.ok, st2, r72, r312, rfl, by simp, by simp, by simp, ?_⟩
      refine ⟨mkR hs ws rs, mkR hs ws rs2, said, shown, [], [], rfl, st, r7, lle, by omega, rfl, by simp, fun b1 hb1 => ?_⟩
      refine ⟨mkR hs ws rs2, mkR hs ws rs, [], [], said, shown, rfl, st2, r72, rfl, by simp, lle, by omega, fun b2 hb2 => ?_⟩
      simp only [rEqO, ecP]
      refine ⟨trivial, trivial, mkR hs ws rs, mkR hs ws rs2, [], [], [], [], rfl, fun b3 hb3 => ?_⟩
      refine ⟨sz (by decide), wK hs ws rs2, wK hs ws rs, cz2, cz3, wK_okVal _ _ _, wK_okVal _ _ _, ?_⟩
      rw [wK_eqv]
      by_cases hrr : rs2 = rs
      case' pos =>
        rw [reqv.mpr hrr]
        simp only [Bool.not_true, Bool.false_eq_true, if_false]
      case' neg =>
        have ef : D.eqv (rowsD rs2) (rowsD rs) = false := by
          cases e : D.eqv (rowsD rs2) (rowsD rs) with
          | false => rfl
          | true => exact absurd (reqv.mp e) hrr
        rw [ef]
        have nR : mkR hs ws rs ≠ mkR hs ws rs2 := fun e => hrr (rne.mp e)
        obtain rfl : b1 = true := hb1.mpr nR
        obtain rfl : b2 = true := hb2.mpr (Ne.symm nR)
        obtain rfl : b3 = false := by
          cases b3 with
          | false => rfl
          | true => exact absurd (hb3.mp rfl).1 nR
        have e3 : (List.replicate (3 : Int).toNat [D.bl true]).flatten = [.bl true, .bl true, .bl true] := rfl
        have ev : (D.lst [.bl true, .bl true, .bl true]).eqv (.lst [.bl true, .bl true, .bl true]) = true := by decide +kernel
        have eo : okE (D.lst [.bl true, .bl true, .bl true]) (.lst [.bl true, .bl true, .bl true]) = true := by decide +kernel
        simp only [Bool.not_false, if_true, rMulL, eL, e3, ev, eo, Bool.not_true, Bool.false_eq_true, if_false, true_and]
        refine ⟨sz (by decide), by decide, by decide, by decide, ?_⟩
      all_goals
        refine ⟨z, hs, ws, rs, rfl, gz3, v, ?_⟩
        refine ⟨hs, ws, rs, said, shown, rfl, v.ok, st, r7, r31, lle, by omega, hsaid, shabc, ?_⟩
        simp only [ecP]
        refine ⟨trivial, trivial, mkR hs ws rs, mkR hs ws rs, said, shown, said, shown, rfl, fun b hb => ?_⟩
        obtain rfl : b = true := hb.mpr ⟨rfl, rfl⟩
        simp only [Bool.not_true, Bool.false_eq_true, if_false]
        refine ⟨hs, ws, rs, [], [], rfl, v.ok, st, r7, r31, rfl, by simp, by simp, by simp, ?_⟩
        simp only [ecP]
        refine ⟨trivial, trivial, mkR hs ws rs, mkR hs ws rs, [], [], [], [], rfl, fun b hb => ?_⟩
        obtain rfl : b = true := hb.mpr ⟨rfl, rfl⟩
        simp only [Bool.not_true, Bool.false_eq_true, if_false]
        rw [hps]
        refine lc_mapA xs (fun x => pieD C (He.ga K "Piece") (mkR hs ws rs) x.1 x.2) (fun x => told64 rs x.1 x.2) rfl (sz (by omega)) trivial (fun x hx => ⟨_, rfl, fun Q zz => ?_⟩) ?_
        · simp only [dxs, dl, dx3, dwipe, List.map_cons, List.map_nil]
          exact ⟨mkR hs ws rs, x.1, x.2, rfl, Nat.le_trans (l900 x hx) (by decide), zz⟩
        rw [← hts]
        have tsi : (D.lst ts).si = true := sis_all.mpr fun x hx => by
          rw [hts] at hx
          obtain ⟨y, _, rfl⟩ := List.mem_map.mp hx
          exact told64_si _ _ _
        have tdp : (D.lst ts).dp ≤ 60 := Nat.le_trans (Nat.succ_le_succ (dps_le (n := 3) fun x hx => by
          rw [hts] at hx
          obtain ⟨y, _, rfl⟩ := List.mem_map.mp hx
          exact told64_dp _ _ _)) (by decide)
        have tev : (D.lst ts).eqv (.lst ts) = true := (eqv_si tsi tsi).mpr rfl
        simp only [eL, tev]
        exact ⟨okE_si tsi tsi tdp, _, Sub.refl _, q _⟩
end
end Pace
end
section
set_option Elab.async false
set_option linter.all false
set_option maxRecDepth 100000
set_option maxHeartbeats 0
namespace Pace
open PySem PySem.Spec PyProof.Rows L2 DL
theorem htxt {K : PySem.W.Frag} {h : Heap} {mg : Str → Option Value} (X : K.In h) (G : h.Ns mainGlobals mg) (c : He.SaysD hfa hfn K) (cx : hex K = true) : Txt K mg (He.ga K "Rules") where
  f_Exception := He.free_ok X G (c.fact 46 (f := .free "Exception") rfl)
  f_property := He.free_ok X G (c.fact 47 (f := .free "property") rfl)
  f_classmethod := He.free_ok X G (c.fact 48 (f := .free "classmethod") rfl)
  f_tuple := He.free_ok X G (c.fact 49 (f := .free "tuple") rfl)
  f_min := He.free_ok X G (c.fact 50 (f := .free "min") rfl)
  f_list := He.free_ok X G (c.fact 51 (f := .free "list") rfl)
  f_zip := He.free_ok X G (c.fact 52 (f := .free "zip") rfl)
  f_all := He.free_ok X G (c.fact 53 (f := .free "all") rfl)
  f_enumerate := He.free_ok X G (c.fact 54 (f := .free "enumerate") rfl)
  f_dict := He.free_ok X G (c.fact 55 (f := .free "dict") rfl)
  f_range := He.free_ok X G (c.fact 56 (f := .free "range") rfl)
  f_sorted := He.free_ok X G (c.fact 57 (f := .free "sorted") rfl)
  f_len := He.free_ok X G (c.fact 58 (f := .free "len") rfl)
  f_isinstance := He.free_ok X G (c.fact 59 (f := .free "isinstance") rfl)
  f_str := He.free_ok X G (c.fact 60 (f := .free "str") rfl)
  f_int := He.free_ok X G (c.fact 61 (f := .free "int") rfl)
  f_repr := He.free_ok X G (c.fact 62 (f := .free "repr") rfl)
  f_bool := He.free_ok X G (c.fact 63 (f := .free "bool") rfl)
  f_set := He.free_ok X G (c.fact 64 (f := .free "set") rfl)
  f_super := He.free_ok X G (c.fact 65 (f := .free "super") rfl)
  c_LETTERS_pieces := He.str_ok X G (c.fact 66 (f := .str "LETTERS_pieces" "abcdefghijklmnopqrstuvwxyz") rfl)
  c_RULES_WORD := He.str_ok X G (c.fact 67 (f := .str "RULES_WORD" "rules") rfl)
  c_MOVE_WORD := He.str_ok X G (c.fact 68 (f := .str "MOVE_WORD" "move") rfl)
  c_BREAK := He.str_ok X G (c.fact 69 (f := .str "BREAK" "\n") rfl)
  c_BLANK := He.str_ok X G (c.fact 70 (f := .str "BLANK" " ") rfl)
  c_DIGITS := He.str_ok X G (c.fact 71 (f := .str "DIGITS" "0123456789") rfl)
  c_MOST_DIGITS := He.int_ok X G (c.fact 72 (f := .int "MOST_DIGITS" (3)) rfl)
  c_FIRST_PARTS := He.int_ok X G (c.fact 73 (f := .int "FIRST_PARTS" (4)) rfl)
  c_MOVE_PARTS_ruletexts := He.int_ok X G (c.fact 74 (f := .int "MOVE_PARTS_ruletexts" (5)) rfl)
  c_LETTERS_ruletexts := He.str_ok X G (c.fact 75 (f := .str "LETTERS_ruletexts" "abcdefghijklmnopqrstuvwxyz") rfl)
  c_MOST_STATES := He.int_ok X G (c.fact 76 (f := .int "MOST_STATES" (999)) rfl)
  c_MOVE_PARTS_rules := He.int_ok X G (c.fact 77 (f := .int "MOVE_PARTS_rules" (3)) rfl)
  c_NOWHERE := He.int_ok X G (c.fact 78 (f := .int "NOWHERE" (-1)) rfl)
  clR := He.cls_ok (c.fact 80 (f := .cls "Rules") rfl)
  mgR := He.glo_ok X G (c.fact 79 (f := .glo "Rules") rfl)
  insR := insB_ok (He.cls_ok (c.fact 80 (f := .cls "Rules") rfl)) (Bool.and_eq_true_iff.mp (Bool.and_eq_true_iff.mp cx).1).1
  neR := neB_ok (Bool.and_eq_true_iff.mp (Bool.and_eq_true_iff.mp cx).1).2
  ne_Piece := neB_ok (Bool.and_eq_true_iff.mp (Bool.and_eq_true_iff.mp (Bool.and_eq_true_iff.mp (Bool.and_eq_true_iff.mp (Bool.and_eq_true_iff.mp cx).2).1).1).2).2
  ins_Piece := insB_ok (He.cls_ok (c.fact 94 (f := .cls "Piece") rfl)) (Bool.and_eq_true_iff.mp (Bool.and_eq_true_iff.mp (Bool.and_eq_true_iff.mp (Bool.and_eq_true_iff.mp (Bool.and_eq_true_iff.mp cx).2).1).1).2).1
  sysM := sysB_ok (Bool.and_eq_true_iff.mp (Bool.and_eq_true_iff.mp (Bool.and_eq_true_iff.mp (Bool.and_eq_true_iff.mp cx).2).1).1).1
  no_heard := He.noat_ok (c.fact 82 (f := .noat "Rules" "heard") rfl)
  no_written := He.noat_ok (c.fact 83 (f := .noat "Rules" "written") rfl)
  no_rows := He.noat_ok (c.fact 84 (f := .noat "Rules" "rows") rfl)
  no_steps := He.noat_ok (c.fact 85 (f := .noat "Rules" "steps") rfl)
  cl_Piece := He.cls_ok (c.fact 94 (f := .cls "Piece") rfl)
  mg_Piece := He.glo_ok X G (c.fact 93 (f := .glo "Piece") rfl)
  no_Piece_rules := He.noat_ok (c.fact 96 (f := .noat "Piece" "rules") rfl)
  no_Piece_speech_there := He.noat_ok (c.fact 97 (f := .noat "Piece" "speech_there") rfl)
  no_Piece_caption_there := He.noat_ok (c.fact 98 (f := .noat "Piece" "caption_there") rfl)
  no_Piece_leads_kept := He.noat_ok (c.fact 99 (f := .noat "Piece" "leads_kept") rfl)
  no_Piece_costs_kept := He.noat_ok (c.fact 100 (f := .noat "Piece" "costs_kept") rfl)
  no_Piece_class_kept := He.noat_ok (c.fact 101 (f := .noat "Piece" "class_kept") rfl)
theorem hd_less {K : PySem.W.Frag} {h : Heap} {mg : Str → Option Value} (X : K.In h) (G : h.Ns mainGlobals mg) (c : He.SaysD hfa hfn K) : Def K mg "less" s_less := by
  obtain ⟨fd, F⟩ := c.def_ 5 (d := d_less) rfl
  exact ⟨_, fd, He5.fun_of F, He.glo_ok X G (c.fact 5 (f := .glo "less") rfl)⟩
theorem hd_check_pair {K : PySem.W.Frag} {h : Heap} {mg : Str → Option Value} (X : K.In h) (G : h.Ns mainGlobals mg) (c : He.SaysD hfa hfn K) : Def K mg "check_pair" s_check_pair := by
  obtain ⟨fd, F⟩ := c.def_ 6 (d := d_check_pair) rfl
  exact ⟨_, fd, He5.fun_of F, He.glo_ok X G (c.fact 6 (f := .glo "check_pair") rfl)⟩
theorem hd_are_letters {K : PySem.W.Frag} {h : Heap} {mg : Str → Option Value} (X : K.In h) (G : h.Ns mainGlobals mg) (c : He.SaysD hfa hfn K) : Def K mg "are_letters" s_are_letters := by
  obtain ⟨fd, F⟩ := c.def_ 12 (d := d_are_letters) rfl
  exact ⟨_, fd, He5.fun_of F, He.glo_ok X G (c.fact 12 (f := .glo "are_letters") rfl)⟩
theorem hd_is_integer {K : PySem.W.Frag} {h : Heap} {mg : Str → Option Value} (X : K.In h) (G : h.Ns mainGlobals mg) (c : He.SaysD hfa hfn K) : Def K mg "is_integer" s_is_integer := by
  obtain ⟨fd, F⟩ := c.def_ 18 (d := d_is_integer) rfl
  exact ⟨_, fd, He5.fun_of F, He.glo_ok X G (c.fact 18 (f := .glo "is_integer") rfl)⟩
theorem hd_is_letter_of {K : PySem.W.Frag} {h : Heap} {mg : Str → Option Value} (X : K.In h) (G : h.Ns mainGlobals mg) (c : He.SaysD hfa hfn K) : Def K mg "is_letter_of" s_is_letter_of := by
  obtain ⟨fd, F⟩ := c.def_ 19 (d := d_is_letter_of) rfl
  exact ⟨_, fd, He5.fun_of F, He.glo_ok X G (c.fact 19 (f := .glo "is_letter_of") rfl)⟩
theorem hd_is_move {K : PySem.W.Frag} {h : Heap} {mg : Str → Option Value} (X : K.In h) (G : h.Ns mainGlobals mg) (c : He.SaysD hfa hfn K) : Def K mg "is_move" s_is_move := by
  obtain ⟨fd, F⟩ := c.def_ 20 (d := d_is_move) rfl
  exact ⟨_, fd, He5.fun_of F, He.glo_ok X G (c.fact 20 (f := .glo "is_move") rfl)⟩
theorem hd_is_row {K : PySem.W.Frag} {h : Heap} {mg : Str → Option Value} (X : K.In h) (G : h.Ns mainGlobals mg) (c : He.SaysD hfa hfn K) : Def K mg "is_row" s_is_row := by
  obtain ⟨fd, F⟩ := c.def_ 21 (d := d_is_row) rfl
  exact ⟨_, fd, He5.fun_of F, He.glo_ok X G (c.fact 21 (f := .glo "is_row") rfl)⟩
theorem hd_steps_of {K : PySem.W.Frag} {h : Heap} {mg : Str → Option Value} (X : K.In h) (G : h.Ns mainGlobals mg) (c : He.SaysD hfa hfn K) : Def K mg "steps_of" s_steps_of := by
  obtain ⟨fd, F⟩ := c.def_ 22 (d := d_steps_of) rfl
  exact ⟨_, fd, He5.fun_of F, He.glo_ok X G (c.fact 22 (f := .glo "steps_of") rfl)⟩
theorem hd_Rules_u__init_u_ {K : PySem.W.Frag} (c : He.SaysD hfa hfn K) : DefI K (He.ga K "Rules") "Rules.__init__" s_Rules_u__init_u_ := by
  obtain ⟨fd, F⟩ := c.def_ 46 (d := d_RI) rfl
  exact ⟨_, fd, He5.fun_of F, He.mkr_ok (c.fact 81 (f := .mkr "Rules") rfl)⟩
theorem hd__law_draw {K : PySem.W.Frag} {h : Heap} {mg : Str → Option Value} (X : K.In h) (G : h.Ns mainGlobals mg) (c : He.SaysD hfa hfn K) : Def K mg "_law_draw" s__law_draw := by
  obtain ⟨fd, F⟩ := c.def_ 31 (d := d__law_draw) rfl
  exact ⟨_, fd, He5.fun_of F, He.glo_ok X G (c.fact 31 (f := .glo "_law_draw") rfl)⟩
theorem hd__law_pick {K : PySem.W.Frag} {h : Heap} {mg : Str → Option Value} (X : K.In h) (G : h.Ns mainGlobals mg) (c : He.SaysD hfa hfn K) : Def K mg "_law_pick" s__law_pick := by
  obtain ⟨fd, F⟩ := c.def_ 32 (d := d__law_pick) rfl
  exact ⟨_, fd, He5.fun_of F, He.glo_ok X G (c.fact 32 (f := .glo "_law_pick") rfl)⟩
theorem hd__law_deck {K : PySem.W.Frag} {h : Heap} {mg : Str → Option Value} (X : K.In h) (G : h.Ns mainGlobals mg) (c : He.SaysD hfa hfn K) : Def K mg "_law_deck" s__law_deck := by
  obtain ⟨fd, F⟩ := c.def_ 30 (d := d__law_deck) rfl
  exact ⟨_, fd, He5.fun_of F, He.glo_ok X G (c.fact 30 (f := .glo "_law_deck") rfl)⟩
theorem hd__law_world {K : PySem.W.Frag} {h : Heap} {mg : Str → Option Value} (X : K.In h) (G : h.Ns mainGlobals mg) (c : He.SaysD hfa hfn K) : Def K mg "_law_world" s__law_world := by
  obtain ⟨fd, F⟩ := c.def_ 33 (d := d__law_world) rfl
  exact ⟨_, fd, He5.fun_of F, He.glo_ok X G (c.fact 33 (f := .glo "_law_world") rfl)⟩
theorem hd__law_some {K : PySem.W.Frag} {h : Heap} {mg : Str → Option Value} (X : K.In h) (G : h.Ns mainGlobals mg) (c : He.SaysD hfa hfn K) : Def K mg "_law_some" s__law_some := by
  obtain ⟨fd, F⟩ := c.def_ 35 (d := d__law_some) rfl
  exact ⟨_, fd, He5.fun_of F, He.glo_ok X G (c.fact 35 (f := .glo "_law_some") rfl)⟩
theorem hd__law_code {K : PySem.W.Frag} {h : Heap} {mg : Str → Option Value} (X : K.In h) (G : h.Ns mainGlobals mg) (c : He.SaysD hfa hfn K) : Def K mg "_law_code" s__law_code := by
  obtain ⟨fd, F⟩ := c.def_ 34 (d := d__law_code) rfl
  exact ⟨_, fd, He5.fun_of F, He.glo_ok X G (c.fact 34 (f := .glo "_law_code") rfl)⟩
theorem hd__law_page {K : PySem.W.Frag} {h : Heap} {mg : Str → Option Value} (X : K.In h) (G : h.Ns mainGlobals mg) (c : He.SaysD hfa hfn K) : Def K mg "_law_page" s__law_page := by
  obtain ⟨fd, F⟩ := c.def_ 37 (d := d__law_page) rfl
  exact ⟨_, fd, He5.fun_of F, He.glo_ok X G (c.fact 37 (f := .glo "_law_page") rfl)⟩
theorem hd__law_led {K : PySem.W.Frag} {h : Heap} {mg : Str → Option Value} (X : K.In h) (G : h.Ns mainGlobals mg) (c : He.SaysD hfa hfn K) : Def K mg "_law_led" s__law_led := by
  obtain ⟨fd, F⟩ := c.def_ 36 (d := d__law_led) rfl
  exact ⟨_, fd, He5.fun_of F, He.glo_ok X G (c.fact 36 (f := .glo "_law_led") rfl)⟩
theorem hd_Piece_u__init_u_ {K : PySem.W.Frag} (c : He.SaysD hfa hfn K) : DefI K (He.ga K "Piece") "Piece.__init__" s_Piece_u__init_u_ := by
  obtain ⟨fd, F⟩ := c.def_ 47 (d := d_I_Piece) rfl
  exact ⟨_, fd, He5.fun_of F, He.mkr_ok (c.fact 95 (f := .mkr "Piece") rfl)⟩
theorem hd_Piece_leads_to {K : PySem.W.Frag} (cx : hex K = true) (cy : (hys.map fun p => fnXo K (p.1 K)) = hys.map Prod.snd) : DefP K (He.ga K "Piece") "leads_to" "Piece.leads_to" s_Piece_leads_to := by
  have h0 := (Bool.and_eq_true_iff.mp (Bool.and_eq_true_iff.mp (Bool.and_eq_true_iff.mp cx).2).1).2
  have h := Bool.and_eq_true_iff.mp ((Bool.and_eq_true_iff.mp h0).1)
  obtain ⟨fd, F⟩ := funA (fnVal_ok (ysX cy 0 (p := ((fun K => (prG K (He.ga K "Piece") "leads_to")), fnVal d_Piece_leads_to)) rfl)) h.2
  exact ⟨_, _, fd, He5.fun_of F, prB_ok h.1⟩
theorem hd_Piece_costs {K : PySem.W.Frag} (cx : hex K = true) (cy : (hys.map fun p => fnXo K (p.1 K)) = hys.map Prod.snd) : DefP K (He.ga K "Piece") "costs" "Piece.costs" s_Piece_costs := by
  have h0 := (Bool.and_eq_true_iff.mp (Bool.and_eq_true_iff.mp (Bool.and_eq_true_iff.mp cx).2).1).2
  have h := Bool.and_eq_true_iff.mp ((Bool.and_eq_true_iff.mp (Bool.and_eq_true_iff.mp h0).2).1)
  obtain ⟨fd, F⟩ := funA (fnVal_ok (ysX cy 1 (p := ((fun K => (prG K (He.ga K "Piece") "costs")), fnVal d_Piece_costs)) rfl)) h.2
  exact ⟨_, _, fd, He5.fun_of F, prB_ok h.1⟩
theorem hd_Piece_led_class {K : PySem.W.Frag} (cx : hex K = true) (cy : (hys.map fun p => fnXo K (p.1 K)) = hys.map Prod.snd) : DefP K (He.ga K "Piece") "led_class" "Piece.led_class" s_Piece_led_class := by
  have h0 := (Bool.and_eq_true_iff.mp (Bool.and_eq_true_iff.mp (Bool.and_eq_true_iff.mp cx).2).1).2
  have h := Bool.and_eq_true_iff.mp ((Bool.and_eq_true_iff.mp (Bool.and_eq_true_iff.mp h0).2).2)
  obtain ⟨fd, F⟩ := funA (fnVal_ok (ysX cy 2 (p := ((fun K => (prG K (He.ga K "Piece") "led_class")), fnVal d_Piece_led_class)) rfl)) h.2
  exact ⟨_, _, fd, He5.fun_of F, prB_ok h.1⟩
theorem hd_Piece_told {K : PySem.W.Frag} (c : He.SaysD hfa hfn K) : DefM K (He.ga K "Piece") "told" "Piece.told" s_Piece_told := by
  obtain ⟨fd, F⟩ := c.def_ 48 (d := d_Piece_told) rfl
  exact ⟨_, fd, He5.fun_of F, He.meth_ok (c.fact 86 (f := .meth "Piece" "told") rfl)⟩
theorem hd_Piece_u__len_u_ {K : PySem.W.Frag} (c : He.SaysD hfa hfn K) : DefM K (He.ga K "Piece") "__len__" "Piece.__len__" s_Piece_u__len_u_ := by
  obtain ⟨fd, F⟩ := c.def_ 49 (d := d_Piece_u__len_u_) rfl
  exact ⟨_, fd, He5.fun_of F, He.meth_ok (c.fact 87 (f := .meth "Piece" "__len__") rfl)⟩
theorem hd_joined_costs {K : PySem.W.Frag} {h : Heap} {mg : Str → Option Value} (X : K.In h) (G : h.Ns mainGlobals mg) (c : He.SaysD hfa hfn K) : Def K mg "joined_costs" s_joined_costs := by
  obtain ⟨fd, F⟩ := c.def_ 7 (d := d_joined_costs) rfl
  exact ⟨_, fd, He5.fun_of F, He.glo_ok X G (c.fact 7 (f := .glo "joined_costs") rfl)⟩
theorem hd_longer_class {K : PySem.W.Frag} {h : Heap} {mg : Str → Option Value} (X : K.In h) (G : h.Ns mainGlobals mg) (c : He.SaysD hfa hfn K) : Def K mg "longer_class" s_longer_class := by
  obtain ⟨fd, F⟩ := c.def_ 4 (d := d_longer_class) rfl
  exact ⟨_, fd, He5.fun_of F, He.glo_ok X G (c.fact 4 (f := .glo "longer_class") rfl)⟩
theorem hd_Piece_with_behind {K : PySem.W.Frag} (c : He.SaysD hfa hfn K) : DefM K (He.ga K "Piece") "with_behind" "Piece.with_behind" s_Piece_with_behind := by
  obtain ⟨fd, F⟩ := c.def_ 50 (d := d_Piece_with_behind) rfl
  exact ⟨_, fd, He5.fun_of F, He.meth_ok (c.fact 88 (f := .meth "Piece" "with_behind") rfl)⟩
theorem hd_Rules_u__eq_u_ {K : PySem.W.Frag} (c : He.SaysD hfa hfn K) : DefM K (He.ga K "Rules") "__eq__" "Rules.__eq__" s_Rules_u__eq_u_ := by
  obtain ⟨fd, F⟩ := c.def_ 51 (d := d_Rules_u__eq_u_) rfl
  exact ⟨_, fd, He5.fun_of F, He.meth_ok (c.fact 89 (f := .meth "Rules" "__eq__") rfl)⟩
theorem hd_Piece_u__add_u_ {K : PySem.W.Frag} (c : He.SaysD hfa hfn K) : DefM K (He.ga K "Piece") "__add__" "Piece.__add__" s_Piece_u__add_u_ := by
  obtain ⟨fd, F⟩ := c.def_ 52 (d := d_Piece_u__add_u_) rfl
  exact ⟨_, fd, He5.fun_of F, He.meth_ok (c.fact 90 (f := .meth "Piece" "__add__") rfl)⟩
theorem hd_Piece_u__eq_u_ {K : PySem.W.Frag} (c : He.SaysD hfa hfn K) : DefM K (He.ga K "Piece") "__eq__" "Piece.__eq__" s_Piece_u__eq_u_ := by
  obtain ⟨fd, F⟩ := c.def_ 53 (d := d_Piece_u__eq_u_) rfl
  exact ⟨_, fd, He5.fun_of F, He.meth_ok (c.fact 91 (f := .meth "Piece" "__eq__") rfl)⟩
theorem hd_states_behind {K : PySem.W.Frag} {h : Heap} {mg : Str → Option Value} (X : K.In h) (G : h.Ns mainGlobals mg) (c : He.SaysD hfa hfn K) : Def K mg "states_behind" s_states_behind := by
  obtain ⟨fd, F⟩ := c.def_ 1 (d := d_states_behind) rfl
  exact ⟨_, fd, He5.fun_of F, He.glo_ok X G (c.fact 1 (f := .glo "states_behind") rfl)⟩
theorem hd_reached {K : PySem.W.Frag} {h : Heap} {mg : Str → Option Value} (X : K.In h) (G : h.Ns mainGlobals mg) (c : He.SaysD hfa hfn K) : Def K mg "reached" s_reached := by
  obtain ⟨fd, F⟩ := c.def_ 2 (d := d_reached) rfl
  exact ⟨_, fd, He5.fun_of F, He.glo_ok X G (c.fact 2 (f := .glo "reached") rfl)⟩
theorem hd_Rules_u__len_u_ {K : PySem.W.Frag} (c : He.SaysD hfa hfn K) : DefM K (He.ga K "Rules") "__len__" "Rules.__len__" s_Rules_u__len_u_ := by
  obtain ⟨fd, F⟩ := c.def_ 54 (d := d_Rules_u__len_u_) rfl
  exact ⟨_, fd, He5.fun_of F, He.meth_ok (c.fact 92 (f := .meth "Rules" "__len__") rfl)⟩
theorem hd_text_class {K : PySem.W.Frag} {h : Heap} {mg : Str → Option Value} (X : K.In h) (G : h.Ns mainGlobals mg) (c : He.SaysD hfa hfn K) : Def K mg "text_class" s_text_class := by
  obtain ⟨fd, F⟩ := c.def_ 3 (d := d_text_class) rfl
  exact ⟨_, fd, He5.fun_of F, He.glo_ok X G (c.fact 3 (f := .glo "text_class") rfl)⟩
theorem hd_sign_piece {K : PySem.W.Frag} {h : Heap} {mg : Str → Option Value} (X : K.In h) (G : h.Ns mainGlobals mg) (c : He.SaysD hfa hfn K) : Def K mg "sign_piece" s_sign_piece := by
  obtain ⟨fd, F⟩ := c.def_ 8 (d := d_sign_piece) rfl
  exact ⟨_, fd, He5.fun_of F, He.glo_ok X G (c.fact 8 (f := .glo "sign_piece") rfl)⟩
theorem hd_empty_piece {K : PySem.W.Frag} {h : Heap} {mg : Str → Option Value} (X : K.In h) (G : h.Ns mainGlobals mg) (c : He.SaysD hfa hfn K) : Def K mg "empty_piece" s_empty_piece := by
  obtain ⟨fd, F⟩ := c.def_ 9 (d := d_empty_piece) rfl
  exact ⟨_, fd, He5.fun_of F, He.glo_ok X G (c.fact 9 (f := .glo "empty_piece") rfl)⟩
theorem hd_joined_all {K : PySem.W.Frag} {h : Heap} {mg : Str → Option Value} (X : K.In h) (G : h.Ns mainGlobals mg) (c : He.SaysD hfa hfn K) : Def K mg "joined_all" s_joined_all := by
  obtain ⟨fd, F⟩ := c.def_ 10 (d := d_joined_all) rfl
  exact ⟨_, fd, He5.fun_of F, He.glo_ok X G (c.fact 10 (f := .glo "joined_all") rfl)⟩
theorem hd_piece_of {K : PySem.W.Frag} {h : Heap} {mg : Str → Option Value} (X : K.In h) (G : h.Ns mainGlobals mg) (c : He.SaysD hfa hfn K) : Def K mg "piece_of" s_piece_of := by
  obtain ⟨fd, F⟩ := c.def_ 11 (d := d_piece_of) rfl
  exact ⟨_, fd, He5.fun_of F, He.glo_ok X G (c.fact 11 (f := .glo "piece_of") rfl)⟩
theorem hd__law_reach {K : PySem.W.Frag} {h : Heap} {mg : Str → Option Value} (X : K.In h) (G : h.Ns mainGlobals mg) (c : He.SaysD hfa hfn K) : Def K mg "_law_reach" s__law_reach := by
  obtain ⟨fd, F⟩ := c.def_ 38 (d := d__law_reach) rfl
  exact ⟨_, fd, He5.fun_of F, He.glo_ok X G (c.fact 38 (f := .glo "_law_reach") rfl)⟩
theorem hd__law_costs_from {K : PySem.W.Frag} {h : Heap} {mg : Str → Option Value} (X : K.In h) (G : h.Ns mainGlobals mg) (c : He.SaysD hfa hfn K) : Def K mg "_law_costs_from" s__law_costs_from := by
  obtain ⟨fd, F⟩ := c.def_ 39 (d := d__law_costs_from) rfl
  exact ⟨_, fd, He5.fun_of F, He.glo_ok X G (c.fact 39 (f := .glo "_law_costs_from") rfl)⟩
theorem hd__law_piece {K : PySem.W.Frag} {h : Heap} {mg : Str → Option Value} (X : K.In h) (G : h.Ns mainGlobals mg) (c : He.SaysD hfa hfn K) : Def K mg "_law_piece" s__law_piece := by
  obtain ⟨fd, F⟩ := c.def_ 40 (d := d__law_piece) rfl
  exact ⟨_, fd, He5.fun_of F, He.glo_ok X G (c.fact 40 (f := .glo "_law_piece") rfl)⟩
theorem hd__law_told {K : PySem.W.Frag} {h : Heap} {mg : Str → Option Value} (X : K.In h) (G : h.Ns mainGlobals mg) (c : He.SaysD hfa hfn K) : Def K mg "_law_told" s__law_told := by
  obtain ⟨fd, F⟩ := c.def_ 41 (d := d__law_told) rfl
  exact ⟨_, fd, He5.fun_of F, He.glo_ok X G (c.fact 41 (f := .glo "_law_told") rfl)⟩
theorem hd__law_cuts {K : PySem.W.Frag} {h : Heap} {mg : Str → Option Value} (X : K.In h) (G : h.Ns mainGlobals mg) (c : He.SaysD hfa hfn K) : Def K mg "_law_cuts" s__law_cuts := by
  obtain ⟨fd, F⟩ := c.def_ 42 (d := d__law_cuts) rfl
  exact ⟨_, fd, He5.fun_of F, He.glo_ok X G (c.fact 42 (f := .glo "_law_cuts") rfl)⟩
theorem hd__law_joined {K : PySem.W.Frag} {h : Heap} {mg : Str → Option Value} (X : K.In h) (G : h.Ns mainGlobals mg) (c : He.SaysD hfa hfn K) : Def K mg "_law_joined" s__law_joined := by
  obtain ⟨fd, F⟩ := c.def_ 43 (d := d__law_joined) rfl
  exact ⟨_, fd, He5.fun_of F, He.glo_ok X G (c.fact 43 (f := .glo "_law_joined") rfl)⟩
theorem hd__law_refused {K : PySem.W.Frag} {h : Heap} {mg : Str → Option Value} (X : K.In h) (G : h.Ns mainGlobals mg) (c : He.SaysD hfa hfn K) : Def K mg "_law_refused" s__law_refused := by
  obtain ⟨fd, F⟩ := c.def_ 44 (d := d__law_refused) rfl
  exact ⟨_, fd, He5.fun_of F, He.glo_ok X G (c.fact 44 (f := .glo "_law_refused") rfl)⟩
theorem hfacts {P : Program} {w : World} {K : PySem.W.Frag} {h : Heap} {mg : Str → Option Value} {f : Addr} (X : K.In h) (G : h.Ns mainGlobals mg) (hfa0 : mg ("law" : Str) = some (.ref f)) (c : He.SaysD hfa hfn K) (cx : hex K = true) (cy : (hys.map fun p => fnXo K (p.1 K)) = hys.map Prod.snd) (hP : P.main.file = hfl) (hT : (P.main.scope.names.lookup ("super" : Str)).isSome = false) :
    ∃ fd : FuncData, (∀ (s : Shared) (v : Value), BindsTo s fd ⟨[v], []⟩ [("_law_script", v)]) ∧ ∀ base : Heap, K.In base → base.Ns mainGlobals mg → FnG P w K mg base CX0 12 f fd ["_law_script"] (SpOf K (spLaw 63)) := by
  obtain ⟨fd, F⟩ := c.def_ 45 (d := d_law) rfl
  have e := hfa0.symm.trans (He.glo_ok X G (c.fact 45 (f := .glo "law") rfl))
  cases e
  have b := FunD.bindsA (ps := ["_law_script"]) F fun _ _ _ _ _ _ us hl => match us, hl with | [_], _ => rfl
  have T := htxt X G c cx
  refine ⟨fd, fun s v => b s [v] rfl, fun base _ _ => ?_⟩
  have hee := (Bool.and_eq_true_iff.mp (Bool.and_eq_true_iff.mp cx).2).2
  simp only [Bool.and_eq_true] at hee
  obtain ⟨hb_OtherRules, hi_OtherRules⟩ := hee
  have Er : ErT P K mg := { mg_CaptionError := He.glo_ok X G (c.fact 102 (f := .glo "CaptionError") rfl), e_OtherRules := ⟨by
      obtain ⟨cc, cda, kV, doc, pm, ct, an, z⟩ := err_ok (d := dE_OtherRules) hb_OtherRules (ysX cy 3 (p := ((fun K => eI K "OtherRules"), dE_OtherRules.val)) rfl)
      exact ⟨_, cc, cda, kV, doc, pm, ct, an, hP ▸ z⟩, He.glo_ok X G (c.fact 103 (f := .glo "OtherRules") rfl), T.f_super, hT⟩, i_OtherRules := isEB_ok hi_OtherRules }
  have q_less := c_less (P := P) (w := w) (base := base) T (hd_less X G c)
  have q_check_pair := c_check_pair (P := P) (w := w) (base := base) T (hd_check_pair X G c)
  have q_are_letters := c_are_letters (P := P) (w := w) (base := base) T (hd_are_letters X G c)
  have q_is_integer := c_is_integer (P := P) (w := w) (base := base) T (hd_is_integer X G c)
  have q_is_letter_of := c_is_letter_of (P := P) (w := w) (base := base) T (hd_is_letter_of X G c)
  have q_is_move := c_is_move (P := P) (w := w) (base := base) T (hd_is_move X G c) q_is_letter_of q_is_integer
  have q_is_row := c_is_row (P := P) (w := w) (base := base) T (hd_is_row X G c) q_is_move
  have q_steps_of := c_steps_of (P := P) (w := w) (base := base) T (hd_steps_of X G c)
  have q_Rules_u__init_u_ := c_Rules_u__init_u_ (P := P) (w := w) (base := base) T (hd_Rules_u__init_u_ c) q_are_letters q_is_row q_steps_of
  have q__law_draw := c__law_draw (P := P) (w := w) (base := base) T (hd__law_draw X G c)
  have q__law_pick := c__law_pick (P := P) (w := w) (base := base) T (hd__law_pick X G c) q__law_draw
  have q__law_deck := c__law_deck (P := P) (w := w) (base := base) T (hd__law_deck X G c)
  have q__law_world := c__law_world (P := P) (w := w) (base := base) T (hd__law_world X G c) q__law_pick q__law_draw
  have q__law_some := c__law_some (P := P) (w := w) (base := base) T (hd__law_some X G c) q__law_pick q__law_draw q__law_world
  have q__law_code := c__law_code (P := P) (w := w) (base := base) T (hd__law_code X G c) q_Rules_u__init_u_
  have q__law_page := c__law_page (P := P) (w := w) (base := base) T (hd__law_page X G c) q__law_pick
  have q__law_led := c__law_led (P := P) (w := w) (base := base) T (hd__law_led X G c)
  have q_Piece_u__init_u_ := c_Piece_u__init_u_ (P := P) (w := w) (base := base) T (hd_Piece_u__init_u_ c)
  have q_Piece_leads_to := c_Piece_leads_to (P := P) (w := w) (base := base) T (hd_Piece_leads_to cx cy)
  have q_Piece_costs := c_Piece_costs (P := P) (w := w) (base := base) T (hd_Piece_costs cx cy)
  have q_Piece_led_class := c_Piece_led_class (P := P) (w := w) (base := base) T (hd_Piece_led_class cx cy)
  have q_Piece_told := c_Piece_told (P := P) (w := w) (base := base) T (hd_Piece_told c)
  have q_Piece_u__len_u_ := c_Piece_u__len_u_ (P := P) (w := w) (base := base) T (hd_Piece_u__len_u_ c)
  have q_joined_costs := c_joined_costs (P := P) (w := w) (base := base) T (hd_joined_costs X G c) q_less
  have q_longer_class := c_longer_class (P := P) (w := w) (base := base) T (hd_longer_class X G c)
  have q_Piece_with_behind := c_Piece_with_behind (P := P) (w := w) (base := base) T (hd_Piece_with_behind c) q_joined_costs q_longer_class q_Piece_u__init_u_
  have q_Rules_u__eq_u_ := c_Rules_u__eq_u_ (P := P) (w := w) (base := base) T (hd_Rules_u__eq_u_ c)
  have q_Piece_u__add_u_ := c_Piece_u__add_u_ (P := P) (w := w) (base := base) T (hd_Piece_u__add_u_ c) q_Piece_with_behind q_Rules_u__eq_u_
  have qx_Piece_u__add_u_ := x_Piece_u__add_u_ (P := P) (w := w) (base := base) T (hd_Piece_u__add_u_ c) Er q_Piece_with_behind q_Rules_u__eq_u_
  have q_Piece_u__eq_u_ := c_Piece_u__eq_u_ (P := P) (w := w) (base := base) T (hd_Piece_u__eq_u_ c) q_Rules_u__eq_u_ q_Piece_told
  have q_states_behind := c_states_behind (P := P) (w := w) (base := base) T (hd_states_behind X G c)
  have q_reached := c_reached (P := P) (w := w) (base := base) T (hd_reached X G c) q_states_behind
  have q_Rules_u__len_u_ := c_Rules_u__len_u_ (P := P) (w := w) (base := base) T (hd_Rules_u__len_u_ c)
  have q_text_class := c_text_class (P := P) (w := w) (base := base) T (hd_text_class X G c) q_reached q_Rules_u__len_u_
  have q_sign_piece := c_sign_piece (P := P) (w := w) (base := base) T (hd_sign_piece X G c) q_less q_text_class q_Piece_u__init_u_
  have q_empty_piece := c_empty_piece (P := P) (w := w) (base := base) T (hd_empty_piece X G c) q_text_class q_Piece_u__init_u_
  have q_joined_all := c_joined_all (P := P) (w := w) (base := base) T (hd_joined_all X G c) q_empty_piece q_Piece_with_behind q_sign_piece
  have q_piece_of := c_piece_of (P := P) (w := w) (base := base) T (hd_piece_of X G c) q_check_pair q_joined_all
  have q__law_reach := c__law_reach (P := P) (w := w) (base := base) T (hd__law_reach X G c)
  have q__law_costs_from := c__law_costs_from (P := P) (w := w) (base := base) T (hd__law_costs_from X G c)
  have q__law_piece := c__law_piece (P := P) (w := w) (base := base) T (hd__law_piece X G c) q__law_costs_from q__law_led q__law_reach
  have q__law_told := c__law_told (P := P) (w := w) (base := base) T (hd__law_told X G c) q_Piece_u__len_u_ q_Piece_leads_to q_Piece_costs q_Piece_led_class
  have q__law_cuts := c__law_cuts (P := P) (w := w) (base := base) T (hd__law_cuts X G c) q__law_draw
  have q__law_joined := c__law_joined (P := P) (w := w) (base := base) T (hd__law_joined X G c) q__law_draw q_Piece_u__add_u_
  have q__law_refused := c__law_refused (P := P) (w := w) (base := base) T (hd__law_refused X G c) Er qx_Piece_u__add_u_
  exact c_law (P := P) (w := w) (base := base) T (He5.fun_of F) q__law_deck q__law_some q__law_draw q__law_code q__law_pick q__law_page q__law_cuts q__law_piece q_piece_of q__law_told q__law_joined q_Piece_u__eq_u_ q_Piece_u__add_u_ q__law_world q__law_refused
end Pace
open PySem PySem.W PySem.Calls PyProof.Rows
theorem PySem.Challenge.cw_pacehouse_k64_joined_pieces_holds : PySem.Challenge.rw_pacehouse_k64_joined_pieces.Holds := by
  w_on; o_law
  refine HandSHeadRun.head_any (r := OpenLaw.row PySem.Challenge.rw_pacehouse_k64_joined_pieces) (q := view (OpenLaw.row PySem.Challenge.rw_pacehouse_k64_joined_pieces).prog [74]) (H := Pace.hhk) (ob := Pace.hob) (M := 20000) (loose := Pace.hnm) (d := HandSHeadRun.topDef (OpenLaw.row PySem.Challenge.rw_pacehouse_k64_joined_pieces).prog 74) (kwd := []) Pace.hob_eq
    (by kernel_rfl) (fun s => by kernel_rfl) Pace.hrun (by kernel_rfl) (by kernel_rfl) (by kernel_rfl) (by rfl) (by first | assumption | decide +kernel) (by decide +kernel) ⟨rfl, rfl, rfl, rfl, rfl, by decide +kernel⟩ ?hw ?hc
  case hw => w_witness2
  case hc =>
    refine DL.walk_G (l := PySem.Challenge.rw_pacehouse_k64_joined_pieces) (n := 63) (k := 12) (x := "_law_script") rfl (by decide) (by kernel_rfl) ⟨rfl, by decide, by decide⟩ ?F
    intro w mg fa h Y G hmg0
    obtain ⟨K, KX, c, cx, cy⟩ := Y
    have hmg : mg ("law" : PySem.Str) = some (.ref fa) := by
      have e : (HandSHeadRun.topDef (OpenLaw.row PySem.Challenge.rw_pacehouse_k64_joined_pieces).prog 74).name = ("law" : PySem.Str) := by kernel_rfl
      rw [← e]
      exact hmg0
    obtain ⟨fd, hb, hF⟩ := Pace.hfacts (P := (PySem.Challenge.rw_pacehouse_k64_joined_pieces).prog) (w := w) KX G hmg c cx cy rfl (by kernel_rfl)
    exact ⟨K, fd, KX, hb, hF⟩
end
