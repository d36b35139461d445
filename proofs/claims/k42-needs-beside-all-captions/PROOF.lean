import PyProof.Rows.All
import Wide.All
import OpenK.AllK
import Wide.FinOn
import KE.KStateDown
import Lean
import HandS.ForMost
import HandS.ForExc
import KE.KDictKeyed
import KE.DataCmp
import KE.DataEq
import KE.DataFind
import KE.DataIsa
import KE.SortData
import HandS.TupAny
import HandS.TupLen
import HandS.Conv
import HandS.IsInst
import HandS.Text
import HandS.Sort
import HandS.More
import HandS.Zip
import HandS.Style
import KE.GoesEnum
import KE.GoesZip
import KE.GoesMore
import KE.KDictDisplayH
import PyProof.ReprRoads
import HandS.SetFor
import HandS.Strs
import HandS.Set
import KE.KDictPairs
import HandS.ListItems
import HandS.Codes
import HandS.HeadHook1
import HandS.HeadHook2
import KE.KDictZip
import PyProof.InstSpecial
import PyProof.AutoSeq1
import PyProof.NeKinds
import HandS.FStr
import HandS.TupMul
import HandS.RaiseMore
import KE.KCallOwn
import HandS.ClsMeth
import HandS.ExcSuper
import HandS.ExcOwn
import HandS.ExcIs
import HandS.ExcField
import KE.KExcMake
import KE.KSuper
import HandS.ExcInit
import KE.KExcIs
import PySem.Challenge.RW_pacehouse_k42_needs_beside_all_captions
import HandS.Head0
import HandS.Base
import HandS.Call
import HandS.Ends
import HandS.Words
import HandS.WordsExc
import HandS.Defaults
import HandS.Head1
import HandS.Head2
import HandS.HeadEnd
import HandS.HeadNt
import KE.DatumOrd
import KE.GoesEnumKw
import HandS.Replace
import HandS.Star
import HandS.Deep
import KE.KDictSum
import KE.KDictList
import PyProof.DictValues
import PyProof.Rows.StrRev
import HandS.TupSets
import KE.KDictWalk
import PyProof.CollectStr
import PyProof.ListStr
import PyProof.StrLawsFirst
import HandS.NoneIn
import HandS.DictComp
import PyProof.Rows.RowHeap
import KE.DataMinMax
import HandS.SortKw
section
set_option Elab.async false
set_option linter.all false
set_option maxRecDepth 100000
set_option maxHeartbeats 4000000
namespace DL
open PySem PySem.Spec PyProof.Rows L2
inductive D where
  | non | bl (b : Bool) | int (i : Int) | str (x : Str) | ty (n : String)
  | tup (xs : List D) | lst (xs : List D)
  | dK (kvs : List (Key × D)) | dT (kvs : List (List Key × D))
  | obj (C : Addr) (fs : List (Str × D))
  | rf (a : Addr)
  | scr (ns : List Int)
def Ex (F F' : Hp) : Prop := ∀ a o, F a = some o → F' a = some o
theorem Ex.refl (F : Hp) : Ex F F := fun _ _ h => h
theorem Ex.trans {F F1 F2 : Hp} (a : Ex F F1) (b : Ex F1 F2) : Ex F F2 := fun x o h => b x o (a x o h)
theorem Ex.new {F : Hp} {p : Addr} {o : HO} (h : F p = none) : Ex F (upd F p o) := fun a u e => by
  by_cases q : a = p
  · subst q; rw [h] at e; cases e
  · rw [upd_ne q]; exact e
theorem Ex.nope {F H : Hp} (e : Ex F H) {p : Addr} (h : H p = none) : F p = none := by
  cases q : F p with
  | none => rfl
  | some o => rw [e p o q] at h; cases h
theorem Ex.upds {F H : Hp} (e : Ex F H) {p : Addr} (o : HO) : Ex (upd F p o) (upd H p o) := fun a u h => by
  by_cases q : a = p
  · subst q; rw [upd_same] at h ⊢; exact h
  · rw [upd_ne q] at h ⊢; exact e a u h
theorem Ex.updR {F H : Hp} (e : Ex F H) {p : Addr} {o : HO} (h : F p = none) : Ex F (upd H p o) := fun a u z => by
  by_cases q : a = p
  · subst q; rw [h] at z; cases z
  · rw [upd_ne q]; exact e a u z
theorem Ex.rd {F F' : Hp} {a : Addr} {u : HO} (e : Ex F F') (h : Rd F a u) : Rd F' a u := by
  rcases h with h | ⟨o, h⟩
  · exact .inl (e _ _ h)
  · exact .inr ⟨o, e _ _ h⟩
theorem Ex.sql {K : PySem.W.Frag} {F F' : Hp} {a : Addr} {xs : List V} (e : Ex F F') (h : SqL K F a xs) : SqL K F' a xs := by
  rcases h with h | h
  · exact .inl (e.rd h)
  · exact .inr h
theorem Ex.sqt {K : PySem.W.Frag} {F F' : Hp} {a : Addr} {xs : List V} (e : Ex F F') (h : SqT K F a xs) : SqT K F' a xs := by
  rcases h with h | h
  · exact .inl (e.rd h)
  · exact .inr h
mutual
inductive Rep (K : PySem.W.Frag) (F : Hp) : V → D → Prop
  | non : Rep K F .non .non
  | bl (b : Bool) : Rep K F (.bl b) (.bl b)
  | int (i : Int) : Rep K F (.int i) (.int i)
  | str (x : Str) : Rep K F (.str x) (.str x)
  | ty (n : String) : Rep K F (.ty n) (.ty n)
  | tup {a : Addr} {vs : List V} {ds : List D} : F a = some (.tup vs) → Reps K F vs ds → Rep K F (.ref a) (.tup ds)
  | lst {a : Addr} {vs : List V} {ds : List D} : F a = some (.lst vs) → Reps K F vs ds → Rep K F (.ref a) (.lst ds)
  | dK {a : Addr} {kvs : List (Key × V)} {kds : List (Key × D)} : F a = some (.dK kvs) → kvs.map (·.1) = kds.map (·.1) → Reps K F (kvs.map (·.2)) (kds.map (·.2)) → Rep K F (.ref a) (.dK kds)
  | dT {a : Addr} {kvs : List (List Key × V)} {kds : List (List Key × D)} : F a = some (.dT kvs) → kvs.map (·.1) = kds.map (·.1) → Reps K F (kvs.map (·.2)) (kds.map (·.2)) → Rep K F (.ref a) (.dT kds)
  | obj {a C dx : Addr} {kvs : List (Str × V)} {kds : List (Str × D)} : F a = some (.ins C dx kvs) → kvs.map (·.1) = kds.map (·.1) → Reps K F (kvs.map (·.2)) (kds.map (·.2)) → Rep K F (.ref a) (.obj C kds)
  | rf (a : Addr) : Rep K F (.ref a) (.rf a)
  | scr {a : Addr} {ns : List Int} : SqL K F a (ns.map V.int) → Rep K F (.ref a) (.scr ns)
inductive Reps (K : PySem.W.Frag) (F : Hp) : List V → List D → Prop
  | nil : Reps K F [] []
  | cons {v : V} {vs : List V} {d : D} {ds : List D} : Rep K F v d → Reps K F vs ds → Reps K F (v :: vs) (d :: ds)
end
mutual
theorem Rep.mono {K : PySem.W.Frag} {F F' : Hp} (e : Ex F F') : ∀ {v : V} {d : D}, Rep K F v d → Rep K F' v d
  | _, _, .non => .non
  | _, _, .bl b => .bl b
  | _, _, .int i => .int i
  | _, _, .str x => .str x
  | _, _, .ty n => .ty n
  | _, _, .tup h r => .tup (e _ _ h) (Reps.mono e r)
  | _, _, .lst h r => .lst (e _ _ h) (Reps.mono e r)
  | _, _, .dK h l r => .dK (e _ _ h) l (Reps.mono e r)
  | _, _, .dT h l r => .dT (e _ _ h) l (Reps.mono e r)
  | _, _, .obj h l r => .obj (e _ _ h) l (Reps.mono e r)
  | _, _, .rf a => .rf a
  | _, _, .scr h => .scr (e.sql h)
theorem Reps.mono {K : PySem.W.Frag} {F F' : Hp} (e : Ex F F') : ∀ {vs : List V} {ds : List D}, Reps K F vs ds → Reps K F' vs ds
  | _, _, .nil => .nil
  | _, _, .cons h t => .cons (Rep.mono e h) (Reps.mono e t)
end
section
variable {K : PySem.W.Frag} {F : Hp}
theorem Reps.length : ∀ {vs : List V} {ds : List D}, Reps K F vs ds → vs.length = ds.length
  | _, _, .nil => rfl
  | _, _, .cons _ t => congrArg (· + 1) (Reps.length t)
theorem Reps.get : ∀ {vs : List V} {ds : List D} {i : Nat} {d : D}, Reps K F vs ds → ds[i]? = some d → ∃ v, vs[i]? = some v ∧ Rep K F v d
  | _, _, _, _, .nil, e => by simp at e
  | _, _, 0, _, .cons r _, e => by simp at e; subst e; exact ⟨_, rfl, r⟩
  | _, _, i + 1, _, .cons _ t, e => by
    obtain ⟨v, h1, h2⟩ := Reps.get (i := i) t (by simpa using e)
    exact ⟨v, by simpa using h1, h2⟩
theorem Reps.get' : ∀ {vs : List V} {ds : List D} {i : Nat} {v : V}, Reps K F vs ds → vs[i]? = some v → ∃ d, ds[i]? = some d ∧ Rep K F v d
  | _, _, _, _, .nil, e => by simp at e
  | _, _, 0, _, .cons r _, e => by simp at e; subst e; exact ⟨_, rfl, r⟩
  | _, _, i + 1, _, .cons _ t, e => by
    obtain ⟨v, h1, h2⟩ := Reps.get' (i := i) t (by simpa using e)
    exact ⟨v, by simpa using h1, h2⟩
theorem Reps.append : ∀ {vs vs' : List V} {ds ds' : List D}, Reps K F vs ds → Reps K F vs' ds' → Reps K F (vs ++ vs') (ds ++ ds')
  | _, _, _, _, .nil, s => s
  | _, _, _, _, .cons r t, s => .cons r (Reps.append t s)
theorem Reps.one {v : V} {d : D} (h : Rep K F v d) : Reps K F [v] [d] := .cons h .nil
theorem Reps.set {v : V} {d : D} (h : Rep K F v d) : ∀ {vs : List V} {ds : List D} (i : Nat), Reps K F vs ds → Reps K F (vs.set i v) (ds.set i d)
  | _, _, _, .nil => .nil
  | _, _, 0, .cons _ t => .cons h t
  | _, _, i + 1, .cons r t => .cons r (Reps.set h i t)
theorem Reps.take : ∀ {vs : List V} {ds : List D} (n : Nat), Reps K F vs ds → Reps K F (vs.take n) (ds.take n)
  | _, _, 0, _ => .nil
  | _, _, _ + 1, .nil => .nil
  | _, _, n + 1, .cons r t => .cons r (Reps.take n t)
theorem Reps.drop : ∀ {vs : List V} {ds : List D} (n : Nat), Reps K F vs ds → Reps K F (vs.drop n) (ds.drop n)
  | _, _, 0, r => r
  | _, _, _ + 1, .nil => .nil
  | _, _, n + 1, .cons _ t => Reps.drop n t
theorem Reps.reverse {vs : List V} {ds : List D} (r : Reps K F vs ds) : Reps K F vs.reverse ds.reverse := by
  induction vs generalizing ds with
  | nil => cases r; exact .nil
  | cons v vs ih =>
    cases r with
    | cons h t =>
      rw [List.reverse_cons, List.reverse_cons]
      exact (ih t).append (.one h)
end
inductive MO where
  | lst (xs : List D) | dK (kvs : List (Key × D)) | dT (kvs : List (List Key × D))
  | ins (C : Addr) (fs : List (Str × D))
  | deck (k1 k2 k3 : Str) (n : Nat)
  | dcell
  | lkT (o : Obj) (kvs : List (List Key × V)) (kds : List (List Key × D))
  | dN (w : World) (kds : List (NestedKey × D))
  | lkN (w : World) (o : Obj) (xs : List (NestedKey × Addr × Value)) (kds : List (NestedKey × D))
  | tupU (o : Obj) (vs : List V) (ds : List D)
abbrev GH := Addr → Option MO
def gput (G : GH) (a : Addr) (o : MO) : GH := fun b => if b = a then some o else G b
def gdel (G : GH) (a : Addr) : GH := fun b => if b = a then none else G b
theorem gput_same {G : GH} {a : Addr} {o : MO} : gput G a o a = some o := by unfold gput; rw [if_pos rfl]
theorem gput_ne {G : GH} {a b : Addr} {o : MO} (h : b ≠ a) : gput G a o b = G b := by unfold gput; rw [if_neg h]
theorem gput_gput {G : GH} {a : Addr} {o o' : MO} : gput (gput G a o) a o' = gput G a o' := by
  funext b
  by_cases h : b = a
  · subst h; rw [gput_same, gput_same]
  · rw [gput_ne h, gput_ne h, gput_ne h]
theorem gput_self {G : GH} {a : Addr} {o : MO} (h : G a = some o) : gput G a o = G := by
  funext b
  by_cases q : b = a
  · subst q; rw [gput_same, h]
  · rw [gput_ne q]
def deckOk (F H : Hp) (G : GH) (a : Addr) (k1 k2 k3 : Str) (n : Nat) : Prop :=
  ∃ (c : Addr) (g t : Int) (ns : List Int), H a = some (.dK [(.inr k1, .ref c), (.inr k2, .int g), (.inr k3, .int t)]) ∧ H c = some (.lst (ns.map V.int)) ∧ G c = some .dcell ∧
    0 ≤ t ∧ t + n ≤ 1099511627776 ∧ 0 ≤ g ∧ g < 4294967296 ∧ ns.length ≤ 63
/-- a dict whose keys are tuples of any depth: what stands at its own place -/
def RawN (w : World) (a : Addr) (xs : List (NestedKey × Addr × Value)) (h : Heap) : Prop :=
  (a == sysModules) = false ∧ ∃ o es ep, h.get? a = some o ∧ o.ExactDict ∧ o.data = .dict es ep ∧ es.toList = xs.map (fun x => ({ hash := x.1.hash w, key := .ref x.2.1, val := x.2.2 } : DictEntry)) ∧ (xs.map (·.1)).Nodup
mutual
/-- data as a key -/
def D.nkey : D → Option NestedKey
  | .non => some .none
  | .int i => some (.num i)
  | .str x => some (.text x)
  | .tup ds => (D.nkeys ds).map .tup
  | _ => none
def D.nkeys : List D → Option (List NestedKey)
  | [] => some []
  | d :: ds => match d.nkey, D.nkeys ds with
    | some k, some ks => some (k :: ks)
    | _, _ => none
end
def KN (K : PySem.W.Frag) (F : Hp) : List (NestedKey × D) → List (NestedKey × Addr × Value) → Prop := Paired fun p q => p.1 = q.1 ∧ (∃ d : D, d.nkey = some p.1 ∧ p.1.depth ≤ 8 ∧ Rep K F (.ref q.2.1) d) ∧ ∃ v, RelV v q.2.2 ∧ Rep K F v p.2
def MRep (K : PySem.W.Frag) (F H : Hp) (G : GH) (a : Addr) : MO → Prop
  | .lst ds => ∃ vs, H a = some (.lst vs) ∧ Reps K F vs ds
  | .dK kds => ∃ kvs, H a = some (.dK kvs) ∧ kvs.map (·.1) = kds.map (·.1) ∧ Reps K F (kvs.map (·.2)) (kds.map (·.2))
  | .dT kds => ∃ kvs, H a = some (.dT kvs) ∧ kvs.map (·.1) = kds.map (·.1) ∧ Reps K F (kvs.map (·.2)) (kds.map (·.2))
  | .ins C kds => ∃ dx kvs, H a = some (.ins C dx kvs) ∧ kvs.map (·.1) = kds.map (·.1) ∧ Reps K F (kvs.map (·.2)) (kds.map (·.2))
  | .deck k1 k2 k3 n => deckOk F H G a k1 k2 k3 n
  | .dcell => ∃ xs, H a = some (.lst xs)
  | .lkT o kvs kds => H a = some (.frz o (.dT kvs)) ∧ kvs.map (·.1) = kds.map (·.1) ∧ Reps K F (kvs.map (·.2)) (kds.map (·.2))
  | .dN w kds => ∃ xs, H a = some (.ext (RawN w a xs)) ∧ kds.length ≤ sizeLine ∧ KN K F kds xs
  | .lkN w o xs kds => H a = some (.frz o (.ext (RawN w a xs))) ∧ kds.length ≤ sizeLine ∧ KN K F kds xs
  | .tupU o vs ds => H a = some (.frz o (.tup vs)) ∧ o.dict = none ∧ o.cls = .type "tuple" ∧ Reps K F vs ds
structure Gok (K : PySem.W.Frag) (F H : Hp) (G : GH) : Prop where
  ex : Ex F H
  at_ : ∀ a o, G a = some o → F a = none ∧ MRep K F H G a o
  one : ∀ a b k1 k2 k3 n j1 j2 j3 m, G a = some (.deck k1 k2 k3 n) → G b = some (.deck j1 j2 j3 m) → a = b
section
variable {K : PySem.W.Frag} {F H : Hp} {G : GH}
theorem MRep.isAt {a : Addr} {o : MO} (h : MRep K F H G a o) : ∃ u, H a = some u := by
  cases o with
  | lst xs => obtain ⟨vs, e, _⟩ := h; exact ⟨_, e⟩
  | dK kds => obtain ⟨vs, e, _⟩ := h; exact ⟨_, e⟩
  | dT kds => obtain ⟨vs, e, _⟩ := h; exact ⟨_, e⟩
  | ins C kds => obtain ⟨dx, vs, e, _⟩ := h; exact ⟨_, e⟩
  | deck k1 k2 k3 n => obtain ⟨c, g, t, ns, e, _⟩ := h; exact ⟨_, e⟩
  | dcell => obtain ⟨xs, e⟩ := h; exact ⟨_, e⟩
  | lkT o kvs kds => exact ⟨_, h.1⟩
  | dN w kds => obtain ⟨xs, e, _⟩ := h; exact ⟨_, e⟩
  | lkN w o xs kds => exact ⟨_, h.1⟩
  | tupU o vs ds => exact ⟨_, h.1⟩
theorem Gok.free (g : Gok K F H G) {p : Addr} (h : H p = none) : G p = none := by
  cases q : G p with
  | none => rfl
  | some o =>
    obtain ⟨u, e⟩ := (g.at_ p o q).2.isAt
    rw [e] at h; cases h
theorem MRep.move {F' H' : Hp} {G' : GH} {a : Addr} {o : MO} (h : MRep K F H G a o) (e : Ex F F') (k : ∀ b u, H b = some u → (b = a ∨ G b = some .dcell) → H' b = some u) (g : ∀ c, G c = some .dcell → G' c = some .dcell) : MRep K F' H' G' a o := by
  cases o with
  | lst xs =>
    obtain ⟨vs, e1, r⟩ := h
    exact ⟨vs, k _ _ e1 (.inl rfl), r.mono e⟩
  | dK kds =>
    obtain ⟨vs, e1, l, r⟩ := h
    exact ⟨vs, k _ _ e1 (.inl rfl), l, r.mono e⟩
  | dT kds =>
    obtain ⟨vs, e1, l, r⟩ := h
    exact ⟨vs, k _ _ e1 (.inl rfl), l, r.mono e⟩
  | ins C kds =>
    obtain ⟨dx, vs, e1, l, r⟩ := h
    exact ⟨dx, vs, k _ _ e1 (.inl rfl), l, r.mono e⟩
  | deck k1 k2 k3 n =>
    obtain ⟨c, g0, t, ns, e1, e2, gc, hz⟩ := h
    exact ⟨c, g0, t, ns, k _ _ e1 (.inl rfl), k _ _ e2 (.inr gc), g c gc, hz⟩
  | dcell =>
    obtain ⟨xs, e1⟩ := h
    exact ⟨xs, k _ _ e1 (.inl rfl)⟩
  | lkT o kvs kds => exact ⟨k _ _ h.1 (.inl rfl), h.2.1, h.2.2.mono e⟩
  | dN w kds =>
    obtain ⟨xs, e1, hz, r⟩ := h
    exact ⟨xs, k _ _ e1 (.inl rfl), hz, Paired.mapP r fun _ _ ⟨z1, ⟨d, z2, zd, z3⟩, v, z4, z5⟩ => ⟨z1, ⟨d, z2, zd, z3.mono e⟩, v, z4, z5.mono e⟩⟩
  | lkN w o xs kds =>
    obtain ⟨e1, hz, r⟩ := h
    exact ⟨k _ _ e1 (.inl rfl), hz, Paired.mapP r fun _ _ ⟨z1, ⟨d, z2, zd, z3⟩, v, z4, z5⟩ => ⟨z1, ⟨d, z2, zd, z3.mono e⟩, v, z4, z5.mono e⟩⟩
  | tupU o vs ds => exact ⟨k _ _ h.1 (.inl rfl), h.2.1, h.2.2.1, h.2.2.2.mono e⟩
/-- the heap grows, frozen things with it -/
structure Gr (F H F' H' : Hp) : Prop where
  ff : Ex F F'
  fh : Ex F' H'
  hh : Ex H H'
  no : ∀ a u, H a = some u → F a = none → F' a = none
theorem Gok.grow (g : Gok K F H G) {F' H' : Hp} (r : Gr F H F' H') : Gok K F' H' G where
  ex := r.fh
  at_ := fun a o e => by
    obtain ⟨f, m⟩ := g.at_ a o e
    obtain ⟨u, hu⟩ := m.isAt
    exact ⟨r.no a u hu f, m.move r.ff (fun b u q _ => r.hh b u q) (fun c z => z)⟩
  one := g.one
theorem Gr.new (e : Ex F H) {p : Addr} {u : HO} (h : H p = none) : Gr F H (upd F p u) (upd H p u) where
  ff := Ex.new (e.nope h)
  fh := e.upds u
  hh := Ex.new h
  no := fun a w ha fa => by
    have q : a ≠ p := fun q => by rw [q, h] at ha; cases ha
    rw [upd_ne q]; exact fa
theorem Gr.only (e : Ex F H) {p : Addr} {u : HO} (h : H p = none) : Gr F H F (upd H p u) where
  ff := Ex.refl F
  fh := e.updR (e.nope h)
  hh := Ex.new h
  no := fun a w ha fa => fa
theorem Gr.refl (e : Ex F H) : Gr F H F H := ⟨Ex.refl F, e, Ex.refl H, fun _ _ _ z => z⟩
/-- fewer things that may change -/
structure Sub (G' G : GH) : Prop where
  le : ∀ a o, G' a = some o → G a = some o
  dc : ∀ c, G c = some .dcell → G' c = some .dcell
theorem Sub.refl (G : GH) : Sub G G := ⟨fun _ _ z => z, fun _ z => z⟩
theorem Sub.trans {G1 G2 G3 : GH} (a : Sub G1 G2) (b : Sub G2 G3) : Sub G1 G3 := ⟨fun x o z => b.le x o (a.le x o z), fun c z => a.dc c (b.dc c z)⟩
theorem Gok.sub (g : Gok K F H G) {G' : GH} (h : Sub G' G) : Gok K F H G' where
  ex := g.ex
  at_ := fun a o e => by
    obtain ⟨f, m⟩ := g.at_ a o (h.le a o e)
    exact ⟨f, m.move (Ex.refl F) (fun b u q _ => q) h.dc⟩
  one := fun a b k1 k2 k3 n j1 j2 j3 m e1 e2 => g.one a b k1 k2 k3 n j1 j2 j3 m (h.le _ _ e1) (h.le _ _ e2)
def MO.isDeck : MO → Bool
  | .deck _ _ _ _ => true
  | .dcell => true
  | _ => false
theorem sub_new {p : Addr} {o : MO} (h : G p = none) (hd : o.isDeck = false) : Sub G (gput G p o) := by
  refine ⟨fun a w z => ?_, fun c z => ?_⟩
  · have q : a ≠ p := fun y => by rw [y, h] at z; cases z
    rw [gput_ne q]; exact z
  · by_cases q : c = p
    · subst q; rw [gput_same] at z; cases z; cases hd
    · rw [gput_ne q] at z; exact z
theorem Sub.put {G' : GH} (s : Sub G' G) (p : Addr) (o : MO) : Sub (gput G' p o) (gput G p o) := by
  refine ⟨fun a w z => ?_, fun c z => ?_⟩
  · by_cases q : a = p
    · subst q; rw [gput_same] at z ⊢; exact z
    · rw [gput_ne q] at z ⊢; exact s.le a w z
  · by_cases q : c = p
    · subst q; rw [gput_same] at z ⊢; exact z
    · rw [gput_ne q] at z ⊢; exact s.dc c z
theorem upd_none {H : Hp} {p b : Addr} {u : HO} (h : upd H p u b = none) : H b = none := by
  by_cases q : b = p
  · subst q; rw [upd_same] at h; cases h
  · rw [upd_ne q] at h; exact h
/-- from one moment to a later one -/
structure Go (F H : Hp) (G : GH) (F' H' : Hp) (G' : GH) : Prop where
  ex : Ex F F'
  fr : ∀ b u, H b = some u → G b = none → H' b = some u ∧ G' b = none
  no : ∀ b u, H b = some u → G b = none → F b = none → (∀ vs, u ≠ .tup vs) → F' b = none
  st : ∀ b, H' b = none → H b = none
theorem Go.refl : Go F H G F H G := ⟨Ex.refl F, fun _ _ h g => ⟨h, g⟩, fun _ _ _ _ f _ => f, fun _ z => z⟩
theorem Go.trans {F1 H1 F2 H2 : Hp} {G1 G2 : GH} (a : Go F H G F1 H1 G1) (b : Go F1 H1 G1 F2 H2 G2) : Go F H G F2 H2 G2 := by
  refine ⟨a.ex.trans b.ex, fun c u h g => ?_, fun c u h g f t => ?_, fun c z => a.st c (b.st c z)⟩
  · obtain ⟨h1, g1⟩ := a.fr c u h g
    exact b.fr c u h1 g1
  · obtain ⟨h1, g1⟩ := a.fr c u h g
    exact b.no c u h1 g1 (a.no c u h g f t) t
theorem Gr.go {F' H' : Hp} (r : Gr F H F' H') : Go F H G F' H' G := ⟨r.ff, fun b u h g => ⟨r.hh b u h, g⟩, fun b u h _ f _ => r.no b u h f, fun b z => r.hh.nope z⟩
theorem Go.sub {F' H' : Hp} {G' G0 : GH} (a : Go F H G F' H' G') (s : Sub G0 G') : Go F H G F' H' G0 := by
  refine ⟨a.ex, fun b u h g => ?_, a.no, a.st⟩
  obtain ⟨h1, g1⟩ := a.fr b u h g
  refine ⟨h1, ?_⟩
  cases q : G0 b with
  | none => rfl
  | some o => rw [s.le b o q] at g1; cases g1
theorem Go.alloc {p : Addr} {u : HO} {o : MO} (h : H p = none) : Go F H G F (upd H p u) (gput G p o) := by
  refine ⟨Ex.refl F, fun b w hb g => ?_, fun _ _ _ _ f _ => f, fun b z => upd_none z⟩
  have q : b ≠ p := fun y => by rw [y, h] at hb; cases hb
  exact ⟨by rw [upd_ne q]; exact hb, by rw [gput_ne q]; exact g⟩
theorem Go.put {p : Addr} {u : HO} {o o0 : MO} (h : G p = some o0) : Go F H G F (upd H p u) (gput G p o) := by
  refine ⟨Ex.refl F, fun b w hb g => ?_, fun _ _ _ _ f _ => f, fun b z => upd_none z⟩
  have q : b ≠ p := fun y => by rw [y, h] at g; cases g
  exact ⟨by rw [upd_ne q]; exact hb, by rw [gput_ne q]; exact g⟩
/-- a new thing that may change -/
theorem Gok.alloc (g : Gok K F H G) {p : Addr} {u : HO} {o : MO} (h : H p = none) (hd : o.isDeck = false) (r : MRep K F (upd H p u) (gput G p o) p o) : Gok K F (upd H p u) (gput G p o) where
  ex := g.ex.updR (g.ex.nope h)
  at_ := fun a w e => by
    by_cases q : a = p
    · subst q
      rw [gput_same] at e; cases e
      exact ⟨g.ex.nope h, r⟩
    · rw [gput_ne q] at e
      obtain ⟨f, m⟩ := g.at_ a w e
      refine ⟨f, m.move (Ex.refl F) (fun b z qb _ => (Ex.new h) b z qb) fun c z => ?_⟩
      have : c ≠ p := fun y => by rw [y, g.free h] at z; cases z
      rw [gput_ne this]; exact z
  one := fun a b k1 k2 k3 n j1 j2 j3 m e1 e2 => by
    have ha : a ≠ p := fun y => by rw [y, gput_same] at e1; cases e1; cases hd
    have hb : b ≠ p := fun y => by rw [y, gput_same] at e2; cases e2; cases hd
    rw [gput_ne ha] at e1; rw [gput_ne hb] at e2
    exact g.one a b k1 k2 k3 n j1 j2 j3 m e1 e2
/-- a thing changes -/
theorem Gok.put (g : Gok K F H G) {p : Addr} {u : HO} {o o0 : MO} (h : G p = some o0) (h0 : o0.isDeck = false) (hd : o.isDeck = false) (r : MRep K F (upd H p u) (gput G p o) p o) : Gok K F (upd H p u) (gput G p o) where
  ex := g.ex.updR (g.at_ p o0 h).1
  at_ := fun a w e => by
    by_cases q : a = p
    · subst q
      rw [gput_same] at e; cases e
      exact ⟨(g.at_ a o0 h).1, r⟩
    · rw [gput_ne q] at e
      obtain ⟨f, m⟩ := g.at_ a w e
      have np : ∀ c, (c = a ∨ G c = some .dcell) → c ≠ p := fun c hc y => by
        rcases hc with hc | hc
        · exact q (hc ▸ y)
        · rw [y, h] at hc; cases hc; cases h0
      refine ⟨f, m.move (Ex.refl F) (fun b z qb hb => by rw [upd_ne (np b hb)]; exact qb) fun c z => by rw [gput_ne (np c (.inr z))]; exact z⟩
  one := fun a b k1 k2 k3 n j1 j2 j3 m e1 e2 => by
    have ha : a ≠ p := fun y => by rw [y, gput_same] at e1; cases e1; cases hd
    have hb : b ≠ p := fun y => by rw [y, gput_same] at e2; cases e2; cases hd
    rw [gput_ne ha] at e1; rw [gput_ne hb] at e2
    exact g.one a b k1 k2 k3 n j1 j2 j3 m e1 e2
theorem gdel_sub {G : GH} {p : Addr} : ∀ a o, gdel G p a = some o → G a = some o := fun a o e => by
  unfold gdel at e
  by_cases q : a = p
  · rw [if_pos q] at e; cases e
  · rw [if_neg q] at e; exact e
theorem gdel_same {G : GH} {p : Addr} : gdel G p p = none := by unfold gdel; rw [if_pos rfl]
theorem gdel_ne {G : GH} {p a : Addr} (h : a ≠ p) : gdel G p a = G a := by unfold gdel; rw [if_neg h]
theorem gdel_gput {G : GH} {p : Addr} {o : MO} (h : G p = none) : gdel (gput G p o) p = G := by
  funext b
  by_cases q : b = p
  · subst q; rw [gdel_same, h]
  · rw [gdel_ne q, gput_ne q]
/-- a thing changes no more -/
theorem Gok.freeze (g : Gok K F H G) {p : Addr} {u : HO} {o0 : MO} (h : G p = some o0) (h0 : o0.isDeck = false) (hu : H p = some u) : Gok K (upd F p u) H (gdel G p) ∧ Go F H G (upd F p u) H (gdel G p) := by
  have fp := (g.at_ p o0 h).1
  have eF : Ex F (upd F p u) := Ex.new fp
  refine ⟨⟨fun a w z => ?_, fun a w e => ?_, ?_⟩, eF, fun b w hb gb => ⟨hb, ?_⟩, fun b w hb gb fb _ => ?_, fun _ z => z⟩
  · by_cases q : a = p
    · subst q; rw [upd_same] at z; cases z; exact hu
    · rw [upd_ne q] at z; exact g.ex a w z
  · have q : a ≠ p := fun y => by rw [y, gdel_same] at e; cases e
    rw [gdel_ne q] at e
    obtain ⟨f, m⟩ := g.at_ a w e
    refine ⟨by rw [upd_ne q]; exact f, m.move eF (fun b w hb _ => hb) fun c z => ?_⟩
    have nq : c ≠ p := fun y => by rw [y, h] at z; cases z; cases h0
    rw [gdel_ne nq]; exact z
  · exact fun a b k1 k2 k3 n j1 j2 j3 m e1 e2 => g.one a b k1 k2 k3 n j1 j2 j3 m (gdel_sub _ _ e1) (gdel_sub _ _ e2)
  · have q : b ≠ p := fun y => by rw [y, h] at gb; cases gb
    rw [gdel_ne q]; exact gb
  · have q : b ≠ p := fun y => by rw [y, h] at gb; cases gb
    rw [upd_ne q]; exact fb
end
abbrev DS := List (Option D)
inductive Slots (K : PySem.W.Frag) (F : Hp) : L2.St → DS → Prop
  | nil : Slots K F [] []
  | any {v : Option V} {σ : L2.St} {S : DS} : Slots K F σ S → Slots K F (v :: σ) (none :: S)
  | val {v : V} {d : D} {σ : L2.St} {S : DS} : Rep K F v d → Slots K F σ S → Slots K F (some v :: σ) (some d :: S)
section
variable {K : PySem.W.Frag} {F : Hp}
theorem Slots.mono {F' : Hp} (e : Ex F F') : ∀ {σ : L2.St} {S : DS}, Slots K F σ S → Slots K F' σ S
  | _, _, .nil => .nil
  | _, _, .any t => .any (Slots.mono e t)
  | _, _, .val h t => .val (h.mono e) (Slots.mono e t)
theorem Slots.get : ∀ {σ : L2.St} {S : DS} {i : Nat} {d : D}, Slots K F σ S → S[i]? = some (some d) → ∃ v, σ[i]? = some (some v) ∧ Rep K F v d
  | _, _, _, _, .nil, e => by simp at e
  | _, _, 0, _, .any _, e => by simp at e
  | _, _, 0, _, .val r _, e => by simp at e; subst e; exact ⟨_, rfl, r⟩
  | _, _, i + 1, _, .any t, e => by
    obtain ⟨v, h1, h2⟩ := Slots.get (i := i) t (by simpa using e)
    exact ⟨v, by simpa using h1, h2⟩
  | _, _, i + 1, _, .val _ t, e => by
    obtain ⟨v, h1, h2⟩ := Slots.get (i := i) t (by simpa using e)
    exact ⟨v, by simpa using h1, h2⟩
theorem Slots.set {v : V} {d : D} (h : Rep K F v d) : ∀ {σ : L2.St} {S : DS} (i : Nat), Slots K F σ S → Slots K F (σ.set i (some v)) (S.set i (some d))
  | _, _, _, .nil => .nil
  | _, _, 0, .any t => .val h t
  | _, _, 0, .val _ t => .val h t
  | _, _, i + 1, .any t => .any (Slots.set h i t)
  | _, _, i + 1, .val r t => .val r (Slots.set h i t)
theorem Slots.setN (o : Option V) : ∀ {σ : L2.St} {S : DS} (i : Nat), Slots K F σ S → Slots K F (σ.set i o) (S.set i none)
  | _, _, _, .nil => .nil
  | _, _, 0, .any t => .any t
  | _, _, 0, .val _ t => .any t
  | _, _, i + 1, .any t => .any (Slots.setN o i t)
  | _, _, i + 1, .val r t => .val r (Slots.setN o i t)
def dstart (N : List Str) (ds : List D) : DS := ds.map some ++ List.replicate (N.length - ds.length) none
theorem slots_none : ∀ (n : Nat), Slots K F (List.replicate n none) (List.replicate n none)
  | 0 => .nil
  | n + 1 => .any (slots_none n)
theorem slots_append : ∀ {vs : List V} {ds : List D} {σ : L2.St} {S : DS}, Reps K F vs ds → Slots K F σ S → Slots K F (vs.map some ++ σ) (ds.map some ++ S)
  | _, _, _, _, .nil, s => s
  | _, _, _, _, .cons h t, s => .val h (slots_append t s)
theorem Reps.start {N : List Str} {vs : List V} {ds : List D} (r : Reps K F vs ds) : Slots K F (start N vs) (dstart N ds) := by
  have e := r.length
  unfold L2.start dstart
  rw [e]
  exact slots_append r (slots_none _)
end
structure Ok (K : PySem.W.Frag) (F H : Hp) (σ : L2.St) (S : DS) (G : GH) : Prop where
  g : Gok K F H G
  s : Slots K F σ S
end DL
end
section
set_option Elab.async false
set_option linter.all false
set_option maxRecDepth 100000
set_option maxHeartbeats 4000000
namespace DL
open PySem PySem.Spec PyProof.Rows L2
abbrev DQ := D → GH → Prop
abbrev DTE := DS → GH → DQ → Prop
abbrev DTT := DS → GH → (Bool → GH → Prop) → Prop
abbrev DTA := DS → GH → (List D → GH → Prop) → Prop
structure DEnds where
  nx : DS → GH → Prop
  rt : DQ
  bk : DS → GH → Prop := fun _ _ => False
  ct : DS → GH → Prop := fun _ _ => False
abbrev DTS := DEnds → DS → GH → Prop
def KpE (K : PySem.W.Frag) (F H : Hp) (G : GH) (Q' : DQ) (Q : VK) : Prop := ∀ F' H' v d G', Go F H G F' H' G' → Gok K F' H' G' → Rep K F' v d → Q' d G' → Q v H'
def KpT (K : PySem.W.Frag) (F H : Hp) (G : GH) (Q' : Bool → GH → Prop) (Q : Bool → Hp → Prop) : Prop := ∀ F' H' b G', Go F H G F' H' G' → Gok K F' H' G' → Q' b G' → Q b H'
def KpA (K : PySem.W.Frag) (F H : Hp) (G : GH) (Q' : List D → GH → Prop) (Q : List V → Hp → Prop) : Prop := ∀ F' H' vs ds G', Go F H G F' H' G' → Gok K F' H' G' → Reps K F' vs ds → Q' ds G' → Q vs H'
def KpN (K : PySem.W.Frag) (F H : Hp) (G : GH) (Q' : DS → GH → Prop) (Q : L2.St → Hp → Prop) : Prop := ∀ F' H' σ S G', Go F H G F' H' G' → Ok K F' H' σ S G' → Q' S G' → Q σ H'
structure KpS (K : PySem.W.Frag) (F H : Hp) (G : GH) (D' : DEnds) (D0 : Ends) : Prop where
  nx : KpN K F H G D'.nx D0.nx
  rt : KpE K F H G D'.rt D0.rt
  bk : KpN K F H G D'.bk D0.bk
  ct : KpN K F H G D'.ct D0.ct
section
variable {K : PySem.W.Frag} {F H F1 H1 : Hp} {G G1 : GH}
theorem KpE.mono {Q' : DQ} {Q : VK} (e : Go F H G F1 H1 G1) (h : KpE K F H G Q' Q) : KpE K F1 H1 G1 Q' Q := fun F' H' v d G' a b c q => h F' H' v d G' (e.trans a) b c q
theorem KpT.mono {Q' : Bool → GH → Prop} {Q : Bool → Hp → Prop} (e : Go F H G F1 H1 G1) (h : KpT K F H G Q' Q) : KpT K F1 H1 G1 Q' Q := fun F' H' v G' a b q => h F' H' v G' (e.trans a) b q
theorem KpN.mono {Q' : DS → GH → Prop} {Q : L2.St → Hp → Prop} (e : Go F H G F1 H1 G1) (h : KpN K F H G Q' Q) : KpN K F1 H1 G1 Q' Q := fun F' H' σ S G' a b q => h F' H' σ S G' (e.trans a) b q
theorem KpS.mono {D' : DEnds} {D0 : Ends} (e : Go F H G F1 H1 G1) (h : KpS K F H G D' D0) : KpS K F1 H1 G1 D' D0 := ⟨h.nx.mono e, h.rt.mono e, h.bk.mono e, h.ct.mono e⟩
end
structure DE (X : Cx) (e : Expr) (t' : DTE) : Prop where
  ex : ∃ t, PE X e t ∧ ∀ F H σ S G, Ok X.K F H σ S G → ∀ Q', t' S G Q' → ∀ Q, KpE X.K F H G Q' Q → t σ H Q
structure DT (X : Cx) (e : Expr) (t' : DTT) : Prop where
  ex : ∃ t, PT X e t ∧ ∀ F H σ S G, Ok X.K F H σ S G → ∀ Q', t' S G Q' → ∀ Q, KpT X.K F H G Q' Q → t σ H Q
structure DW (X : Cx) (e : Expr) (t' : DTT) : Prop where
  ex : ∃ t, PW X e t ∧ ∀ F H σ S G, Ok X.K F H σ S G → ∀ Q', t' S G Q' → ∀ Q, KpT X.K F H G Q' Q → t σ H Q
structure DA (X : Cx) (es : List Expr) (t' : DTA) : Prop where
  ex : ∃ t, PA X es t ∧ ∀ F H σ S G, Ok X.K F H σ S G → ∀ Q', t' S G Q' → ∀ Q, KpA X.K F H G Q' Q → t σ H Q
structure DP (X : Cx) (st : Stmt) (t' : DTS) : Prop where
  ex : ∃ t, PS X st t ∧ ∀ F H σ S G, Ok X.K F H σ S G → ∀ D', t' D' S G → ∀ D0, KpS X.K F H G D' D0 → t D0 σ H
structure DPs (X : Cx) (st : List Stmt) (t' : DTS) : Prop where
  ex : ∃ t, PSs X st t ∧ ∀ F H σ S G, Ok X.K F H σ S G → ∀ D', t' D' S G → ∀ D0, KpS X.K F H G D' D0 → t D0 σ H
section
variable {X : Cx} {pos : Pos}
theorem Ok.go {K : PySem.W.Frag} {F H F' H' : Hp} {σ : L2.St} {S : DS} {G G' : GH} (o : Ok K F H σ S G) (e : Go F H G F' H' G') (g : Gok K F' H' G') : Ok K F' H' σ S G' := ⟨g, o.s.mono e.ex⟩
def dVar (i : Nat) : DTE := fun S G Q => match S[i]? with
  | some (some d) => Q d G
  | _ => False
def dC (d : D) : DTE := fun _ G Q => Q d G
theorem de_var (i : Nat) {x : Str} (hN : X.N[i]? = some x := by rfl) (hv : Vis X.env.scope x := by first | exact Or.inl rfl | exact Or.inr (Or.inl rfl) | exact Or.inr (Or.inr rfl)) (hd : (x == ("__debug__" : Str)) = false := by decide)
    (hcd : (x == ("__classdict__" : Str)) = false := by decide) : DE X (.Name x pos) (dVar i) := by
  refine ⟨_, pe_var hN hv hd hcd, fun F H σ S G o Q' h Q k => ?_⟩
  unfold dVar at h
  split at h
  · rename_i d e
    obtain ⟨v, e1, r⟩ := o.s.get e
    exact ⟨v, e1, k F H v d G Go.refl o.g r h⟩
  · exact h.elim
theorem dc_of {e : Expr} {v : V} {d : D} (h : PE X e (tC v)) (r : ∀ F, Rep X.K F v d) : DE X e (dC d) :=
  ⟨_, h, fun F H σ S G o Q' h Q k => k F H v d G Go.refl o.g (r F) h⟩
theorem de_int {i : Int} {j} : DE X (.Constant (.int i) j pos) (dC (.int i)) := dc_of pe_int fun _ => .int i
theorem de_bl {b : Bool} {j} : DE X (.Constant (.bool b) j pos) (dC (.bl b)) := dc_of pe_bl fun _ => .bl b
theorem de_non {j} : DE X (.Constant .none j pos) (dC .non) := dc_of pe_non fun _ => .non
theorem de_str {x : Str} {j} : DE X (.Constant (.str x) j pos) (dC (.str x)) := dc_of pe_str fun _ => .str x
theorem de_gint {x : Str} {i : Int} (hg : Gl X x) (hm : ∃ t, X.mg x = some (.int i t)) (hd : (x == ("__debug__" : Str)) = false := by decide) : DE X (.Name x pos) (dC (.int i)) := by
  obtain ⟨t, hm⟩ := hm
  exact dc_of (pe_glob (v := .int i) hg hm ⟨t, rfl⟩ hd) fun _ => .int i
theorem de_gstr {x z : Str} (hg : Gl X x) (hm : ∃ t, X.mg x = some (.str z t)) (hd : (x == ("__debug__" : Str)) = false := by decide) : DE X (.Name x pos) (dC (.str z)) := by
  obtain ⟨t, hm⟩ := hm
  exact dc_of (pe_glob (v := .str z) hg hm ⟨t, rfl⟩ hd) fun _ => .str z
def dNil : DTA := fun _ G Q => Q [] G
def dCons (ta : DTE) (tr : DTA) : DTA := fun S G Q => ta S G fun d G1 => tr S G1 fun ds G2 => Q (d :: ds) G2
theorem da_nil : DA X [] dNil := ⟨_, pa_nil, fun F H σ S G o Q' h Q k => k F H [] [] G Go.refl o.g .nil h⟩
theorem da_cons {e : Expr} {es : List Expr} {ta : DTE} {tr : DTA} (ha : DE X e ta) (hr : DA X es tr) (hs : starEach (e :: es) X.env = (false, eval e X.env) :: starEach es X.env := by rfl) : DA X (e :: es) (dCons ta tr) := by
  obtain ⟨t1, p1, r1⟩ := ha.ex
  obtain ⟨t2, p2, r2⟩ := hr.ex
  refine ⟨_, pa_cons p1 p2 hs, fun F H σ S G o Q' h Q k => ?_⟩
  refine r1 F H σ S G o _ h _ fun F1 H1 v d G1 e1 g1 q1 h1 => ?_
  refine r2 F1 H1 σ S G1 (o.go e1 g1) _ h1 _ fun F2 H2 vs ds G2 e2 g2 q2 h2 => ?_
  exact k F2 H2 _ _ G2 (e1.trans e2) g2 (.cons (q1.mono e2.ex) q2) h2
def dTup (ta : DTA) : DTE := fun S G Q => ta S G fun ds G1 => ds.length ≤ sizeLine ∧ Q (.tup ds) G1
theorem de_tup {es : List Expr} {ta : DTA} {x1} (h : DA X es ta) : DE X (.Tuple es x1 pos) (dTup ta) := by
  obtain ⟨t, p, r⟩ := h.ex
  refine ⟨_, pe_tup p, fun F H σ S G o Q' h Q k => ?_⟩
  refine r F H σ S G o _ h _ fun F1 H1 vs ds G1 e1 g1 q1 h1 => ?_
  refine ⟨q1.length ▸ h1.1, fun p hp => ?_⟩
  have gr : Gr F1 H1 (upd F1 p (.tup vs)) (upd H1 p (.tup vs)) := Gr.new g1.ex hp
  exact k _ _ _ _ G1 (e1.trans gr.go) (g1.grow gr) (.tup upd_same (q1.mono gr.ff)) h1.2
/-- a list as it is written: frozen -/
def dLst (ta : DTA) : DTE := fun S G Q => ta S G fun ds G1 => ds.length ≤ sizeLine ∧ Q (.lst ds) G1
theorem de_lst {es : List Expr} {ta : DTA} (h : DA X es ta) : DE X (.List es pos) (dLst ta) := by
  obtain ⟨t, p, r⟩ := h.ex
  refine ⟨_, pe_lst p, fun F H σ S G o Q' h Q k => ?_⟩
  refine r F H σ S G o _ h _ fun F1 H1 vs ds G1 e1 g1 q1 h1 => ?_
  refine ⟨q1.length ▸ h1.1, fun p hp => ?_⟩
  have gr : Gr F1 H1 (upd F1 p (.lst vs)) (upd H1 p (.lst vs)) := Gr.new g1.ex hp
  exact k _ _ _ _ G1 (e1.trans gr.go) (g1.grow gr) (.lst upd_same (q1.mono gr.ff)) h1.2
/-- .. that may change -/
def dLstM (ta : DTA) : DTE := fun S G Q => ta S G fun ds G1 => ds.length ≤ sizeLine ∧ ∀ p, G1 p = none → Q (.rf p) (gput G1 p (.lst ds))
theorem de_lstM {es : List Expr} {ta : DTA} (h : DA X es ta) : DE X (.List es pos) (dLstM ta) := by
  obtain ⟨t, p, r⟩ := h.ex
  refine ⟨_, pe_lst p, fun F H σ S G o Q' h Q k => ?_⟩
  refine r F H σ S G o _ h _ fun F1 H1 vs ds G1 e1 g1 q1 h1 => ?_
  refine ⟨q1.length ▸ h1.1, fun p hp => ?_⟩
  exact k _ _ _ _ _ (e1.trans (Go.alloc hp)) (g1.alloc (o := .lst ds) hp rfl ⟨vs, upd_same, q1⟩) (.rf p) (h1.2 p (g1.free hp))
def MO.cold : MO → Option D
  | .lst xs => some (.lst xs)
  | .dK kds => some (.dK kds)
  | .dT kds => some (.dT kds)
  | .ins C kds => some (.obj C kds)
  | .deck _ _ _ _ => none
  | .dcell => none
  | .lkT _ _ _ => none
  | .dN _ _ => none
  | .lkN _ _ _ _ => none
  | .tupU _ _ _ => none
theorem Gok.cold {K : PySem.W.Frag} {F H : Hp} {G : GH} (g : Gok K F H G) {p : Addr} {o : MO} {d : D} (h : G p = some o) (hc : o.cold = some d) : ∃ F', Go F H G F' H (gdel G p) ∧ Gok K F' H (gdel G p) ∧ Rep K F' (.ref p) d := by
  obtain ⟨fp, m⟩ := g.at_ p o h
  cases o with
  | lst xs =>
    obtain ⟨vs, e, r⟩ := m
    obtain ⟨g', ef⟩ := g.freeze h rfl e
    cases hc
    exact ⟨_, ef, g', .lst upd_same (r.mono ef.ex)⟩
  | dK kds =>
    obtain ⟨vs, e, l, r⟩ := m
    obtain ⟨g', ef⟩ := g.freeze h rfl e
    cases hc
    exact ⟨_, ef, g', .dK upd_same l (r.mono ef.ex)⟩
  | dT kds =>
    obtain ⟨vs, e, l, r⟩ := m
    obtain ⟨g', ef⟩ := g.freeze h rfl e
    cases hc
    exact ⟨_, ef, g', .dT upd_same l (r.mono ef.ex)⟩
  | ins C kds =>
    obtain ⟨dx, vs, e, l, r⟩ := m
    obtain ⟨g', ef⟩ := g.freeze h rfl e
    cases hc
    exact ⟨_, ef, g', .obj upd_same l (r.mono ef.ex)⟩
  | deck k1 k2 k3 n => cases hc
  | dcell => cases hc
  | lkT o kvs kds => cases hc
  | dN w kds => cases hc
  | lkN w o xs kds => cases hc
  | tupU o vs ds => cases hc
/-- the value, frozen from here on -/
def dCold (ta : DTE) : DTE := fun S G Q => ta S G fun d G1 => match d with
  | .rf a => (match G1 a with
    | some o => (match o.cold with
      | some d => Q d (gdel G1 a)
      | none => False)
    | none => False)
  | d => Q d G1
theorem de_cold {e : Expr} {ta : DTE} (h : DE X e ta) : DE X e (dCold ta) := by
  obtain ⟨t, p, r⟩ := h.ex
  refine ⟨t, p, fun F H σ S G o Q' h Q k => ?_⟩
  refine r F H σ S G o _ h _ fun F1 H1 v d G1 e1 g1 q1 h1 => ?_
  dsimp only at h1
  split at h1
  · rename_i a
    split at h1
    · rename_i o eo
      split at h1
      · rename_i d ed
        obtain ⟨F2, e2, g2, r2⟩ := g1.cold eo ed
        cases q1
        exact k F2 H1 _ _ _ (e1.trans e2) g2 r2 h1
      · exact h1.elim
    · exact h1.elim
  · exact k F1 H1 v _ G1 e1 g1 q1 h1
end
end DL
end
section
set_option Elab.async false
set_option linter.all false
set_option maxRecDepth 100000
set_option maxHeartbeats 4000000
namespace DL
open PySem PySem.Spec PyProof.Rows L2
structure FnG (P : Program) (w : World) (K : PySem.W.Frag) (mg : Str → Option Value) (base : Heap) (CX : CXT) (k : Nat) (f : Addr) (fd : FuncData) (ps : List Str) (sp : Sp) : Prop where
  many : ∀ vs H Q E, sp vs H Q E → vs.length = ps.length
  goes : ∀ (A : Around) (outer : List Env) (s : Shared) (H : Hp) (args : Args) (us : List Value) (vs : List V) (Q : VK) (E : XK),
    A.guards = some [] → Room k A → Env0 P w K mg base A outer s H → BindsTo s fd args (ps.zip us) → Vals vs us → sp vs H Q E →
      codeAny (model P w) A (.call (.ref f) args) (CR CX outer P w H s Q E) s
theorem deeper_guards {A : Around} {env : Env} (h : A.guards = some []) : (A.deeper env).guards = some [] := by
  first
  | exact h
  | simpa [Around.deeper] using h
section
variable {P : Program} {w : World} {K : PySem.W.Frag} {mg : Str → Option Value} {base : Heap} {CX : CXT}
/-- a def keeps its promise: by its body -/
theorem fng_of {k : Nat} {f : Addr} {name qual : Str} {params : Arguments} {body : List Stmt} {scope : Scope} {dV kV doc pm cdv ct oc : Value} {an od : Option Addr} {osl : Array (Option Value)} {N ps : List Str} {sp : Sp}
    (lk : K.lookup f = some ⟨oc, od, .func (PySem.W.fnOf name qual params body scope dV kV doc pm an cdv ct), osl⟩)
    (hcd : PySem.W.codeIn K cdv qual = true) (S : FnScope N ps scope) (len : ∀ vs H Q E, sp vs H Q E → vs.length = ps.length)
    (hb : ∀ (A : Around) (outer : List Env) (s : Shared) (H : Hp) (vs : List V) (Q : VK) (E : XK), A.guards = some [] → Room k (A.deeper (envOfC qual scope s.heap.objs.size f cdv)) → sp vs H Q E →
      ∃ t, PSs (cxOf CX P w K mg base N qual scope f cdv A outer s H E) body t ∧ t ⟨fun _ H' => Q .non H', Q, fun _ _ => False, fun _ _ => False⟩ (start N vs) H) :
    FnG P w K mg base CX (k + 1) f (PySem.W.fnOf name qual params body scope dV kV doc pm an cdv ct) ps sp := by
  refine ⟨len, fun A outer s H args us vs Q E hg hr e0 bd r hsp => ?_⟩
  have many := len vs H Q E hsp
  have inn : K.In s.heap := e0.mod.kin.keeps fun a u z => (e0.bs a u z).1
  have nol : s.heap.NoLimit := e0.mod.nolimit.keeps fun a u z => (e0.bs a u z).1
  have kinds : ∀ y ∈ ps.zip us, scope.names.lookup y.1 = some .local ∨ (scope.names.lookup y.1 = some .cell ∧ ((cellsFrom (s.heap.objs.size + 1) scope.names []).lookup y.1).isSome = true) := by
    rintro ⟨n, v⟩ hy
    have hm := (List.of_mem_zip hy).1
    rcases S.par n hm with z | z
    · left; exact z
    · right; exact ⟨z, PySem.W.cellsFrom_some _ _ _ (Or.inl z)⟩
  refine codeAny_call_function hr.depth (inn _ _ lk) rfl S.co S.gen rfl (PySem.W.codeRec_of inn hcd) (bd _ _ _ _ ?_)
  refine wpAny_newFunctionEnv_cells S.kind kinds ?_
  rintro env rfl s1 x
  refine ⟨nol.keeps x.toInCall.keep, codeAny_func ?_⟩
  obtain ⟨t, ht, q⟩ := hb A outer s H vs Q E hg (hr.deeper _) hsp
  have J : Inv (cxOf CX P w K mg base N qual scope f cdv A outer s H E) [] (start N vs) H s1 := inv_start S hr.hd e0 many r x
  refine wpAny_mono (ht.run [] s1 (start N vs) H _ J q) ?_ (fun e s' z => z)
  intro fl s' z
  cases fl with
  | ret u =>
    obtain ⟨v, σ', H', J', rv, q'⟩ := z
    exact ⟨v, H', J'.os, J'.bare, J'.base, J'.hok, rv, q'⟩
  | next =>
    obtain ⟨σ', H', J', q'⟩ := z
    exact ⟨V.non, H', J'.os, J'.bare, J'.base, J'.hok, rfl, q'⟩
  | brk =>
    obtain ⟨_, _, _, q'⟩ := z
    exact q'.elim
  | cont =>
    obtain ⟨_, _, _, q'⟩ := z
    exact q'.elim
end
section
variable {X : Cx} {CX : CXT} {k : Nat} {f C : Addr} {fd : FuncData} {ps ks : List Str} {sp : Sp} {E : XK} {x m : Str} {p pos apos : Pos} {e o : Expr} {es : List Expr} {kws : List Keyword} {ta : TE} {t tk : TA}
  {dvs : List V} {ds : List Value} {g : List Value → List Value → List Value} {gV : List V → List V → List V}
theorem goes_fn {pins : List (Addr × Obj)} {σ : L2.St} {H : Hp} {s : Shared} {Q : VK} {us ws : List Value} {zs : List V} (F : FnG X.prog X.w X.K X.mg X.base CX k f fd ps sp) (hA : X.A.guards = some []) (hr : Room k X.A)
    (kw : List (Str × Value)) (bd : ∀ s : Shared, X.K.In s.heap → ws.length = ps.length → BindsTo s fd ⟨us, kw⟩ (ps.zip ws)) (hx : Passes CX X E)
    (I : Inv X pins σ H s) (r : Vals zs ws) (h : sp zs H Q E) : wpAny (model X.prog X.w) X.A (call (.ref f) us kw) (EP X pins σ Q) X.xe s := by
  have many : ws.length = ps.length := r.length ▸ F.many zs H Q E h
  refine wpAny_call (codeAny_mono (F.goes X.A X.stack s H ⟨us, kw⟩ ws zs Q E hA hr I.env0 (bd s I.kIn many) r h) ?_)
  intro res s' z
  match res, z with
  | .error er, z => exact hx pins σ H s er s' I z
  | .ok (.ret u), z => exact I.after z
  | .ok .next, z => exact z.elim
  | .ok .brk, z => exact z.elim
  | .ok .cont, z => exact z.elim
theorem pg_call (F : FnG X.prog X.w X.K X.mg X.base CX k f fd ps sp) (hA : X.A.guards = some []) (hr : Room k X.A) (hg : Gl X x) (hm : X.mg x = some (.ref f)) (hk : PySem.W.keepIn X.K (.ref f) = true) (hb : Binds X.K fd ps ds) (hd : Vals dvs ds) (hx : Passes CX X E)
    (ha : PA X (e :: es) t) (hdb : (x == ("__debug__" : Str)) = false) (he : starEach (e :: es) X.env = (false, eval e X.env) :: starEach es X.env) (hpl : (backTo pos (starEach es X.env)).any (·.1) = false) :
    PE X (.Call (.Name x p) (e :: es) [] pos) (tCall sp dvs E t) := by
  constructor
  intro pins s σ H Q I h
  apply wpAny_Call_Name_kw
  refine ld_glob I hg hm ?_ hdb
  refine PySem.W.callWith_K (h₀ := X.base) I.ok.mod.kin hk (thn (ha.run pos pins s σ H _ I h) ?_) he hpl
  rintro us s1 ⟨vs, H1, I1, r, q⟩
  exact ⟨I1.kIn, goes_fn F hA hr [] (fun s2 i l => hb s2 us i l) hx I1 (r.append hd) q⟩
theorem under_guards {A : Around} {us : List Value} {kw : List (Str × Value)} (h : A.guards = some []) : (A.under (.builtin "type.__call__" ⟨.ref C :: us, kw⟩)).guards = some [] := by
  simp [Around.under, Code.guards, Code.isGuard, guardIds, pushGuards, h]
theorem goes_make {pins : List (Addr × Obj)} {σ : L2.St} {H : Hp} {s : Shared} {Q : VK} {us : List Value} {vs : List V} (M : Mk X.K C f) (F : FnG X.prog X.w X.K X.mg X.base CX k f fd ps sp) (hA : X.A.guards = some []) (hr : Room (k + 1) X.A) (hb : Binds X.K fd ps ds) (hd : Vals dvs ds)
    (hx : Passes CX X E) (I : Inv X pins σ H s) (r : Vals vs us)
    (h : ∀ y dy, H y = none → H dy = none → dy ≠ y → sp (.ref y :: (vs ++ dvs)) (upd (upd H dy (.own y)) y (.ins C dy [])) (fun v H2 => v = .non ∧ Q (.ref y) H2) E) :
    wpAny (model X.prog X.w) X.A (call (.ref C) us) (EP X pins σ Q) X.xe s := by
  have nw : H (s.heap.objs.size + 1) = none := I.hok.fresh (Nat.le_succ _)
  have nd : H s.heap.objs.size = none := I.hok.fresh (Nat.le_refl _)
  have q0 := h (s.heap.objs.size + 1) s.heap.objs.size nw nd (Nat.ne_of_lt (Nat.lt_succ_self _))
  have J := Inv.made (C := C) I
  have r2 : Vals (V.ref (s.heap.objs.size + 1) :: (vs ++ dvs)) (Value.ref (s.heap.objs.size + 1) :: (us ++ ds)) := Paired.cons rfl (r.append hd)
  have lg : (Value.ref (s.heap.objs.size + 1) :: us ++ ds).length = ps.length := by
    have z := r2.length
    rw [F.many _ _ _ _ q0] at z
    exact z.symm
  refine wpAny_call (make_map (f := f) I.kIn M.makes M.init (beq_iff_eq.mp M.fn) (codeAny_mono (F.goes _ X.stack _ _ ⟨Value.ref (s.heap.objs.size + 1) :: us, []⟩ (Value.ref (s.heap.objs.size + 1) :: (us ++ ds)) _ _ E (under_guards hA) (hr.make C us [])
    (J.env0.make C us []) (hb _ (Value.ref (s.heap.objs.size + 1) :: us) J.kIn lg) r2 q0) ?_))
  intro res s' z
  match res, z with
  | .error er, z => exact hx pins σ _ _ er s' J z
  | .ok (.ret u), z =>
    obtain ⟨v, H', J', rv, ev, q3⟩ := J.after z
    subst ev
    exact ⟨rv, ⟨V.ref (s.heap.objs.size + 1), H', J', rfl, q3⟩⟩
  | .ok .next, z => exact z.elim
  | .ok .brk, z => exact z.elim
  | .ok .cont, z => exact z.elim
theorem pg_make (M : Mk X.K C f) (F : FnG X.prog X.w X.K X.mg X.base CX k f fd ps sp) (hA : X.A.guards = some []) (hr : Room (k + 1) X.A) (hg : Gl X x) (hm : X.mg x = some (.ref C)) (hb : Binds X.K fd ps ds) (hd : Vals dvs ds) (hx : Passes CX X E)
    (ha : PA X (e :: es) t) (hdb : (x == ("__debug__" : Str)) = false) (he : starEach (e :: es) X.env = (false, eval e X.env) :: starEach es X.env) (hpl : (backTo pos (starEach es X.env)).any (·.1) = false) :
    PE X (.Call (.Name x p) (e :: es) [] pos) (tMake C sp dvs E t) := by
  constructor
  intro pins s σ H Q I h
  apply wpAny_Call_Name_kw
  refine ld_glob I hg hm ?_ hdb
  refine PySem.W.callWith_K (h₀ := X.base) I.ok.mod.kin M.kp (thn (ha.run pos pins s σ H _ I h) ?_) he hpl
  rintro us s1 ⟨vs, H1, I1, r, q⟩
  exact ⟨I1.kIn, goes_make M F hA hr hb hd hx I1 r q⟩
end
end DL
end
section
set_option Elab.async false
set_option linter.all false
set_option maxRecDepth 100000
set_option maxHeartbeats 4000000
namespace DL
open PySem PySem.Spec PyProof.Rows L2
section
variable {X : Cx} {pos : Pos}
abbrev DR2 := D → D → GH → DQ → Prop
abbrev DR1 := D → GH → DQ → Prop
structure OpD (X : Cx) (f : Value → Value → Sem Value) (r' : DR2) : Prop where
  ex : ∃ r, OpR X f r ∧ ∀ F H G x y dx dy, Gok X.K F H G → Rep X.K F x dx → Rep X.K F y dy → ∀ Q', r' dx dy G Q' → ∀ Q, KpE X.K F H G Q' Q → r x y H Q
structure UnD (X : Cx) (f : Value → Sem Value) (r' : DR1) : Prop where
  ex : ∃ r, UnR X f r ∧ ∀ F H G x dx, Gok X.K F H G → Rep X.K F x dx → ∀ Q', r' dx G Q' → ∀ Q, KpE X.K F H G Q' Q → r x H Q
structure CallD (X : Cx) (f : Value) (r' : List D → GH → DQ → Prop) : Prop where
  ex : ∃ r, CallR X f r ∧ ∀ F H G vs ds, Gok X.K F H G → Reps X.K F vs ds → ∀ Q', r' ds G Q' → ∀ Q, KpE X.K F H G Q' Q → r vs H Q
def dOp (r : DR2) (ta tb : DTE) : DTE := fun S G Q => ta S G fun x G1 => tb S G1 fun y G2 => r x y G2 Q
def dUn (r : DR1) (ta : DTE) : DTE := fun S G Q => ta S G fun x G1 => r x G1 Q
theorem dop_of {a b : Expr} {ta tb : DTE} {r : R2} {r' : DR2} (hr : ∀ F H G x y dx dy, Gok X.K F H G → Rep X.K F x dx → Rep X.K F y dy → ∀ Q', r' dx dy G Q' → ∀ Q, KpE X.K F H G Q' Q → r x y H Q)
    {t1 t2 : TE} (r1 : ∀ F H σ S G, Ok X.K F H σ S G → ∀ Q', ta S G Q' → ∀ Q, KpE X.K F H G Q' Q → t1 σ H Q) (r2 : ∀ F H σ S G, Ok X.K F H σ S G → ∀ Q', tb S G Q' → ∀ Q, KpE X.K F H G Q' Q → t2 σ H Q) :
    ∀ F H σ S G, Ok X.K F H σ S G → ∀ Q', dOp r' ta tb S G Q' → ∀ Q, KpE X.K F H G Q' Q → tOp r t1 t2 σ H Q := fun F H σ S G o Q' h Q k => by
  refine r1 F H σ S G o _ h _ fun F1 H1 v d G1 e1 g1 q1 h1 => ?_
  refine r2 F1 H1 σ S G1 (o.go e1 g1) _ h1 _ fun F2 H2 u d2 G2 e2 g2 q2 h2 => ?_
  exact hr F2 H2 G2 v u d d2 g2 (q1.mono e2.ex) q2 Q' h2 Q (k.mono (e1.trans e2))
theorem de_op {op : Operator} {r' : DR2} {a b : Expr} {ta tb : DTE} (ho : OpD X (binaryOp op) r') (ha : DE X a ta) (hb : DE X b tb) : DE X (.BinOp a op b pos) (dOp r' ta tb) := by
  obtain ⟨r, p, hr⟩ := ho.ex
  obtain ⟨t1, p1, r1⟩ := ha.ex
  obtain ⟨t2, p2, r2⟩ := hb.ex
  exact ⟨_, pe_op p p1 p2, dop_of (a := a) (b := b) hr r1 r2⟩
theorem de_cmp {op : CmpOp} {r' : DR2} {a b : Expr} {ta tb : DTE} (ho : OpD X (compareOp op) r') (ha : DE X a ta) (hb : DE X b tb) (hm : behindInMarks op b = false) : DE X (.Compare a [op] [b] pos) (dOp r' ta tb) := by
  obtain ⟨r, p, hr⟩ := ho.ex
  obtain ⟨t1, p1, r1⟩ := ha.ex
  obtain ⟨t2, p2, r2⟩ := hb.ex
  exact ⟨_, pe_cmpR p p1 p2 hm, dop_of (a := a) (b := b) hr r1 r2⟩
theorem de_un {op : UnaryOp} {r' : DR1} {a : Expr} {ta : DTE} (ho : UnD X (unaryOp op) r') (ha : DE X a ta) : DE X (.UnaryOp op a pos) (dUn r' ta) := by
  obtain ⟨r, p, hr⟩ := ho.ex
  obtain ⟨t1, p1, r1⟩ := ha.ex
  refine ⟨_, pe_un p p1, fun F H σ S G o Q' h Q k => ?_⟩
  refine r1 F H σ S G o _ h _ fun F1 H1 v d G1 e1 g1 q1 h1 => ?_
  exact hr F1 H1 G1 v d g1 q1 Q' h1 Q (k.mono e1)
/-- a value that is a bool, as a test -/
def dTest (ta : DTE) : DTT := fun S G Q => ta S G fun d G1 => match d with
  | .bl b => Q b G1
  | _ => False
theorem dt_cmp {op : CmpOp} {r' : DR2} {a b : Expr} {ta tb : DTE} (ho : OpD X (compareOp op) r') (ha : DE X a ta) (hb : DE X b tb) (hm : behindInMarks op b = false) : DT X (.Compare a [op] [b] pos) (dTest (dOp r' ta tb)) := by
  obtain ⟨r, p, hr⟩ := ho.ex
  obtain ⟨t1, p1, r1⟩ := ha.ex
  obtain ⟨t2, p2, r2⟩ := hb.ex
  refine ⟨_, pt_cmpR p p1 p2 hm, fun F H σ S G o Q' h Q k => ?_⟩
  refine dop_of (a := a) (b := b) hr r1 r2 F H σ S G o _ h _ fun F1 H1 v d G1 e1 g1 q1 h1 => ?_
  dsimp only at h1
  split at h1
  · cases q1
    exact ⟨_, rfl, k F1 H1 _ G1 e1 g1 h1⟩
  · exact h1.elim
theorem dt_val {e : Expr} {ta : DTE} (h : DE X e ta) (he : ∀ whole, isTrue e X.env whole = (do let v ← whole; standAt e.pos; holding [v] (truthy v)) := by intro _; rfl) : DT X e (dTest ta) := by
  obtain ⟨t1, p1, r1⟩ := h.ex
  refine ⟨_, pt_val p1 he, fun F H σ S G o Q' h Q k => ?_⟩
  refine r1 F H σ S G o _ h _ fun F1 H1 v d G1 e1 g1 q1 h1 => ?_
  dsimp only at h1
  split at h1
  · cases q1
    exact ⟨_, rfl, k F1 H1 _ G1 e1 g1 h1⟩
  · exact h1.elim
def dNot (t : DTT) : DTT := fun S G Q => t S G fun b G1 => Q (!b) G1
theorem dt_not {a : Expr} {t' : DTT} (h : DT X a t') : DT X (.UnaryOp .Not a pos) (dNot t') := by
  obtain ⟨t1, p1, r1⟩ := h.ex
  exact ⟨_, pt_not p1, fun F H σ S G o Q' h Q k => r1 F H σ S G o _ h _ fun F1 H1 b G1 e1 g1 h1 => k F1 H1 _ G1 e1 g1 h1⟩
theorem DW.dt {e : Expr} {t' : DTT} (h : DW X e t') : DT X e t' := by
  obtain ⟨t1, p1, r1⟩ := h.ex
  exact ⟨_, p1.pt, r1⟩
def dAnd (t u : DTT) : DTT := fun S G Q => t S G fun b G1 => if b = true then u S G1 Q else Q false G1
def dOr (t u : DTT) : DTT := fun S G Q => t S G fun b G1 => if b = true then Q true G1 else u S G1 Q
theorem dw_and1 {a : Expr} {t' : DTT} (h : DT X a t') : DW X (.BoolOp .And [a] pos) t' := by
  obtain ⟨t1, p1, r1⟩ := h.ex
  exact ⟨_, pw_and1 p1, r1⟩
theorem dw_or1 {a : Expr} {t' : DTT} (h : DT X a t') : DW X (.BoolOp .Or [a] pos) t' := by
  obtain ⟨t1, p1, r1⟩ := h.ex
  exact ⟨_, pw_or1 p1, r1⟩
theorem dw_and {a b : Expr} {rest : List Expr} {t' u' : DTT} (h : DT X a t') (h2 : DW X (.BoolOp .And (b :: rest) pos) u') : DW X (.BoolOp .And (a :: b :: rest) pos) (dAnd t' u') := by
  obtain ⟨t1, p1, r1⟩ := h.ex
  obtain ⟨t2, p2, r2⟩ := h2.ex
  refine ⟨_, pw_and p1 p2, fun F H σ S G o Q' h Q k => ?_⟩
  refine r1 F H σ S G o _ h _ fun F1 H1 b G1 e1 g1 h1 => ?_
  cases b with
  | true =>
    rw [if_pos rfl] at h1 ⊢
    exact r2 F1 H1 σ S G1 (o.go e1 g1) _ h1 _ (k.mono e1)
  | false =>
    rw [if_neg Bool.false_ne_true] at h1 ⊢
    exact k F1 H1 _ G1 e1 g1 h1
theorem dw_or {a b : Expr} {rest : List Expr} {t' u' : DTT} (h : DT X a t') (h2 : DW X (.BoolOp .Or (b :: rest) pos) u') : DW X (.BoolOp .Or (a :: b :: rest) pos) (dOr t' u') := by
  obtain ⟨t1, p1, r1⟩ := h.ex
  obtain ⟨t2, p2, r2⟩ := h2.ex
  refine ⟨_, pw_or p1 p2, fun F H σ S G o Q' h Q k => ?_⟩
  refine r1 F H σ S G o _ h _ fun F1 H1 b G1 e1 g1 h1 => ?_
  cases b with
  | true =>
    rw [if_pos rfl] at h1 ⊢
    exact k F1 H1 _ G1 e1 g1 h1
  | false =>
    rw [if_neg Bool.false_ne_true] at h1 ⊢
    exact r2 F1 H1 σ S G1 (o.go e1 g1) _ h1 _ (k.mono e1)
def dIf (t : DTT) (ta tb : DTE) : DTE := fun S G Q => t S G fun b G1 => if b = true then ta S G1 Q else tb S G1 Q
theorem de_if {c a b : Expr} {t' : DTT} {ta tb : DTE} (hc : DT X c t') (ha : DE X a ta) (hb : DE X b tb) : DE X (.IfExp c a b pos) (dIf t' ta tb) := by
  obtain ⟨t0, p0, r0⟩ := hc.ex
  obtain ⟨t1, p1, r1⟩ := ha.ex
  obtain ⟨t2, p2, r2⟩ := hb.ex
  refine ⟨_, pe_ifExp p0 p1 p2, fun F H σ S G o Q' h Q k => ?_⟩
  refine r0 F H σ S G o _ h _ fun F1 H1 b G1 e1 g1 h1 => ?_
  cases b with
  | true =>
    rw [if_pos rfl] at h1 ⊢
    exact r1 F1 H1 σ S G1 (o.go e1 g1) _ h1 _ (k.mono e1)
  | false =>
    rw [if_neg Bool.false_ne_true] at h1 ⊢
    exact r2 F1 H1 σ S G1 (o.go e1 g1) _ h1 _ (k.mono e1)
/-- and, or, not as values: bools -/
def dAndV (ta tb : DTE) : DTE := fun S G Q => ta S G fun d G1 => match d with
  | .bl b => if b = true then tb S G1 Q else Q (.bl false) G1
  | _ => False
def dOrV (ta tb : DTE) : DTE := fun S G Q => ta S G fun d G1 => match d with
  | .bl b => if b = true then Q (.bl true) G1 else tb S G1 Q
  | _ => False
def dNotV (ta : DTE) : DTE := fun S G Q => ta S G fun d G1 => match d with
  | .bl b => Q (.bl (!b)) G1
  | _ => False
theorem de_one {op} {a : Expr} {ta : DTE} (h : DE X a ta) : DE X (.BoolOp op [a] pos) ta := by
  obtain ⟨t1, p1, r1⟩ := h.ex
  exact ⟨_, pe_one p1, r1⟩
theorem de_and {a b : Expr} {rest : List Expr} {ta tb : DTE} (ha : DE X a ta) (hb : DE X (.BoolOp .And (b :: rest) pos) tb) : DE X (.BoolOp .And (a :: b :: rest) pos) (dAndV ta tb) := by
  obtain ⟨t1, p1, r1⟩ := ha.ex
  obtain ⟨t2, p2, r2⟩ := hb.ex
  refine ⟨_, pe_and p1 p2, fun F H σ S G o Q' h Q k => ?_⟩
  refine r1 F H σ S G o _ h _ fun F1 H1 v d G1 e1 g1 q1 h1 => ?_
  dsimp only at h1
  split at h1
  · rename_i b0
    cases q1
    refine ⟨b0, rfl, ?_⟩
    cases b0 with
    | true =>
      rw [if_pos rfl] at h1 ⊢
      exact r2 F1 H1 σ S G1 (o.go e1 g1) _ h1 _ (k.mono e1)
    | false =>
      rw [if_neg Bool.false_ne_true] at h1 ⊢
      exact k F1 H1 _ _ G1 e1 g1 (.bl _) h1
  · exact h1.elim
theorem de_not {a : Expr} {ta : DTE} (ha : DE X a ta) : DE X (.UnaryOp .Not a pos) (dNotV ta) := by
  obtain ⟨t1, p1, r1⟩ := ha.ex
  refine ⟨_, pe_not p1, fun F H σ S G o Q' h Q k => ?_⟩
  refine r1 F H σ S G o _ h _ fun F1 H1 v d G1 e1 g1 q1 h1 => ?_
  dsimp only at h1
  split at h1
  · rename_i b0
    cases q1
    exact ⟨b0, rfl, k F1 H1 _ _ G1 e1 g1 (.bl _) h1⟩
  · exact h1.elim
abbrev DTG := D → DS → GH → (DS → GH → Prop) → Prop
abbrev DTGs := List D → DS → GH → (DS → GH → Prop) → Prop
structure DG (X : Cx) (tg : Expr) (g' : DTG) : Prop where
  ex : ∃ g, PG X tg g ∧ ∀ F H σ S G v d, Ok X.K F H σ S G → Rep X.K F v d → ∀ Q', g' d S G Q' → ∀ Q, KpN X.K F H G Q' Q → g v σ H Q
structure DGs (X : Cx) (tgs : List Expr) (g' : DTGs) : Prop where
  ex : ∃ g, PGs X tgs g ∧ ∀ F H σ S G vs ds, Ok X.K F H σ S G → Reps X.K F vs ds → ∀ Q', g' ds S G Q' → ∀ Q, KpN X.K F H G Q' Q → g vs σ H Q
def dgName (i : Nat) : DTG := fun d S G Q => Q (S.set i (some d)) G
theorem dg_name (i : Nat) {x : Str} (hN : X.N.Nodup) (hi : X.N[i]? = some x := by rfl) (hx : Loc X.env.scope x := by first | exact Or.inl rfl | exact Or.inr rfl) (hf : X.fn x = true ∨ X.env.scope.names.lookup x = some .local := by first | exact .inl rfl | exact .inr rfl | assumption) : DG X (.Name x pos) (dgName i) :=
  ⟨_, pg_name (i := i) hN hi hx hf, fun F H σ S G v d o r Q' h Q k => k F H _ _ G Go.refl ⟨o.g, o.s.set r i⟩ h⟩
def dgNil : DTGs := fun ds S G Q => match ds with
  | [] => Q S G
  | _ => False
def dgCons (t : DTG) (u : DTGs) : DTGs := fun ds S G Q => match ds with
  | d :: r => t d S G fun S1 G1 => u r S1 G1 Q
  | _ => False
theorem dgs_nil : DGs X [] dgNil := ⟨_, pgs_nil, fun F H σ S G vs ds o r Q' h Q k => by
  cases r with
  | nil => exact ⟨rfl, k F H σ S G Go.refl o h⟩
  | cons a b => exact h.elim⟩
theorem dgs_cons {e : Expr} {es : List Expr} {t : DTG} {u : DTGs} (h1 : DG X e t) (h2 : DGs X es u) (hs : (assignEach (e :: es) X.env).map (·.2) = assign e X.env :: (assignEach es X.env).map (·.2) := by rfl) : DGs X (e :: es) (dgCons t u) := by
  obtain ⟨t1, p1, r1⟩ := h1.ex
  obtain ⟨t2, p2, r2⟩ := h2.ex
  refine ⟨_, pgs_cons p1 p2 hs, fun F H σ S G vs ds o r Q' h Q k => ?_⟩
  cases r with
  | nil => exact h.elim
  | cons a b =>
    refine ⟨_, _, rfl, r1 F H σ S G _ _ o a _ h _ fun F1 H1 σ1 S1 G1 e1 o1 h1 => ?_⟩
    exact r2 F1 H1 σ1 S1 G1 _ _ o1 (b.mono e1.ex) _ h1 _ (k.mono e1)
def dgTup (n : Nat) (u : DTGs) : DTG := fun d S G Q => match d with
  | .tup ds => ds.length = n ∧ u ds S G Q
  | _ => False
theorem dg_tup {es : List Expr} {k : Nat} {u : DTGs} {n : Nat} (hc : X.calm = true) (h : DGs X es u) (hn : (assignEach es X.env).length = n := by rfl) (hst : (assignEach es X.env).findIdx? (·.1) = none := by rfl) : DG X (.Tuple es k pos) (dgTup n u) := by
  obtain ⟨t1, p1, r1⟩ := h.ex
  refine ⟨_, pg_tup hc p1 hn hst, fun F H σ S G v d o r Q' h Q k => ?_⟩
  cases r with
  | tup hs hr =>
    refine ⟨_, _, rfl, .inl (.inl (o.g.ex _ _ hs)), by rw [hr.length]; exact h.1, ?_⟩
    exact r1 F H σ S G _ _ o hr _ h.2 _ k
  | _ => exact h.elim
def dNext : DTS := fun D' S G => D'.nx S G
def dSeq (t u : DTS) : DTS := fun D' S G => t { D' with nx := u D' } S G
def dAsg (te : DTE) (g : DTG) : DTS := fun D' S G => te S G fun d G1 => g d S G1 D'.nx
def dDrop (te : DTE) : DTS := fun D' S G => te S G fun _ G1 => D'.nx S G1
def dRet (te : DTE) : DTS := fun D' S G => te S G D'.rt
def dRetN : DTS := fun D' _ G => D'.rt .non G
def dIfS (c : DTT) (t u : DTS) : DTS := fun D' S G => c S G fun b G1 => if b = true then t D' S G1 else u D' S G1
def dNever : DTS := fun _ _ _ => False
def dBreak : DTS := fun D' S G => D'.bk S G
def dCont : DTS := fun D' S G => D'.ct S G
theorem dps_nil : DPs X [] dNext := ⟨_, pss_nil, fun F H σ S G o D' h D0 k => k.nx F H σ S G Go.refl o h⟩
theorem dps_cons {st : Stmt} {rest : List Stmt} {t u : DTS} (h1 : DP X st t) (h2 : DPs X rest u) : DPs X (st :: rest) (dSeq t u) := by
  obtain ⟨t1, p1, r1⟩ := h1.ex
  obtain ⟨t2, p2, r2⟩ := h2.ex
  refine ⟨_, pss_cons p1 p2, fun F H σ S G o D' h D0 k => ?_⟩
  exact r1 F H σ S G o _ h _ ⟨fun F1 H1 σ1 S1 G1 e1 o1 h1 => r2 F1 H1 σ1 S1 G1 o1 _ h1 _ (k.mono e1), k.rt, k.bk, k.ct⟩
theorem dps_one {st : Stmt} {t : DTS} (h1 : DP X st t) : DPs X [st] t := by
  obtain ⟨t1, p1, r1⟩ := h1.ex
  exact ⟨_, pss_one p1, r1⟩
theorem dp_asg {tg e : Expr} {te : DTE} {g : DTG} (he : DE X e te) (hg : DG X tg g) (hs : swapsWithSole [tg] e pos.line X.env = pure false := by rfl) (hw : swappedStores [tg] e X.env = pure none := by rfl)
    (h1 : (assignEach [tg] X.env).map (·.2) = [assign tg X.env] := by rfl) : DP X (.Assign [tg] e pos) (dAsg te g) := by
  obtain ⟨t1, p1, r1⟩ := he.ex
  obtain ⟨t2, p2, r2⟩ := hg.ex
  refine ⟨_, ps_asg p1 p2 hs hw h1, fun F H σ S G o D' h D0 k => ?_⟩
  refine r1 F H σ S G o _ h _ fun F1 H1 v d G1 e1 g1 q1 h1 => ?_
  exact r2 F1 H1 σ S G1 v d (o.go e1 g1) q1 _ h1 _ (k.nx.mono e1)
theorem dp_expr {e : Expr} {te : DTE} (he : DE X e te) (hs : swapsWith e none pos.line X.env = pure false := by rfl) : DP X (.Expr e pos) (dDrop te) := by
  obtain ⟨t1, p1, r1⟩ := he.ex
  refine ⟨_, ps_expr p1 hs, fun F H σ S G o D' h D0 k => ?_⟩
  exact r1 F H σ S G o _ h _ fun F1 H1 v d G1 e1 g1 q1 h1 => k.nx F1 H1 σ S G1 e1 (o.go e1 g1) h1
theorem dp_ret {e : Expr} {te : DTE} (he : DE X e te) : DP X (.Return (some e) pos) (dRet te) := by
  obtain ⟨t1, p1, r1⟩ := he.ex
  exact ⟨_, ps_ret p1, fun F H σ S G o D' h D0 k => r1 F H σ S G o _ h _ k.rt⟩
theorem dp_if {c : Expr} {a b : List Stmt} {tc : DTT} {t u : DTS} (hc : DT X c tc) (ha : DPs X a t) (hb : DPs X b u) : DP X (.If c a b pos) (dIfS tc t u) := by
  obtain ⟨t0, p0, r0⟩ := hc.ex
  obtain ⟨t1, p1, r1⟩ := ha.ex
  obtain ⟨t2, p2, r2⟩ := hb.ex
  refine ⟨_, ps_if p0 p1 p2, fun F H σ S G o D' h D0 k => ?_⟩
  refine r0 F H σ S G o _ h _ fun F1 H1 b G1 e1 g1 h1 => ?_
  cases b with
  | true =>
    rw [if_pos rfl] at h1 ⊢
    exact r1 F1 H1 σ S G1 (o.go e1 g1) _ h1 _ (k.mono e1)
  | false =>
    rw [if_neg Bool.false_ne_true] at h1 ⊢
    exact r2 F1 H1 σ S G1 (o.go e1 g1) _ h1 _ (k.mono e1)
theorem dp_never {st : Stmt} : DP X st dNever := ⟨_, ps_never, fun F H σ S G o D' h D0 k => h.elim⟩
theorem dp_break : DP X (.Break pos) dBreak := ⟨_, ps_break, fun F H σ S G o D' h D0 k => k.bk F H σ S G Go.refl o h⟩
def dWhile (c : DTT) (tb : DTS) : DTS := fun D' S G => ∃ W : Nat → DS → GH → Prop, (∃ m, W m S G) ∧ ∀ m S G, W m S G →
  c S G fun b G1 => if b = true then tb { D' with nx := fun S' G' => ∃ m', m' < m ∧ W m' S' G', ct := fun S' G' => ∃ m', m' < m ∧ W m' S' G', bk := D'.nx } S G1 else D'.nx S G1
theorem dp_while {c : Expr} {body : List Stmt} {tc : DTT} {tb : DTS} (hp : PassesOwn (model X.prog X.w) X.A X.env X.xe) (hc : DT X c tc) (hb : DPs X body tb) : DP X (.While c body [] pos) (dWhile tc tb) := by
  obtain ⟨t0, p0, r0⟩ := hc.ex
  obtain ⟨t1, p1, r1⟩ := hb.ex
  refine ⟨_, ps_while hp p0 p1, fun F H σ S G o D' h D0 k => ?_⟩
  obtain ⟨W, ⟨m0, w0⟩, turn⟩ := h
  refine ⟨fun m σ1 H1 => ∃ F1 S1 G1, Go F H G F1 H1 G1 ∧ Ok X.K F1 H1 σ1 S1 G1 ∧ W m S1 G1, ⟨m0, F, S, G, Go.refl, o, w0⟩, fun m σ1 H1 ⟨F1, S1, G1, e1, o1, w1⟩ => ?_⟩
  refine r0 F1 H1 σ1 S1 G1 o1 _ (turn m S1 G1 w1) _ fun F2 H2 b G2 e2 g2 h2 => ?_
  cases b with
  | true =>
    rw [if_pos rfl] at h2 ⊢
    refine ⟨fun σ3 H3 => ∃ m', m' < m ∧ ∃ F3 S3 G3, Go F H G F3 H3 G3 ∧ Ok X.K F3 H3 σ3 S3 G3 ∧ W m' S3 G3, fun σ3 H3 z => z, ?_⟩
    have kk := k.mono (e1.trans e2)
    have nn : KpN X.K F2 H2 G2 (fun S' G' => ∃ m', m' < m ∧ W m' S' G') (fun σ3 H3 => ∃ m', m' < m ∧ ∃ F3 S3 G3, Go F H G F3 H3 G3 ∧ Ok X.K F3 H3 σ3 S3 G3 ∧ W m' S3 G3) := fun F3 H3 σ3 S3 G3 e3 o3 ⟨m', hm, w3⟩ => ⟨m', hm, F3, S3, G3, (e1.trans e2).trans e3, o3, w3⟩
    exact r1 F2 H2 σ1 S1 G2 (o1.go e2 g2) _ h2 _ ⟨nn, kk.rt, kk.nx, nn⟩
  | false =>
    rw [if_neg Bool.false_ne_true] at h2 ⊢
    exact k.nx F2 H2 σ1 S1 G2 (e1.trans e2) (o1.go e2 g2) h2
structure ItOk (K : PySem.W.Frag) (F : Hp) (J : It) (ds : List D) (gd : GH → Prop) : Prop where
  go : ∀ F1 H1 G1 (i : Nat) d, Ex F F1 → Gok K F1 H1 G1 → gd G1 → ds[i]? = some d → J.go i H1 ∧ ∀ x H2, J.yld i H1 x H2 → ∃ F2, Go F1 H1 G1 F2 H2 G1 ∧ Gok K F2 H2 G1 ∧ Rep K F2 x d
  stop : ∀ F1 H1 G1, Ex F F1 → Gok K F1 H1 G1 → gd G1 → J.stop ds.length H1
abbrev DTI := DS → GH → (List D → (GH → Prop) → GH → Prop) → Prop
structure DI (X : Cx) (tg iter : Expr) (wi' : DTI) : Prop where
  ex : ∃ wi, PI X tg iter wi ∧ ∀ F H σ S G, Ok X.K F H σ S G → ∀ R', wi' S G R' → ∀ R : It → Hp → Prop, (∀ F1 H1 G1 J ds gd, Go F H G F1 H1 G1 → Gok X.K F1 H1 G1 → ItOk X.K F1 J ds gd → R' ds gd G1 → R J H1) → wi σ H R
def dFor (wi : DTI) (g : DTG) (tb : DTS) : DTS := fun D' S G => wi S G fun ds gd G1 => ∃ W : Nat → DS → GH → Prop, W 0 S G1 ∧ (∀ i S G, W i S G → gd G) ∧
  (∀ i S G d, W i S G → ds[i]? = some d → g d S G fun S2 G2 => tb { D' with nx := W (i + 1), ct := W (i + 1), bk := D'.nx } S2 G2) ∧ (∀ S G, W ds.length S G → D'.nx S G)
theorem dp_for {tg iter : Expr} {body : List Stmt} {wi : DTI} {g : DTG} {tb : DTS} (hp : PassesOwn (model X.prog X.w) X.A X.env X.xe) (hc : X.calm = true) (hi : DI X tg iter wi) (hg : DG X tg g) (hb : DPs X body tb)
    (hs : ∀ x, foldedSetIterable iter X.env x = pure x := by intro _; rfl) : DP X (.For tg iter body [] pos) (dFor wi g tb) := by
  obtain ⟨t0, p0, r0⟩ := hi.ex
  obtain ⟨t1, p1, r1⟩ := hg.ex
  obtain ⟨t2, p2, r2⟩ := hb.ex
  refine ⟨_, ps_for hp hc p0 p1 p2 hs, fun F H σ S G o D' h D0 k => ?_⟩
  refine r0 F H σ S G o _ h _ fun F1 H1 G1 J ds gd e1 g1 it h1 => ?_
  obtain ⟨W, w0, wg, turn, done⟩ := h1
  refine ⟨fun i m σ2 H2 => i + m = ds.length ∧ ∃ F2 S2 G2, Go F1 H1 G1 F2 H2 G2 ∧ Ok X.K F2 H2 σ2 S2 G2 ∧ W i S2 G2, ⟨ds.length, Nat.zero_add _, F1, S, G1, Go.refl, o.go e1 g1, w0⟩, ?_⟩
  rintro i m σ2 H2 ⟨him, F2, S2, G2, e2, o2, w2⟩
  have gg := wg i S2 G2 w2
  cases m with
  | zero =>
    have hi : i = ds.length := him
    refine .inl ⟨hi ▸ it.stop F2 H2 G2 e2.ex o2.g gg, k.nx F2 H2 σ2 S2 G2 (e1.trans e2) o2 (done S2 G2 (hi ▸ w2))⟩
  | succ m =>
    have hlt : i < ds.length := by omega
    have hd : ds[i]? = some ds[i] := List.getElem?_eq_getElem hlt
    obtain ⟨ig, iy⟩ := it.go F2 H2 G2 i _ e2.ex o2.g gg hd
    refine .inr ⟨ig, fun σ3 H3 => ∃ F3 S3 G3, Go F1 H1 G1 F3 H3 G3 ∧ Ok X.K F3 H3 σ3 S3 G3 ∧ W (i + 1) S3 G3, fun σ3 H3 z => ⟨m, Nat.lt_succ_self m, by omega, z⟩, fun x H3 hy => ?_⟩
    obtain ⟨F3, e3, g3, q3⟩ := iy x H3 hy
    refine r1 F3 H3 σ2 S2 G2 x _ (o2.go e3 g3) q3 _ (turn i S2 G2 _ w2 hd) _ fun F4 H4 σ4 S4 G4 e4 o4 h4 => ?_
    have kk := k.mono (((e1.trans e2).trans e3).trans e4)
    have nn : KpN X.K F4 H4 G4 (W (i + 1)) (fun σ3 H3 => ∃ F3 S3 G3, Go F1 H1 G1 F3 H3 G3 ∧ Ok X.K F3 H3 σ3 S3 G3 ∧ W (i + 1) S3 G3) := fun F5 H5 σ5 S5 G5 e5 o5 w5 => ⟨F5, S5, G5, ((e2.trans e3).trans e4).trans e5, o5, w5⟩
    exact r2 F4 H4 σ4 S4 G4 o4 _ h4 _ ⟨nn, kk.rt, kk.nx, nn⟩
abbrev SpD := List D → GH → DQ → Prop
def SpOf (K : PySem.W.Frag) (sp : SpD) : Sp := fun vs H Q _ => ∃ F G ds Q', Gok K F H G ∧ Reps K F vs ds ∧ sp ds G Q' ∧ KpE K F H G Q' Q
def dCall (sp : SpD) (ta : DTA) : DTE := fun S G Q => ta S G fun ds G1 => sp ds G1 Q
theorem de_call {k : Nat} {f : Addr} {fd : FuncData} {ps : List Str} {sp : SpD} {x : Str} {p : Pos} {e : Expr} {es : List Expr} {ta : DTA} (Fn : FnG X.prog X.w X.K X.mg X.base CX0 k f fd ps (SpOf X.K sp)) (hA : X.A.guards = some []) (hr : Room k X.A) (hg : Gl X x) (hm : X.mg x = some (.ref f)) (hk : PySem.W.keepIn X.K (.ref f) = true) (hb : Binds X.K fd ps [])
    (ha : DA X (e :: es) ta) (hdb : (x == ("__debug__" : Str)) = false := by decide) (he : starEach (e :: es) X.env = (false, eval e X.env) :: starEach es X.env := by rfl) (hpl : (backTo pos (starEach es X.env)).any (·.1) = false := by rfl) :
    DE X (.Call (.Name x p) (e :: es) [] pos) (dCall sp ta) := by
  obtain ⟨t1, p1, r1⟩ := ha.ex
  refine ⟨_, pg_call Fn hA hr hg hm hk hb .nil pass0 p1 hdb he hpl, fun F H σ S G o Q' h Q k => ?_⟩
  refine r1 F H σ S G o _ h _ fun F1 H1 vs ds G1 e1 g1 q1 h1 => ?_
  rw [List.append_nil]
  exact ⟨F1, G1, ds, Q', g1, q1, h1, k.mono e1⟩
end
/-- what is wanted at a def's end: its own things may be forgotten -/
def fin (Q : DQ) : DEnds := { nx := fun _ G' => ∃ G0, Sub G0 G' ∧ Q .non G0, rt := fun d G' => ∃ G0, Sub G0 G' ∧ Q d G0 }
theorem fn_mk {P : Program} {w : World} {K : PySem.W.Frag} {mg : Str → Option Value} {base : Heap} {x qual : Str} {st : Stmt} {f : Addr} {fd : FuncData} {N ps : List Str} {k : Nat} {sp : SpD} (Fu : Fun K x qual st f fd) (sc : FnScope N ps (defScope st))
    (len : ∀ ds G Q, sp ds G Q → ds.length = ps.length)
    (hb : ∀ (cdv : Value) (A : Around) (outer : List Env) (s : Shared) (H : Hp) (E : XK), A.guards = some [] → Room k (A.deeper (envOfC qual (defScope st) s.heap.objs.size f cdv)) →
      ∃ t', DPs (cxOf CX0 P w K mg base N qual (defScope st) f cdv A outer s H E).nox (defBody st) t' ∧ ∀ ds G Q, sp ds G Q → t' (fin Q) (dstart N ds) G) : FnG P w K mg base CX0 (k + 1) f fd ps (SpOf K sp) := by
  obtain ⟨oc, od, kV, doc, pm, an, cdv, ct, osl, rfl, lk, hcd⟩ := Fu.ex
  refine fng_of lk hcd sc (fun vs H Q E h => ?_) (fun A outer s H vs Q E hg hr h => ?_)
  · obtain ⟨F, G, ds, Q', g, r, h, _⟩ := h
    rw [r.length]
    exact len ds G Q' h
  · obtain ⟨F, G, ds, Q', g, r, h, kk⟩ := h
    obtain ⟨t', d, rd⟩ := hb cdv A outer s H E hg hr
    obtain ⟨t, p, rf⟩ := d.ex
    refine ⟨t, p.nox, rf F H _ _ G ⟨g, r.start⟩ _ (rd ds G Q' h) _ ⟨fun F1 H1 σ1 S1 G1 e1 o1 h1 => ?_, fun F1 H1 v d G1 e1 g1 r1 h1 => ?_, fun _ _ _ _ _ _ _ z => z.elim, fun _ _ _ _ _ _ _ z => z.elim⟩⟩
    · obtain ⟨G0, sb, h1⟩ := h1
      exact kk F1 H1 _ _ G0 (e1.sub sb) (o1.g.sub sb) .non h1
    · obtain ⟨G0, sb, h1⟩ := h1
      exact kk F1 H1 v d G0 (e1.sub sb) (g1.sub sb) r1 h1
end DL
end
section
set_option Elab.async false
set_option linter.all false
set_option maxRecDepth 100000
set_option maxHeartbeats 4000000
namespace DL
open PySem PySem.Spec PyProof.Rows L2
mutual
def D.py : D → PyData
  | .non => .none
  | .bl b => .bool b
  | .int i => .int i
  | .str x => .str x
  | .tup xs => .tuple (D.pys xs)
  | .lst xs => .list (D.pys xs)
  | _ => .none
def D.pys : List D → List PyData
  | [] => []
  | x :: xs => D.py x :: D.pys xs
end
mutual
def D.pl : D → Bool
  | .non | .bl _ | .int _ | .str _ => true
  | .tup xs | .lst xs => D.pls xs
  | _ => false
def D.pls : List D → Bool
  | [] => true
  | x :: xs => D.pl x && D.pls xs
end
mutual
theorem D.py_plain : ∀ d : D, d.pl = true → d.py.plain = true
  | .non, _ => rfl
  | .bl _, _ => rfl
  | .int _, _ => rfl
  | .str _, _ => rfl
  | .tup xs, h => D.pys_plain xs h
  | .lst xs, h => D.pys_plain xs h
  | .ty _, h => by cases h
  | .dK _, h => by cases h
  | .dT _, h => by cases h
  | .obj _ _, h => by cases h
  | .rf _, h => by cases h
  | .scr _, h => by cases h
theorem D.pys_plain : ∀ xs : List D, D.pls xs = true → PyData.plainAll (D.pys xs) = true
  | [], _ => rfl
  | x :: xs, h => by
    have h' : x.pl = true ∧ D.pls xs = true := by simpa [D.pls] using h
    simp only [D.pys, PyData.plainAll, D.py_plain x h'.1, D.pys_plain xs h'.2, Bool.and_self]
end
theorem D.pls_all (xs : List D) : D.pls xs = xs.all D.pl := by
  induction xs with
  | nil => rfl
  | cons x xs ih => simp [D.pls, ih]
mutual
theorem Rep.dp {K : PySem.W.Frag} {F : Hp} : ∀ (d : D) {v : V}, Rep K F v d → d.pl = true → Dp K F v d.py
  | .non, _, .non, _ => .non
  | .bl _, _, .bl b, _ => .bl b
  | .int _, _, .int i, _ => .int i
  | .str _, _, .str x, _ => .str x
  | .tup xs, _, .tup h r, p => .tup (.inl (.inl h)) (Reps.dp xs r p)
  | .lst xs, _, .lst h r, p => .lst (.inl (.inl h)) (Reps.dp xs r p)
theorem Reps.dp {K : PySem.W.Frag} {F : Hp} : ∀ (ds : List D) {vs : List V}, Reps K F vs ds → D.pls ds = true → DpAll K F vs (D.pys ds)
  | [], _, .nil, _ => .nil
  | d :: ds, _, .cons h t, p => by
    have p' : d.pl = true ∧ D.pls ds = true := by simpa [D.pls] using p
    exact .cons (Rep.dp d h p'.1) (Reps.dp ds t p'.2)
end
mutual
theorem Dp.mono' {K : PySem.W.Frag} {F F' : Hp} (e : Ex F F') : ∀ (d : PyData) {v : V}, Dp K F v d → Dp K F' v d
  | .none, _, .non => .non
  | .bool _, _, .bl b => .bl b
  | .int _, _, .int i => .int i
  | .str _, _, .str x => .str x
  | .list ds, _, .lst h r => .lst (e.sql h) (DpAll.mono' e ds r)
  | .tuple ds, _, .tup h r => .tup (e.sqt h) (DpAll.mono' e ds r)
theorem DpAll.mono' {K : PySem.W.Frag} {F F' : Hp} (e : Ex F F') : ∀ (ds : List PyData) {vs : List V}, DpAll K F vs ds → DpAll K F' vs ds
  | [], _, .nil => .nil
  | d :: ds, _, .cons h t => .cons (Dp.mono' e d h) (DpAll.mono' e ds t)
end
/-- what stands there now: a list that changes, as it is -/
def D.cur (G : GH) : D → D
  | .rf a => (match G a with
    | some (.lst xs) => .lst xs
    | some (.dK kds) => .dK kds
    | some (.dT kds) => .dT kds
    | some (.ins C kds) => .obj C kds
    | _ => .rf a)
  | d => d
theorem cur_dp {K : PySem.W.Frag} {F H : Hp} {G : GH} {v : V} {d : D} (g : Gok K F H G) (r : Rep K F v d) (p : (d.cur G).pl = true) : Dp K H v (d.cur G).py := by
  cases d with
  | rf a =>
    cases r
    unfold D.cur at p ⊢
    cases q : G a with
    | none => simp only [q] at p; cases p
    | some o =>
      cases o with
      | lst xs =>
        simp only [q] at p ⊢
        obtain ⟨vs, e, rs⟩ := (g.at_ a _ q).2
        exact .lst (.inl (.inl e)) (DpAll.mono' g.ex _ (Reps.dp xs rs p))
      | _ => simp only [q] at p; cases p
  | _ => exact Dp.mono' g.ex _ (Rep.dp _ r p)
theorem cur_list {K : PySem.W.Frag} {F H : Hp} {G : GH} {v : V} {d : D} {ds : List D} (g : Gok K F H G) (r : Rep K F v d) (p : d.cur G = .lst ds) : ∃ a vs, v = .ref a ∧ H a = some (.lst vs) ∧ Reps K F vs ds := by
  cases d with
  | rf a =>
    cases r
    unfold D.cur at p
    cases q : G a with
    | none => simp only [q] at p; cases p
    | some o =>
      cases o with
      | lst xs =>
        simp only [q] at p; cases p
        obtain ⟨vs, e, rs⟩ := (g.at_ a _ q).2
        exact ⟨a, vs, rfl, e, rs⟩
      | dK kds => simp only [q] at p; cases p
      | dT kds => simp only [q] at p; cases p
      | ins C kds => simp only [q] at p; cases p
      | deck k1 k2 k3 n => simp only [q] at p; cases p
      | dcell => simp only [q] at p; cases p
      | lkT o kvs kds => simp only [q] at p; cases p
      | dN w kds => simp only [q] at p; cases p
      | lkN w o xs kds => simp only [q] at p; cases p
      | tupU o vs ds => simp only [q] at p; cases p
  | lst xs =>
    cases p
    cases r with
    | lst h rs => exact ⟨_, _, rfl, g.ex _ _ h, rs⟩
  | _ => cases p
def okE (x y : D) : Bool := x.pl && y.pl && decide (min x.py.depth y.py.depth ≤ 60)
def D.eqv (x y : D) : Bool := PyData.eqv x.py y.py
section
variable {X : Cx} {pos : Pos}
def rCmpP (K : PySem.W.Frag) (C : PyData → PyData → Bool) (f : PyData → PyData → Bool) : R2 := fun x y H Q => ∃ d e, Dp K H x d ∧ Dp K H y e ∧ min d.depth e.depth ≤ 60 ∧ C d e = true ∧ Q (.bl (f d e)) H
theorem cmpP_of {op : CmpOp} {C f : PyData → PyData → Bool} (hu : X.A.units + 100 < cLine)
    (rule : ∀ {prog : Program} {w : World} {A : Around} {E : Value → Shared → Prop} {s : Shared} {a b : Value} {da db : PyData} {as bs : List Addr} {Q : Value → Shared → Prop}, Reads s.heap a da as → Reads s.heap b db bs → C da db = true → A.units + min da.depth db.depth < cLine → Q (.bool (f da db)) s → wpAny (model prog w) A (compareOp op a b) Q E s) :
    OpR X (compareOp op) (rCmpP X.K C f) := by
  intro pins s σ H x y v u Q I rx ry h
  obtain ⟨d, e, hd, he, hm, hc, q⟩ := h
  obtain ⟨as, r1⟩ := Dp.reads I d x v hd rx
  obtain ⟨bs, r2⟩ := Dp.reads I e y u he ry
  exact rule r1 r2 hc (by omega) ⟨.bl _, H, I, rfl, q⟩
theorem opd_cmp {op : CmpOp} {C f : PyData → PyData → Bool} {C' f' : D → D → Bool} (ho : OpR X (compareOp op) (rCmpP X.K C f)) (hc : ∀ x y : D, C' x y = true → x.pl = true ∧ y.pl = true ∧ min x.py.depth y.py.depth ≤ 60 ∧ C x.py y.py = true) (hf : ∀ x y : D, f' x y = f x.py y.py) :
    OpD X (compareOp op) (fun x y G Q => C' (x.cur G) (y.cur G) = true ∧ Q (.bl (f' (x.cur G) (y.cur G))) G) := by
  refine ⟨_, ho, fun F H G x y dx dy g rx ry Q' h Q k => ?_⟩
  obtain ⟨c, q⟩ := h
  obtain ⟨p1, p2, m, c2⟩ := hc _ _ c
  refine ⟨_, _, cur_dp g rx p1, cur_dp g ry p2, m, c2, ?_⟩
  rw [hf] at q
  exact k F H _ _ G Go.refl g (.bl _) q
theorem okE_of {x y : D} (h : okE x y = true) : x.pl = true ∧ y.pl = true ∧ min x.py.depth y.py.depth ≤ 60 := by
  unfold okE at h
  simp only [Bool.and_eq_true, decide_eq_true_eq] at h
  exact ⟨h.1.1, h.1.2, h.2⟩
theorem od_eq (hu : X.A.units + 100 < cLine) : OpD X (compareOp .Eq) (fun x y G Q => okE (x.cur G) (y.cur G) = true ∧ Q (.bl (D.eqv (x.cur G) (y.cur G))) G) :=
  opd_cmp (C := fun d e => d.plain && e.plain) (f := PyData.eqv) (cmpP_of hu fun r1 r2 c hu' q => by
    simp only [Bool.and_eq_true] at c
    exact SeqAt.eq_plain r1 r2 c.1 c.2 hu' q) (fun x y h => by
    obtain ⟨h1, h2, h3⟩ := okE_of h
    exact ⟨h1, h2, h3, by simp [D.py_plain _ h1, D.py_plain _ h2]⟩) fun _ _ => rfl
theorem od_ne (hu : X.A.units + 100 < cLine) : OpD X (compareOp .NotEq) (fun x y G Q => okE (x.cur G) (y.cur G) = true ∧ Q (.bl (!D.eqv (x.cur G) (y.cur G))) G) :=
  opd_cmp (C := fun d e => d.plain && e.plain) (f := fun d e => !PyData.eqv d e) (f' := fun x y => !D.eqv x y) (cmpP_of hu fun r1 r2 c hu' q => by
    simp only [Bool.and_eq_true] at c
    exact SeqAt.ne_plain r1 r2 c.1 c.2 hu' q) (fun x y h => by
    obtain ⟨h1, h2, h3⟩ := okE_of h
    exact ⟨h1, h2, h3, by simp [D.py_plain _ h1, D.py_plain _ h2]⟩) fun _ _ => rfl
def okL (x y : D) : Bool := okE x y && PySem.W.alike x.py y.py && (match x with | .non => false | _ => true)
def D.lt (x y : D) : Bool := PySem.W.dataLt x.py y.py
def notNone : PyData → Bool
  | .none => false
  | _ => true
theorem notNone_ne {d : PyData} (h : notNone d = true) : d ≠ .none := fun e => by rw [e] at h; cases h
theorem okL_of {x y : D} (h : okL x y = true) : x.pl = true ∧ y.pl = true ∧ min x.py.depth y.py.depth ≤ 60 ∧ (PySem.W.alike x.py y.py && notNone x.py) = true := by
  unfold okL at h
  simp only [Bool.and_eq_true] at h
  obtain ⟨⟨h1, h2⟩, h3⟩ := h
  obtain ⟨p1, p2, p3⟩ := okE_of h1
  refine ⟨p1, p2, p3, ?_⟩
  rw [h2, Bool.true_and]
  cases x <;> first | rfl | (simp [D.pl] at p1; done) | (simp at h3; done)
theorem od_lt (hu : X.A.units + 100 < cLine) : OpD X (compareOp .Lt) (fun x y G Q => okL (x.cur G) (y.cur G) = true ∧ Q (.bl (D.lt (x.cur G) (y.cur G))) G) :=
  opd_cmp (C := fun d e => PySem.W.alike d e && notNone d) (f := PySem.W.dataLt) (cmpP_of hu fun r1 r2 c hu' q => by
    simp only [Bool.and_eq_true] at c
    exact PySem.W.lt_data r1 r2 c.1 (notNone_ne c.2) hu' q) (fun x y h => okL_of h) fun _ _ => rfl
theorem od_gt (hu : X.A.units + 100 < cLine) : OpD X (compareOp .Gt) (fun x y G Q => okL (x.cur G) (y.cur G) = true ∧ Q (.bl (D.lt (y.cur G) (x.cur G))) G) :=
  opd_cmp (C := fun d e => PySem.W.alike d e && notNone d) (f := fun d e => PySem.W.dataLt e d) (f' := fun x y => D.lt y x) (cmpP_of hu fun r1 r2 c hu' q => by
    simp only [Bool.and_eq_true] at c
    exact PySem.W.gt_data r1 r2 c.1 (notNone_ne c.2) hu' q) (fun x y h => okL_of h) fun _ _ => rfl
theorem od_le (hu : X.A.units + 100 < cLine) : OpD X (compareOp .LtE) (fun x y G Q => okL (x.cur G) (y.cur G) = true ∧ Q (.bl (!D.lt (y.cur G) (x.cur G))) G) :=
  opd_cmp (C := fun d e => PySem.W.alike d e && notNone d) (f := fun d e => !PySem.W.dataLt e d) (f' := fun x y => !D.lt y x) (cmpP_of hu fun r1 r2 c hu' q => by
    simp only [Bool.and_eq_true] at c
    exact PySem.W.le_data r1 r2 c.1 (notNone_ne c.2) hu' q) (fun x y h => okL_of h) fun _ _ => rfl
theorem od_ge (hu : X.A.units + 100 < cLine) : OpD X (compareOp .GtE) (fun x y G Q => okL (x.cur G) (y.cur G) = true ∧ Q (.bl (!D.lt (x.cur G) (y.cur G))) G) :=
  opd_cmp (C := fun d e => PySem.W.alike d e && notNone d) (f := fun d e => !PySem.W.dataLt d e) (f' := fun x y => !D.lt x y) (cmpP_of hu fun r1 r2 c hu' q => by
    simp only [Bool.and_eq_true] at c
    exact PySem.W.ge_data r1 r2 c.1 (notNone_ne c.2) hu' q) (fun x y h => okL_of h) fun _ _ => rfl
end
end DL
end
section
set_option Elab.async false
set_option linter.all false
set_option maxRecDepth 100000
set_option maxHeartbeats 4000000
namespace DL
open PySem PySem.Spec PyProof.Rows L2
def valD {κ : Type} [DecidableEq κ] (kds : List (κ × D)) (k : κ) : Option D := (kds.find? fun kv => decide (kv.1 = k)).map (·.2)
def putD {κ : Type} [DecidableEq κ] (kds : List (κ × D)) (k : κ) (d : D) : List (κ × D) :=
  if (kds.any fun kv => decide (kv.1 = k)) = true then kds.map (fun kv => if kv.1 = k then (kv.1, d) else kv) else kds ++ [(k, d)]
structure KR {κ : Type} (K : PySem.W.Frag) (F : Hp) (kvs : List (κ × V)) (kds : List (κ × D)) : Prop where
  ks : kvs.map (·.1) = kds.map (·.1)
  vs : Reps K F (kvs.map (·.2)) (kds.map (·.2))
section
variable {κ : Type} [DecidableEq κ] {K : PySem.W.Frag} {F : Hp}
theorem KR.nil : KR K F ([] : List (κ × V)) [] := ⟨rfl, .nil⟩
theorem KR.cons {k : κ} {v : V} {d : D} {kvs : List (κ × V)} {kds : List (κ × D)} (h : Rep K F v d) (t : KR K F kvs kds) : KR K F ((k, v) :: kvs) ((k, d) :: kds) := ⟨by simp [t.ks], .cons h t.vs⟩
theorem KR.uncons {kvs : List (κ × V)} {k : κ} {d : D} {kds : List (κ × D)} (h : KR K F kvs ((k, d) :: kds)) : ∃ v r, kvs = (k, v) :: r ∧ Rep K F v d ∧ KR K F r kds := by
  obtain ⟨h1, h2⟩ := h
  cases kvs with
  | nil => simp at h1
  | cons p r =>
    obtain ⟨k', v⟩ := p
    simp only [List.map_cons, List.cons.injEq] at h1
    obtain ⟨rfl, h1⟩ := h1
    cases h2 with
    | cons a b => exact ⟨v, r, rfl, a, h1, b⟩
theorem KR.unnil {kvs : List (κ × V)} (h : KR K F kvs []) : kvs = [] := by
  have := h.ks
  simpa using this
theorem KR.mono {F' : Hp} (e : Ex F F') {kvs : List (κ × V)} {kds : List (κ × D)} (h : KR K F kvs kds) : KR K F' kvs kds := ⟨h.ks, h.vs.mono e⟩
theorem KR.append {a b : List (κ × V)} {c d : List (κ × D)} (h : KR K F a c) (h' : KR K F b d) : KR K F (a ++ b) (c ++ d) := ⟨by simp [h.ks, h'.ks], by simpa using h.vs.append h'.vs⟩
theorem KR.len {kvs : List (κ × V)} {kds : List (κ × D)} (h : KR K F kvs kds) : kvs.length = kds.length := by
  have := congrArg List.length h.ks
  simpa using this
theorem KR.val {k : κ} : ∀ {kds : List (κ × D)} {kvs : List (κ × V)}, KR K F kvs kds → (∀ d, valD kds k = some d → ∃ v, valV kvs k = some v ∧ Rep K F v d) ∧ (valD kds k = none → valV kvs k = none)
  | [], kvs, h => by
    obtain rfl := h.unnil
    exact ⟨fun d z => (by cases z), fun _ => rfl⟩
  | (k', d') :: kds, kvs, h => by
    obtain ⟨v, r, rfl, rv, t⟩ := h.uncons
    by_cases e : k' = k
    · have e1 : valD ((k', d') :: kds) k = some d' := by simp [valD, e]
      have e2 : valV ((k', v) :: r) k = some v := valV_pos e
      rw [e1, e2]
      exact ⟨fun d z => (by cases z; exact ⟨v, rfl, rv⟩), fun z => (by cases z)⟩
    · have e1 : valD ((k', d') :: kds) k = valD kds k := by simp [valD, List.find?_cons, e]
      have e2 : valV ((k', v) :: r) k = valV r k := valV_neg e
      rw [e1, e2]
      exact KR.val t
theorem KR.any {k : κ} {kds : List (κ × D)} {kvs : List (κ × V)} (h : KR K F kvs kds) : (kvs.any fun kv => decide (kv.1 = k)) = kds.any fun kv => decide (kv.1 = k) := by
  have e1 : (kvs.any fun kv => decide (kv.1 = k)) = (kvs.map (·.1)).any fun x => decide (x = k) := by simp [List.any_map, Function.comp_def]
  have e2 : (kds.any fun kv => decide (kv.1 = k)) = (kds.map (·.1)).any fun x => decide (x = k) := by simp [List.any_map, Function.comp_def]
  rw [e1, e2, h.ks]
theorem KR.mapd {k : κ} {v : V} {d : D} (r : Rep K F v d) : ∀ {kds : List (κ × D)} {kvs : List (κ × V)}, KR K F kvs kds → KR K F (kvs.map fun kv => if kv.1 = k then (kv.1, v) else kv) (kds.map fun kv => if kv.1 = k then (kv.1, d) else kv)
  | [], kvs, h => by
    obtain rfl := h.unnil
    exact .nil
  | (k', d') :: kds, kvs, h => by
    obtain ⟨v', r', rfl, rv, t⟩ := h.uncons
    simp only [List.map_cons]
    by_cases e : k' = k
    · rw [if_pos e, if_pos e]; exact .cons r (KR.mapd r t)
    · rw [if_neg e, if_neg e]; exact .cons rv (KR.mapd r t)
theorem KR.put {k : κ} {v : V} {d : D} {kds : List (κ × D)} {kvs : List (κ × V)} (h : KR K F kvs kds) (r : Rep K F v d) : KR K F (putK kvs k v) (putD kds k d) := by
  unfold putK putD
  rw [h.any]
  by_cases e : (kds.any fun kv => decide (kv.1 = k)) = true
  · rw [if_pos e, if_pos e]; exact KR.mapd r h
  · rw [if_neg e, if_neg e]; exact h.append (.cons r .nil)
end
def D.key : D → Option Key
  | .int i => some (.inl i)
  | .str x => some (.inr x)
  | _ => none
def D.keys : List D → Option (List Key)
  | [] => some []
  | d :: ds => match d.key, D.keys ds with
    | some k, some ks => some (k :: ks)
    | _, _ => none
theorem Rep.key {K : PySem.W.Frag} {F : Hp} {v : V} {d : D} {k : Key} (r : Rep K F v d) (h : d.key = some k) : v = kV k := by
  cases r <;> first | (cases h; rfl) | cases h
theorem Reps.keys {K : PySem.W.Frag} {F : Hp} : ∀ {vs : List V} {ds : List D} {ks : List Key}, Reps K F vs ds → D.keys ds = some ks → vs = ks.map kV
  | _, _, _, .nil, h => by cases h; rfl
  | _, _, ks, .cons (v := v) (d := d) (ds := ds) a b, h => by
    unfold D.keys at h
    cases e1 : d.key with
    | none => simp [e1] at h
    | some k =>
      cases e2 : D.keys ds with
      | none => simp [e1, e2] at h
      | some r =>
        simp only [e1, e2] at h
        cases h
        rw [a.key e1, b.keys e2]
        rfl
/-- the value at a key, of a dict as it stands: none: no such lookup; some none: not there -/
def D.look (x y : D) : Option (Option D) := match x with
  | .dK kds => y.key.map (valD kds)
  | .dT kds => (match y with
    | .tup ds => (D.keys ds).map (valD kds)
    | _ => none)
  | _ => none
theorem cur_dK {K : PySem.W.Frag} {F H : Hp} {G : GH} {v : V} {d : D} {kds : List (Key × D)} (g : Gok K F H G) (r : Rep K F v d) (p : d.cur G = .dK kds) : ∃ a kvs, v = .ref a ∧ H a = some (.dK kvs) ∧ KR K F kvs kds := by
  cases d with
  | rf a =>
    cases r
    unfold D.cur at p
    cases q : G a with
    | none => simp only [q] at p; cases p
    | some o =>
      cases o with
      | dK kd =>
        simp only [q] at p; cases p
        obtain ⟨kvs, e, h1, h2⟩ := (g.at_ a _ q).2
        exact ⟨a, kvs, rfl, e, h1, h2⟩
      | lst xs => simp only [q] at p; cases p
      | dT kd => simp only [q] at p; cases p
      | ins C kd => simp only [q] at p; cases p
      | deck k1 k2 k3 n => simp only [q] at p; cases p
      | dcell => simp only [q] at p; cases p
      | lkT o kvs kds => simp only [q] at p; cases p
      | dN w kds => simp only [q] at p; cases p
      | lkN w o xs kds => simp only [q] at p; cases p
      | tupU o vs ds => simp only [q] at p; cases p
  | dK kd =>
    cases p
    cases r with
    | dK h h1 h2 => exact ⟨_, _, rfl, g.ex _ _ h, h1, h2⟩
  | _ => cases p
theorem cur_dT {K : PySem.W.Frag} {F H : Hp} {G : GH} {v : V} {d : D} {kds : List (List Key × D)} (g : Gok K F H G) (r : Rep K F v d) (p : d.cur G = .dT kds) : ∃ a kvs, v = .ref a ∧ H a = some (.dT kvs) ∧ KR K F kvs kds := by
  cases d with
  | rf a =>
    cases r
    unfold D.cur at p
    cases q : G a with
    | none => simp only [q] at p; cases p
    | some o =>
      cases o with
      | dT kd =>
        simp only [q] at p; cases p
        obtain ⟨kvs, e, h1, h2⟩ := (g.at_ a _ q).2
        exact ⟨a, kvs, rfl, e, h1, h2⟩
      | lst xs => simp only [q] at p; cases p
      | dK kd => simp only [q] at p; cases p
      | ins C kd => simp only [q] at p; cases p
      | deck k1 k2 k3 n => simp only [q] at p; cases p
      | dcell => simp only [q] at p; cases p
      | lkT o kvs kds => simp only [q] at p; cases p
      | dN w kds => simp only [q] at p; cases p
      | lkN w o xs kds => simp only [q] at p; cases p
      | tupU o vs ds => simp only [q] at p; cases p
  | dT kd =>
    cases p
    cases r with
    | dT h h1 h2 => exact ⟨_, _, rfl, g.ex _ _ h, h1, h2⟩
  | _ => cases p
theorem look_get {K : PySem.W.Frag} {F H : Hp} {G : GH} {v u : V} {x y : D} {o : Option D} (g : Gok K F H G) (r : Rep K F v x) (ry : Rep K F u y) (h : (x.cur G).look y = some o) :
    ∃ a o', v = .ref a ∧ DGet H a u o' ∧ (∀ d, o = some d → ∃ z, o' = some z ∧ Rep K F z d) ∧ (o = none → o' = none) := by
  unfold D.look at h
  cases e : x.cur G with
  | dK kds =>
    simp only [e] at h
    obtain ⟨a, kvs, rfl, ha, kr⟩ := cur_dK g r e
    cases ek : y.key with
    | none => simp [ek] at h
    | some k =>
      simp only [ek, Option.map_some, Option.some.injEq] at h
      rw [ry.key ek]
      refine ⟨a, _, rfl, DGet.k (k := k) ha, fun d z => ?_, fun z => ?_⟩
      · obtain ⟨v, h1, h2⟩ := kr.val.1 d (h.trans z)
        exact ⟨v, h1, h2⟩
      · exact kr.val.2 (h.trans z)
  | dT kds =>
    simp only [e] at h
    obtain ⟨a, kvs, rfl, ha, kr⟩ := cur_dT g r e
    cases ry with
    | tup hb rs =>
      simp only at h
      rename_i ds
      cases ek : D.keys ds with
      | none => simp [ek] at h
      | some k =>
        simp only [ek, Option.map_some, Option.some.injEq] at h
        have eb := rs.keys ek
        subst eb
        refine ⟨a, _, rfl, DGet.t (k := k) ha (g.ex _ _ hb), fun d z => ?_, fun z => ?_⟩
        · obtain ⟨v, h1, h2⟩ := kr.val.1 d (h.trans z)
          exact ⟨v, h1, h2⟩
        · exact kr.val.2 (h.trans z)
    | _ => simp at h
  | _ => simp [e] at h
section
variable {X : Cx} {pos : Pos}
def rAddD : DR2 := fun x y G Q => match x.cur G, y.cur G with
  | .int i, .int j => Q (.int (i + j)) G
  | .str a, .str b => a.length + b.length ≤ sizeLine ∧ Q (.str (a ++ b)) G
  | .tup a, .tup b => a.length + b.length ≤ sizeLine ∧ Q (.tup (a ++ b)) G
  | .lst a, .lst b => a.length + b.length ≤ sizeLine ∧ Q (.lst (a ++ b)) G
  | _, _ => False
theorem cur_int {K : PySem.W.Frag} {F : Hp} {G : GH} {v : V} {d : D} {i : Int} (r : Rep K F v d) (h : d.cur G = .int i) : v = .int i := by
  cases d with
  | rf a =>
    unfold D.cur at h
    cases q : G a with
    | none => simp only [q] at h; cases h
    | some o => cases o <;> (simp only [q] at h; cases h)
  | int j => cases h; cases r; rfl
  | _ => cases h
theorem cur_str {K : PySem.W.Frag} {F : Hp} {G : GH} {v : V} {d : D} {i : Str} (r : Rep K F v d) (h : d.cur G = .str i) : v = .str i := by
  cases d with
  | rf a =>
    unfold D.cur at h
    cases q : G a with
    | none => simp only [q] at h; cases h
    | some o => cases o <;> (simp only [q] at h; cases h)
  | str j => cases h; cases r; rfl
  | _ => cases h
theorem cur_tup {K : PySem.W.Frag} {F : Hp} {G : GH} {v : V} {d : D} {ds : List D} (r : Rep K F v d) (h : d.cur G = .tup ds) : ∃ a vs, v = .ref a ∧ F a = some (.tup vs) ∧ Reps K F vs ds := by
  cases d with
  | rf a =>
    unfold D.cur at h
    cases q : G a with
    | none => simp only [q] at h; cases h
    | some o => cases o <;> (simp only [q] at h; cases h)
  | tup j =>
    cases h
    cases r with
    | tup ha rs => exact ⟨_, _, rfl, ha, rs⟩
  | _ => cases h
theorem od_add : OpD X (binaryOp .Add) rAddD := by
  refine ⟨_, op_add.or (op_add_str.or (op_catA.or op_cat)), fun F H G x y dx dy g rx ry Q' h Q k => ?_⟩
  unfold rAddD at h
  split at h
  · rename_i i j e1 e2
    exact .inl ⟨i, j, cur_int rx e1, cur_int ry e2, k F H _ _ G Go.refl g (.int _) h⟩
  · rename_i a b e1 e2
    exact .inr (.inl ⟨a, b, cur_str rx e1, cur_str ry e2, h.1, k F H _ _ G Go.refl g (.str _) h.2⟩)
  · rename_i a b e1 e2
    obtain ⟨p, xs, rfl, hp, r1⟩ := cur_tup rx e1
    obtain ⟨q, ys, rfl, hq, r2⟩ := cur_tup ry e2
    refine .inr (.inr (.inl ⟨p, q, xs, ys, rfl, rfl, .inl (.inl (g.ex _ _ hp)), .inl (.inl (g.ex _ _ hq)), by rw [r1.length, r2.length]; exact h.1, fun z => ?_, fun z1 z2 => ?_, fun z1 z2 p' hp' => ?_⟩))
    · subst z
      cases r1
      exact k F H _ _ G Go.refl g (.tup hq r2) h.2
    · subst z2
      cases r2
      have h2 := h.2
      rw [List.append_nil] at h2
      exact k F H _ _ G Go.refl g (.tup hp r1) h2
    · have gr : Gr F H (upd F p' (.tup (xs ++ ys))) (upd H p' (.tup (xs ++ ys))) := Gr.new g.ex hp'
      exact k _ _ _ _ G gr.go (g.grow gr) (.tup upd_same ((r1.append r2).mono gr.ff)) h.2
  · rename_i a b e1 e2
    obtain ⟨p, xs, rfl, hp, r1⟩ := cur_list g rx e1
    obtain ⟨q, ys, rfl, hq, r2⟩ := cur_list g ry e2
    refine .inr (.inr (.inr ⟨p, q, xs, ys, rfl, rfl, hp, hq, by rw [r1.length, r2.length]; exact h.1, fun p' hp' => ?_⟩))
    have gr : Gr F H (upd F p' (.lst (xs ++ ys))) (upd H p' (.lst (xs ++ ys))) := Gr.new g.ex hp'
    exact k _ _ _ _ G gr.go (g.grow gr) (.lst upd_same ((r1.append r2).mono gr.ff)) h.2
  · exact h.elim
def rIntD (C : Int → Int → Prop) (f : Int → Int → Int) : DR2 := fun x y G Q => match x, y with
  | .int i, .int j => C i j ∧ Q (.int (f i j)) G
  | _, _ => False
theorem od_int {op : Operator} {C : Int → Int → Prop} {f : Int → Int → Int} (h : OpR X (binaryOp op) (rI C fun i j => .int (f i j))) : OpD X (binaryOp op) (rIntD C f) := by
  refine ⟨_, h, fun F H G x y dx dy g rx ry Q' h Q k => ?_⟩
  unfold rIntD at h
  split at h
  · cases rx; cases ry
    exact ⟨_, _, rfl, rfl, h.1, k F H _ _ G Go.refl g (.int _) h.2⟩
  · exact h.elim
theorem od_sub : OpD X (binaryOp .Sub) (rIntD (fun _ _ => True) fun i j => i - j) := by
  refine ⟨_, op_sub, fun F H G x y dx dy g rx ry Q' h Q k => ?_⟩
  unfold rIntD at h
  split at h
  · cases rx; cases ry
    exact ⟨_, _, rfl, rfl, k F H _ _ G Go.refl g (.int _) h.2⟩
  · exact h.elim
theorem od_fdiv : OpD X (binaryOp .FloorDiv) (rIntD CDiv fun i j => i / j) := od_int op_fdiv
theorem od_mod : OpD X (binaryOp .Mod) (rIntD (fun _ j => 0 < j) fun i j => i % j) := od_int op_mod
theorem od_pow : OpD X (binaryOp .Pow) (rIntD CPow fun i j => i ^ j.toNat) := od_int op_pow
def rMulD : DR2 := fun x y G Q => match x.cur G, y.cur G with
  | .int i, .int j => CMul i j ∧ Q (.int (i * j)) G
  | .lst a, .int j => -(2 ^ 63) ≤ j ∧ j < 2 ^ 63 ∧ a.length * j.toNat ≤ sizeLine ∧ Q (.lst (List.replicate j.toNat a).flatten) G
  | _, _ => False
theorem Reps.rep {K : PySem.W.Frag} {F : Hp} {vs : List V} {ds : List D} (r : Reps K F vs ds) : ∀ n : Nat, Reps K F (List.replicate n vs).flatten (List.replicate n ds).flatten
  | 0 => .nil
  | n + 1 => by
    rw [List.replicate_succ, List.replicate_succ, List.flatten_cons, List.flatten_cons]
    exact r.append (Reps.rep r n)
theorem od_mul : OpD X (binaryOp .Mult) rMulD := by
  refine ⟨_, op_mul.or op_rep, fun F H G x y dx dy g rx ry Q' h Q k => ?_⟩
  unfold rMulD at h
  split at h
  · rename_i i j e1 e2
    exact .inl ⟨i, j, cur_int rx e1, cur_int ry e2, h.1, k F H _ _ G Go.refl g (.int _) h.2⟩
  · rename_i a j e1 e2
    obtain ⟨p, xs, rfl, hp, r1⟩ := cur_list g rx e1
    obtain ⟨h1, h2, h3, h4⟩ := h
    refine .inr ⟨p, j, xs, rfl, cur_int ry e2, hp, h1, h2, by rw [r1.length]; exact h3, fun p' hp' => ?_⟩
    have gr := Gr.new (u := .lst (List.replicate j.toNat xs).flatten) g.ex hp'
    exact k _ _ _ _ G gr.go (g.grow gr) (.lst upd_same ((r1.rep _).mono gr.ff)) h4
  · exact h.elim
def rNegD : DR1 := fun x G Q => match x with
  | .int i => Q (.int (-i)) G
  | _ => False
theorem ud_neg : UnD X (unaryOp .USub) rNegD := by
  refine ⟨_, un_neg, fun F H G x dx g rx Q' h Q k => ?_⟩
  unfold rNegD at h
  split at h
  · cases rx
    exact ⟨_, rfl, k F H _ _ G Go.refl g (.int _) h⟩
  · exact h.elim
def D.isNon : D → Bool
  | .non => true
  | _ => false
theorem Rep.isNon {K : PySem.W.Frag} {F : Hp} {v : V} {d : D} (r : Rep K F v d) : decide (v = .non) = d.isNon := by
  cases r <;> first | rfl | exact decide_eq_false (by intro h; cases h)
theorem od_isN : OpD X (compareOp .Is) (fun x y G Q => match y with | .non => Q (.bl x.isNon) G | _ => False) := by
  refine ⟨_, op_isN, fun F H G x y dx dy g rx ry Q' h Q k => ?_⟩
  split at h
  · cases ry
    refine ⟨rfl, ?_⟩
    rw [rx.isNon]
    exact k F H _ _ G Go.refl g (.bl _) h
  · exact h.elim
theorem od_notN : OpD X (compareOp .IsNot) (fun x y G Q => match y with | .non => Q (.bl (!x.isNon)) G | _ => False) := by
  refine ⟨_, op_notN, fun F H G x y dx dy g rx ry Q' h Q k => ?_⟩
  split at h
  · cases ry
    refine ⟨rfl, ?_⟩
    rw [rx.isNon]
    exact k F H _ _ G Go.refl g (.bl _) h
  · exact h.elim
def strIn (x z : Str) : Bool := !(Builtin.Str.occurrences z x 0 z.length 1).isEmpty
def okI (x : D) (ys : List D) : Bool := x.pl && D.pls ys && decide (min (PyData.depthAll (D.pys ys)) x.py.depth ≤ 60)
def D.isIn (x : D) (ys : List D) : Bool := (D.pys ys).any fun z => PyData.eqv z x.py
/-- x in y: none where it is not served -/
def D.inn (x y : D) : Option Bool := match y with
  | .str z => (match x with
    | .str w => some (strIn w z)
    | _ => none)
  | .lst ys => if okI x ys = true then some (x.isIn ys) else none
  | .tup ys => if okI x ys = true then some (x.isIn ys) else none
  | y => (y.look x).map Option.isSome
def rInP (K : PySem.W.Frag) (neg : Bool) : R2 := fun x y H Q => ∃ d ds b, Dp K H x d ∧ (Dp K H y (.list ds) ∨ Dp K H y (.tuple ds)) ∧ d.plain = true ∧ PyData.plainAll ds = true ∧ min (PyData.depthAll ds) d.depth ≤ 60 ∧ b = (if neg then !(ds.any fun z => PyData.eqv z d) else ds.any fun z => PyData.eqv z d) ∧ Q (.bl b) H
def rInDict (neg : Bool) : R2 := fun x y H Q => ∃ a o, y = .ref a ∧ DGet H a x o ∧ Q (.bl (if neg then !o.isSome else o.isSome)) H
theorem op_inP (hu : X.A.units + 100 < cLine) : OpR X (compareOp .In) (rInP X.K false) := by
  intro pins s σ H x y v u Q I rx ry h
  obtain ⟨d, ds, b, hd, hy, p1, p2, hm, rfl, q⟩ := h
  obtain ⟨as, r1⟩ := Dp.reads I d x v hd rx
  rcases hy with hy | hy
  · obtain ⟨bs, r2⟩ := Dp.reads I _ y u hy ry
    exact SeqAt.in_list_data r2 r1 p2 p1 (by omega) ⟨.bl _, H, I, rfl, q⟩
  · obtain ⟨bs, r2⟩ := Dp.reads I _ y u hy ry
    exact SeqAt.in_tuple_data r2 r1 p2 p1 (by omega) ⟨.bl _, H, I, rfl, q⟩
theorem op_notInP (hu : X.A.units + 100 < cLine) : OpR X (compareOp .NotIn) (rInP X.K true) := by
  intro pins s σ H x y v u Q I rx ry h
  obtain ⟨d, ds, b, hd, hy, p1, p2, hm, rfl, q⟩ := h
  obtain ⟨as, r1⟩ := Dp.reads I d x v hd rx
  rcases hy with hy | hy
  · obtain ⟨bs, r2⟩ := Dp.reads I _ y u hy ry
    exact SeqAt.notIn_list_data r2 r1 p2 p1 (by omega) ⟨.bl _, H, I, rfl, q⟩
  · obtain ⟨bs, r2⟩ := Dp.reads I _ y u hy ry
    exact SeqAt.notIn_tuple_data r2 r1 p2 p1 (by omega) ⟨.bl _, H, I, rfl, q⟩
theorem op_inDict (hu : X.A.units + 100 < cLine) : OpR X (compareOp .In) (rInDict false) := by
  intro pins s σ H x y v u Q I rx ry h
  obtain ⟨a, o, rfl, g, q⟩ := h
  obtain rfl : u = Value.ref a := ry
  exact d_in (by omega) I g rx fun s' I' => ⟨.bl _, H, I', rfl, q⟩
theorem op_notInDict (hu : X.A.units + 100 < cLine) : OpR X (compareOp .NotIn) (rInDict true) := by
  intro pins s σ H x y v u Q I rx ry h
  obtain ⟨a, o, rfl, g, q⟩ := h
  obtain rfl : u = Value.ref a := ry
  exact d_notIn (by omega) I g rx fun s' I' => ⟨.bl _, H, I', rfl, q⟩
theorem in_core {neg : Bool} {r : R2} (hs : ∀ x y H Q, (∃ i j, x = V.str i ∧ y = V.str j ∧ Q (.bl (if neg then !(strIn i j) else strIn i j)) H) → r x y H Q) (hl : ∀ x y H Q, rInP X.K neg x y H Q → r x y H Q) (hd : ∀ x y H Q, rInDict neg x y H Q → r x y H Q)
    {F H : Hp} {G : GH} {x y : V} {dx dy : D} (g : Gok X.K F H G) (rx : Rep X.K F x dx) (ry : Rep X.K F y dy) {Q' : DQ} {b : Bool} (h : D.inn dx (dy.cur G) = some b) (q : Q' (.bl (if neg then !b else b)) G) {Q : VK} (k : KpE X.K F H G Q' Q) : r x y H Q := by
  have fin : Q (.bl (if neg then !b else b)) H := k F H _ _ G Go.refl g (.bl _) q
  unfold D.inn at h
  have seqs : ∀ (ys : List D), okI dx ys = true → dx.isIn ys = b → (Dp X.K H y (.list (D.pys ys)) ∨ Dp X.K H y (.tuple (D.pys ys))) → r x y H Q := by
    intro ys ok e hy
    unfold okI at ok
    simp only [Bool.and_eq_true, decide_eq_true_eq] at ok
    obtain ⟨⟨p1, p2⟩, p3⟩ := ok
    refine hl _ _ _ _ ⟨dx.py, D.pys ys, _, ?_, hy, D.py_plain _ p1, D.pys_plain _ p2, p3, rfl, ?_⟩
    · exact Dp.mono' g.ex _ (Rep.dp _ rx p1)
    · unfold D.isIn at e
      rw [e]
      exact fin
  split at h
  · rename_i z e
    split at h
    · cases h
      cases rx
      exact hs _ _ _ _ ⟨_, _, rfl, cur_str ry e, fin⟩
    · cases h
  · rename_i ys e
    split at h
    · rename_i ok
      cases h
      obtain ⟨a, vs, rfl, ha, rs⟩ := cur_list g ry e
      unfold okI at ok
      simp only [Bool.and_eq_true, decide_eq_true_eq] at ok
      refine seqs ys (by unfold okI; simp [ok]) rfl (.inl (.lst (.inl (.inl ha)) (DpAll.mono' g.ex _ (Reps.dp _ rs ok.1.2))))
    · cases h
  · rename_i ys e
    split at h
    · rename_i ok
      cases h
      obtain ⟨a, vs, rfl, ha, rs⟩ := cur_tup ry e
      unfold okI at ok
      simp only [Bool.and_eq_true, decide_eq_true_eq] at ok
      refine seqs ys (by unfold okI; simp [ok]) rfl (.inr (.tup (.inl (.inl (g.ex _ _ ha))) (DpAll.mono' g.ex _ (Reps.dp _ rs ok.1.2))))
    · cases h
  · cases e : (dy.cur G).look dx with
    | none => rw [e] at h; cases h
    | some o =>
      rw [e] at h
      cases h
      obtain ⟨a, o', rfl, dg, h1, h2⟩ := look_get g ry rx e
      refine hd _ _ _ _ ⟨a, o', rfl, dg, ?_⟩
      have eo : o'.isSome = o.isSome := by
        cases o with
        | none => simp [h2 rfl]
        | some d =>
          obtain ⟨z, ez, _⟩ := h1 d rfl
          rw [ez]; rfl
      rw [eo]
      exact fin
theorem od_in (hu : X.A.units + 100 < cLine) : OpD X (compareOp .In) (fun x y G Q => match D.inn x (y.cur G) with | some b => Q (.bl b) G | none => False) := by
  refine ⟨_, op_in_str.or ((op_inP hu).or (op_inDict hu)), fun F H G x y dx dy g rx ry Q' h Q k => ?_⟩
  split at h
  · rename_i b e
    exact in_core (neg := false) (r := fun x y H Q => (∃ i j, x = .str i ∧ y = .str j ∧ Q (.bl (!(Builtin.Str.occurrences j i 0 j.length 1).isEmpty)) H) ∨ rInP X.K false x y H Q ∨ rInDict false x y H Q) (fun x y H Q h => .inl h) (fun x y H Q h => .inr (.inl h)) (fun x y H Q h => .inr (.inr h)) g rx ry e h k
  · exact h.elim
theorem od_notIn (hu : X.A.units + 100 < cLine) : OpD X (compareOp .NotIn) (fun x y G Q => match D.inn x (y.cur G) with | some b => Q (.bl (!b)) G | none => False) := by
  refine ⟨_, op_notin_str.or ((op_notInP hu).or (op_notInDict hu)), fun F H G x y dx dy g rx ry Q' h Q k => ?_⟩
  split at h
  · rename_i b e
    exact in_core (neg := true) (r := fun x y H Q => (∃ i j, x = .str i ∧ y = .str j ∧ Q (.bl (!(!(Builtin.Str.occurrences j i 0 j.length 1).isEmpty))) H) ∨ rInP X.K true x y H Q ∨ rInDict true x y H Q) (fun x y H Q h => .inl h) (fun x y H Q h => .inr (.inl h)) (fun x y H Q h => .inr (.inr h)) g rx ry e h k
  · exact h.elim
end
end DL
end
section
set_option Elab.async false
set_option linter.all false
set_option maxRecDepth 100000
set_option maxHeartbeats 4000000
namespace DL
open PySem PySem.Spec PyProof.Rows L2
theorem atI_rep {K : PySem.W.Frag} {F : Hp} {vs : List V} {ds : List D} {i : Int} {d : D} (r : Reps K F vs ds) (h : atI ds i = some d) : ∃ v, atI vs i = some v ∧ Rep K F v d := by
  unfold atI at h ⊢
  rw [r.length]
  cases e : ixN ds.length i with
  | none => rw [e] at h; cases h
  | some j =>
    rw [e] at h
    exact r.get h
def D.item (x y : D) : Option D := match x with
  | .tup xs => (match y with
    | .int i => atI xs i
    | _ => none)
  | .lst xs => (match y with
    | .int i => atI xs i
    | _ => none)
  | .str z => (match y with
    | .int i => if z.length ≤ sizeLine then (atI z.cps.toList i).map fun c => .str ⟨#[c]⟩ else none
    | _ => none)
  | x => (x.look y).join
def cutD {α : Type} (xs : List α) (lo hi : Option Int) : List α := (xs.drop (HT.sIx xs.length 0 lo)).take (HT.sIx xs.length xs.length hi - HT.sIx xs.length 0 lo)
theorem Reps.cut {K : PySem.W.Frag} {F : Hp} {vs : List V} {ds : List D} (r : Reps K F vs ds) (lo hi : Option Int) : Reps K F (cutV vs lo hi) (cutD ds lo hi) := by
  unfold cutV cutD
  rw [r.length]
  exact (r.drop _).take _
def putFD (f : Str) (d : D) : List (Str × D) → List (Str × D)
  | [] => [(f, d)]
  | p :: r => if p.1 = f then (f, d) :: r else p :: putFD f d r
theorem KR.look {K : PySem.W.Frag} {F : Hp} {f : Str} : ∀ {kds : List (Str × D)} {kvs : List (Str × V)}, KR K F kvs kds → (∀ d, kds.lookup f = some d → ∃ v, kvs.lookup f = some v ∧ Rep K F v d) ∧ (kds.lookup f = none → kvs.lookup f = none)
  | [], kvs, h => by
    obtain rfl := h.unnil
    exact ⟨fun d z => (by cases z), fun _ => rfl⟩
  | (k', d') :: kds, kvs, h => by
    obtain ⟨v, r, rfl, rv, t⟩ := h.uncons
    by_cases e : f = k'
    · subst e
      simp only [List.lookup_cons, beq_self_eq_true]
      exact ⟨fun d z => (by cases z; exact ⟨v, rfl, rv⟩), fun z => (by cases z)⟩
    · have e' : (f == k') = false := by simpa using e
      simp only [List.lookup_cons, e']
      exact KR.look t
theorem KR.putF {K : PySem.W.Frag} {F : Hp} {f : Str} {v : V} {d : D} (rv : Rep K F v d) : ∀ {kds : List (Str × D)} {kvs : List (Str × V)}, KR K F kvs kds → KR K F (L2.putF f v kvs) (putFD f d kds)
  | [], kvs, h => by
    obtain rfl := h.unnil
    exact .cons rv .nil
  | (k', d') :: kds, kvs, h => by
    obtain ⟨v', r, rfl, rv', t⟩ := h.uncons
    unfold L2.putF putFD
    by_cases e : k' = f
    · subst e
      simp only [if_pos]
      exact .cons rv t
    · simp only [if_neg e]
      exact .cons rv' (KR.putF rv t)
theorem cur_obj {K : PySem.W.Frag} {F H : Hp} {G : GH} {v : V} {d : D} {C : Addr} {kds : List (Str × D)} (g : Gok K F H G) (r : Rep K F v d) (p : d.cur G = .obj C kds) : ∃ a dx kvs, v = .ref a ∧ H a = some (.ins C dx kvs) ∧ KR K F kvs kds := by
  cases d with
  | rf a =>
    cases r
    unfold D.cur at p
    cases q : G a with
    | none => simp only [q] at p; cases p
    | some o =>
      cases o with
      | ins C' kd =>
        simp only [q] at p; cases p
        obtain ⟨dx, kvs, e, h1, h2⟩ := (g.at_ a _ q).2
        exact ⟨a, dx, kvs, rfl, e, h1, h2⟩
      | lst xs => simp only [q] at p; cases p
      | dK kd => simp only [q] at p; cases p
      | dT kd => simp only [q] at p; cases p
      | deck k1 k2 k3 n => simp only [q] at p; cases p
      | dcell => simp only [q] at p; cases p
      | lkT o kvs kds => simp only [q] at p; cases p
      | dN w kds => simp only [q] at p; cases p
      | lkN w o xs kds => simp only [q] at p; cases p
      | tupU o vs ds => simp only [q] at p; cases p
  | obj C' kd =>
    cases p
    cases r with
    | obj h h1 h2 => exact ⟨_, _, _, rfl, g.ex _ _ h, h1, h2⟩
  | _ => cases p
section
variable {X : Cx} {pos : Pos}
def rIxDict : R2 := fun x y H Q => ∃ a v, x = .ref a ∧ DGet H a y (some v) ∧ Q v H
theorem ix_dict (hu : X.A.units + 100 < cLine) : IxR X rIxDict := by
  intro value slice pins s σ H x y v u Q I rx ry h hs
  obtain ⟨a, z, rfl, g, q⟩ := h
  obtain rfl : v = Value.ref a := rx
  exact tail_any (dict_typeIs I g) PySem.F.slot_dict_getitem.lookup (d_getItem (by omega) I g ry fun w' s' I' r' => ⟨z, H, I', r', q⟩) hs
def rItem : DR2 := fun x y G Q => match D.item (x.cur G) y with
  | some d => Q d G
  | none => False
theorem de_ix {a b : Expr} {ta tb : DTE} (hu : X.A.units + 100 < cLine) (ha : DE X a ta) (hb : DE X b tb) (hs : PlainIx b := by intro _ _; rfl) : DE X (.Subscript a b pos) (dOp rItem ta tb) := by
  obtain ⟨t1, p1, r1⟩ := ha.ex
  obtain ⟨t2, p2, r2⟩ := hb.ex
  refine ⟨_, pe_ix ((ix_seq (X := X)).or (ix_dict hu)) p1 p2 hs, dop_of (a := a) (b := b) ?_ r1 r2⟩
  intro F H G x y dx dy g rx ry Q' h Q k
  unfold rItem at h
  split at h
  · rename_i d e
    have fin : ∀ v, Rep X.K F v d → Q v H := fun v r => k F H _ _ G Go.refl g r h
    unfold D.item at e
    split at e
    · rename_i xs ex
      split at e
      · cases ry
        obtain ⟨p, vs, rfl, hp, rs⟩ := cur_tup rx ex
        obtain ⟨v, hv, rv⟩ := atI_rep rs e
        exact .inl (.inr (.inl ⟨p, vs, _, v, rfl, rfl, .inl (.inl (g.ex _ _ hp)), hv, fin v rv⟩))
      · cases e
    · rename_i xs ex
      split at e
      · cases ry
        obtain ⟨p, vs, rfl, hp, rs⟩ := cur_list g rx ex
        obtain ⟨v, hv, rv⟩ := atI_rep rs e
        exact .inl (.inl ⟨p, vs, _, v, rfl, rfl, .inl (.inl hp), hv, fin v rv⟩)
      · cases e
    · rename_i z ex
      split at e
      · cases ry
        split at e
        · rename_i hz
          rename_i i
          cases ec : atI z.cps.toList i with
          | none => rw [ec] at e; cases e
          | some c =>
            rw [ec] at e
            cases e
            exact .inl (.inr (.inr ⟨z, _, c, cur_str rx ex, rfl, hz, ec, fin _ (.str _)⟩))
        · cases e
      · cases e
    · cases el : (dx.cur G).look dy with
      | none => rw [el] at e; cases e
      | some o =>
        rw [el] at e
        have e' : o = some d := e
        obtain ⟨a', o', rfl, dg, h1, _⟩ := look_get g rx ry el
        obtain ⟨z, rfl, rz⟩ := h1 d e'
        exact .inr ⟨a', z, rfl, dg, fin z rz⟩
  · exact h.elim
abbrev DTO := DS → GH → (Option Int → GH → Prop) → Prop
structure DO (X : Cx) (e : Option Expr) (t' : DTO) : Prop where
  ex : ∃ t, PO X e t ∧ ∀ F H σ S G, Ok X.K F H σ S G → ∀ Q', t' S G Q' → ∀ Q : Option Int → Hp → Prop, (∀ F' H' o G', Go F H G F' H' G' → Gok X.K F' H' G' → Q' o G' → Q o H') → t σ H Q
def dNoPart : DTO := fun _ G Q => Q none G
def dPart (ta : DTE) : DTO := fun S G Q => ta S G fun d G1 => match d with
  | .int i => Q (some i) G1
  | _ => False
theorem do_none : DO X none dNoPart := ⟨_, po_none, fun F H σ S G o Q' h Q k => k F H none G Go.refl o.g h⟩
theorem do_some {e : Expr} {ta : DTE} (h : DE X e ta) : DO X (some e) (dPart ta) := by
  obtain ⟨t1, p1, r1⟩ := h.ex
  refine ⟨_, po_some p1, fun F H σ S G o Q' h Q k => ?_⟩
  refine r1 F H σ S G o _ h _ fun F1 H1 v d G1 e1 g1 q1 h1 => ?_
  dsimp only at h1
  split at h1
  · cases q1
    exact ⟨_, rfl, k F1 H1 _ G1 e1 g1 h1⟩
  · exact h1.elim
def rSlice (x : D) (lo hi : Option Int) (G : GH) (Q : DQ) : Prop := match x.cur G with
  | .tup xs => Q (.tup (cutD xs lo hi)) G
  | .lst xs => Q (.lst (cutD xs lo hi)) G
  | .str z => z.length ≤ sizeLine ∧ Q (.str (cutS z lo hi)) G
  | .scr ns => Q (.lst ((cutD ns lo hi).map .int)) G
  | _ => False
def dSlice (ta : DTE) (tl th : DTO) : DTE := fun S G Q => ta S G fun x G1 => tl S G1 fun lo G2 => th S G2 fun hi G3 => rSlice x lo hi G3 Q
theorem Reps.ints {K : PySem.W.Frag} {F : Hp} : ∀ (ns : List Int), Reps K F (ns.map V.int) (ns.map D.int)
  | [] => .nil
  | n :: ns => .cons (.int n) (Reps.ints ns)
theorem de_slice {e : Expr} {lo hi : Option Expr} {ta : DTE} {tl th : DTO} {p2 : Pos} (he : DE X e ta) (hl : DO X lo tl) (hh : DO X hi th) : DE X (.Subscript e (.Slice lo hi none p2) pos) (dSlice ta tl th) := by
  obtain ⟨t1, p1, r1⟩ := he.ex
  obtain ⟨t2, p2', r2⟩ := hl.ex
  obtain ⟨t3, p3, r3⟩ := hh.ex
  refine ⟨_, pe_slice ((sl_tupA (X := X)).or ((sl_list (X := X)).or (sl_str (X := X)))) p1 p2' p3, fun F H σ S G o Q' h Q k => ?_⟩
  refine r1 F H σ S G o _ h _ fun F1 H1 v d G1 e1 g1 q1 h1 => ?_
  refine r2 F1 H1 σ S G1 (o.go e1 g1) _ h1 _ fun F2 H2 lo G2 e2 g2 h2 => ?_
  refine r3 F2 H2 σ S G2 ((o.go e1 g1).go e2 g2) _ h2 _ fun F3 H3 hi G3 e3 g3 h3 => ?_
  have r := (q1.mono e2.ex).mono e3.ex
  have kk := k.mono ((e1.trans e2).trans e3)
  unfold rSlice at h3
  split at h3
  · rename_i xs ex
    obtain ⟨p, vs, rfl, hp, rs⟩ := cur_tup r ex
    refine .inl ⟨p, vs, rfl, .inl (.inl (g3.ex _ _ hp)), fun z => ?_, fun _ p' hp' => ?_⟩
    · have ec : cutD xs lo hi = xs := by
        unfold cutD
        rw [rs.length] at z
        rw [z.1, z.2]
        simp
      rw [ec] at h3
      exact kk F3 H3 _ _ G3 Go.refl g3 (.tup hp rs) h3
    · have gr := Gr.new (u := .tup (cutV vs lo hi)) g3.ex hp'
      exact kk _ _ _ _ G3 gr.go (g3.grow gr) (.tup upd_same ((rs.cut lo hi).mono gr.ff)) h3
  · rename_i xs ex
    obtain ⟨p, vs, rfl, hp, rs⟩ := cur_list g3 r ex
    refine .inr (.inl ⟨p, vs, rfl, .inl (.inl hp), fun p' hp' => ?_⟩)
    have gr := Gr.new (u := .lst (cutV vs lo hi)) g3.ex hp'
    exact kk _ _ _ _ G3 gr.go (g3.grow gr) (.lst upd_same ((rs.cut lo hi).mono gr.ff)) h3
  · rename_i z ex
    exact .inr (.inr ⟨z, cur_str r ex, h3.1, kk F3 H3 _ _ G3 Go.refl g3 (.str _) h3.2⟩)
  · rename_i ns ex
    have hd : d = .scr ns := by
      cases d with
      | rf a =>
        unfold D.cur at ex
        cases q : G3 a with
        | none => simp only [q] at ex; cases ex
        | some o => cases o <;> (simp only [q] at ex; cases ex)
      | _ => exact ex
    subst hd
    cases r with
    | scr hs =>
      refine .inr (.inl ⟨_, ns.map V.int, rfl, g3.ex.sql hs, fun p' hp' => ?_⟩)
      have gr := Gr.new (u := .lst (cutV (ns.map V.int) lo hi)) g3.ex hp'
      have rc : Reps X.K F3 (cutV (ns.map V.int) lo hi) ((cutD ns lo hi).map .int) := by
        have := (Reps.ints (K := X.K) (F := F3) ns).cut lo hi
        have e : cutD (ns.map D.int) lo hi = (cutD ns lo hi).map .int := by
          unfold cutD
          simp [List.map_take, List.map_drop]
        rw [e] at this
        exact this
      exact kk _ _ _ _ G3 gr.go (g3.grow gr) (.lst upd_same (rc.mono gr.ff)) h3
  · exact h3.elim
def dFld (C : Addr) (f : Str) (ta : DTE) : DTE := fun S G Q => ta S G fun d G1 => match d.cur G1 with
  | .obj C' fs => C' = C ∧ (match fs.lookup f with
    | some v => Q v G1
    | none => False)
  | _ => False
theorem de_fld {e : Expr} {f : Str} {C : Addr} {ta : DTE} (c : Cls X.K C) (na : NoAttr X.K C f) (he : DE X e ta) (hb : attributeBase e f X.env (eval e X.env) = eval e X.env := by rfl) : DE X (.Attribute e f pos) (dFld C f ta) := by
  obtain ⟨t1, p1, r1⟩ := he.ex
  refine ⟨_, pe_fld p1 hb, fun F H σ S G o Q' h Q k => ?_⟩
  refine r1 F H σ S G o _ h _ fun F1 H1 v d G1 e1 g1 q1 h1 => ?_
  dsimp only at h1
  split at h1
  · rename_i C' fs ex
    obtain ⟨rfl, h1⟩ := h1
    obtain ⟨a, dx, kvs, rfl, ha, kr⟩ := cur_obj g1 q1 ex
    split at h1
    · rename_i z ez
      obtain ⟨y, hy, ry⟩ := kr.look.1 _ ez
      exact ⟨a, C', dx, kvs, y, rfl, ha, c, na, hy, k F1 H1 _ _ G1 e1 g1 ry h1⟩
    · exact h1.elim
  · exact h1.elim
def dSetFld (C : Addr) (f : Str) (ta tv : DTE) : DTS := fun D' S G => tv S G fun y G1 => ta S G1 fun x G2 => match x with
  | .rf a => (match G2 a with
    | some (.ins C' fs) => C' = C ∧ fs.length < 1000 ∧ D'.nx S (gput G2 a (.ins C (putFD f y fs)))
    | _ => False)
  | _ => False
theorem dp_setFld {e value : Expr} {f : Str} {C : Addr} {ta tv : DTE} {pos' : Pos} (c : Cls X.K C) (na : NoAttr X.K C f) (he : DE X e ta) (hv : DE X value tv) (hs : swapsWith value (some (.Attribute e f pos')) pos.line X.env = pure false := by rfl) :
    DP X (.Assign [.Attribute e f pos'] value pos) (dSetFld C f ta tv) := by
  obtain ⟨t1, p1, r1⟩ := he.ex
  obtain ⟨t2, p2, r2⟩ := hv.ex
  refine ⟨_, ps_fld p1 p2 hs, fun F H σ S G o D' h D0 k => ?_⟩
  refine r2 F H σ S G o _ h _ fun F1 H1 v d G1 e1 g1 q1 h1 => ?_
  refine r1 F1 H1 σ S G1 (o.go e1 g1) _ h1 _ fun F2 H2 u d2 G2 e2 g2 q2 h2 => ?_
  dsimp only at h2
  split at h2
  · rename_i a
    split at h2
    · rename_i C' fs eg
      obtain ⟨rfl, hl, h2⟩ := h2
      cases q2
      obtain ⟨fa, dx, kvs, ha, h3, h4⟩ := g2.at_ a _ eg
      have kr : KR X.K F2 kvs fs := ⟨h3, h4⟩
      have kr2 := kr.putF (f := f) (q1.mono e2.ex)
      refine ⟨a, C', dx, kvs, rfl, ha, c, na, by rw [kr.len]; exact hl, ?_⟩
      have g3 := g2.put (u := .ins C' dx (L2.putF f v kvs)) (o := .ins C' (putFD f d fs)) eg rfl rfl ⟨dx, _, upd_same, kr2.ks, kr2.vs⟩
      exact k.nx F2 _ σ S _ ((e1.trans e2).trans (Go.put eg)) ⟨g3, (o.s.mono e1.ex).mono e2.ex⟩ h2
    · exact h2.elim
  · exact h2.elim
def dSetSub (to ti : DTE) : DTG := fun v S G Q => to S G fun x G1 => ti S G1 fun i G2 => match x with
  | .rf a => (match G2 a with
    | some (.lst xs) => (match i with
      | .int j => (match ixN xs.length j with
        | some n => Q S (gput G2 a (.lst (xs.set n v)))
        | none => False)
      | _ => False)
    | some (.dK kds) => (match i.key with
      | some k => kds.length < sizeLine ∧ Q S (gput G2 a (.dK (putD kds k v)))
      | none => False)
    | some (.dT kds) => (match i with
      | .tup ds => (match D.keys ds with
        | some k => kds.length < sizeLine ∧ Q S (gput G2 a (.dT (putD kds k v)))
        | none => False)
      | _ => False)
    | _ => False)
  | _ => False
def rSetD : V → V → V → Hp → (Hp → Prop) → Prop := fun o i v H Q => ∃ a H', o = .ref a ∧ DPut H a i v H' ∧ Q H'
theorem set_dict (hu : X.A.units + 100 < cLine) : PSet X rSetD := by
  intro pins s σ H o i v ov iv u Q I ro ri rv h
  obtain ⟨a, H', rfl, g, q⟩ := h
  obtain rfl : ov = Value.ref a := ro
  exact d_setItem (by omega) I g ri rv fun s' I' => ⟨H', I', q⟩
theorem PSet.or {r r' : TSet} (h : PSet X r) (h' : PSet X r') : PSet X (fun o i v H Q => r o i v H Q ∨ r' o i v H Q) := by
  intro pins s σ H o i v ov iv u Q I ro ri rv q
  rcases q with q | q
  · exact h pins s σ H o i v ov iv u Q I ro ri rv q
  · exact h' pins s σ H o i v ov iv u Q I ro ri rv q
theorem dg_sub {o i : Expr} {to ti : DTE} (hu : X.A.units + 100 < cLine) (ho : DE X o to) (hi : DE X i ti)
    (ha : ∀ v, assign (.Subscript o i pos) X.env v = (do let ov ← holding [v] (eval o X.env); let iv ← holding [v, ov] (eval i X.env); standAt pos; holding [v, ov, iv] (setItem ov iv v); release [v, ov, iv] []) := by intro _; rfl) : DG X (.Subscript o i pos) (dSetSub to ti) := by
  obtain ⟨t1, p1, r1⟩ := ho.ex
  obtain ⟨t2, p2, r2⟩ := hi.ex
  refine ⟨_, pg_sub p1 p2 (PSet.or set_list (set_dict hu)) ha, fun F H σ S G v d o' r Q' h Q k => ?_⟩
  refine r1 F H σ S G o' _ h _ fun F1 H1 x dx G1 e1 g1 q1 h1 => ?_
  refine r2 F1 H1 σ S G1 (o'.go e1 g1) _ h1 _ fun F2 H2 y dy G2 e2 g2 q2 h2 => ?_
  have rv := (r.mono e1.ex).mono e2.ex
  dsimp only at h2
  split at h2
  · rename_i a
    cases q1
    split at h2
    · rename_i xs eg
      split at h2
      · rename_i j
        cases q2
        split at h2
        · rename_i n en
          obtain ⟨fa, vs, ha, rs⟩ := g2.at_ a _ eg
          refine .inl ⟨a, vs, j, n, rfl, rfl, ha, by rw [rs.length]; exact en, ?_⟩
          have g3 := g2.put (u := .lst (vs.set n v)) (o := .lst (xs.set n d)) eg rfl rfl ⟨_, upd_same, rs.set rv n⟩
          exact k F2 _ σ S _ ((e1.trans e2).trans (Go.put eg)) ⟨g3, (o'.s.mono e1.ex).mono e2.ex⟩ h2
        · exact h2.elim
      · exact h2.elim
    · rename_i kds eg
      split at h2
      · rename_i kk ek
        obtain ⟨hl, h2⟩ := h2
        obtain ⟨fa, kvs, ha, h3, h4⟩ := g2.at_ a _ eg
        have kr : KR X.K F2 kvs kds := ⟨h3, h4⟩
        have kr2 := kr.put (k := kk) rv
        have ey := q2.key ek
        subst ey
        refine .inr ⟨a, _, rfl, DPut.k (k := kk) ha (by rw [kr.len]; exact hl), ?_⟩
        have g3 := g2.put (u := .dK (putK kvs kk v)) (o := .dK (putD kds kk d)) eg rfl rfl ⟨_, upd_same, kr2.ks, kr2.vs⟩
        exact k F2 _ σ S _ ((e1.trans e2).trans (Go.put eg)) ⟨g3, (o'.s.mono e1.ex).mono e2.ex⟩ h2
      · exact h2.elim
    · rename_i kds eg
      split at h2
      · rename_i ds
        split at h2
        · rename_i kk ek
          obtain ⟨hl, h2⟩ := h2
          obtain ⟨fa, kvs, ha, h3, h4⟩ := g2.at_ a _ eg
          have kr : KR X.K F2 kvs kds := ⟨h3, h4⟩
          have kr2 := kr.put (k := kk) rv
          cases q2 with
          | tup hb rs =>
            have eb := rs.keys ek
            subst eb
            refine .inr ⟨a, _, rfl, DPut.t (k := kk) ha (g2.ex _ _ hb) (by rw [kr.len]; exact hl), ?_⟩
            have g3 := g2.put (u := .dT (putK kvs kk v)) (o := .dT (putD kds kk d)) eg rfl rfl ⟨_, upd_same, kr2.ks, kr2.vs⟩
            exact k F2 _ σ S _ ((e1.trans e2).trans (Go.put eg)) ⟨g3, (o'.s.mono e1.ex).mono e2.ex⟩ h2
        · exact h2.elim
      · exact h2.elim
    · exact h2.elim
  · exact h2.elim
def dMeth (C : Addr) (m : Str) (sp : SpD) (ta : DTE) (tr : DTA) : DTE := fun S G Q => ta S G fun d G1 => match d.cur G1 with
  | .obj C' fs => C' = C ∧ fs.lookup m = none ∧ tr S G1 fun ds G2 => sp (d :: ds) G2 Q
  | _ => False
def dMake (C : Addr) (sp : SpD) (tr : DTA) : DTE := fun S G Q => tr S G fun ds G1 => ∀ y, G1 y = none → sp (.rf y :: ds) (gput G1 y (.ins C [])) fun d G2 => match d with
  | .non => Q (.rf y) G2
  | _ => False
theorem de_make {e : Expr} {es : List Expr} {C f : Addr} {x : Str} {k : Nat} {fd : FuncData} {ps : List Str} {sp : SpD} {tr : DTA} {p : Pos} (M : Mk X.K C f) (Fn : FnG X.prog X.w X.K X.mg X.base CX0 k f fd ps (SpOf X.K sp)) (hA : X.A.guards = some []) (hr : Room (k + 1) X.A) (hg : Gl X x) (hm : X.mg x = some (.ref C)) (hb : Binds X.K fd ps []) (ha : DA X (e :: es) tr)
    (hdb : (x == ("__debug__" : Str)) = false := by decide) (he : starEach (e :: es) X.env = (false, eval e X.env) :: starEach es X.env := by rfl) (hpl : (backTo pos (starEach es X.env)).any (·.1) = false := by rfl) :
    DE X (.Call (.Name x p) (e :: es) [] pos) (dMake C sp tr) := by
  obtain ⟨t2, p2, r2⟩ := ha.ex
  refine ⟨_, pg_make M Fn hA hr hg hm hb .nil pass0 p2 hdb he hpl, fun F H σ S G o Q' h Q k => ?_⟩
  refine r2 F H σ S G o _ h _ fun F1 H1 vs ds G1 e1 g1 q1 h1 => ?_
  intro y dy ny ndy ne
  rw [List.append_nil]
  have gr := Gr.only (u := .own y) g1.ex ndy
  have g2 := g1.grow gr
  have ny2 : upd H1 dy (.own y) y = none := by rw [upd_ne (fun z => ne z.symm)]; exact ny
  have g3 := g2.alloc (u := .ins C dy []) (o := .ins C []) ny2 rfl ⟨dy, [], upd_same, rfl, .nil⟩
  have go3 : Go F1 H1 G1 F1 _ (gput G1 y (.ins C [])) := (gr.go (G := G1)).trans (Go.alloc (u := .ins C dy []) (o := .ins C []) ny2)
  refine ⟨F1, _, .rf y :: ds, _, g3, .cons (.rf y) q1, h1 y (g1.free ny), ?_⟩
  intro F4 H4 v d G4 e4 g4 q4 h4
  split at h4
  · cases q4
    exact ⟨rfl, k F4 H4 _ _ G4 ((e1.trans go3).trans e4) g4 (.rf y) h4⟩
  · exact h4.elim
end
end DL
end
section
set_option Elab.async false
set_option linter.all false
set_option maxRecDepth 100000
set_option maxHeartbeats 4000000
namespace DL
open PySem PySem.Spec PyProof.Rows L2
section
variable {X : Cx} {pos : Pos} {tg : Expr}
def dNoGuard : GH → Prop := fun _ => True
def diTup (te : DTE) : DTI := fun S G R => te S G fun d G1 => match d with
  | .tup ds => R ds dNoGuard G1
  | _ => False
theorem di_tup {e : Expr} {te : DTE} (h : DE X e te) : DI X tg e (diTup te) := by
  obtain ⟨t, p, r⟩ := h.ex
  refine ⟨_, pi_tup p, fun F H σ S G o R' h R k => ?_⟩
  refine r F H σ S G o _ h _ fun F1 H1 v d G1 e1 g1 q1 h1 => ?_
  dsimp only at h1
  split at h1
  · cases q1 with
    | tup ha rs =>
      rename_i a vs
      refine ⟨a, rfl, ⟨vs, .inl (.inl (g1.ex _ _ ha))⟩, k F1 H1 G1 _ _ _ e1 g1 ⟨fun F2 H2 G2 i d e2 g2 _ hd => ?_, fun F2 H2 G2 e2 g2 _ => ?_⟩ h1⟩
      · have hs : SqT X.K H2 a vs := .inl (.inl (g2.ex _ _ (e2 _ _ ha)))
        obtain ⟨v, hv, rv⟩ := rs.get hd
        refine ⟨⟨vs, v, hs, hv⟩, fun x H3 hy => ?_⟩
        obtain ⟨rfl, hx⟩ := hy
        have := hx vs hs
        rw [hv] at this
        cases this
        exact ⟨F2, Go.refl, g2, rv.mono e2⟩
      · exact ⟨vs, .inl (.inl (g2.ex _ _ (e2 _ _ ha))), by rw [rs.length]; exact Nat.le_refl _⟩
  · exact h1.elim
def diList (te : DTE) : DTI := fun S G R => te S G fun d G1 => match d with
  | .lst ds => R ds dNoGuard G1
  | .rf a => (match G1 a with
    | some (.lst ds) => R ds (fun G => G a = some (.lst ds)) G1
    | _ => False)
  | _ => False
theorem di_list {e : Expr} {te : DTE} (h : DE X e te) : DI X tg e (diList te) := by
  obtain ⟨t, p, r⟩ := h.ex
  refine ⟨_, pi_list p, fun F H σ S G o R' h R k => ?_⟩
  refine r F H σ S G o _ h _ fun F1 H1 v d G1 e1 g1 q1 h1 => ?_
  dsimp only at h1
  split at h1
  · cases q1 with
    | lst ha rs =>
      rename_i a vs
      refine ⟨a, rfl, ⟨vs, .inl (.inl (g1.ex _ _ ha))⟩, k F1 H1 G1 _ _ _ e1 g1 ⟨fun F2 H2 G2 i d e2 g2 _ hd => ?_, fun F2 H2 G2 e2 g2 _ => ?_⟩ h1⟩
      · have hs : SqL X.K H2 a vs := .inl (.inl (g2.ex _ _ (e2 _ _ ha)))
        obtain ⟨v, hv, rv⟩ := rs.get hd
        refine ⟨⟨vs, v, hs, hv⟩, fun x H3 hy => ?_⟩
        obtain ⟨rfl, hx⟩ := hy
        have := hx vs hs
        rw [hv] at this
        cases this
        exact ⟨F2, Go.refl, g2, rv.mono e2⟩
      · exact ⟨vs, .inl (.inl (g2.ex _ _ (e2 _ _ ha))), by rw [rs.length]; exact Nat.le_refl _⟩
  · rename_i a
    split at h1
    · rename_i ds eg
      cases q1
      obtain ⟨fa, vs0, ha0, rs0⟩ := g1.at_ a _ eg
      refine ⟨a, rfl, ⟨vs0, .inl (.inl ha0)⟩, k F1 H1 G1 _ _ _ e1 g1 ⟨fun F2 H2 G2 i d e2 g2 gd hd => ?_, fun F2 H2 G2 e2 g2 gd => ?_⟩ h1⟩
      · obtain ⟨fa2, vs, ha, rs⟩ := g2.at_ a _ gd
        have hs : SqL X.K H2 a vs := .inl (.inl ha)
        obtain ⟨v, hv, rv⟩ := rs.get hd
        refine ⟨⟨vs, v, hs, hv⟩, fun x H3 hy => ?_⟩
        obtain ⟨rfl, hx⟩ := hy
        have := hx vs hs
        rw [hv] at this
        cases this
        exact ⟨F2, Go.refl, g2, rv⟩
      · obtain ⟨fa2, vs, ha, rs⟩ := g2.at_ a _ gd
        exact ⟨vs, .inl (.inl ha), by rw [rs.length]; exact Nat.le_refl _⟩
    · exact h1.elim
  · exact h1.elim
def signs (x : Str) : List D := x.cps.toList.map fun c => .str ⟨#[c]⟩
def diStr (te : DTE) : DTI := fun S G R => te S G fun d G1 => match d with
  | .str x => R (signs x) dNoGuard G1
  | _ => False
theorem di_str {e : Expr} {te : DTE} (h : DE X e te) : DI X tg e (diStr te) := by
  obtain ⟨t, p, r⟩ := h.ex
  refine ⟨_, pi_str p, fun F H σ S G o R' h R k => ?_⟩
  refine r F H σ S G o _ h _ fun F1 H1 v d G1 e1 g1 q1 h1 => ?_
  dsimp only at h1
  split at h1
  · rename_i x
    cases q1
    refine ⟨x, rfl, k F1 H1 G1 _ _ _ e1 g1 ⟨fun F2 H2 G2 i d e2 g2 _ hd => ?_, fun F2 H2 G2 e2 g2 _ => ?_⟩ h1⟩
    · unfold signs at hd
      rw [List.getElem?_map] at hd
      cases ec : x.cps.toList[i]? with
      | none => rw [ec] at hd; cases hd
      | some c =>
        rw [ec] at hd
        cases hd
        have hl : i < x.cps.size := by
          have := (List.getElem?_eq_some_iff.mp ec).1
          simpa using this
        refine ⟨hl, fun y H3 hy => ?_⟩
        obtain ⟨rfl, c', hc', rfl⟩ := hy
        have e2' : x.cps[i]? = some c := by rw [← ec]; simp
        rw [e2'] at hc'
        cases hc'
        exact ⟨F2, Go.refl, g2, .str _⟩
    · show x.cps.size ≤ (signs x).length
      simp [signs]
  · exact h1.elim
def diRange1 (ta : DTA) : DTI := fun S G R => ta S G fun ds G1 => match ds with
  | [.int n] => -(2 ^ 62) ≤ n ∧ n < 2 ^ 62 ∧ R ((List.range n.toNat).map fun i => .int (i : Nat)) dNoGuard G1
  | _ => False
theorem itr_ok {K : PySem.W.Frag} {F : Hp} (lo : Int) (n : Nat) : ItOk K F (Itr lo n) ((List.range n).map fun i => .int (lo + (i : Nat))) dNoGuard := by
  refine ⟨fun F2 H2 G2 i d e2 g2 _ hd => ?_, fun F2 H2 G2 e2 g2 _ => ?_⟩
  · rw [List.getElem?_map] at hd
    cases ec : (List.range n)[i]? with
    | none => rw [ec] at hd; cases hd
    | some c =>
      rw [ec] at hd
      cases hd
      have hl := (List.getElem?_eq_some_iff.mp ec)
      obtain ⟨h1, h2⟩ := hl
      rw [List.length_range] at h1
      rw [List.getElem_range] at h2
      subst h2
      refine ⟨h1, fun y H3 hy => ?_⟩
      obtain ⟨rfl, rfl⟩ := hy
      exact ⟨F2, Go.refl, g2, .int _⟩
  · show n ≤ _
    simp
theorem di_range1 {a : Expr} {ta : DTA} {p : Pos} (hg : Gl X "range") (hm : X.mg "range" = none) (ha : DA X [a] ta) (hs : starEach [a] X.env = [(false, eval a X.env)] := by rfl) : DI X tg (.Call (.Name "range" p) [a] [] pos) (diRange1 ta) := by
  obtain ⟨t, p1, r⟩ := ha.ex
  refine ⟨_, pi_range1 hg hm p1 hs, fun F H σ S G o R' h R k => ?_⟩
  refine r F H σ S G o _ h _ fun F1 H1 vs ds G1 e1 g1 q1 h1 => ?_
  dsimp only at h1
  split at h1
  · rename_i n
    cases q1 with
    | cons a b =>
      cases a; cases b
      obtain ⟨h2, h3, h4⟩ := h1
      refine ⟨n, rfl, h2, h3, k F1 H1 G1 _ _ _ e1 g1 (itr_ok 0 n.toNat) ?_⟩
      have e : ((List.range n.toNat).map fun i => D.int (0 + ((i : Nat) : Int))) = (List.range n.toNat).map fun i => D.int ((i : Nat) : Int) := by
        congr 1
        funext i
        rw [Int.zero_add]
      rw [e]
      exact h4
  · exact h1.elim
def diRange2 (ta : DTA) : DTI := fun S G R => ta S G fun ds G1 => match ds with
  | [.int m, .int n] => (-(2 ^ 62) ≤ m ∧ m < 2 ^ 62 ∧ -(2 ^ 62) ≤ n ∧ n < 2 ^ 62) ∧ R ((List.range (n - m).toNat).map fun i => .int (m + (i : Nat))) dNoGuard G1
  | _ => False
def dCB (r : List D → GH → DQ → Prop) (ta : DTA) : DTE := fun S G Q => ta S G fun ds G1 => r ds G1 Q
theorem de_callB {id : String} {r' : List D → GH → DQ → Prop} {x : Str} {e : Expr} {es : List Expr} {ta : DTA} {p : Pos} (hc : CallD X (.builtin id) r') (hg : Gl X x) (hm : X.mg x = none) (hv : bootBuiltins x = some (.builtin id)) (ha : DA X (e :: es) ta) (hn : x ≠ "__name__" := by decide) (hdb : (x == ("__debug__" : Str)) = false := by decide)
    (he : starEach (e :: es) X.env = (false, eval e X.env) :: starEach es X.env := by rfl) (hpl : (backTo pos (starEach es X.env)).any (·.1) = false := by rfl) : DE X (.Call (.Name x p) (e :: es) [] pos) (dCB r' ta) := by
  obtain ⟨r, hr, rr⟩ := hc.ex
  obtain ⟨t, p1, r1⟩ := ha.ex
  refine ⟨_, pe_callB hr hg hm hv p1 hn hdb he hpl, fun F H σ S G o Q' h Q k => ?_⟩
  refine r1 F H σ S G o _ h _ fun F1 H1 vs ds G1 e1 g1 q1 h1 => ?_
  exact rr F1 H1 G1 vs ds g1 q1 Q' h1 Q (k.mono e1)
theorem de_callTy {T : String} {r' : List D → GH → DQ → Prop} {x : Str} {e : Expr} {es : List Expr} {ta : DTA} {p : Pos} (hc : CallD X (.type T) r') (hg : Gl X x) (hm : X.mg x = none) (hv : bootBuiltins x = some (.type T)) (ha : DA X (e :: es) ta) (hn : x ≠ "__name__" := by decide) (hdb : (x == ("__debug__" : Str)) = false := by decide)
    (he : starEach (e :: es) X.env = (false, eval e X.env) :: starEach es X.env := by rfl) (hpl : (backTo pos (starEach es X.env)).any (·.1) = false := by rfl) : DE X (.Call (.Name x p) (e :: es) [] pos) (dCB r' ta) := by
  obtain ⟨r, hr, rr⟩ := hc.ex
  obtain ⟨t, p1, r1⟩ := ha.ex
  refine ⟨_, pe_callTy hr hg hm hv p1 hn hdb he hpl, fun F H σ S G o Q' h Q k => ?_⟩
  refine r1 F H σ S G o _ h _ fun F1 H1 vs ds G1 e1 g1 q1 h1 => ?_
  exact rr F1 H1 G1 vs ds g1 q1 Q' h1 Q (k.mono e1)
theorem CallR.or {f : Value} {r r' : List V → Hp → VK → Prop} (h : CallR X f r) (h' : CallR X f r') : CallR X f (fun xs H Q => r xs H Q ∨ r' xs H Q) := by
  intro pins s σ H xs us Q I rx q
  rcases q with q | q
  · exact h pins s σ H xs us Q I rx q
  · exact h' pins s σ H xs us Q I rx q
/-- len -/
def D.len : D → Option Nat
  | .tup xs => some xs.length
  | .lst xs => some xs.length
  | .str z => if z.length ≤ sizeLine then some z.length else none
  | .dK kds => some kds.length
  | .dT kds => some kds.length
  | _ => none
def rLenD (ds : List D) (G : GH) (Q : DQ) : Prop := match ds with
  | [d] => (match (d.cur G).len with
    | some n => Q (.int (n : Nat)) G
    | none => False)
  | _ => False
theorem cd_len : CallD X (.builtin "len") rLenD := by
  refine ⟨_, CallR.or call_len (CallR.or call_lenD call_len_dT), fun F H G vs ds g rs Q' h Q k => ?_⟩
  unfold rLenD at h
  split at h
  · rename_i d
    cases rs with
    | cons r b =>
      cases b
      split at h
      · rename_i n en
        have fin : Q (.int (n : Nat)) H := k F H _ _ G Go.refl g (.int _) h
        unfold D.len at en
        split at en
        · rename_i xs ex
          cases en
          obtain ⟨a, vs, rfl, ha, rs⟩ := cur_tup r ex
          exact .inl ⟨_, _, rfl, .inr ⟨vs, .inl (.inl (g.ex _ _ ha)), rs.length.symm⟩, fin⟩
        · rename_i xs ex
          cases en
          obtain ⟨a, vs, rfl, ha, rs⟩ := cur_list g r ex
          exact .inl ⟨_, _, rfl, .inl ⟨vs, .inl (.inl ha), rs.length.symm⟩, fin⟩
        · rename_i z ex
          split at en
          · rename_i hz
            cases en
            have := cur_str r ex
            subst this
            exact .inl ⟨_, _, rfl, ⟨hz, rfl⟩, fin⟩
          · cases en
        · rename_i kds ex
          cases en
          obtain ⟨a, kvs, rfl, ha, kr⟩ := cur_dK g r ex
          exact .inr (.inl ⟨a, kvs, rfl, ha, by rw [kr.len]; exact fin⟩)
        · rename_i kds ex
          cases en
          obtain ⟨a, kvs, rfl, ha, kr⟩ := cur_dT g r ex
          exact .inr (.inr ⟨a, kvs, rfl, ha, by rw [kr.len]; exact fin⟩)
        · cases en
      · exact h.elim
  · exact h.elim
/-- tuple(x) of a list, a tuple -/
def rTupleD (ds : List D) (G : GH) (Q : DQ) : Prop := match ds with
  | [d] => (match d.cur G with
    | .tup xs => Q (.tup xs) G
    | .lst xs => Q (.tup xs) G
    | _ => False)
  | _ => False
theorem cd_tuple : CallD X (.type "tuple") rTupleD := by
  refine ⟨_, call_tuple_of, fun F H G vs ds g rs Q' h Q k => ?_⟩
  unfold rTupleD at h
  split at h
  · rename_i d
    cases rs with
    | cons r b =>
      cases b
      split at h
      · rename_i xs ex
        obtain ⟨a, vs, rfl, ha, rs⟩ := cur_tup r ex
        exact ⟨a, vs, rfl, .inr ⟨.inl (.inl (g.ex _ _ ha)), k F H _ _ G Go.refl g (.tup ha rs) h⟩⟩
      · rename_i xs ex
        obtain ⟨a, vs, rfl, ha, rs⟩ := cur_list g r ex
        refine ⟨a, vs, rfl, .inl ⟨.inl (.inl ha), fun l hl => ?_⟩⟩
        have gr := Gr.new (u := .tup vs) g.ex hl
        exact k _ _ _ _ G gr.go (g.grow gr) (.tup upd_same (rs.mono gr.ff)) h
      · exact h.elim
  · exact h.elim
/-- list(x) of a list, a tuple: frozen -/
def rListD (ds : List D) (G : GH) (Q : DQ) : Prop := match ds with
  | [d] => (match d.cur G with
    | .tup xs => Q (.lst xs) G
    | .lst xs => Q (.lst xs) G
    | _ => False)
  | _ => False
theorem cd_list : CallD X (.type "list") rListD := by
  refine ⟨_, call_list_of, fun F H G vs ds g rs Q' h Q k => ?_⟩
  unfold rListD at h
  split at h
  · rename_i d
    cases rs with
    | cons r b =>
      cases b
      split at h
      · rename_i xs ex
        obtain ⟨a, vs, rfl, ha, rs⟩ := cur_tup r ex
        refine ⟨a, vs, rfl, .inr (.inl (.inl (g.ex _ _ ha))), fun l hl => ?_⟩
        have gr := Gr.new (u := .lst vs) g.ex hl
        exact k _ _ _ _ G gr.go (g.grow gr) (.lst upd_same (rs.mono gr.ff)) h
      · rename_i xs ex
        obtain ⟨a, vs, rfl, ha, rs⟩ := cur_list g r ex
        refine ⟨a, vs, rfl, .inl (.inl (.inl ha)), fun l hl => ?_⟩
        have gr := Gr.new (u := .lst vs) g.ex hl
        exact k _ _ _ _ G gr.go (g.grow gr) (.lst upd_same (rs.mono gr.ff)) h
      · exact h.elim
  · exact h.elim
/-- {}: a dict that will change -/
def dNewK : DTE := fun _ G Q => ∀ p, G p = none → Q (.rf p) (gput G p (.dK []))
def dNewT : DTE := fun _ G Q => ∀ p, G p = none → Q (.rf p) (gput G p (.dT []))
theorem de_newK : DE X (.Dict [] [] pos) dNewK := by
  refine ⟨_, pe_dnewK, fun F H σ S G o Q' h Q k => ?_⟩
  intro p hp
  exact k _ _ _ _ _ (Go.alloc hp) (o.g.alloc (o := .dK []) hp rfl ⟨[], upd_same, rfl, .nil⟩) (.rf p) (h p (o.g.free hp))
/-- sorted(d) of a dict with int keys, fewer than 64 -/
def intKeys : List (Key × D) → Option (List Int)
  | [] => some []
  | (.inl i, _) :: r => (intKeys r).map (i :: ·)
  | (.inr _, _) :: _ => none
theorem intKeys_map : ∀ {kds : List (Key × D)} {ns : List Int}, intKeys kds = some ns → kds.map (·.1) = ns.map Sum.inl
  | [], _, h => by cases h; rfl
  | (.inl i, d) :: r, ns, h => by
    unfold intKeys at h
    cases e : intKeys r with
    | none => rw [e] at h; cases h
    | some m =>
      rw [e] at h
      cases h
      simp [intKeys_map e]
  | (.inr _, _) :: _, _, h => by cases h
end
end DL
end
section
set_option Elab.async false
set_option linter.all false
set_option maxRecDepth 100000
set_option maxHeartbeats 4000000
namespace DL
open PySem PySem.Spec PyProof.Rows L2
def hatE (K : PySem.W.Frag) (t' : DTE) : TE := fun σ H Q => ∃ F S G Q', Ok K F H σ S G ∧ t' S G Q' ∧ KpE K F H G Q' Q
def hatT (K : PySem.W.Frag) (t' : DTT) : TT := fun σ H Q => ∃ F S G Q', Ok K F H σ S G ∧ t' S G Q' ∧ KpT K F H G Q' Q
theorem DE.hat {X : Cx} {e : Expr} {t' : DTE} (h : DE X e t') : PE X e (hatE X.K t') := by
  obtain ⟨t, p, r⟩ := h.ex
  exact ⟨fun pins s σ H Q I ⟨F, S, G, Q', o, h1, k⟩ => p.run pins s σ H Q I (r F H σ S G o Q' h1 Q k)⟩
theorem DT.hat {X : Cx} {e : Expr} {t' : DTT} (h : DT X e t') : PT X e (hatT X.K t') := by
  obtain ⟨t, p, r⟩ := h.ex
  exact ⟨fun pins s σ H Q I ⟨F, S, G, Q', o, h1, k⟩ => p.run pins s σ H Q I (r F H σ S G o Q' h1 Q k)⟩
/-- the tests of a comprehension -/
structure DTs (X : Cx) (ifs : List Expr) (t' : DTT) : Prop where
  pt : PTs X ifs (hatT X.K t')
def dYes : DTT := fun _ G Q => Q true G
theorem dts_nil {X : Cx} : DTs X [] dYes := ⟨⟨fun pins s σ H Q I ⟨F, S, G, Q', o, h1, k⟩ => (pts_nil (X := X)).run pins s σ H Q I (k F H true G Go.refl o.g h1)⟩⟩
theorem dts_one {X : Cx} {c : Expr} {t' : DTT} (h : DT X c t') : DTs X [c] t' := ⟨pts_one h.hat⟩
inductive Pat where
  | nm (i : Nat) | tp (is : List Nat) | tn (i : Nat) (is : List Nat)
def gNames : List Nat → TGs
  | [] => gNil
  | i :: is => gCons (gName i) (gNames is)
def Pat.g (K : PySem.W.Frag) : Pat → TG
  | .nm i => gName i
  | .tp is => gTup K is.length (gNames is)
  | .tn i is => gTup K 2 (gCons (gName i) (gCons (gTup K is.length (gNames is)) gNil))
def Pat.at_ : Pat → List Nat
  | .nm i => [i]
  | .tp is => is
  | .tn i is => i :: is
def setAll : List Nat → List D → DS → Option DS
  | [], [], S => some S
  | i :: is, d :: ds, S => setAll is ds (S.set i (some d))
  | _, _, _ => none
def Pat.put (p : Pat) (d : D) (S : DS) : Option DS := match p with
  | .nm i => some (S.set i (some d))
  | .tp is => (match d with
    | .tup ds => setAll is ds S
    | _ => none)
  | .tn i is => (match d with
    | .tup [x, .tup ds] => setAll is ds (S.set i (some x))
    | _ => none)
def dwipe (S : DS) : List Nat → DS
  | [] => S
  | v :: vs => (dwipe S vs).set v none
theorem wipe_slots {K : PySem.W.Frag} {F : Hp} {σ : L2.St} {S : DS} (h : Slots K F σ S) : ∀ vs : List Nat, Slots K F (wipe σ vs) (dwipe S vs)
  | [] => h
  | v :: vs => (wipe_slots h vs).setN none v
theorem wipe_set {σ : L2.St} {i : Nat} {x : Option V} : ∀ {vs : List Nat}, i ∈ vs → wipe (σ.set i x) vs = wipe σ vs
  | [], h => by simp at h
  | v :: vs, h => by
    unfold wipe
    by_cases e : i ∈ vs
    · rw [wipe_set e]
    · have iv : i = v := by
        rcases List.mem_cons.mp h with h | h
        · exact h
        · exact absurd h e
      subst iv
      have aux : ∀ us : List Nat, i ∉ us → wipe (σ.set i x) us = (wipe σ us).set i x := by
        intro us
        induction us with
        | nil => intro _; rfl
        | cons u us ih =>
          intro hu
          rw [List.mem_cons, not_or] at hu
          unfold wipe
          rw [ih hu.2, List.set_comm _ _ hu.1]
      rw [aux vs e, List.set_set]
theorem wipe_wipe {σ : L2.St} {vs : List Nat} : wipe (wipe σ vs) vs = wipe σ vs := by
  have aux : ∀ us : List Nat, (∀ u ∈ us, u ∈ vs) → wipe (wipe σ us) vs = wipe σ vs := by
    intro us
    induction us with
    | nil => intro _; rfl
    | cons u us ih =>
      intro hu
      show wipe ((wipe σ us).set u none) vs = _
      rw [wipe_set (hu u (by simp)), ih fun w hw => hu w (by simp [hw])]
  exact aux vs fun _ h => h
theorem names_ok {K : PySem.W.Frag} {F H : Hp} {G : GH} {vs0 : List Nat} : ∀ {is : List Nat} {ds : List D} {vs : List V} {σ : L2.St} {S S2 : DS} {Q : L2.St → Hp → Prop}, (∀ i ∈ is, i ∈ vs0) → Ok K F H σ S G → Reps K F vs ds → setAll is ds S = some S2 →
    (∀ σ2, wipe σ2 vs0 = wipe σ vs0 → Ok K F H σ2 S2 G → Q σ2 H) → gNames is vs σ H Q
  | [], [], vs, σ, S, S2, Q, _, o, r, h, k => by
    cases r
    cases h
    exact ⟨rfl, k σ rfl o⟩
  | i :: is, d :: ds, vs, σ, S, S2, Q, hi, o, r, h, k => by
    cases r with
    | cons a b =>
      refine ⟨_, _, rfl, ?_⟩
      show gNames is _ _ H Q
      refine names_ok (S := S.set i (some d)) (fun j hj => hi j (by simp [hj])) ⟨o.g, o.s.set a i⟩ b h fun σ2 e o2 => k σ2 ?_ o2
      rw [e, wipe_set (hi i (by simp))]
  | [], _ :: _, _, _, _, _, _, _, _, _, h, _ => by cases h
  | _ :: _, [], _, _, _, _, _, _, _, _, h, _ => by cases h
theorem setAll_len : ∀ {is : List Nat} {ds : List D} {S S2 : DS}, setAll is ds S = some S2 → ds.length = is.length
  | [], [], _, _, _ => rfl
  | [], _ :: _, _, _, h => by cases h
  | _ :: _, [], _, _, h => by cases h
  | i :: is, d :: ds, S, S2, h => by
    have := setAll_len (is := is) (ds := ds) (S := S.set i (some d)) h
    simp [this]
theorem put_tn {i : Nat} {is : List Nat} {d : D} {S S2 : DS} (h : (Pat.tn i is).put d S = some S2) : ∃ x ds, d = .tup [x, .tup ds] ∧ setAll is ds (S.set i (some x)) = some S2 := by
  unfold Pat.put at h
  simp only at h
  split at h
  · exact ⟨_, _, rfl, h⟩
  · cases h
theorem pat_ok {K : PySem.W.Frag} {F H : Hp} {G : GH} {vs0 : List Nat} {p : Pat} {d : D} {v : V} {σ : L2.St} {S S2 : DS} {Q : L2.St → Hp → Prop} (hp : ∀ i ∈ p.at_, i ∈ vs0) (o : Ok K F H σ S G) (r : Rep K F v d) (h : p.put d S = some S2)
    (k : ∀ σ2, wipe σ2 vs0 = wipe σ vs0 → Ok K F H σ2 S2 G → Q σ2 H) : p.g K v σ H Q := by
  cases p with
  | nm i =>
    cases h
    exact k _ (wipe_set (hp i (by simp [Pat.at_]))) ⟨o.g, o.s.set r i⟩
  | tp is =>
    unfold Pat.put at h
    cases d with
    | tup ds =>
      simp only at h
      cases r with
      | tup ha rs =>
        have hl : ds.length = is.length := by
          clear ha rs o k hp
          induction is generalizing ds S with
          | nil => cases ds with
            | nil => rfl
            | cons a b => cases h
          | cons i is ih => cases ds with
            | nil => cases h
            | cons a b => simpa using ih _ h
        exact ⟨_, _, rfl, .inl (.inl (o.g.ex _ _ ha)), by rw [rs.length]; exact hl, names_ok hp o rs h k⟩
    | _ => cases h
  | tn i is =>
    obtain ⟨x, ds, rfl, h⟩ := put_tn h
    cases r with
    | tup ha rs =>
      cases rs with
      | cons rx rs =>
        cases rs with
        | cons ry rs =>
          cases rs
          cases ry with
          | tup hb ts =>
            have hl : ds.length = is.length := setAll_len h
            refine ⟨_, _, rfl, .inl (.inl (o.g.ex _ _ ha)), rfl, _, _, rfl, ?_⟩
            refine ⟨_, _, rfl, ?_⟩
            refine ⟨_, _, rfl, .inl (.inl (o.g.ex _ _ hb)), by rw [ts.length]; exact hl, ?_⟩
            refine names_ok (S := S.set i (some x)) (fun j hj => hp j (by simp [Pat.at_, hj])) ⟨o.g, o.s.set rx i⟩ ts h fun σ2 e o2 => ⟨rfl, k σ2 ?_ o2⟩
            rw [e, wipe_set (hp i (by simp [Pat.at_]))]
section
variable {X : Cx} {pos : Pos}
/-- [e for p in .. if t] -/
def dLc (wi : DTI) (p : Pat) (tt : DTT) (te : DTE) (vs : List Nat) : DTE := fun S G Q => wi S G fun ds gd G1 => ds.length ≤ sizeLine ∧ ∃ W : Nat → List D → GH → Prop, W 0 [] G1 ∧ (∀ i acc G, W i acc G → gd G) ∧
  (∀ i acc G d, W i acc G → ds[i]? = some d → ∃ S2, p.put d (dwipe S vs) = some S2 ∧ tt S2 G fun b G2 => if b = true then te S2 G2 fun y G3 => W (i + 1) (acc ++ [y]) G3 else W (i + 1) acc G2) ∧
  ∀ acc G, W ds.length acc G → Q (.lst acc) G
/-- the same, the list may change later -/
def dLcM (wi : DTI) (p : Pat) (tt : DTT) (te : DTE) (vs : List Nat) : DTE := fun S G Q => dLc wi p tt te vs S G fun d G' => match d with
  | .lst acc => ∀ a, G' a = none → Q (.rf a) (gput G' a (.lst acc))
  | _ => False
theorem lc_refine {wi : DTI} {p : Pat} {tt : DTT} {te : DTE} {vs : List Nat} {tw : TI} (hp : ∀ i ∈ p.at_, i ∈ vs)
    (r0 : ∀ F H σ S G, Ok X.K F H σ S G → ∀ R', wi S G R' → ∀ R : It → Hp → Prop, (∀ F1 H1 G1 J ds gd, Go F H G F1 H1 G1 → Gok X.K F1 H1 G1 → ItOk X.K F1 J ds gd → R' ds gd G1 → R J H1) → tw σ H R)
    {F H : Hp} {σ : L2.St} {S : DS} {G : GH} (o : Ok X.K F H σ S G) {Q' : List D → GH → Prop} {Q : VK}
    (h : wi S G fun ds gd G1 => ds.length ≤ sizeLine ∧ ∃ W : Nat → List D → GH → Prop, W 0 [] G1 ∧ (∀ i acc G, W i acc G → gd G) ∧
      (∀ i acc G d, W i acc G → ds[i]? = some d → ∃ S2, p.put d (dwipe S vs) = some S2 ∧ tt S2 G fun b G2 => if b = true then te S2 G2 fun y G3 => W (i + 1) (acc ++ [y]) G3 else W (i + 1) acc G2) ∧ ∀ acc G, W ds.length acc G → Q' acc G)
    (k : ∀ F' H' G' D accV acc, H D = none → Go F H G F' H' G' → Gok X.K F' H' G' → H' D = some (.lst accV) → Reps X.K F' accV acc → F' D = none → G' D = none → Q' acc G' → Q (.ref D) H') :
    tLc tw (p.g X.K) (hatT X.K tt) (hatE X.K te) vs σ H Q := by
  refine r0 F H σ S G o _ h _ fun F1 H1 G1 J ds gd e1 g1 it h1 => ?_
  obtain ⟨hz, W, w0, wg, turn, done⟩ := h1
  intro D hD
  have gD : G1 D = none := g1.free hD
  have fD : F1 D = none := g1.ex.nope hD
  have go0 : Go F1 H1 G1 F1 (upd H1 D (.lst [])) G1 := by
    have := (Gr.only (u := .lst []) g1.ex hD).go (G := G1)
    exact this
  have g0 : Gok X.K F1 (upd H1 D (.lst [])) G1 := g1.grow (Gr.only g1.ex hD)
  refine ⟨fun i m H2 => i + m = ds.length ∧ ∃ F2 G2 accV acc, Go F1 H1 G1 F2 H2 G2 ∧ Gok X.K F2 H2 G2 ∧ H2 D = some (.lst accV) ∧ Reps X.K F2 accV acc ∧ F2 D = none ∧ G2 D = none ∧ acc.length ≤ i ∧ W i acc G2,
    ⟨ds.length, Nat.zero_add _, F1, G1, [], [], go0, g0, upd_same, .nil, fD, gD, Nat.le_refl _, w0⟩, ?_⟩
  rintro i m H2 ⟨him, F2, G2, accV, acc, e2, g2, hd2, rs2, fd2, gd2, hl2, w2⟩
  have gg := wg i acc G2 w2
  cases m with
  | zero =>
    have hi : i = ds.length := him
    refine .inl ⟨hi ▸ it.stop F2 H2 G2 e2.ex g2 gg, ?_⟩
    exact k F2 H2 G2 D accV acc (e1.st D hD) (e1.trans e2) g2 hd2 rs2 fd2 gd2 (done acc G2 (hi ▸ w2))
  | succ m =>
    have hlt : i < ds.length := by omega
    have hd : ds[i]? = some ds[i] := List.getElem?_eq_getElem hlt
    obtain ⟨ig, iy⟩ := it.go F2 H2 G2 i _ e2.ex g2 gg hd
    refine .inr ⟨ig, fun H3 => ∃ F3 G3 accV acc, Go F1 H1 G1 F3 H3 G3 ∧ Gok X.K F3 H3 G3 ∧ H3 D = some (.lst accV) ∧ Reps X.K F3 accV acc ∧ F3 D = none ∧ G3 D = none ∧ acc.length ≤ i + 1 ∧ W (i + 1) acc G3,
      fun H3 z => ⟨m, Nat.lt_succ_self m, by omega, z⟩, fun x H3 hy => ?_⟩
    obtain ⟨F3, e3, g3, q3⟩ := iy x H3 hy
    obtain ⟨S2, hS2, body⟩ := turn i acc G2 _ w2 hd
    have o3 : Ok X.K F3 H3 (wipe σ vs) (dwipe S vs) G2 := ⟨g3, wipe_slots (((o.s.mono e1.ex).mono e2.ex).mono e3.ex) vs⟩
    have hd3 : H3 D = some (.lst accV) := (e3.fr D _ hd2 gd2).1
    have fd3 : F3 D = none := e3.no D _ hd2 gd2 fd2 (fun _ z => nomatch z)
    refine pat_ok hp o3 q3 hS2 fun σ2 ew o4 => ⟨by rw [ew, wipe_wipe], ?_⟩
    refine ⟨F3, S2, G2, _, o4, body, fun F5 H5 b G5 e5 g5 h5 => ?_⟩
    have hd5 := e5.fr D _ hd3 gd2
    have fd5 := e5.no D _ hd3 gd2 fd3 (fun _ z => nomatch z)
    cases b with
    | true =>
      dsimp only
      rw [if_pos rfl] at h5 ⊢
      refine ⟨F5, S2, G5, _, o4.go e5 g5, h5, fun F6 H6 y dy G6 e6 g6 r6 h6 => ?_⟩
      have hd6 := e6.fr D _ hd5.1 hd5.2
      have fd6 := e6.no D _ hd5.1 hd5.2 fd5 (fun _ z => nomatch z)
      have r6' := ((rs2.mono e3.ex).mono e5.ex).mono e6.ex
      refine ⟨accV, hd6.1, by rw [rs2.length]; omega, F6, G6, accV ++ [y], acc ++ [dy], ?_, ?_, upd_same, r6'.append (.one r6), fd6, hd6.2, by simp; omega, h6⟩
      · have ea := (((e2.trans e3).trans e5).trans e6)
        refine ⟨ea.ex, fun b u hb gb => ?_, ea.no, fun b z => ea.st b (upd_none z)⟩
        have q : b ≠ D := fun z => by rw [z, hD] at hb; cases hb
        rw [upd_ne q]
        exact ea.fr b u hb gb
      · refine ⟨g6.ex.updR fd6, fun a w ha => ?_, g6.one⟩
        have q : a ≠ D := fun z => by rw [z, hd6.2] at ha; cases ha
        obtain ⟨fa, ma⟩ := g6.at_ a w ha
        refine ⟨fa, ma.move (Ex.refl F6) (fun b u hb hc => ?_) fun c z => z⟩
        have q2 : b ≠ D := fun z => by
          rcases hc with hc | hc
          · exact q (hc ▸ z)
          · rw [z, hd6.2] at hc; cases hc
        rw [upd_ne q2]; exact hb
    | false =>
      dsimp only
      rw [if_neg Bool.false_ne_true] at h5 ⊢
      exact ⟨F5, G5, accV, acc, (e2.trans e3).trans e5, g5, hd5.1, (rs2.mono e3.ex).mono e5.ex, fd5, hd5.2, by omega, h5⟩
/-- freeze what is in no one's hands -/
theorem hold_freeze {K : PySem.W.Frag} {F H : Hp} {G : GH} {D : Addr} {u : HO} (g : Gok K F H G) (hd : H D = some u) (fd : F D = none) (gd : G D = none) : Gok K (upd F D u) H G := by
  refine ⟨fun a w z => ?_, fun a w e => ?_, g.one⟩
  · by_cases q : a = D
    · subst q; rw [upd_same] at z; cases z; exact hd
    · rw [upd_ne q] at z; exact g.ex a w z
  · have q : a ≠ D := fun y => by rw [y, gd] at e; cases e
    obtain ⟨f, m⟩ := g.at_ a w e
    exact ⟨by rw [upd_ne q]; exact f, m.move (Ex.new fd) (fun b w hb _ => hb) fun c z => z⟩
theorem go_hold {F H F' H' : Hp} {G G' : GH} {D : Addr} {u : HO} (h : H D = none) (go : Go F H G F' H' G') (fd : F' D = none) : Go F H G (upd F' D u) H' G' := by
  refine ⟨go.ex.trans (Ex.new fd), go.fr, fun b w hb gb fb t => ?_, go.st⟩
  have q : b ≠ D := fun z => by rw [z, h] at hb; cases hb
  rw [upd_ne q]; exact go.no b w hb gb fb t
theorem de_lc {elt tg iter : Expr} {ifs : List Expr} {scope : Scope} {own : List (Str × Nat)} {wi : DTI} {p : Pat} {tt : DTT} {te : DTE} (hc : X.calm = true) (hN : X.N.Nodup) (hi : DI X tg iter wi) (ok : BlkOk X.N X.env.scope scope own) (hp : ∀ i ∈ p.at_, i ∈ own.map (·.2))
    (hg : ∀ (s : Shared) (H : Hp) (C : Addr) (cl : List (Str × Addr)) (fp : List Addr), PG (X.blk s H scope (compEnvC scope cl C X.env) fp) tg (p.g X.K)) (ht : ∀ (s : Shared) (H : Hp) (C : Addr) (cl : List (Str × Addr)) (fp : List Addr), DTs (X.blk s H scope (compEnvC scope cl C X.env) fp) ifs tt)
    (he : ∀ (s : Shared) (H : Hp) (C : Addr) (cl : List (Str × Addr)) (fp : List Addr), DE (X.blk s H scope (compEnvC scope cl C X.env) fp) elt te) (hs : ∀ x, foldedSetIterable iter X.env x = pure x := by intro _; rfl) :
    DE X (.ListComp elt [⟨tg, iter, ifs, 0⟩] scope pos) (dLc wi p tt te (own.map (·.2))) := by
  obtain ⟨tw, p0, r0⟩ := hi.ex
  refine ⟨_, pe_lc (tt := hatT X.K tt) (te := hatE X.K te) hc hN p0 ok hg (fun s H C cl fp => (ht s H C cl fp).pt) (fun s H C cl fp => (he s H C cl fp).hat) hs, fun F H σ S G o Q' h Q k => ?_⟩
  refine lc_refine hp r0 o (Q' := fun acc G' => Q' (.lst acc) G') h fun F' H' G' D accV acc hD go g hd rs fd gd q => ?_
  exact k _ H' _ _ G' (go_hold hD go fd) (hold_freeze g hd fd gd) (.lst upd_same (rs.mono (Ex.new fd))) q
/-- name = [..] on one line -/
theorem dp_setLc {i : Nat} {y : Str} {py spos : Pos} {elt tg iter : Expr} {ifs : List Expr} {scope : Scope} {own : List (Str × Nat)} {wi : DTI} {p : Pat} {tt : DTT} {te : DTE} (hc : X.calm = true) (hN : X.N.Nodup) (hy : X.N[i]? = some y) (hyl : X.env.scope.names.lookup y = some .local)
    (hsw : swapsWith (.ListComp elt [⟨tg, iter, ifs, 0⟩] scope pos) (some (.Name y py)) spos.line X.env = pure true) (hi : DI X tg iter wi) (ok : BlkOk X.N X.env.scope scope own) (hp : ∀ i ∈ p.at_, i ∈ own.map (·.2))
    (hg : ∀ (s : Shared) (H : Hp) (C : Addr) (cl : List (Str × Addr)) (fp : List Addr), PG (X.blk s H scope (compEnvC scope cl C X.env) fp) tg (p.g X.K)) (ht : ∀ (s : Shared) (H : Hp) (C : Addr) (cl : List (Str × Addr)) (fp : List Addr), DTs (X.blk s H scope (compEnvC scope cl C X.env) fp) ifs tt)
    (he : ∀ (s : Shared) (H : Hp) (C : Addr) (cl : List (Str × Addr)) (fp : List Addr), DE (X.blk s H scope (compEnvC scope cl C X.env) fp) elt te) (hs : ∀ x, foldedSetIterable iter X.env x = pure x := by intro _; rfl) :
    DP X (.Assign [.Name y py] (.ListComp elt [⟨tg, iter, ifs, 0⟩] scope pos) spos) (dAsg (dLc wi p tt te (own.map (·.2))) (dgName i)) := by
  obtain ⟨tw, p0, r0⟩ := hi.ex
  refine ⟨_, ps_setLc (tt := hatT X.K tt) (te := hatE X.K te) hc hN hy hyl hsw p0 ok hg (fun s H C cl fp => (ht s H C cl fp).pt) (fun s H C cl fp => (he s H C cl fp).hat) hs, fun F H σ S G o D' h D0 k => ?_⟩
  refine lc_refine hp r0 o (Q' := fun acc G' => D'.nx (S.set i (some (.lst acc))) G') h fun F' H' G' D accV acc hD go g hd rs fd gd q => ?_
  have go2 := go_hold (u := .lst accV) hD go fd
  exact k.nx _ H' _ _ G' go2 ⟨hold_freeze g hd fd gd, (o.s.mono go2.ex).set (.lst upd_same (rs.mono (Ex.new fd))) i⟩ q
end
end DL
end
section
set_option Elab.async false
set_option linter.all false
set_option maxRecDepth 100000
set_option maxHeartbeats 4000000
namespace DL
open PySem PySem.Spec PyProof.Rows L2
def D.hasTy (T : String) : D → Bool
  | .lst _ => T == "list"
  | .str _ => T == "str"
  | .dK _ => T == "dict"
  | .dT _ => T == "dict"
  | _ => false
section
variable {X : Cx} {pos : Pos}
structure MtD (X : Cx) (id : String) (r' : D → List D → GH → DQ → Prop) : Prop where
  ex : ∃ r, MtR X id r ∧ ∀ F H G x dx vs ds, Gok X.K F H G → Rep X.K F x dx → Reps X.K F vs ds → ∀ Q', r' dx ds G Q' → ∀ Q, KpE X.K F H G Q' Q → r x vs H Q
theorem hasTy_tyV {F H : Hp} {G : GH} {v : V} {d : D} {T : String} (g : Gok X.K F H G) (r : Rep X.K F v d) (h : D.hasTy T (d.cur G) = true) : tyV X.K T v H := by
  cases e : d.cur G with
  | lst xs =>
    rw [e] at h
    obtain ⟨a, vs, rfl, ha, _⟩ := cur_list g r e
    exact .inl ⟨by simpa [D.hasTy] using h, vs, .inl (.inl ha)⟩
  | str z =>
    rw [e] at h
    rw [cur_str r e]
    show T = "str"
    simpa [D.hasTy] using h
  | dK kds =>
    rw [e] at h
    obtain ⟨a, kvs, rfl, ha, _⟩ := cur_dK g r e
    exact .inr (.inr (.inl ⟨by simpa [D.hasTy] using h, .inl ⟨kvs, ha⟩⟩))
  | dT kds =>
    rw [e] at h
    obtain ⟨a, kvs, rfl, ha, _⟩ := cur_dT g r e
    exact .inr (.inr (.inl ⟨by simpa [D.hasTy] using h, .inr ⟨kvs, ha⟩⟩))
  | _ => rw [e] at h; cases h
def dBM (T : String) (r : D → List D → GH → DQ → Prop) (to : DTE) (ta : DTA) : DTE := fun S G Q => to S G fun x G1 => D.hasTy T (x.cur G1) = true ∧ ta S G1 fun ds G2 => r x ds G2 Q
theorem de_bm {T id : String} {name : Str} {o e : Expr} {es : List Expr} {r' : D → List D → GH → DQ → Prop} {to : DTE} {ta : DTA} {apos : Pos} (pa : PlainAttrs T) (slot : Slot T name id) (hty : typeOf (.builtin id) = pure (.type "method_descriptor")) (hm : MtD X id r') (ho : DE X o to) (ha : DA X (e :: es) ta)
    (hbase : attributeBase o name X.env (eval o X.env) = eval o X.env := by rfl)
    (hfew : ((backTo pos (starEach (e :: es) X.env)).all (fun x => !x.1) && (backToKw pos (keywordEach [] X.env)).all (fun x => x.1.isSome) && decide ((e :: es).length + ([] : List Keyword).length + (if ([] : List Keyword).isEmpty then 0 else 1) < 30)) = true := by rfl)
    (hline : (apos.endLine == pos.line) = true := by rfl) (hs : starEach (e :: es) X.env = (false, eval e X.env) :: starEach es X.env := by rfl) (hplain : (backTo pos (starEach es X.env)).any (·.1) = false := by rfl) :
    DE X (.Call (.Attribute o name apos) (e :: es) [] pos) (dBM T r' to ta) := by
  obtain ⟨r, hr, rr⟩ := hm.ex
  obtain ⟨t1, p1, r1⟩ := ho.ex
  obtain ⟨t2, p2, r2⟩ := ha.ex
  refine ⟨_, pe_bm pa slot hty hr p1 p2 hbase hfew hline hs hplain, fun F H σ S G o Q' h Q k => ?_⟩
  refine r1 F H σ S G o _ h _ fun F1 H1 v d G1 e1 g1 q1 h1 => ?_
  refine ⟨hasTy_tyV g1 q1 h1.1, ?_⟩
  refine r2 F1 H1 σ S G1 (o.go e1 g1) _ h1.2 _ fun F2 H2 vs ds G2 e2 g2 q2 h2 => ?_
  exact rr F2 H2 G2 v d vs ds g2 (q1.mono e2.ex) q2 Q' h2 Q (k.mono (e1.trans e2))
def dBM0 (T : String) (r : D → List D → GH → DQ → Prop) (to : DTE) : DTE := fun S G Q => to S G fun x G1 => D.hasTy T (x.cur G1) = true ∧ r x [] G1 Q
theorem de_bm0 {T id : String} {name : Str} {o : Expr} {r' : D → List D → GH → DQ → Prop} {to : DTE} {apos : Pos} (pa : PlainAttrs T) (slot : Slot T name id) (hty : typeOf (.builtin id) = pure (.type "method_descriptor")) (hm : MtD X id r') (ho : DE X o to)
    (hbase : attributeBase o name X.env (eval o X.env) = eval o X.env := by rfl) (hline : (apos.endLine == pos.line) = true := by rfl) :
    DE X (.Call (.Attribute o name apos) [] [] pos) (dBM0 T r' to) := by
  obtain ⟨r, hr, rr⟩ := hm.ex
  obtain ⟨t1, p1, r1⟩ := ho.ex
  refine ⟨_, pe_bm0 pa slot hty hr p1 hbase hline, fun F H σ S G o Q' h Q k => ?_⟩
  refine r1 F H σ S G o _ h _ fun F1 H1 v d G1 e1 g1 q1 h1 => ?_
  exact ⟨hasTy_tyV g1 q1 h1.1, rr F1 H1 G1 v d [] [] g1 q1 .nil Q' h1.2 Q (k.mono e1)⟩
/-- l.append(e) -/
def rAppendD (x : D) (ds : List D) (G : GH) (Q : DQ) : Prop := match x, ds with
  | .rf a, [d] => (match G a with
    | some (.lst xs) => xs.length < sizeLine ∧ Q .non (gput G a (.lst (xs ++ [d])))
    | _ => False)
  | _, _ => False
theorem md_append : MtD X "list.append" rAppendD := by
  refine ⟨_, mt_append, fun F H G x dx vs ds g rx rs Q' h Q k => ?_⟩
  unfold rAppendD at h
  split at h
  · rename_i a d
    split at h
    · rename_i xs eg
      cases rx
      cases rs with
      | cons r b =>
        cases b
        obtain ⟨fa, ws, ha, rw'⟩ := g.at_ a _ eg
        refine ⟨a, ws, _, rfl, rfl, ha, by rw [rw'.length]; exact h.1, ?_⟩
        exact k F _ _ _ _ (Go.put eg) (g.put (o := .lst (xs ++ [d])) eg rfl rfl ⟨_, upd_same, rw'.append (.one r)⟩) .non h.2
    · exact h.elim
  · exact h.elim
/-- l.extend(m) -/
def rExtendD (x : D) (ds : List D) (G : GH) (Q : DQ) : Prop := match x, ds with
  | .rf a, [d] => (match G a, d.cur G with
    | some (.lst xs), .lst ys => xs.length + ys.length ≤ sizeLine ∧ Q .non (gput G a (.lst (xs ++ ys)))
    | _, _ => False)
  | _, _ => False
theorem md_extend : MtD X "list.extend" rExtendD := by
  refine ⟨_, mt_extend, fun F H G x dx vs ds g rx rs Q' h Q k => ?_⟩
  unfold rExtendD at h
  split at h
  · rename_i a d
    split at h
    · rename_i xs ys eg ey
      cases rx
      cases rs with
      | cons r b =>
        cases b
        obtain ⟨fa, ws, ha, rw'⟩ := g.at_ a _ eg
        obtain ⟨b, zs, rfl, hb, rz⟩ := cur_list g r ey
        refine ⟨a, b, ws, zs, rfl, rfl, ha, hb, by rw [rw'.length, rz.length]; exact h.1, ?_⟩
        exact k F _ _ _ _ (Go.put eg) (g.put (o := .lst (xs ++ ys)) eg rfl rfl ⟨_, upd_same, rw'.append rz⟩) .non h.2
    · exact h.elim
  · exact h.elim
/-- l.pop() -/
def rPopD (x : D) (ds : List D) (G : GH) (Q : DQ) : Prop := match x, ds with
  | .rf a, [] => (match G a with
    | some (.lst xs) => (match xs[xs.length - 1]? with
      | some d => Q d (gput G a (.lst xs.dropLast))
      | none => False)
    | _ => False)
  | _, _ => False
theorem Reps.dropLast {K : PySem.W.Frag} {F : Hp} {vs : List V} {ds : List D} (r : Reps K F vs ds) : Reps K F vs.dropLast ds.dropLast := by
  rw [List.dropLast_eq_take, List.dropLast_eq_take, r.length]
  exact r.take _
theorem md_pop : MtD X "list.pop" rPopD := by
  refine ⟨_, mt_pop, fun F H G x dx vs ds g rx rs Q' h Q k => ?_⟩
  unfold rPopD at h
  split at h
  · rename_i a
    split at h
    · rename_i xs eg
      split at h
      · rename_i d ed
        cases rx
        cases rs
        obtain ⟨fa, ws, ha, rw'⟩ := g.at_ a _ eg
        obtain ⟨v, hv, rv⟩ := rw'.get ed
        refine ⟨a, ws, v, rfl, rfl, ha, by rw [rw'.length]; exact hv, ?_⟩
        exact k F _ _ _ _ (Go.put eg) (g.put (o := .lst xs.dropLast) eg rfl rfl ⟨_, upd_same, rw'.dropLast⟩) rv h
      · exact h.elim
    · exact h.elim
  · exact h.elim
/-- sep.join(texts) -/
def texts : List D → Option (List Str)
  | [] => some []
  | .str x :: r => (texts r).map (x :: ·)
  | _ :: _ => none
theorem texts_rep {K : PySem.W.Frag} {F : Hp} : ∀ {ds : List D} {xs : List Str} {vs : List V}, texts ds = some xs → Reps K F vs ds → vs = xs.map V.str
  | [], xs, _, h, .nil => by cases h; rfl
  | .str x :: r, xs, _, h, .cons a b => by
    unfold texts at h
    cases e : texts r with
    | none => rw [e] at h; cases h
    | some m =>
      rw [e] at h
      cases h
      cases a
      simp [texts_rep e b]
  | .non :: _, _, _, h, _ => by cases h
  | .bl _ :: _, _, _, h, _ => by cases h
  | .int _ :: _, _, _, h, _ => by cases h
  | .ty _ :: _, _, _, h, _ => by cases h
  | .tup _ :: _, _, _, h, _ => by cases h
  | .lst _ :: _, _, _, h, _ => by cases h
  | .dK _ :: _, _, _, h, _ => by cases h
  | .dT _ :: _, _, _, h, _ => by cases h
  | .obj _ _ :: _, _, _, h, _ => by cases h
  | .rf _ :: _, _, _, h, _ => by cases h
  | .scr _ :: _, _, _, h, _ => by cases h
def rJoinD (x : D) (ds : List D) (G : GH) (Q : DQ) : Prop := match x, ds with
  | .str a, [d] => (match d.cur G with
    | .lst ys => (match texts ys with
      | some zs => (zs.map (·.length)).sum + zs.length * a.length ≤ 16777216 ∧ Q (.str (Txt.join a zs)) G
      | none => False)
    | .tup ys => (match texts ys with
      | some zs => (zs.map (·.length)).sum + zs.length * a.length ≤ 16777216 ∧ Q (.str (Txt.join a zs)) G
      | none => False)
    | _ => False)
  | _, _ => False
theorem md_join : MtD X "str.join" rJoinD := by
  refine ⟨_, mt_join, fun F H G x dx vs ds g rx rs Q' h Q k => ?_⟩
  unfold rJoinD at h
  split at h
  · rename_i a d
    cases rx
    cases rs with
    | cons r b =>
      cases b
      split at h
      · rename_i ys ey
        split at h
        · rename_i zs ez
          obtain ⟨p, ws, rfl, hp, rw'⟩ := cur_list g r ey
          have := texts_rep ez rw'
          subst this
          exact ⟨a, p, zs, rfl, rfl, .inl (.inl (.inl hp)), h.1, k F H _ _ G Go.refl g (.str _) h.2⟩
        · exact h.elim
      · rename_i ys ey
        split at h
        · rename_i zs ez
          obtain ⟨p, ws, rfl, hp, rw'⟩ := cur_tup r ey
          have := texts_rep ez rw'
          subst this
          exact ⟨a, p, zs, rfl, rfl, .inr (.inl (.inl (g.ex _ _ hp))), h.1, k F H _ _ G Go.refl g (.str _) h.2⟩
        · exact h.elim
      · exact h.elim
  · exact h.elim
def dGet1 (td ty : DTE) : DTE := fun S G Q => td S G fun x G1 => D.hasTy "dict" (x.cur G1) = true ∧ ty S G1 fun y G2 => match (x.cur G2).look y with
  | some o => Q (o.getD .non) G2
  | none => False
def dGet2 (td ty tx : DTE) : DTE := fun S G Q => td S G fun x G1 => D.hasTy "dict" (x.cur G1) = true ∧ ty S G1 fun y G2 => tx S G2 fun z G3 => match (x.cur G3).look y with
  | some o => Q (o.getD z) G3
  | none => False
theorem de_ty {x : Str} {T : String} (hg : Gl X x) (hm : X.mg x = none) (hv : bootBuiltins x = some (.type T)) (hn : x ≠ "__name__" := by decide) (hd : (x == ("__debug__" : Str)) = false := by decide) : DE X (.Name x pos) (dC (.ty T)) :=
  dc_of (pe_bltn (v := .ty T) hg hm hv rfl hn hd) fun _ => .ty T
def D.tyN : D → Option String
  | .non => some "NoneType"
  | .bl _ => some "bool"
  | .int _ => some "int"
  | .str _ => some "str"
  | .tup _ => some "tuple"
  | .lst _ => some "list"
  | .dK _ => some "dict"
  | .dT _ => some "dict"
  | _ => none
theorem tyN_of {F H : Hp} {G : GH} {v : V} {d : D} {n : String} (g : Gok X.K F H G) (r : Rep X.K F v d) (h : (d.cur G).tyN = some n) : TyOf X.K H v (.type n) := by
  cases e : d.cur G with
  | lst xs =>
    rw [e] at h; cases h
    obtain ⟨a, vs, rfl, ha, _⟩ := cur_list g r e
    exact .lst ha
  | tup xs =>
    rw [e] at h; cases h
    obtain ⟨a, vs, rfl, ha, _⟩ := cur_tup r e
    exact .tup (g.ex _ _ ha)
  | dK kds =>
    rw [e] at h; cases h
    obtain ⟨a, kvs, rfl, ha, _⟩ := cur_dK g r e
    exact .dK ha
  | dT kds =>
    rw [e] at h; cases h
    obtain ⟨a, kvs, rfl, ha, _⟩ := cur_dT g r e
    exact .dT ha
  | str z => rw [e] at h; cases h; rw [cur_str r e]; exact .str z
  | int z => rw [e] at h; cases h; rw [cur_int r e]; exact .int z
  | non =>
    rw [e] at h; cases h
    cases d <;> first | (cases r; exact .non) | (exfalso; simp [D.cur] at e; done) | skip
    · rename_i a
      exfalso
      unfold D.cur at e
      cases q : G a with
      | none => simp only [q] at e; cases e
      | some o => cases o <;> (simp only [q] at e; cases e)
  | bl b =>
    rw [e] at h; cases h
    cases d <;> first | (cases e; cases r; exact .bl _) | (exfalso; simp [D.cur] at e; done) | skip
    · rename_i a
      exfalso
      unfold D.cur at e
      cases q : G a with
      | none => simp only [q] at e; cases e
      | some o => cases o <;> (simp only [q] at e; cases e)
  | _ => rw [e] at h; cases h
def rIsiD (ds : List D) (G : GH) (Q : DQ) : Prop := match ds with
  | [d, .ty T] => (match (d.cur G).tyN with
    | some n => (match kitB n T with
      | some b => Q (.bl b) G
      | none => False)
    | none => False)
  | _ => False
theorem cd_isi : CallD X (.builtin "isinstance") rIsiD := by
  refine ⟨_, call_isi, fun F H G vs ds g rs Q' h Q k => ?_⟩
  unfold rIsiD at h
  split at h
  · rename_i d T
    split at h
    · rename_i n en
      split at h
      · rename_i b eb
        cases rs with
        | cons r rest =>
          cases rest with
          | cons r2 rest2 =>
            cases rest2
            cases r2
            exact ⟨_, _, .type n, .type T, b, rfl, .ty T, .base (tyN_of g r en), kit_ty eb, k F H _ _ G Go.refl g (.bl _) h⟩
      · exact h.elim
    · exact h.elim
  · exact h.elim
def bools : List D → Option (List Bool)
  | [] => some []
  | .bl x :: r => (bools r).map (x :: ·)
  | _ :: _ => none
theorem bools_rep {K : PySem.W.Frag} {F : Hp} : ∀ {ds : List D} {xs : List Bool} {vs : List V}, bools ds = some xs → Reps K F vs ds → vs = xs.map V.bl
  | [], xs, _, h, .nil => by cases h; rfl
  | .bl x :: r, xs, _, h, .cons a b => by
    unfold bools at h
    cases e : bools r with
    | none => rw [e] at h; cases h
    | some m =>
      rw [e] at h
      cases h
      cases a
      simp [bools_rep e b]
  | .non :: _, _, _, h, _ => by cases h
  | .str _ :: _, _, _, h, _ => by cases h
  | .int _ :: _, _, _, h, _ => by cases h
  | .ty _ :: _, _, _, h, _ => by cases h
  | .tup _ :: _, _, _, h, _ => by cases h
  | .lst _ :: _, _, _, h, _ => by cases h
  | .dK _ :: _, _, _, h, _ => by cases h
  | .dT _ :: _, _, _, h, _ => by cases h
  | .obj _ _ :: _, _, _, h, _ => by cases h
  | .rf _ :: _, _, _, h, _ => by cases h
  | .scr _ :: _, _, _, h, _ => by cases h
theorem bools_map (bs : List Bool) : bools (bs.map D.bl) = some bs := by
  induction bs with
  | nil => rfl
  | cons b bs ih => simp [bools, ih]
def rAllD (ds : List D) (G : GH) (Q : DQ) : Prop := match ds with
  | [d] => (match d.cur G with
    | .lst ys => (match bools ys with
      | some bs => Q (.bl (bs.all id)) G
      | none => False)
    | _ => False)
  | _ => False
theorem cd_all (hc : X.calm = true) : CallD X (.builtin "all") rAllD := by
  refine ⟨_, cr_all hc, fun F H G vs ds g rs Q' h Q k => ?_⟩
  unfold rAllD at h
  split at h
  · rename_i d
    cases rs with
    | cons r b =>
      cases b
      split at h
      · rename_i ys ey
        split at h
        · rename_i bs eb
          obtain ⟨p, ws, rfl, hp, rw'⟩ := cur_list g r ey
          have := bools_rep eb rw'
          subst this
          exact ⟨p, bs, rfl, .inl (.inl hp), k F H _ _ G Go.refl g (.bl _) h⟩
        · exact h.elim
      · exact h.elim
  · exact h.elim
end
end DL
end
section
set_option Elab.async false
set_option linter.all false
set_option maxRecDepth 100000
set_option maxHeartbeats 4000000
namespace DL
open PySem PySem.Spec PyProof.Rows L2
def D.le (x y : D) : Bool := PySem.W.dataLe false D.py x y
def sortD (ds : List D) : List D := ds.mergeSort D.le
def okS (ds : List D) : Bool := D.pls ds && (ds.all fun x => ds.all fun y => PySem.W.alike x.py y.py) && (ds.all fun x => decide (x.py.depth ≤ 60)) &&
  ((ds.all fun x => match x with | .tup (_ :: _) => true | _ => false) || (ds.all fun x => match x with | .tup _ => false | .non => false | _ => true))
def rSortA (K : PySem.W.Frag) : List V → Hp → VK → Prop := fun vs H Q => ∃ (a : Addr) (bs : List (V × D)), vs = [.ref a] ∧ SqL K H a (bs.map (·.1)) ∧ (∀ b ∈ bs, Dp K H b.1 b.2.py) ∧ okS (bs.map (·.2)) = true ∧
  ∀ p, H p = none → Q (.ref p) (upd H p (.lst ((bs.mergeSort (PySem.W.dataLe false fun b => b.2.py)).map (·.1))))
section
variable {X : Cx} {pos : Pos}
theorem each_of {R : Value → (V × D) → Prop} : ∀ {us : List Value} {bs : List (V × D)}, Vals (bs.map (·.1)) us → (∀ b ∈ bs, ∀ u, RelV b.1 u → R u b) → PySem.W.EachIs R us bs
  | _, [], r, _ => by
    cases r
    exact .nil
  | _, b :: bs, r, h => by
    rw [List.map_cons] at r
    cases r with
    | cons a t => exact .cons (h b (by simp) _ a) (each_of t fun c hc => h c (by simp [hc]))
theorem vals_each : ∀ {us : List Value} {bs : List (V × D)}, PySem.W.EachIs (fun u b => RelV b.1 u) us bs → Vals (bs.map (·.1)) us
  | _, _, .nil => .nil
  | _, _, .cons h t => .cons h (vals_each t)
theorem okS_of {ds : List D} (h : okS ds = true) : D.pls ds = true ∧ PySem.W.AllAlike (ds.map D.py) ∧ (∀ d ∈ ds, d.py.depth ≤ 60) ∧ PySem.W.Sortable (ds.map D.py) := by
  unfold okS at h
  simp only [Bool.and_eq_true, Bool.or_eq_true, List.all_eq_true, decide_eq_true_eq] at h
  obtain ⟨⟨⟨h1, h2⟩, h3⟩, h4⟩ := h
  refine ⟨h1, fun d hd d' hd' => ?_, h3, ?_⟩
  · obtain ⟨x, hx, rfl⟩ := List.mem_map.mp hd
    obtain ⟨y, hy, rfl⟩ := List.mem_map.mp hd'
    exact h2 x hx y hy
  · rcases h4 with h4 | h4
    · refine .inl fun d hd => ?_
      obtain ⟨x, hx, rfl⟩ := List.mem_map.mp hd
      have := h4 x hx
      split at this
      · exact ⟨_, _, rfl⟩
      · cases this
    · refine .inr fun d hd => ?_
      obtain ⟨x, hx, rfl⟩ := List.mem_map.mp hd
      have := h4 x hx
      have hp : x.pl = true := by
        rw [D.pls_all, List.all_eq_true] at h1
        exact h1 x hx
      cases x <;> first | (simp at this; done) | (simp [D.pl] at hp; done) | exact ⟨by simp [D.py], fun xs => by simp [D.py]⟩
theorem cr_sortA (hu : X.A.units + 100 < cLine) : CallR X (.builtin "sorted") (rSortA X.K) := by
  intro pins s σ H vs us Q I r h
  obtain ⟨a, bs, rfl, hs, hd, hok, q⟩ := h
  obtain ⟨its, rv, hl, hz⟩ := I.list hs
  rw [Vals.ref1 r]
  obtain ⟨o1, o2, o3, o4⟩ := okS_of hok
  have hz' : bs.length ≤ sizeLine := by simpa using hz
  have em : (bs.map fun b => b.2.py) = (bs.map (·.2)).map D.py := by simp
  refine PySem.W.sorted_data (R := fun u b => RelV b.1 u) (enc := fun b : V × D => b.2.py) (bs := bs) hl.isList (each_of rv fun b _ u ru => ru) (each_of rv fun b hb u ru => ?_) (by rw [em]; exact o2) (by rw [em]; exact o4) hz' (fun b hb => ?_) fun out hlen ho => ?_
  · exact Dp.reads I _ _ _ (hd b hb) ru
  · have := o3 b.2 (List.mem_map.mpr ⟨b, hb, rfl⟩)
    show X.A.units + 2 + b.2.py.depth < cLine
    omega
  · obtain ⟨ep, he'⟩ := PyProof.Rows.sortedAll_at s.heap its out.toArray
    have hlen' : ((bs.mergeSort (PySem.W.dataLe false fun b => b.2.py)).map (·.1)).length ≤ sizeLine := by
      rw [List.length_map, List.length_mergeSort]
      exact hz'
    exact ⟨.ref _, upd H (s.heap.objs.size + 1) (.lst ((bs.mergeSort (PySem.W.dataLe false fun b => b.2.py)).map (·.1))), I.laid (t' := s.toks) (fun _ _ => PyProof.Rows.sortedAll_old) (Nat.le_succ _) ⟨hlen', out, ep, vals_each ho, he'⟩, rfl, q _ (I.hok.fresh (Nat.le_succ _))⟩
theorem zip_fst : ∀ {K : PySem.W.Frag} {F : Hp} {vs : List V} {ds : List D}, Reps K F vs ds → (vs.zip ds).map (·.1) = vs ∧ (vs.zip ds).map (·.2) = ds
  | _, _, _, _, .nil => ⟨rfl, rfl⟩
  | _, _, _, _, .cons a b => by
    obtain ⟨h1, h2⟩ := zip_fst b
    simp [h1, h2]
theorem zip_rep : ∀ {K : PySem.W.Frag} {F : Hp} {vs : List V} {ds : List D}, Reps K F vs ds → ∀ b ∈ vs.zip ds, Rep K F b.1 b.2
  | _, _, _, _, .nil, b, h => by simp at h
  | _, _, _, _, .cons (v := v) (d := d) a t, b, h => by
    rw [List.zip_cons_cons, List.mem_cons] at h
    rcases h with rfl | h
    · exact a
    · exact zip_rep t b h
theorem Reps.of_zip {K : PySem.W.Frag} {F : Hp} : ∀ (bs : List (V × D)), (∀ b ∈ bs, Rep K F b.1 b.2) → Reps K F (bs.map (·.1)) (bs.map (·.2))
  | [], _ => .nil
  | b :: bs, h => .cons (h b (by simp)) (Reps.of_zip bs fun c hc => h c (by simp [hc]))
/-- sorted(l): a new list; of a dict with int keys -/
def rSortD (ds : List D) (G : GH) (Q : DQ) : Prop := match ds with
  | [d] => (match d.cur G with
    | .lst xs => okS xs = true ∧ Q (.lst (sortD xs)) G
    | .dK kds => (match intKeys kds with
      | some ns => ns.length < 100000 ∧ Q (.lst ((ns.mergeSort (· ≤ ·)).map .int)) G
      | none => False)
    | _ => False)
  | _ => False
theorem isort_uniq {ns ms : List Int} (p : ms.Perm ns) (s : ms.Pairwise (· ≤ ·)) : ms = ns.mergeSort (· ≤ ·) := by
  have h2 : (ns.mergeSort (· ≤ ·)).Pairwise (fun a b : Int => (decide (a ≤ b)) = true) := List.pairwise_mergeSort (le := fun a b : Int => decide (a ≤ b)) (by intro a b c; simp; omega) (by intro a b; simp; omega) ns
  refine List.Perm.eq_of_pairwise (le := fun a b : Int => a ≤ b) (fun a b _ _ h1 h2 => Int.le_antisymm h1 h2) s (h2.imp fun h => of_decide_eq_true h) (p.trans (List.mergeSort_perm ns _).symm)
/-- sorted(d) of a dict whose keys are ints, however many -/
theorem cr_sortKeys (hc : X.calm = true) : CallR X (.builtin "sorted") (fun vs H Q => ∃ (a : Addr) (kvs : List (Key × V)) (ns : List Int), vs = [.ref a] ∧ Rd H a (.dK kvs) ∧ kvs.map (·.1) = ns.map Sum.inl ∧ ns.length < 100000 ∧
    ∀ (ms : List Int) (p : Addr), ms.Perm ns → ms.Pairwise (· ≤ ·) → H p = none → Q (.ref p) (upd H p (.lst (ms.map V.int)))) := by
  intro pins s σ H vs us Q I r h
  obtain ⟨a, kvs, ns, rfl, hd, hk, hz, q⟩ := h
  rw [Vals.ref1 r]
  obtain ⟨z, lo, ws, rel, dd⟩ := dk_rd I.hok hd
  obtain ⟨ep, hat⟩ := dd.dictAt
  have wk : ws.map (·.1) = ns.map Sum.inl := rel.keys.symm.trans hk
  have wl : ws.length = ns.length := by simpa using congrArg List.length wk
  have big : 100000 < sizeLine := by rw [sizeLine_eq]; omega
  refine Calls.call_function_entry PyProof.Rows.kind_sorted PyProof.Rows.plain_sorted PyProof.Rows.entry_sorted (PyProof.Rows.args_sorted1 _) ?_
  unfold Builtin.«sorted»
  refine wpAny_bind (m := checkCount "sorted" 1 1 _) (wpAny_pure ?_)
  refine wpAny_bind (PySem.W.kdu_collect (A := X.A.in1) (PySem.W.kdl_dict (knd := mixKind X.prog X.w) (kvs := ws) (ep := ep) lo) (I.ok.hd hc) hat (by omega) fun h' tk acc hs hacc => ?_)
  have al : acc.toList.length = ns.length := by rw [Array.length_toList, hacc.1, wl]
  have its : IntsAre acc.toList ns := L2.ints_each al fun j v e => by
    obtain ⟨k, x, e1, e2⟩ := hacc.2 j v (by rw [← Array.getElem?_toList]; exact e)
    have e3 : (ns.map (Sum.inl (β := Str)))[j]? = some k := by rw [← wk, List.getElem?_map, e1]; rfl
    obtain ⟨n, e4, rfl⟩ : ∃ n, ns[j]? = some n ∧ Sum.inl n = k := by
      rw [List.getElem?_map] at e3
      cases e4 : ns[j]? with
      | none => rw [e4] at e3; cases e3
      | some n => rw [e4] at e3; exact ⟨n, rfl, by simpa using e3⟩
    rcases keyIs_shape (show keyIs (Sum.inl n) v = true from e2) with ⟨i, t, ek, ev⟩ | ⟨_, _, ek, _⟩
    · cases ek
      exact ⟨n, t, e4, ev⟩
    · cases ek
  have I1 : Inv X pins σ H { s with heap := h', toks := tk } := I.kept hs
  refine wpAny_bind (wpAny_newList ?_ (by rw [al]; omega))
  have atL : (h'.push (seqObj "list" acc.toList.toArray 0)).get? h'.objs.size = some (seqObj "list" acc.toList.toArray 0) := Heap.get?_push_size _ rfl
  show wpAny _ _ _ _ _ { s with heap := h'.push (seqObj "list" acc.toList.toArray 0), toks := tk }
  refine wpAny_bind (wpAny_holding (wpAny_call_entry PyProof.Rows.slot_list_sort ⟨_, atL, rfl⟩ PyProof.Rows.entry_list_sort
    (PyProof.Rows.list_sort_treeAny (s := { s with heap := h'.push (seqObj "list" acc.toList.toArray 0), toks := tk }) atL its (by rw [al]; omega) fun out ms g1 g2 g3 => ⟨_, rfl, ?_⟩) (PyProof.Rows.args_list_sort _)))
  obtain ⟨e', he'⟩ := PyProof.Rows.sortedHeap_at (vs := acc.toList) (out := out) atL
  refine wpAny_pure ⟨_, rfl, .ref h'.objs.size, upd H h'.objs.size (.lst (ms.map V.int)), I1.laid (t' := tk) (fun b u e => ?_) (Nat.le_refl _)
    (show ObjOk X.prog X.w _ _ _ (.lst (ms.map V.int)) from ⟨by rw [List.length_map, g2.length_eq]; omega, out.toList, e', vals_of_ints g1, by rw [Array.toArray_toList]; exact he'⟩), rfl, q ms _ g2 g3 (I1.hok.fresh (Nat.le_refl _))⟩
  have hb : b < h'.objs.size := Heap.lt_size e
  rw [PyProof.Rows.sortedHeap_old (Nat.ne_of_lt hb) (by rw [size_push']; exact Nat.lt_succ_of_lt hb)]
  exact Heap.get?_push_of_some _ e
theorem cd_sorted (hu : X.A.units + 100 < cLine) (hc : X.calm = true) : CallD X (.builtin "sorted") rSortD := by
  refine ⟨_, CallR.or (cr_sortA hu) (cr_sortKeys hc), fun F H G vs ds g rs Q' h Q k => ?_⟩
  unfold rSortD at h
  split at h
  · rename_i d
    cases rs with
    | cons r b =>
      cases b
      split at h
      · rename_i xs ex
        obtain ⟨a, ws, rfl, ha, rw'⟩ := cur_list g r ex
        obtain ⟨z1, z2⟩ := zip_fst rw'
        obtain ⟨o1, o2, o3, o4⟩ := okS_of h.1
        refine .inl ⟨a, ws.zip xs, rfl, by rw [z1]; exact .inl (.inl ha), fun b hb => ?_, by rw [z2]; exact h.1, fun p hp => ?_⟩
        · have hm : b.2 ∈ xs := by rw [← z2]; exact List.mem_map.mpr ⟨b, hb, rfl⟩
          have hp : b.2.pl = true := by
            rw [D.pls_all, List.all_eq_true] at o1
            exact o1 _ hm
          exact Dp.mono' g.ex _ (Rep.dp _ (zip_rep rw' b hb) hp)
        · have em : ((ws.zip xs).mergeSort (PySem.W.dataLe false fun b => b.2.py)).map (·.2) = sortD xs := by
            unfold sortD
            have h3 := PySem.W.sort_maps (r := PySem.W.dataLe false fun b : V × D => b.2.py) (s := D.le) Prod.snd (l := ws.zip xs) (fun a _ b _ => rfl)
            rw [h3, z2]
          have rr : Reps X.K F (((ws.zip xs).mergeSort (PySem.W.dataLe false fun b => b.2.py)).map (·.1)) (sortD xs) := by
            rw [← em]
            exact Reps.of_zip _ fun b hb => zip_rep rw' b ((List.mergeSort_perm _ _).mem_iff.mp hb)
          have gr := Gr.new (u := .lst (((ws.zip xs).mergeSort (PySem.W.dataLe false fun b => b.2.py)).map (·.1))) g.ex hp
          exact k _ _ _ _ G gr.go (g.grow gr) (.lst upd_same (rr.mono gr.ff)) h.2
      · rename_i kds ex
        split at h
        · rename_i ns en
          obtain ⟨a, kvs, rfl, ha, kr⟩ := cur_dK g r ex
          refine .inr ⟨a, kvs, ns, rfl, .inl ha, by rw [kr.ks, intKeys_map en], h.1, fun ys p hp hs hn => ?_⟩
          have e := isort_uniq hp hs
          subst e
          have gr := Gr.new (u := .lst ((ns.mergeSort (· ≤ ·)).map V.int)) g.ex hn
          exact k _ _ _ _ G gr.go (g.grow gr) (.lst upd_same (Reps.ints _)) h.2
        · exact h.elim
      · exact h.elim
  · exact h.elim
def dChain (r r' : DR2) (ta tb tc : DTE) : DTE := fun S G Q => ta S G fun x G1 => tb S G1 fun y G2 => r x y G2 fun z G3 => match z with
  | .bl k => if k = true then tc S G3 fun w G4 => r' y w G4 Q else Q (.bl false) G3
  | _ => False
theorem chain_core {op op' : CmpOp} {r r' : DR2} {a b c : Expr} {ta tb tc : DTE} (ho : OpD X (compareOp op) r) (ho' : OpD X (compareOp op') r') (ha : DE X a ta) (hb : DE X b tb) (hc : DE X c tc) :
    ∃ (q q' : R2) (t1 t2 t3 : TE), OpR X (compareOp op) q ∧ OpR X (compareOp op') q' ∧ PE X a t1 ∧ PE X b t2 ∧ PE X c t3 ∧ ∀ F H σ S G, Ok X.K F H σ S G → ∀ Q', dChain r r' ta tb tc S G Q' → ∀ Q, KpE X.K F H G Q' Q → tChain q q' t1 t2 t3 σ H Q := by
  obtain ⟨q, hq, rq⟩ := ho.ex
  obtain ⟨q', hq', rq'⟩ := ho'.ex
  obtain ⟨t1, p1, r1⟩ := ha.ex
  obtain ⟨t2, p2, r2⟩ := hb.ex
  obtain ⟨t3, p3, r3⟩ := hc.ex
  refine ⟨q, q', t1, t2, t3, hq, hq', p1, p2, p3, fun F H σ S G o Q' h Q k => ?_⟩
  refine r1 F H σ S G o _ h _ fun F1 H1 v d G1 e1 g1 q1 h1 => ?_
  refine r2 F1 H1 σ S G1 (o.go e1 g1) _ h1 _ fun F2 H2 u d2 G2 e2 g2 q2 h2 => ?_
  refine rq F2 H2 G2 v u d d2 g2 (q1.mono e2.ex) q2 _ h2 _ fun F3 H3 z d3 G3 e3 g3 q3 h3 => ?_
  dsimp only at h3
  split at h3
  · rename_i kb
    cases q3
    refine ⟨kb, rfl, ?_⟩
    cases kb with
    | true =>
      rw [if_pos rfl] at h3 ⊢
      refine r3 F3 H3 σ S G3 (((o.go e1 g1).go e2 g2).go e3 g3) _ h3 _ fun F4 H4 w d4 G4 e4 g4 q4 h4 => ?_
      exact rq' F4 H4 G4 u w d2 d4 g4 ((q2.mono e3.ex).mono e4.ex) q4 Q' h4 Q (k.mono (((e1.trans e2).trans e3).trans e4))
    | false =>
      rw [if_neg Bool.false_ne_true] at h3 ⊢
      exact k F3 H3 _ _ G3 ((e1.trans e2).trans e3) g3 (.bl _) h3
  · exact h3.elim
theorem dt_chain {op op' : CmpOp} {r r' : DR2} {a b c : Expr} {ta tb tc : DTE} (ho : OpD X (compareOp op) r) (ho' : OpD X (compareOp op') r') (ha : DE X a ta) (hb : DE X b tb) (hc : DE X c tc) (hm : lastMarks [op, op'] [b, c] = false := by with_unfolding_all rfl) : DT X (.Compare a [op, op'] [b, c] pos) (dTest (dChain r r' ta tb tc)) := by
  obtain ⟨q, q', t1, t2, t3, hq, hq', p1, p2, p3, rr⟩ := chain_core ho ho' ha hb hc
  refine ⟨_, pt_chain hq hq' p1 p2 p3 hm, fun F H σ S G o Q' h Q k => ?_⟩
  refine rr F H σ S G o _ h _ fun F1 H1 v d G1 e1 g1 q1 h1 => ?_
  dsimp only at h1
  split at h1
  · cases q1
    exact ⟨_, rfl, k F1 H1 _ G1 e1 g1 h1⟩
  · exact h1.elim
theorem de_chain {op op' : CmpOp} {r r' : DR2} {a b c : Expr} {ta tb tc : DTE} (ho : OpD X (compareOp op) r) (ho' : OpD X (compareOp op') r') (ha : DE X a ta) (hb : DE X b tb) (hc : DE X c tc) (hm : lastMarks [op, op'] [b, c] = false := by with_unfolding_all rfl) : DE X (.Compare a [op, op'] [b, c] pos) (dChain r r' ta tb tc) := by
  obtain ⟨q, q', t1, t2, t3, hq, hq', p1, p2, p3, rr⟩ := chain_core ho ho' ha hb hc
  exact ⟨_, pe_chain hq hq' p1 p2 p3 hm, rr⟩
def dPar (i j : Nat) (ta : DTA) : DTS := fun D' S G => ta S G fun ds G1 => match ds with
  | [x, y] => D'.nx ((S.set i (some x)).set j (some y)) G1
  | _ => False
end
end DL
end
section
set_option Elab.async false
set_option linter.all false
set_option maxRecDepth 100000
set_option maxHeartbeats 4000000
namespace DL
open PySem PySem.Spec PyProof.Rows L2
def ItE (xs : List V) (ok : Hp → Prop) : It :=
  ⟨fun i H => ok H ∧ i < xs.length, fun i H v H' => ∃ T x, v = .ref T ∧ H T = none ∧ H' = upd H T (.tup [.int (i : Nat), x]) ∧ xs[i]? = some x, fun i H => ok H ∧ i = xs.length⟩
theorem turn_enumOf {P : Program} {w : World} {K : PySem.W.Frag} {elts : List Expr} {kk : Nat} {tpos : Pos} {xs : List V} {ok : Hp → Prop} {e it : Addr} {Si : Nat → Heap → Prop}
    (live : ∀ i h, Si i h → ∃ o, h.get? it = some o ∧ ∀ v, o.data ≠ .cell v) (keep : ∀ i h h', Si i h → (∀ o, h.get? it = some o → h'.get? it = some o) → Si i h')
    (dr : ∀ (X : Cx) (pins : List (Addr × Obj)) (σ : L2.St) (H : Hp) (s : Shared), X.prog = P → X.w = w → X.K = K → X.A.handled = none → Inv X pins σ H s → ok H → ∃ (fp : List Addr) (Pv : Nat → Value → Prop) (St : Nat → Heap → Prop), it ∈ fp ∧ (∀ b ∈ fp, b ≠ it → ∃ u, H b = some u) ∧ Draws P w X.A.in1 it fp xs.length Pv St ∧
      (∀ i, Si i s.heap → St i s.heap) ∧ (∀ i h, St i h → Si i h) ∧ ∀ i u x, Pv i u → xs[i]? = some x → RelV x u) :
    Turn P w K (.Tuple elts kk tpos) (ItE xs ok) [e, it] e (fun i h => (∃ old, IsEnum h e it ((i : Nat) : Int) old) ∧ Si i h ∧ e ≠ it) where
  mem := by simp
  obj := by
    intro i h st b hb
    obtain ⟨⟨old, he⟩, hs, _⟩ := st
    have q : b = e ∨ b = it := by simpa using hb
    rcases q with q | q
    · subst q; exact ⟨_, he, fun v z => nomatch z⟩
    · subst q; exact live i h hs
  keep := by
    intro i h h' st k
    obtain ⟨⟨old, he⟩, hs, ne⟩ := st
    exact ⟨⟨old, k e (by simp) _ he⟩, keep i h h' hs fun o z => k it (by simp) o z, ne⟩
  item := by
    intro X hP hw hK hc i pins s σ H E I hf st hg
    obtain ⟨⟨old, he⟩, hs, ne⟩ := st
    obtain ⟨hok, hi⟩ := hg
    obtain ⟨fp, Pv, St, m0, mt, Dr, s1, s2, rel⟩ := dr X pins σ H s hP hw hK (I.ok.hd hc) I hok
    subst hP hw hK
    have el : e < s.heap.objs.size := Heap.lt_size he
    have il : it < s.heap.objs.size := by
      obtain ⟨o, z, _⟩ := live i _ hs
      exact Heap.lt_size z
    have ef : e ∉ fp := by
      intro z
      obtain ⟨u, hu⟩ := mt e z ne
      rw [(hf e (by simp)).1] at hu
      cases hu
    refine wpAny_pyNext_enum_itemC Dr he (s1 i hs) hi ne ef ?_
    intro x h' tk px ho hst hT hsz hk
    refine ⟨_, rfl, wpAny_letOwnedTupleGo_enum (s := { s with heap := h', toks := tk + 1 }) ho ?_⟩
    intro h'' he' sb
    have hx : xs[i]? = some xs[i] := List.getElem?_eq_getElem hi
    have rx := rel i x _ px hx
    have hT2 := (sb.2 _ (Nat.ne_of_gt el)).trans hT
    have nw : ObjOk X.prog X.w (upd H s.heap.objs.size (.tup [.int (i : Nat), xs[i]])) h'' s.heap.objs.size (.tup [.int (i : Nat), xs[i]]) :=
      ⟨(by decide : 2 ≤ sizeLine), [.int i tk, x], .cons ⟨_, rfl⟩ (.cons rx .nil), ⟨_, hT2, rfl, _, rfl⟩⟩
    have J : Inv X pins σ (upd H s.heap.objs.size (.tup [.int (i : Nat), xs[i]])) { s with heap := h'', toks := tk + 1 } := by
      refine I.turnedNew (ch := [e, it]) ?_ hf (Nat.le_refl _) nw
      intro b ob hb q
      have b1 : b ≠ e := fun z => hb (by simp [z])
      have b2 : b ≠ it := fun z => hb (by simp [z])
      exact (sb.2 b b1).trans (hk b ob b1 b2 q)
    refine ⟨.ref s.heap.objs.size, _, J, rfl, ⟨_, _, rfl, I.hok.fresh (Nat.le_refl _), rfl, hx⟩, ⟨⟨x, ?_⟩, ?_, ne⟩, ?_⟩
    · have z : ((i + 1 : Nat) : Int) = (i : Int) + 1 := by omega
      rw [z]; exact he'
    · exact keep _ _ _ (s2 _ _ hst) fun o q => (sb.2 it (Ne.symm ne)).trans q
    · intro b hb
      have q : b = e ∨ b = it := by simpa using hb
      have lt : b < s.heap.objs.size := by rcases q with q | q <;> (rw [q]; assumption)
      rw [upd_ne (Nat.ne_of_lt lt)]
      exact (hf b hb).1
  done := by
    intro X hP hw hK hc i pins s σ H E I hf st hg
    obtain ⟨⟨old, he⟩, hs, ne⟩ := st
    obtain ⟨hok, hi⟩ := hg
    obtain ⟨fp, Pv, St, m0, mt, Dr, s1, s2, rel⟩ := dr X pins σ H s hP hw hK (I.ok.hd hc) I hok
    subst hP hw hK
    subst hi
    refine wpAny_pyNext_enum_endD Dr he (s1 _ hs) ?_
    intro h' eb
    refine ⟨rfl, I.turnedL (t' := s.toks) (ch := [e, it]) ?_ hf⟩
    intro b o hb q
    exact eb b o (fun z => hb (by simp [z])) q
  self := fun A i s Q E st h => let ⟨⟨_, he⟩, _⟩ := st; wpAny_pyIter_enum he h
set_option maxHeartbeats 4000000 in
theorem meets_enumB {v : Value} {o : Obj} {Hh : Heap → Prop} (B : Begins v o Hh) :
    Meets (Builtin.«enumerate.__new__» ⟨[.type "enumerate", v], []⟩) (fun _ R s => Hh s.heap ∧
      R (.ok (.ret (.ref (s.heap.push o).objs.size))) { s with heap := (s.heap.push o).push { cls := .type "enumerate", data := .fields #[.none, .bool false, .ref s.heap.objs.size, rawInt 0, .none, .none] } }) := by
  refine Meets.of_wp fun prog w A R s h => ?_
  obtain ⟨hp, g, d, tk, os⟩ := s
  obtain ⟨h1, h⟩ := h
  have hsub := PySem.sub_enumerate
  have q1 : ∀ {A' : Around} {E : Value → Shared → Prop} {Q : Value → Shared → Prop}, Q (.ref hp.objs.size) ⟨hp.push o, g, d, tk, os⟩ → wpAny (model prog w) A' (pyIter v) Q E ⟨hp, g, d, tk, os⟩ := by
    intro A' E Q q
    exact B.iter prog w _ _ ⟨hp, g, d, tk, os⟩ _ h1 q
  wp_walk using q1
  refine wpAny_stack_any fun st => wpAny_pure ?_
  split
  · rename_i c _ _ _ _ _
    cases (c == Value.type "enumerate") <;> (wp_walk using q1; exact ⟨_, rfl, h⟩)
  · wp_walk using q1
    exact ⟨_, rfl, h⟩
theorem call_enumB {prog : Program} {w : World} {A : Around} {E : Value → Shared → Prop} {s : Shared} {v : Value} {o : Obj} {Hh : Heap → Prop} {Q : Value → Shared → Prop} (B : Begins v o Hh) (h1 : Hh s.heap)
    (h : ∀ h', IsEnum h' (s.heap.objs.size + 1) s.heap.objs.size 0 .none → h'.get? s.heap.objs.size = some o → h'.objs.size = s.heap.objs.size + 2 → (∀ b o, s.heap.get? b = some o → h'.get? b = some o) → Q (.ref (s.heap.objs.size + 1)) { s with heap := h' }) :
    wpAny (model prog w) A (call (.type "enumerate") [v]) Q E s := by
  refine callType_new F.called_enumerate (by decide) (F.typeCall_enumerate_1 _) (F.newCall_enumerate_1 _) (fun obj => F.args_object_init_2 obj _) F.entry_enumerate_new (meets_enumB B) ⟨h1, ?_⟩
  have z1 : (s.heap.push o).objs.size = s.heap.objs.size + 1 := Heap.size_push ..
  show _ ∧ _
  rw [z1]
  have he : IsEnum ((s.heap.push o).push { cls := .type "enumerate", data := .fields #[.none, .bool false, .ref s.heap.objs.size, rawInt 0, .none, .none] }) (s.heap.objs.size + 1) s.heap.objs.size 0 .none := by
    have z2 := Heap.get?_push_size (s.heap.push o) (o := { cls := .type "enumerate", data := .fields #[.none, .bool false, .ref s.heap.objs.size, rawInt 0, .none, .none] }) rfl
    rw [z1] at z2
    exact z2
  refine ⟨⟨_, he, rfl⟩, h _ he (Heap.get?_push_of_some _ (Heap.get?_push_size _ B.free)) (by rw [Heap.size_push, z1]) ?_⟩
  intro b ob x
  exact Heap.get?_push_of_some _ (Heap.get?_push_of_some _ x)
def iEnumT (K : PySem.W.Frag) (ta : TA) : TI := fun σ H R => ta σ H fun vs H1 => ∃ a xs, vs = [.ref a] ∧ H1 a = some (.tup xs) ∧ R (ItE xs fun H => H a = some (.tup xs)) H1
theorem fresh_fp {X : Cx} {pins : List (Addr × Obj)} {σ : L2.St} {H : Hp} {s : Shared} (I : Inv X pins σ H s) {l : List Addr} (h : ∀ b ∈ l, s.heap.objs.size ≤ b) : ∀ b ∈ l, FpOk X pins H b := fun b hb => I.fpOk (h b hb) (I.hok.fresh (h b hb))
theorem vals_getD {xs : List V} {us : List Value} (r : Vals xs us) {i : Nat} {u : Value} {x : V} (hu : us[i]? = some u) (hx : xs[i]? = some x) : RelV x u := by
  obtain ⟨w, hw, rw'⟩ := r.get hx
  rw [hu] at hw
  cases hw
  exact rw'
theorem pi_enumT {X : Cx} {e : Expr} {ta : TA} {p pos tpos : Pos} {elts : List Expr} {kk : Nat} (hg : Gl X "enumerate") (hm : X.mg "enumerate" = none) (ha : PA X [e] ta) (hs : starEach [e] X.env = [(false, eval e X.env)] := by rfl) :
    PI X (.Tuple elts kk tpos) (.Call (.Name "enumerate" p) [e] [] pos) (iEnumT X.K ta) := by
  constructor
  intro pins s σ H R I h
  refine Call_ (ld_blt I hg hm boot_enumerate (PyProof.Rows.callWith_type1 (thn (ha.run pos pins s σ H _ I h) ?_) hs rfl))
  rintro us s1 ⟨vs, H1, I1, r1, a, xs, rfl, hq, q⟩
  cases r1 with
  | cons r rr =>
    cases rr
    cases r
    obtain ⟨its, rv, tu, hz⟩ := I1.tuple (xs := xs) (a := a) (.inl (.inl hq))
    have hl := rv.length
    refine call_enumB (begins_tuple a its.toArray) tu ?_
    intro h' he hit hsz hk
    refine wpAny_pyIter_enum he ?_
    have J : Inv X pins σ H1 { s1 with heap := h' } := I1.kept (t' := s1.toks) hk
    refine ⟨s1.heap.objs.size + 1, [s1.heap.objs.size + 1, s1.heap.objs.size], _, _, H1, rfl, J, turn_enumOf (Si := fun i h => h.IsTupleIter s1.heap.objs.size a i) ?_ ?_ ?_, ⟨⟨.none, he⟩, ⟨_, hit, rfl, rfl⟩, Nat.succ_ne_self _⟩, ?_, q⟩
    · rintro i h ⟨o, z, c, d⟩
      exact ⟨o, z, fun v y => by rw [d] at y; cases y⟩
    · rintro i h h' ⟨o, z, c⟩ k
      exact ⟨o, k o z, c⟩
    · intro X2 pins2 σ2 H2 s2 hP hw hK hh I2 hok
      have hne : a ≠ s1.heap.objs.size := by
        intro z
        have := I1.hok.fresh (Nat.le_refl s1.heap.objs.size)
        rw [← z, hq] at this
        cases this
      obtain ⟨its2, rv2, tu2, hz2⟩ := I2.tuple (xs := xs) (a := a) (.inl (.inl hok))
      have hl2 := rv2.length
      refine ⟨[s1.heap.objs.size, a], fun i v => its2.toArray[i]? = some v, fun i h => h.IsTupleIter s1.heap.objs.size a i ∧ h.IsTuple a its2.toArray, by simp, fun b hb hb2 => ?_, ?_, fun i z => ⟨z, tu2⟩, fun i h z => z.1, fun i u x pu hx => ?_⟩
      · have : b = a := by
          have q : b = s1.heap.objs.size ∨ b = a := by simpa using hb
          rcases q with q | q
          · exact absurd q hb2
          · exact q
        subst this
        exact ⟨_, hok⟩
      · have := Draws.tuple (prog := X.prog) (w := X.w) (A := X2.A.in1) hh s1.heap.objs.size a hne its2.toArray
        have ez : its2.toArray.size = xs.length := by rw [hl2]; simp
        rw [ez] at this
        exact this
      · refine vals_getD rv2 ?_ hx
        simpa using pu
    · refine fresh_fp I1 fun b hb => ?_
      have q : b = s1.heap.objs.size + 1 ∨ b = s1.heap.objs.size := by simpa using hb
      rcases q with q | q
      · rw [q]; exact Nat.le_add_right _ _
      · rw [q]; exact Nat.le_refl _
section
variable {X : Cx} {pos : Pos}
/-- for i, x in enumerate(t), t a tuple -/
def diEnumT (ta : DTA) : DTI := fun S G R => ta S G fun ds G1 => match ds with
  | [.tup xs] => R (xs.mapIdx fun i x => .tup [.int (i : Nat), x]) dNoGuard G1
  | _ => False
theorem di_enumT {e : Expr} {ta : DTA} {p tpos : Pos} {elts : List Expr} {kk : Nat} (hg : Gl X "enumerate") (hm : X.mg "enumerate" = none) (ha : DA X [e] ta) (hs : starEach [e] X.env = [(false, eval e X.env)] := by rfl) :
    DI X (.Tuple elts kk tpos) (.Call (.Name "enumerate" p) [e] [] pos) (diEnumT ta) := by
  obtain ⟨t, p1, r⟩ := ha.ex
  refine ⟨_, pi_enumT hg hm p1 hs, fun F H σ S G o R' h R k => ?_⟩
  refine r F H σ S G o _ h _ fun F1 H1 vs ds G1 e1 g1 q1 h1 => ?_
  dsimp only at h1
  split at h1
  · rename_i xs
    cases q1 with
    | cons q rest =>
      cases rest
      cases q with
      | tup hq rs =>
        rename_i a ws
        refine ⟨a, ws, rfl, g1.ex _ _ hq, k F1 H1 G1 _ _ _ e1 g1 ⟨fun F2 H2 G2 i d e2 g2 _ hd => ?_, fun F2 H2 G2 e2 g2 _ => ?_⟩ h1⟩
        · rw [List.getElem?_mapIdx] at hd
          cases ex : xs[i]? with
          | none => rw [ex] at hd; cases hd
          | some x =>
            rw [ex] at hd
            cases hd
            have hi : i < ws.length := by
              rw [rs.length]
              exact (List.getElem?_eq_some_iff.mp ex).1
            refine ⟨⟨g2.ex _ _ (e2 _ _ hq), hi⟩, fun y H3 hy => ?_⟩
            obtain ⟨T, z, rfl, hT, rfl, hz⟩ := hy
            obtain ⟨x', hx', rx'⟩ := rs.get' hz
            rw [ex] at hx'
            cases hx'
            have gr := Gr.new (u := .tup [.int (i : Nat), z]) g2.ex hT
            exact ⟨_, gr.go, g2.grow gr, .tup upd_same (.cons (.int _) (.cons ((rx'.mono e2).mono gr.ff) .nil))⟩
        · refine ⟨g2.ex _ _ (e2 _ _ hq), ?_⟩
          rw [List.length_mapIdx, rs.length]
  · exact h1.elim
end
end DL
end
section
set_option Elab.async false
set_option linter.all false
set_option maxRecDepth 100000
set_option maxHeartbeats 4000000
namespace DL
open PySem PySem.Spec PyProof.Rows L2
def sgn (c : Nat) : Str := ⟨#[c]⟩
def ItZ (x y : Str) : It :=
  ⟨fun i _ => i < min x.cps.size y.cps.size, fun i H v H' => ∃ T a b, v = .ref T ∧ H T = none ∧ H' = upd H T (.tup [.str (sgn a), .str (sgn b)]) ∧ x.cps[i]? = some a ∧ y.cps[i]? = some b, fun i _ => i = min x.cps.size y.cps.size⟩
theorem turn_zipS {P : Program} {w : World} {K : PySem.W.Frag} {elts : List Expr} {kk : Nat} {tpos : Pos} {x y : Str} {t1 t2 : Tok} {z TI TO i1 i2 : Addr} (Sp : ZipSep2 z TI TO i1 i2 [i1] [i2]) :
    Turn P w K (.Tuple elts kk tpos) (ItZ x y) [z, TI, TO, i1, i2] z (fun i h => IsZip h z TI TO .none ∧ IsTupOf2 h TI (.ref i1) (.ref i2) ∧ (∃ a b, IsTupOf2 h TO a b) ∧ h.IsStrIter i1 (strIterType x) x t1 i ∧ h.IsStrIter i2 (strIterType y) y t2 i) where
  mem := by simp
  obj := by
    rintro i h ⟨hz, hTI, ⟨a, b, hTO⟩, ⟨o1, z1, _, d1⟩, ⟨o2, z2, _, d2⟩⟩ c hc
    have q : c = z ∨ c = TI ∨ c = TO ∨ c = i1 ∨ c = i2 := by simpa using hc
    rcases q with q | q | q | q | q <;> subst q
    · exact ⟨_, hz, fun v y => nomatch y⟩
    · exact ⟨_, hTI, fun v y => nomatch y⟩
    · exact ⟨_, hTO, fun v y => nomatch y⟩
    · exact ⟨o1, z1, fun v y => by rw [d1] at y; cases y⟩
    · exact ⟨o2, z2, fun v y => by rw [d2] at y; cases y⟩
  keep := by
    rintro i h h' ⟨hz, hTI, ⟨a, b, hTO⟩, ⟨o1, z1, r1⟩, ⟨o2, z2, r2⟩⟩ k
    exact ⟨k z (by simp) _ hz, k TI (by simp) _ hTI, ⟨a, b, k TO (by simp) _ hTO⟩, ⟨o1, k i1 (by simp) _ z1, r1⟩, ⟨o2, k i2 (by simp) _ z2, r2⟩⟩
  item := by
    intro X hP hw hK hc i pins s σ H E I hf st hg
    subst hP hw hK
    obtain ⟨hz, hTI, ⟨a0, b0, hTO⟩, s1, s2⟩ := st
    have hg' : i < min x.cps.size y.cps.size := hg
    have g1 : i < x.cps.size := by omega
    have g2 : i < y.cps.size := by omega
    have hh := I.ok.hd hc
    have zl : z < s.heap.objs.size := Heap.lt_size hz
    refine wpAny_pyNext_zipD2_item Sp (Draws.text (A := X.A.in1) hh i1 x t1) (Draws.text (A := X.A.in1) hh i2 y t2) hz hTI hTO s1 s2 g1 g2 ?_
    rintro u1 u2 h' tk ⟨c1, k1, e1, rfl⟩ ⟨c2, k2, e2, rfl⟩ hz' hTO' s1' s2' hT hsz hk
    refine ⟨_, rfl, wpAny_letOwnedTupleGo_zip (s := { s with heap := h', toks := tk }) hz' ?_⟩
    intro h'' hz'' sb
    have hT2 := (sb.2 _ (Nat.ne_of_gt zl)).trans hT
    have nw : ObjOk X.prog X.w (upd H s.heap.objs.size (.tup [.str (sgn c1), .str (sgn c2)])) h'' s.heap.objs.size (.tup [.str (sgn c1), .str (sgn c2)]) :=
      ⟨(by decide : 2 ≤ sizeLine), [.str (sgn c1) k1, .str (sgn c2) k2], .cons ⟨_, rfl⟩ (.cons ⟨_, rfl⟩ .nil), ⟨_, hT2, rfl, _, rfl⟩⟩
    have J : Inv X pins σ (upd H s.heap.objs.size (.tup [.str (sgn c1), .str (sgn c2)])) { s with heap := h'', toks := tk } := by
      refine I.turnedNew (ch := [z, TI, TO, i1, i2]) ?_ hf (Nat.le_refl _) nw
      intro c o hb q
      have b1 : c ≠ z := fun w => hb (by simp [w])
      have b3 : c ≠ TO := fun w => hb (by simp [w])
      have b4 : c ≠ i1 := fun w => hb (by simp [w])
      have b5 : c ≠ i2 := fun w => hb (by simp [w])
      exact (sb.2 c b1).trans (hk c o b1 b3 b4 b5 q)
    refine ⟨.ref s.heap.objs.size, _, J, rfl, ⟨_, c1, c2, rfl, I.hok.fresh (Nat.le_refl _), rfl, e1, e2⟩, ⟨hz'', ?_, ⟨.str (sgn c1) k1, .str (sgn c2) k2, ?_⟩, ?_, ?_⟩, ?_⟩
    · exact (sb.2 _ Sp.TIz).trans (hk _ _ Sp.TIz Sp.TITO Sp.TIi1 Sp.TIi2 hTI)
    · exact (sb.2 _ Sp.TOz).trans hTO'
    · obtain ⟨o, q, r⟩ := s1'
      exact ⟨o, (sb.2 _ (Ne.symm Sp.zi1)).trans q, r⟩
    · obtain ⟨o, q, r⟩ := s2'
      exact ⟨o, (sb.2 _ (Ne.symm Sp.zi2)).trans q, r⟩
    · intro c hcm
      have lt : c < s.heap.objs.size := by
        have q : c = z ∨ c = TI ∨ c = TO ∨ c = i1 ∨ c = i2 := by simpa using hcm
        rcases q with q | q | q | q | q
        · rw [q]; exact zl
        · rw [q]; exact Heap.lt_size hTI
        · rw [q]; exact Heap.lt_size hTO
        · rw [q]; obtain ⟨_, w, _⟩ := s1; exact Heap.lt_size w
        · rw [q]; obtain ⟨_, w, _⟩ := s2; exact Heap.lt_size w
      rw [upd_ne (Nat.ne_of_lt lt)]
      exact (hf c hcm).1
  done := by
    intro X hP hw hK hc i pins s σ H E I hf st hg
    subst hP hw hK
    obtain ⟨hz, hTI, ⟨a0, b0, hTO⟩, s1, s2⟩ := st
    have hg' : i = min x.cps.size y.cps.size := hg
    have hh := I.ok.hd hc
    refine wpAny_pyNext_zipD2_end Sp (Draws.text (A := X.A.in1) hh i1 x t1) (Draws.text (A := X.A.in1) hh i2 y t2) hz hTI hTO s1 s2 (by omega) (by omega) (by omega) ?_
    intro h' tk hk
    refine ⟨rfl, I.turnedL (t' := tk) (ch := [z, TI, TO, i1, i2]) ?_ hf⟩
    intro c o hb q
    exact hk c o (fun w => hb (by simp [w])) (fun w => hb (by simp [w])) (fun w => hb (by simp [w])) (fun w => hb (by simp [w])) q
  self := fun A i s Q E st h => wpAny_pyIter_zip st.1 h
def iZipS (ta : TA) : TI := fun σ H R => ta σ H fun vs H1 => ∃ x y, vs = [.str x, .str y] ∧ R (ItZ x y) H1
theorem pi_zipS {X : Cx} {e e2 : Expr} {ta : TA} {p pos tpos : Pos} {elts : List Expr} {kk : Nat} (hg : Gl X "zip") (hm : X.mg "zip" = none) (ha : PA X [e, e2] ta)
    (hs : starEach [e, e2] X.env = (false, eval e X.env) :: starEach [e2] X.env := by rfl) (hpl : (backTo pos (starEach [e2] X.env)).any (·.1) = false := by rfl) :
    PI X (.Tuple elts kk tpos) (.Call (.Name "zip" p) [e, e2] [] pos) (iZipS ta) := by
  constructor
  intro pins s σ H R I h
  refine Call_ (ld_blt I hg hm PyProof.Rows.boot_zip (PyProof.Rows.callWith_type1 (thn (ha.run pos pins s σ H _ I h) ?_) hs hpl))
  rintro us s1 ⟨vs, H1, I1, r1, x, y, rfl, q⟩
  cases r1 with
  | cons r rr =>
    cases rr with
    | cons r' rr =>
      cases rr
      obtain ⟨t1, rfl⟩ := r
      obtain ⟨t2, rfl⟩ := r'
      refine zip_begins2 (begins_text x t1) (begins_text y t2) trivial trivial ?_
      intro h' hz hTI hTO h1 h2 hsz hk
      refine wpAny_pyIter_zip hz ?_
      have J : Inv X pins σ H1 { s1 with heap := h' } := I1.kept (t' := s1.toks) hk
      have sep : ZipSep2 (s1.heap.objs.size + 4) (s1.heap.objs.size + 2) (s1.heap.objs.size + 3) s1.heap.objs.size (s1.heap.objs.size + 1) [s1.heap.objs.size] [s1.heap.objs.size + 1] := zip_sep2 (N := s1.heap.objs.size) (fp1 := []) (fp2 := []) (by simp) (by simp)
      refine ⟨s1.heap.objs.size + 4, [s1.heap.objs.size + 4, s1.heap.objs.size + 2, s1.heap.objs.size + 3, s1.heap.objs.size, s1.heap.objs.size + 1], _, _, H1, rfl, J, turn_zipS (x := x) (y := y) (t1 := t1) (t2 := t2) sep, ⟨hz, hTI, ⟨_, _, hTO⟩, ⟨_, h1, rfl, rfl⟩, ⟨_, h2, rfl, rfl⟩⟩, ?_, q⟩
      refine fresh_fp I1 fun b hb => ?_
      have z : b = s1.heap.objs.size + 4 ∨ b = s1.heap.objs.size + 2 ∨ b = s1.heap.objs.size + 3 ∨ b = s1.heap.objs.size ∨ b = s1.heap.objs.size + 1 := by simpa using hb
      rcases z with z | z | z | z | z
      · rw [z]; exact Nat.le_add_right _ _
      · rw [z]; exact Nat.le_add_right _ _
      · rw [z]; exact Nat.le_add_right _ _
      · rw [z]; exact Nat.le_refl _
      · rw [z]; exact Nat.le_add_right _ _
section
variable {X : Cx} {pos : Pos}
def diZipS (ta : DTA) : DTI := fun S G R => ta S G fun ds G1 => match ds with
  | [.str x, .str y] => R (List.zipWith (fun a b => .tup [.str (sgn a), .str (sgn b)]) x.cps.toList y.cps.toList) dNoGuard G1
  | _ => False
theorem di_zipS {e e2 : Expr} {ta : DTA} {p tpos : Pos} {elts : List Expr} {kk : Nat} (hg : Gl X "zip") (hm : X.mg "zip" = none) (ha : DA X [e, e2] ta)
    (hs : starEach [e, e2] X.env = (false, eval e X.env) :: starEach [e2] X.env := by rfl) (hpl : (backTo pos (starEach [e2] X.env)).any (·.1) = false := by rfl) : DI X (.Tuple elts kk tpos) (.Call (.Name "zip" p) [e, e2] [] pos) (diZipS ta) := by
  obtain ⟨t, p1, r⟩ := ha.ex
  refine ⟨_, pi_zipS hg hm p1 hs hpl, fun F H σ S G o R' h R k => ?_⟩
  refine r F H σ S G o _ h _ fun F1 H1 vs ds G1 e1 g1 q1 h1 => ?_
  dsimp only at h1
  split at h1
  · rename_i x y
    cases q1 with
    | cons a b =>
      cases a
      cases b with
      | cons c d =>
        cases c; cases d
        refine ⟨x, y, rfl, k F1 H1 G1 _ _ _ e1 g1 ⟨fun F2 H2 G2 i d e2 g2 _ hd => ?_, fun F2 H2 G2 e2 g2 _ => ?_⟩ h1⟩
        · rw [List.getElem?_zipWith] at hd
          cases ea : x.cps.toList[i]? with
          | none => simp [ea] at hd
          | some a =>
            cases eb : y.cps.toList[i]? with
            | none => simp [ea, eb] at hd
            | some b =>
              simp only [ea, eb] at hd
              cases hd
              have la := (List.getElem?_eq_some_iff.mp ea).1
              have lb := (List.getElem?_eq_some_iff.mp eb).1
              rw [Array.length_toList] at la lb
              refine ⟨by show i < min _ _; omega, fun v H3 hy => ?_⟩
              obtain ⟨T, a', b', rfl, hT, rfl, ha', hb'⟩ := hy
              have za : x.cps[i]? = some a := by rw [← ea]; simp
              have zb : y.cps[i]? = some b := by rw [← eb]; simp
              rw [za] at ha'; rw [zb] at hb'
              cases ha'; cases hb'
              have gr := Gr.new (u := .tup [.str (sgn a), .str (sgn b)]) g2.ex hT
              exact ⟨_, gr.go, g2.grow gr, .tup upd_same (.cons (.str _) (.cons (.str _) .nil))⟩
        · show _ = min _ _
          simp
  · exact h1.elim
/-- zip of two tuples -/
def diZipT (ta : DTA) : DTI := fun S G R => ta S G fun ds G1 => match ds with
  | [.tup xs, .tup ys] => R (List.zipWith (fun a b => .tup [a, b]) xs ys) dNoGuard G1
  | _ => False
theorem di_zipT {e e2 : Expr} {ta : DTA} {p tpos : Pos} {elts : List Expr} {kk : Nat} (hg : Gl X "zip") (hm : X.mg "zip" = none) (ha : DA X [e, e2] ta)
    (hs : starEach [e, e2] X.env = (false, eval e X.env) :: starEach [e2] X.env := by rfl) (hpl : (backTo pos (starEach [e2] X.env)).any (·.1) = false := by rfl) : DI X (.Tuple elts kk tpos) (.Call (.Name "zip" p) [e, e2] [] pos) (diZipT ta) := by
  obtain ⟨t, p1, r⟩ := ha.ex
  refine ⟨_, RZ.pi_zipA hg hm p1 hs hpl, fun F H σ S G o R' h R k => ?_⟩
  refine r F H σ S G o _ h _ fun F1 H1 vs ds G1 e1 g1 q1 h1 => ?_
  dsimp only at h1
  split at h1
  · rename_i xs ys
    cases q1 with
    | cons a b =>
      cases b with
      | cons c d =>
        cases d
        cases a with
        | tup ha ra =>
          cases c with
          | tup hb rb =>
            rename_i pa va pb vb
            refine ⟨pa, pb, va, vb, rfl, .inr ⟨.inl (.inl (g1.ex _ _ ha)), .inl (.inl (g1.ex _ _ hb)), k F1 H1 G1 _ _ _ e1 g1 ⟨fun F2 H2 G2 i d e2 g2 _ hd => ?_, fun F2 H2 G2 e2 g2 _ => ?_⟩ h1⟩⟩
            · have sa : SqT X.K H2 pa va := .inl (.inl (g2.ex _ _ (e2 _ _ ha)))
              have sb : SqT X.K H2 pb vb := .inl (.inl (g2.ex _ _ (e2 _ _ hb)))
              rw [List.getElem?_zipWith] at hd
              cases ea : xs[i]? with
              | none => simp [ea] at hd
              | some a =>
                cases eb : ys[i]? with
                | none => simp [ea, eb] at hd
                | some b =>
                  simp only [ea, eb] at hd
                  cases hd
                  obtain ⟨u, hu, ru⟩ := ra.get ea
                  obtain ⟨w, hw, rw'⟩ := rb.get eb
                  refine ⟨⟨va, vb, u, w, sa, sb, hu, hw⟩, fun v H3 hy => ?_⟩
                  obtain ⟨T, u', w', rfl, hT, rfl, h3, h4⟩ := hy
                  have z1 := h3 va sa
                  have z2 := h4 vb sb
                  rw [hu] at z1; rw [hw] at z2
                  cases z1; cases z2
                  have gr := Gr.new (u := .tup [u, w]) g2.ex hT
                  exact ⟨_, gr.go, g2.grow gr, .tup upd_same (.cons ((ru.mono e2).mono gr.ff) (.cons ((rw'.mono e2).mono gr.ff) .nil))⟩
            · refine ⟨va, vb, .inl (.inl (g2.ex _ _ (e2 _ _ ha))), .inl (.inl (g2.ex _ _ (e2 _ _ hb))), ?_⟩
              rw [ra.length, rb.length, List.length_zipWith]
              omega
  · exact h1.elim
end
end DL
end
section
set_option Elab.async false
set_option linter.all false
set_option maxRecDepth 100000
set_option maxHeartbeats 4000000
namespace DL
open PySem PySem.Spec PyProof.Rows L2
section
variable {X : Cx} {pos : Pos}
theorem dp_par {i j : Nat} {x y : Str} {a b : Expr} {ta : DTA} {px py pt : Pos} {kt k2 pt2} (hc : X.calm = true) (hN : X.N.Nodup) (hi : X.N[i]? = some x := by rfl) (hj : X.N[j]? = some y := by rfl) (hij : i ≠ j := by decide)
    (hx : X.env.scope.names.lookup x = some .local := by rfl) (hy : X.env.scope.names.lookup y = some .local := by rfl) (ha : DA X [a, b] ta)
    (hw : swappedStores [.Tuple [.Name x px, .Name y py] kt pt] (.Tuple [a, b] k2 pt2) X.env = pure (some [x, y]) := by rfl)
    (hs : swapsWithSole [.Tuple [.Name x px, .Name y py] kt pt] (.Tuple [a, b] k2 pt2) pos.line X.env = pure false := by rfl) :
    DP X (.Assign [.Tuple [.Name x px, .Name y py] kt pt] (.Tuple [a, b] k2 pt2) pos) (dPar i j ta) := by
  obtain ⟨t, p, r⟩ := ha.ex
  refine ⟨_, ps_par hc hN hi hj hij hx hy p hw hs, fun F H σ S G o D' h D0 k => ?_⟩
  refine r F H σ S G o _ h _ fun F1 H1 vs ds G1 e1 g1 q1 h1 => ?_
  dsimp only at h1
  split at h1
  · cases q1 with
    | cons a1 b1 =>
      cases b1 with
      | cons a2 b2 =>
        cases b2
        exact ⟨_, _, rfl, k.nx F1 H1 _ _ G1 e1 ⟨g1, (((o.s.mono e1.ex).set a1 i).set a2 j)⟩ h1⟩
  · exact h1.elim
def dPar3 (i j l : Nat) (ta : DTA) : DTS := fun D' S G => ta S G fun ds G1 => match ds with
  | [x, y, z] => D'.nx (((S.set i (some x)).set j (some y)).set l (some z)) G1
  | _ => False
theorem dp_par3 {i j l : Nat} {x y z : Str} {a b c : Expr} {ta : DTA} {px py pz pt : Pos} {kt k2 pt2} (hc : X.calm = true) (hN : X.N.Nodup) (hi : X.N[i]? = some x := by rfl) (hj : X.N[j]? = some y := by rfl) (hl : X.N[l]? = some z := by rfl) (hij : i ≠ j := by decide) (hil : i ≠ l := by decide) (hjl : j ≠ l := by decide)
    (hx : X.env.scope.names.lookup x = some .local := by rfl) (hy : X.env.scope.names.lookup y = some .local := by rfl) (hz : X.env.scope.names.lookup z = some .local := by rfl) (ha : DA X [a, b, c] ta)
    (hw : swappedStores [.Tuple [.Name x px, .Name y py, .Name z pz] kt pt] (.Tuple [a, b, c] k2 pt2) X.env = pure (some [x, y, z]) := by rfl)
    (hs : swapsWithSole [.Tuple [.Name x px, .Name y py, .Name z pz] kt pt] (.Tuple [a, b, c] k2 pt2) pos.line X.env = pure false := by rfl) :
    DP X (.Assign [.Tuple [.Name x px, .Name y py, .Name z pz] kt pt] (.Tuple [a, b, c] k2 pt2) pos) (dPar3 i j l ta) := by
  obtain ⟨t, p, r⟩ := ha.ex
  refine ⟨_, ps_par3 hc hN hi hj hl hij hil hjl hx hy hz p hw hs, fun F H σ S G o D' h D0 k => ?_⟩
  refine r F H σ S G o _ h _ fun F1 H1 vs ds G1 e1 g1 q1 h1 => ?_
  dsimp only at h1
  split at h1
  · cases q1 with
    | cons a1 b1 =>
      cases b1 with
      | cons a2 b2 =>
        cases b2 with
        | cons a3 b3 =>
          cases b3
          exact ⟨_, _, _, rfl, k.nx F1 H1 _ _ G1 e1 ⟨g1, ((((o.s.mono e1.ex).set a1 i).set a2 j).set a3 l)⟩ h1⟩
  · exact h1.elim
/-- x += e, whole numbers -/
def dAug (i : Nat) (te : DTE) (f : Int → Int → Int) : DTS := fun D' S G => match S[i]? with
  | some (some (.int a)) => te S G fun d G1 => (match d with
    | .int b => D'.nx (S.set i (some (.int (f a b)))) G1
    | _ => False)
  | _ => False
theorem dp_aug {i : Nat} {x : Str} {e : Expr} {te : DTE} {op : Operator} {f : Int → Int → Int} {pos' : Pos} (hN : X.N.Nodup) (ho : PIp X op (ipI f)) (he : DE X e te) (hi : X.N[i]? = some x := by rfl) (hx : Loc X.env.scope x := by first | exact Or.inl rfl | exact Or.inr rfl) (hf : X.fn x = true ∨ X.env.scope.names.lookup x = some .local := by first | exact .inl rfl | exact .inr rfl | assumption) :
    DP X (.AugAssign (.Name x pos') op e pos) (dAug i te f) := by
  obtain ⟨t, p, r⟩ := he.ex
  refine ⟨_, ps_aug hN hi hx p ho hf, fun F H σ S G o D' h D0 k => ?_⟩
  unfold dAug at h
  split at h
  · rename_i a ea
    obtain ⟨v, hv, rv⟩ := o.s.get ea
    cases rv
    refine ⟨_, hv, r F H σ S G o _ h _ fun F1 H1 u d G1 e1 g1 q1 h1 => ?_⟩
    dsimp only at h1
    split at h1
    · cases q1
      exact ⟨_, _, rfl, rfl, k.nx F1 H1 _ _ G1 e1 ⟨g1, (o.s.mono e1.ex).set (.int _) i⟩ h1⟩
    · exact h1.elim
  · exact h.elim
def dRevL (te : DTE) : DTE := fun S G Q => te S G fun d G1 => match d.cur G1 with
  | .lst xs => Q (.lst xs.reverse) G1
  | _ => False
theorem de_revL {e : Expr} {te : DTE} {k : Nat} {p1 p2 p3 : Pos} (he : DE X e te) : DE X (.Subscript e (.Slice none none (some (.UnaryOp .USub (.Constant (.int 1) k p1) p2)) p3) pos) (dRevL te) := by
  obtain ⟨t, p, r⟩ := he.ex
  refine ⟨_, pe_revL p, fun F H σ S G o Q' h Q kk => ?_⟩
  refine r F H σ S G o _ h _ fun F1 H1 v d G1 e1 g1 q1 h1 => ?_
  dsimp only at h1
  split at h1
  · rename_i xs ex
    obtain ⟨a, vs, rfl, ha, rs⟩ := cur_list g1 q1 ex
    refine ⟨a, vs, rfl, .inl (.inl ha), fun p hp => ?_⟩
    have gr := Gr.new (u := .lst vs.reverse) g1.ex hp
    exact kk _ _ _ _ G1 (e1.trans gr.go) (g1.grow gr) (.lst upd_same (rs.reverse.mono gr.ff)) h1
  · exact h1.elim
def dRevLM (te : DTE) : DTE := fun S G Q => te S G fun d G1 => match d.cur G1 with
  | .lst xs => ∀ p, G1 p = none → Q (.rf p) (gput G1 p (.lst xs.reverse))
  | _ => False
theorem de_revLM {e : Expr} {te : DTE} {k : Nat} {p1 p2 p3 : Pos} (he : DE X e te) : DE X (.Subscript e (.Slice none none (some (.UnaryOp .USub (.Constant (.int 1) k p1) p2)) p3) pos) (dRevLM te) := by
  obtain ⟨t, p, r⟩ := he.ex
  refine ⟨_, pe_revL p, fun F H σ S G o Q' h Q kk => ?_⟩
  refine r F H σ S G o _ h _ fun F1 H1 v d G1 e1 g1 q1 h1 => ?_
  dsimp only at h1
  split at h1
  · rename_i xs ex
    obtain ⟨a, vs, rfl, ha, rs⟩ := cur_list g1 q1 ex
    refine ⟨a, vs, rfl, .inl (.inl ha), fun p hp => ?_⟩
    exact kk _ _ _ _ _ (e1.trans (Go.alloc hp)) (g1.alloc (o := .lst xs.reverse) hp rfl ⟨_, upd_same, rs.reverse⟩) (.rf p) (h1 p (g1.free hp))
  · exact h1.elim
abbrev DTP := DS → GH → (List (D × D) → GH → Prop) → Prop
inductive RepP (K : PySem.W.Frag) (F : Hp) : List (V × V) → List (D × D) → Prop
  | nil : RepP K F [] []
  | cons {a b : V} {c d : D} {ps : List (V × V)} {qs : List (D × D)} : Rep K F a c → Rep K F b d → RepP K F ps qs → RepP K F ((a, b) :: ps) ((c, d) :: qs)
theorem RepP.mono {K : PySem.W.Frag} {F F' : Hp} (e : Ex F F') : ∀ {ps : List (V × V)} {qs : List (D × D)}, RepP K F ps qs → RepP K F' ps qs
  | _, _, .nil => .nil
  | _, _, .cons a b t => .cons (a.mono e) (b.mono e) (RepP.mono e t)
structure DPp (X : Cx) (pos : Pos) (keys : List (Option Expr)) (values : List Expr) (t' : DTP) : Prop where
  ex : ∃ trs, PPs X pos keys values trs ∧ ∀ F H σ S G, Ok X.K F H σ S G → ∀ Q', t' S G Q' → ∀ Q : List (V × V) → Hp → Prop, (∀ F' H' ps qs G', Go F H G F' H' G' → Gok X.K F' H' G' → RepP X.K F' ps qs → Q' qs G' → Q ps H') → tPairs trs σ H Q
def dpNil : DTP := fun _ G Q => Q [] G
def dpCons (tk tv : DTE) (tr : DTP) : DTP := fun S G Q => tk S G fun k G1 => tv S G1 fun v G2 => tr S G2 fun qs G3 => Q ((k, v) :: qs) G3
theorem dpp_nil : DPp X pos [] [] dpNil := ⟨_, pps_nil, fun F H σ S G o Q' h Q k => k F H [] [] G Go.refl o.g .nil h⟩
theorem dpp_cons {k v : Expr} {ks : List (Option Expr)} {vs : List Expr} {tk tv : DTE} {tr : DTP} (hk : DE X k tk) (hv : DE X v tv) (hr : DPp X pos ks vs tr) : DPp X pos (some k :: ks) (v :: vs) (dpCons tk tv tr) := by
  obtain ⟨t1, p1, r1⟩ := hk.ex
  obtain ⟨t2, p2, r2⟩ := hv.ex
  obtain ⟨t3, p3, r3⟩ := hr.ex
  refine ⟨_, pps_cons p1 p2 p3, fun F H σ S G o Q' h Q kk => ?_⟩
  refine r1 F H σ S G o _ h _ fun F1 H1 v1 d1 G1 e1 g1 q1 h1 => ?_
  refine r2 F1 H1 σ S G1 (o.go e1 g1) _ h1 _ fun F2 H2 v2 d2 G2 e2 g2 q2 h2 => ?_
  refine r3 F2 H2 σ S G2 ((o.go e1 g1).go e2 g2) _ h2 _ fun F3 H3 ps qs G3 e3 g3 q3 h3 => ?_
  exact kk F3 H3 _ _ G3 ((e1.trans e2).trans e3) g3 (.cons ((q1.mono e2.ex).mono e3.ex) (q2.mono e3.ex) q3) h3
def keyed : List (D × D) → Option (List (Key × D))
  | [] => some []
  | (k, v) :: r => match k.key, keyed r with
    | some k, some r => some ((k, v) :: r)
    | _, _ => none
theorem keyed_rep {K : PySem.W.Frag} {F : Hp} : ∀ {ps : List (V × V)} {qs : List (D × D)} {kds : List (Key × D)}, RepP K F ps qs → keyed qs = some kds → ∃ kvs : List (Key × V), ps = kvs.map (fun kv => (kV kv.1, kv.2)) ∧ KR K F kvs kds
  | _, _, _, .nil, h => by cases h; exact ⟨[], rfl, .nil⟩
  | _, _, kds, .cons (c := c) (d := d) (qs := qs) a b t, h => by
    unfold keyed at h
    cases e1 : c.key with
    | none => simp [e1] at h
    | some k =>
      cases e2 : keyed qs with
      | none => simp [e1, e2] at h
      | some r =>
        simp only [e1, e2] at h
        cases h
        obtain ⟨kvs, rfl, kr⟩ := keyed_rep t e2
        have := a.key e1
        subst this
        exact ⟨(k, _) :: kvs, rfl, .cons b kr⟩
def mergeD (kds more : List (Key × D)) : List (Key × D) := more.foldl (fun acc kv => putD acc kv.1 kv.2) kds
theorem KR.merge {K : PySem.W.Frag} {F : Hp} : ∀ {more : List (Key × D)} {mv : List (Key × V)} {kds : List (Key × D)} {kvs : List (Key × V)}, KR K F mv more → KR K F kvs kds → KR K F (mergeK kvs mv) (mergeD kds more)
  | [], mv, kds, kvs, h, r => by
    obtain rfl := h.unnil
    exact r
  | (k, d) :: more, mv, kds, kvs, h, r => by
    obtain ⟨v, mv', rfl, rv, t⟩ := h.uncons
    show KR K F (mergeK (putK kvs k v) mv') (mergeD (putD kds k d) more)
    exact KR.merge t (r.put rv)
def dDisp (tp : DTP) : DTE := fun S G Q => tp S G fun qs G1 => match keyed qs with
  | some kds => kds.length ≤ 15 ∧ Q (.dK (mergeD [] kds)) G1
  | none => False
theorem disp_core {keys : List (Option Expr)} {values : List Expr} {tp : DTP} (h : DPp X pos keys values tp) (hall : keys.all (·.isSome) = true) (hl : keys.length = values.length) (h0 : keys ≠ []) (h15 : keys.length ≤ 15) :
    ∃ t, PE X (.Dict keys values pos) t ∧ ∀ F H σ S G, Ok X.K F H σ S G → ∀ Q' : List (Key × D) → GH → Prop, (tp S G fun qs G1 => match keyed qs with | some kds => kds.length ≤ 15 ∧ Q' (mergeD [] kds) G1 | none => False) → ∀ Q : VK,
      (∀ F' H' G' p kvs kds, H p = none → Go F H G F' H' G' → Gok X.K F' H' G' → F' p = none → G' p = none → KR X.K F' kvs kds → Q' kds G' → H' p = some (.dK []) → Q (.ref p) (upd H' p (.dK kvs))) → t σ H Q := by
  obtain ⟨trs, p1, r⟩ := h.ex
  refine ⟨_, pe_disp p1 hall hl h0 h15, fun F H σ S G o Q' h Q k => ?_⟩
  intro p hp
  have gp : G p = none := o.g.free hp
  have fp : F p = none := o.g.ex.nope hp
  have gr : Gr F H F (upd H p (.dK [])) := Gr.only o.g.ex hp
  refine r F _ σ S G ⟨o.g.grow gr, o.s⟩ _ h _ fun F1 H1 ps qs G1 e1 g1 q1 h1 => ?_
  split at h1
  · rename_i kds ek
    obtain ⟨kvs, rfl, kr⟩ := keyed_rep q1 ek
    have fr := e1.fr p _ upd_same gp
    refine ⟨fr.1, kvs, rfl, by rw [kr.len]; exact h1.1, ?_⟩
    exact k F1 H1 G1 p _ _ hp ((gr.go (G := G)).trans e1) g1 (e1.no p _ upd_same gp fp (fun _ z => nomatch z)) fr.2 (KR.merge kr .nil) h1.2 fr.1
  · exact h1.elim
def dDispM (tp : DTP) : DTE := fun S G Q => tp S G fun qs G1 => match keyed qs with
  | some kds => kds.length ≤ 15 ∧ ∀ p, G1 p = none → Q (.rf p) (gput G1 p (.dK (mergeD [] kds)))
  | none => False
theorem de_dispM {keys : List (Option Expr)} {values : List Expr} {tp : DTP} (h : DPp X pos keys values tp) (hall : keys.all (·.isSome) = true := by rfl) (hl : keys.length = values.length := by rfl) (h0 : keys ≠ [] := by intro z; cases z) (h15 : keys.length ≤ 15 := by decide) : DE X (.Dict keys values pos) (dDispM tp) := by
  obtain ⟨t, p1, r⟩ := disp_core h hall hl h0 h15
  refine ⟨t, p1, fun F H σ S G o Q' h Q k => ?_⟩
  refine r F H σ S G o (fun kds G' => ∀ p, G' p = none → Q' (.rf p) (gput G' p (.dK kds))) h Q fun F' H' G' p kvs kds hp go g fp gp kr q hd => ?_
  have g2 : Gok X.K F' (upd H' p (.dK kvs)) (gput G' p (.dK kds)) := by
    refine ⟨g.ex.updR fp, fun a w e => ?_, fun a b k1 k2 k3 n j1 j2 j3 m e1 e2 => ?_⟩
    · by_cases nq : a = p
      · subst nq
        rw [gput_same] at e; cases e
        exact ⟨fp, _, upd_same, kr.ks, kr.vs⟩
      · rw [gput_ne nq] at e
        obtain ⟨f, m⟩ := g.at_ a w e
        refine ⟨f, m.move (Ex.refl F') (fun b u hb hc => ?_) fun c z => ?_⟩
        · have n2 : b ≠ p := fun z => by
            rcases hc with hc | hc
            · exact nq (hc ▸ z)
            · rw [z, gp] at hc; cases hc
          rw [upd_ne n2]; exact hb
        · have n2 : c ≠ p := fun y => by rw [y, gp] at z; cases z
          rw [gput_ne n2]; exact z
    · have ha : a ≠ p := fun y => by rw [y, gput_same] at e1; cases e1
      have hb : b ≠ p := fun y => by rw [y, gput_same] at e2; cases e2
      rw [gput_ne ha] at e1; rw [gput_ne hb] at e2
      exact g.one a b k1 k2 k3 n j1 j2 j3 m e1 e2
  have go2 : Go F H G F' (upd H' p (.dK kvs)) (gput G' p (.dK kds)) := by
    refine ⟨go.ex, fun b u hb gb => ?_, go.no, fun b z => go.st b (upd_none z)⟩
    have n2 : b ≠ p := fun z => by rw [z, hp] at hb; cases hb
    rw [upd_ne n2, gput_ne n2]; exact go.fr b u hb gb
  exact k _ _ _ _ _ go2 g2 (.rf p) (q p gp)
def okR (d : D) : Bool := d.pl && d.py.showable && decide (d.py.depth ≤ 60)
def D.shown (d : D) : Str := d.py.shown
theorem plain_noDict : ∀ d : PyData, d.plain = true → d.hasDict = false := by
  intro d h
  have aux : ∀ n : Nat, (∀ d : PyData, sizeOf d ≤ n → d.plain = true → d.hasDict = false) ∧ (∀ ds : List PyData, sizeOf ds ≤ n → PyData.plainAll ds = true → PyData.hasDictAll ds = false) := by
    intro n
    induction n with
    | zero =>
      refine ⟨fun d hd => ?_, fun ds hd => ?_⟩
      · cases d <;> simp at hd
      · cases ds <;> simp at hd
    | succ n ih =>
      refine ⟨fun d hd hp => ?_, fun ds hd hp => ?_⟩
      · cases d with
        | list xs => exact ih.2 xs (by simp at hd; omega) hp
        | tuple xs => exact ih.2 xs (by simp at hd; omega) hp
        | dict kvs => cases hp
        | _ => rfl
      · cases ds with
        | nil => rfl
        | cons x xs =>
          have hp' : x.plain = true ∧ PyData.plainAll xs = true := by simpa [PyData.plainAll] using hp
          simp only [PyData.hasDictAll, ih.1 x (by simp at hd; omega) hp'.1, ih.2 xs (by simp at hd; omega) hp'.2, Bool.or_self]
  exact (aux (sizeOf d)).1 d (Nat.le_refl _) h
def rReprD (ds : List D) (G : GH) (Q : DQ) : Prop := match ds with
  | [d] => (match d.cur G with
    | .lst xs => okR (.lst xs) = true ∧ (D.shown (.lst xs)).length ≤ sizeLine ∧ Q (.str (D.shown (.lst xs))) G
    | .tup xs => okR (.tup xs) = true ∧ (D.shown (.tup xs)).length ≤ sizeLine ∧ Q (.str (D.shown (.tup xs))) G
    | _ => False)
  | _ => False
def rReprP (K : PySem.W.Frag) : List V → Hp → VK → Prop := fun vs H Q => ∃ a d, vs = [.ref a] ∧ Dp K H (.ref a) d ∧ d.plain = true ∧ d.showable = true ∧ d.depth ≤ 60 ∧ d.shown.length ≤ sizeLine ∧ Q (.str d.shown) H
theorem cr_repr (hu : X.A.units + 100 < cLine) (hA : X.A.guards = some []) : CallR X (.builtin "repr") (rReprP X.K) := by
  intro pins s σ H vs us Q I r h
  obtain ⟨a, d, rfl, hd, hp, hs, hde, hz, q⟩ := h
  cases r with
  | cons r rr =>
    cases rr
    obtain ⟨as, rd⟩ := Dp.reads I d _ _ hd r
    cases r
    refine repr_of_reads' (h₀ := s.heap) rd hs (fun z => by rw [plain_noDict d hp] at z; cases z) hA (by omega) (fun _ _ z => z) (fun h' u tk hk => ?_) hz
    exact ⟨.str _, H, I.kept (t' := tk) hk, ⟨_, rfl⟩, q⟩
theorem okR_of {d : D} (h : okR d = true) : d.pl = true ∧ d.py.showable = true ∧ d.py.depth ≤ 60 := by
  unfold okR at h
  simp only [Bool.and_eq_true, decide_eq_true_eq] at h
  exact ⟨h.1.1, h.1.2, h.2⟩
theorem cd_repr (hu : X.A.units + 100 < cLine) (hA : X.A.guards = some []) : CallD X (.builtin "repr") rReprD := by
  refine ⟨_, cr_repr hu hA, fun F H G vs ds g rs Q' h Q k => ?_⟩
  unfold rReprD at h
  split at h
  · rename_i d
    cases rs with
    | cons r b =>
      cases b
      split at h
      · rename_i xs ex
        obtain ⟨h1, h2, h3⟩ := h
        obtain ⟨p1, p2, p3⟩ := okR_of h1
        have hd := cur_dp g r (by rw [ex]; exact p1)
        rw [ex] at hd
        obtain ⟨a, vs, rfl, ha, _⟩ := cur_list g r ex
        exact ⟨a, _, rfl, hd, D.py_plain _ p1, p2, p3, h2, k F H _ _ G Go.refl g (.str _) h3⟩
      · rename_i xs ex
        obtain ⟨h1, h2, h3⟩ := h
        obtain ⟨p1, p2, p3⟩ := okR_of h1
        have hd := cur_dp g r (by rw [ex]; exact p1)
        rw [ex] at hd
        obtain ⟨a, vs, rfl, ha, _⟩ := cur_tup r ex
        exact ⟨a, _, rfl, hd, D.py_plain _ p1, p2, p3, h2, k F H _ _ G Go.refl g (.str _) h3⟩
      · exact h.elim
  · exact h.elim
structure Cal (P : Program) (w : World) (K : PySem.W.Frag) (mg : Str → Option Value) (base : Heap) (x : Str) (k : Nat) (ps : List Str) (sp : SpD) : Prop where
  ex : ∃ f fd, FnG P w K mg base CX0 k f fd ps (SpOf K sp) ∧ mg x = some (.ref f) ∧ PySem.W.keepIn K (.ref f) = true ∧ Binds K fd ps []
theorem de_cal {x : Str} {k : Nat} {ps : List Str} {sp : SpD} {p : Pos} {e : Expr} {es : List Expr} {ta : DTA} (c : Cal X.prog X.w X.K X.mg X.base x k ps sp) (hA : X.A.guards = some []) (hr : Room k X.A) (ha : DA X (e :: es) ta) (hg : Gl X x := by rfl) (hdb : (x == ("__debug__" : Str)) = false := by decide)
    (he : starEach (e :: es) X.env = (false, eval e X.env) :: starEach es X.env := by rfl) (hpl : (backTo pos (starEach es X.env)).any (·.1) = false := by rfl) : DE X (.Call (.Name x p) (e :: es) [] pos) (dCall sp ta) := by
  obtain ⟨f, fd, Fn, hm, hk, hb⟩ := c.ex
  exact de_call Fn hA hr hg hm hk hb ha hdb he hpl
end
structure Def (K : PySem.W.Frag) (mg : Str → Option Value) (x : Str) (st : Stmt) : Prop where
  ex : ∃ f fd, Fun K x x st f fd ∧ mg x = some (.ref f)
theorem cal_mk {P : Program} {w : World} {K : PySem.W.Frag} {mg : Str → Option Value} {base : Heap} {x : Str} {st : Stmt} {N ps : List Str} {k : Nat} {sp : SpD} (d : Def K mg x st) (sc : FnScope N ps (defScope st)) (len : ∀ ds G Q, sp ds G Q → ds.length = ps.length)
    (bi : ∀ (kV doc pm : Value) (an : Option Addr) (cdv ct : Value) (us : List Value), us.length = ps.length → bindArgs (PySem.W.fnOf x x (defArgs st) (defBody st) (defScope st) .none kV doc pm an cdv ct) ⟨us, []⟩ = pure (ps.zip us))
    (hb : ∀ (f : Addr) (cdv : Value) (A : Around) (outer : List Env) (s : Shared) (H : Hp) (E : XK), A.guards = some [] → Room k (A.deeper (envOfC x (defScope st) s.heap.objs.size f cdv)) →
      ∃ t', DPs (cxOf CX0 P w K mg base N x (defScope st) f cdv A outer s H E).nox (defBody st) t' ∧ ∀ ds G Q, sp ds G Q → t' (fin Q) (dstart N ds) G) : Cal P w K mg base x (k + 1) ps sp := by
  obtain ⟨f, fd, Fu, hm⟩ := d.ex
  exact ⟨f, fd, fn_mk Fu sc len (hb f), hm, Fu.kp, Fu.binds bi⟩
end DL
end
section
set_option Elab.async false
set_option linter.all false
set_option maxRecDepth 100000
namespace DL
open PySem PySem.Spec PyProof.Rows L2
/-- the loop of a for over what is known -/
def ForB (ds : List D) (gd : GH → Prop) (g : DTG) (tb : DTS) (D' : DEnds) (S : DS) (G1 : GH) : Prop := ∃ W : Nat → DS → GH → Prop, W 0 S G1 ∧ (∀ i S G, W i S G → gd G) ∧
  (∀ i S G d, W i S G → ds[i]? = some d → g d S G fun S2 G2 => tb { D' with nx := W (i + 1), ct := W (i + 1), bk := D'.nx } S2 G2) ∧ (∀ S G, W ds.length S G → D'.nx S G)
def WhB (c : DTT) (tb : DTS) (D' : DEnds) (S : DS) (G : GH) : Prop := ∃ W : Nat → DS → GH → Prop, (∃ m, W m S G) ∧ ∀ m S G, W m S G →
  c S G fun b G1 => if b = true then tb { D' with nx := fun S' G' => ∃ m', m' < m ∧ W m' S' G', ct := fun S' G' => ∃ m', m' < m ∧ W m' S' G', bk := D'.nx } S G1 else D'.nx S G1
def LcB (ds : List D) (gd : GH → Prop) (p : Pat) (tt : DTT) (te : DTE) (vs : List Nat) (S : DS) (G1 : GH) (Q : DQ) : Prop := ds.length ≤ sizeLine ∧ ∃ W : Nat → List D → GH → Prop, W 0 [] G1 ∧ (∀ i acc G, W i acc G → gd G) ∧
  (∀ i acc G d, W i acc G → ds[i]? = some d → ∃ S2, p.put d (dwipe S vs) = some S2 ∧ tt S2 G fun b G2 => if b = true then te S2 G2 fun y G3 => W (i + 1) (acc ++ [y]) G3 else W (i + 1) acc G2) ∧
  ∀ acc G, W ds.length acc G → Q (.lst acc) G
theorem x_var (i : Nat) (S : DS) (G : GH) (Q : DQ) : dVar i S G Q = (match S[i]? with | some (some d) => Q d G | _ => False) := rfl
theorem x_C (d : D) (S : DS) (G : GH) (Q : DQ) : dC d S G Q = Q d G := rfl
theorem x_nil (S : DS) (G : GH) (Q : List D → GH → Prop) : dNil S G Q = Q [] G := rfl
theorem x_cons (ta : DTE) (tr : DTA) (S : DS) (G : GH) (Q : List D → GH → Prop) : dCons ta tr S G Q = (ta S G fun d G1 => tr S G1 fun ds G2 => Q (d :: ds) G2) := rfl
theorem x_tup (ta : DTA) (S : DS) (G : GH) (Q : DQ) : dTup ta S G Q = (ta S G fun ds G1 => ds.length ≤ sizeLine ∧ Q (.tup ds) G1) := rfl
theorem x_lst (ta : DTA) (S : DS) (G : GH) (Q : DQ) : dLst ta S G Q = (ta S G fun ds G1 => ds.length ≤ sizeLine ∧ Q (.lst ds) G1) := rfl
theorem x_lstM (ta : DTA) (S : DS) (G : GH) (Q : DQ) : dLstM ta S G Q = (ta S G fun ds G1 => ds.length ≤ sizeLine ∧ ∀ p, G1 p = none → Q (.rf p) (gput G1 p (.lst ds))) := rfl
theorem x_op (r : DR2) (ta tb : DTE) (S : DS) (G : GH) (Q : DQ) : dOp r ta tb S G Q = (ta S G fun x G1 => tb S G1 fun y G2 => r x y G2 Q) := rfl
theorem x_un (r : DR1) (ta : DTE) (S : DS) (G : GH) (Q : DQ) : dUn r ta S G Q = (ta S G fun x G1 => r x G1 Q) := rfl
theorem x_test (ta : DTE) (S : DS) (G : GH) (Q : Bool → GH → Prop) : dTest ta S G Q = (ta S G fun d G1 => match d with | .bl b => Q b G1 | _ => False) := rfl
theorem x_not (t : DTT) (S : DS) (G : GH) (Q : Bool → GH → Prop) : dNot t S G Q = (t S G fun b G1 => Q (!b) G1) := rfl
theorem x_and (t u : DTT) (S : DS) (G : GH) (Q : Bool → GH → Prop) : dAnd t u S G Q = (t S G fun b G1 => if b = true then u S G1 Q else Q false G1) := rfl
theorem x_or (t u : DTT) (S : DS) (G : GH) (Q : Bool → GH → Prop) : dOr t u S G Q = (t S G fun b G1 => if b = true then Q true G1 else u S G1 Q) := rfl
theorem x_if (t : DTT) (ta tb : DTE) (S : DS) (G : GH) (Q : DQ) : dIf t ta tb S G Q = (t S G fun b G1 => if b = true then ta S G1 Q else tb S G1 Q) := rfl
theorem x_andV (ta tb : DTE) (S : DS) (G : GH) (Q : DQ) : dAndV ta tb S G Q = (ta S G fun d G1 => match d with | .bl b => if b = true then tb S G1 Q else Q (.bl false) G1 | _ => False) := rfl
theorem x_orV (ta tb : DTE) (S : DS) (G : GH) (Q : DQ) : dOrV ta tb S G Q = (ta S G fun d G1 => match d with | .bl b => if b = true then Q (.bl true) G1 else tb S G1 Q | _ => False) := rfl
theorem x_notV (ta : DTE) (S : DS) (G : GH) (Q : DQ) : dNotV ta S G Q = (ta S G fun d G1 => match d with | .bl b => Q (.bl (!b)) G1 | _ => False) := rfl
theorem x_gname (i : Nat) (d : D) (S : DS) (G : GH) (Q : DS → GH → Prop) : dgName i d S G Q = Q (S.set i (some d)) G := rfl
theorem x_gtup (n : Nat) (u : DTGs) (ds : List D) (S : DS) (G : GH) (Q : DS → GH → Prop) : dgTup n u (.tup ds) S G Q = (ds.length = n ∧ u ds S G Q) := rfl
theorem x_gnil (S : DS) (G : GH) (Q : DS → GH → Prop) : dgNil [] S G Q = Q S G := rfl
theorem x_gcons (t : DTG) (u : DTGs) (d : D) (ds : List D) (S : DS) (G : GH) (Q : DS → GH → Prop) : dgCons t u (d :: ds) S G Q = (t d S G fun S1 G1 => u ds S1 G1 Q) := rfl
theorem x_next (D' : DEnds) (S : DS) (G : GH) : dNext D' S G = D'.nx S G := rfl
theorem x_seq (t u : DTS) (D' : DEnds) (S : DS) (G : GH) : dSeq t u D' S G = t { D' with nx := u D' } S G := rfl
theorem x_asg (te : DTE) (g : DTG) (D' : DEnds) (S : DS) (G : GH) : dAsg te g D' S G = (te S G fun d G1 => g d S G1 D'.nx) := rfl
theorem x_drop (te : DTE) (D' : DEnds) (S : DS) (G : GH) : dDrop te D' S G = (te S G fun _ G1 => D'.nx S G1) := rfl
theorem x_ret (te : DTE) (D' : DEnds) (S : DS) (G : GH) : dRet te D' S G = te S G D'.rt := rfl
theorem x_retN (D' : DEnds) (S : DS) (G : GH) : dRetN D' S G = D'.rt .non G := rfl
theorem x_ifS (c : DTT) (t u : DTS) (D' : DEnds) (S : DS) (G : GH) : dIfS c t u D' S G = (c S G fun b G1 => if b = true then t D' S G1 else u D' S G1) := rfl
theorem x_never (D' : DEnds) (S : DS) (G : GH) : dNever D' S G = False := rfl
theorem x_break (D' : DEnds) (S : DS) (G : GH) : dBreak D' S G = D'.bk S G := rfl
theorem x_cont (D' : DEnds) (S : DS) (G : GH) : dCont D' S G = D'.ct S G := rfl
theorem x_call (sp : SpD) (ta : DTA) (S : DS) (G : GH) (Q : DQ) : dCall sp ta S G Q = (ta S G fun ds G1 => sp ds G1 Q) := rfl
theorem x_cb (r : List D → GH → DQ → Prop) (ta : DTA) (S : DS) (G : GH) (Q : DQ) : dCB r ta S G Q = (ta S G fun ds G1 => r ds G1 Q) := rfl
theorem x_bm (T : String) (r : D → List D → GH → DQ → Prop) (to : DTE) (ta : DTA) (S : DS) (G : GH) (Q : DQ) : dBM T r to ta S G Q = (to S G fun x G1 => D.hasTy T (x.cur G1) = true ∧ ta S G1 fun ds G2 => r x ds G2 Q) := rfl
theorem x_bm0 (T : String) (r : D → List D → GH → DQ → Prop) (to : DTE) (S : DS) (G : GH) (Q : DQ) : dBM0 T r to S G Q = (to S G fun x G1 => D.hasTy T (x.cur G1) = true ∧ r x [] G1 Q) := rfl
theorem x_nopart (S : DS) (G : GH) (Q : Option Int → GH → Prop) : dNoPart S G Q = Q none G := rfl
theorem x_part (ta : DTE) (S : DS) (G : GH) (Q : Option Int → GH → Prop) : dPart ta S G Q = (ta S G fun d G1 => match d with | .int i => Q (some i) G1 | _ => False) := rfl
theorem x_slice (ta : DTE) (tl th : DTO) (S : DS) (G : GH) (Q : DQ) : dSlice ta tl th S G Q = (ta S G fun x G1 => tl S G1 fun lo G2 => th S G2 fun hi G3 => rSlice x lo hi G3 Q) := rfl
theorem x_newK (S : DS) (G : GH) (Q : DQ) : dNewK S G Q = (∀ p, G p = none → Q (.rf p) (gput G p (.dK []))) := rfl
theorem x_newT (S : DS) (G : GH) (Q : DQ) : dNewT S G Q = (∀ p, G p = none → Q (.rf p) (gput G p (.dT []))) := rfl
theorem x_yes (S : DS) (G : GH) (Q : Bool → GH → Prop) : dYes S G Q = Q true G := rfl
theorem x_pnil (S : DS) (G : GH) (Q : List (D × D) → GH → Prop) : dpNil S G Q = Q [] G := rfl
theorem x_pcons (tk tv : DTE) (tr : DTP) (S : DS) (G : GH) (Q : List (D × D) → GH → Prop) : dpCons tk tv tr S G Q = (tk S G fun k G1 => tv S G1 fun v G2 => tr S G2 fun qs G3 => Q ((k, v) :: qs) G3) := rfl
theorem x_dCold (ta : DTE) (S : DS) (G : GH) (Q : DQ) : dCold ta S G Q = (ta S G fun d G1 => match d with
  | .rf a => (match G1 a with
    | some o => (match o.cold with
      | some d => Q d (gdel G1 a)
      | none => False)
    | none => False)
  | d => Q d G1) := rfl
theorem x_dFld (C : Addr) (f : Str) (ta : DTE) (S : DS) (G : GH) (Q : DQ) : dFld C f ta S G Q = (ta S G fun d G1 => match d.cur G1 with
  | .obj C' fs => C' = C ∧ (match fs.lookup f with
    | some v => Q v G1
    | none => False)
  | _ => False) := rfl
theorem x_dSetFld (C : Addr) (f : Str) (ta tv : DTE) (D' : DEnds) (S : DS) (G : GH) : dSetFld C f ta tv D' S G = (tv S G fun y G1 => ta S G1 fun x G2 => match x with
  | .rf a => (match G2 a with
    | some (.ins C' fs) => C' = C ∧ fs.length < 1000 ∧ D'.nx S (gput G2 a (.ins C (putFD f y fs)))
    | _ => False)
  | _ => False) := rfl
theorem x_dSetSub (to ti : DTE) (v : D) (S : DS) (G : GH) (Q : DS → GH → Prop) : dSetSub to ti v S G Q = (to S G fun x G1 => ti S G1 fun i G2 => match x with
  | .rf a => (match G2 a with
    | some (.lst xs) => (match i with
      | .int j => (match ixN xs.length j with
        | some n => Q S (gput G2 a (.lst (xs.set n v)))
        | none => False)
      | _ => False)
    | some (.dK kds) => (match i.key with
      | some k => kds.length < sizeLine ∧ Q S (gput G2 a (.dK (putD kds k v)))
      | none => False)
    | some (.dT kds) => (match i with
      | .tup ds => (match D.keys ds with
        | some k => kds.length < sizeLine ∧ Q S (gput G2 a (.dT (putD kds k v)))
        | none => False)
      | _ => False)
    | _ => False)
  | _ => False) := rfl
theorem x_dMeth (C : Addr) (m : Str) (sp : SpD) (ta : DTE) (tr : DTA) (S : DS) (G : GH) (Q : DQ) : dMeth C m sp ta tr S G Q = (ta S G fun d G1 => match d.cur G1 with
  | .obj C' fs => C' = C ∧ fs.lookup m = none ∧ tr S G1 fun ds G2 => sp (d :: ds) G2 Q
  | _ => False) := rfl
theorem x_dMake (C : Addr) (sp : SpD) (tr : DTA) (S : DS) (G : GH) (Q : DQ) : dMake C sp tr S G Q = (tr S G fun ds G1 => ∀ y, G1 y = none → sp (.rf y :: ds) (gput G1 y (.ins C [])) fun d G2 => match d with
  | .non => Q (.rf y) G2
  | _ => False) := rfl
theorem x_diTup (te : DTE) (S : DS) (G : GH) (R : List D → (GH → Prop) → GH → Prop) : diTup te S G R = (te S G fun d G1 => match d with
  | .tup ds => R ds dNoGuard G1
  | _ => False) := rfl
theorem x_diList (te : DTE) (S : DS) (G : GH) (R : List D → (GH → Prop) → GH → Prop) : diList te S G R = (te S G fun d G1 => match d with
  | .lst ds => R ds dNoGuard G1
  | .rf a => (match G1 a with
    | some (.lst ds) => R ds (fun G => G a = some (.lst ds)) G1
    | _ => False)
  | _ => False) := rfl
theorem x_diStr (te : DTE) (S : DS) (G : GH) (R : List D → (GH → Prop) → GH → Prop) : diStr te S G R = (te S G fun d G1 => match d with
  | .str x => R (signs x) dNoGuard G1
  | _ => False) := rfl
theorem x_diRange1 (ta : DTA) (S : DS) (G : GH) (R : List D → (GH → Prop) → GH → Prop) : diRange1 ta S G R = (ta S G fun ds G1 => match ds with
  | [.int n] => -(2 ^ 62) ≤ n ∧ n < 2 ^ 62 ∧ R ((List.range n.toNat).map fun i => .int (i : Nat)) dNoGuard G1
  | _ => False) := rfl
theorem x_diRange2 (ta : DTA) (S : DS) (G : GH) (R : List D → (GH → Prop) → GH → Prop) : diRange2 ta S G R = (ta S G fun ds G1 => match ds with
  | [.int m, .int n] => (-(2 ^ 62) ≤ m ∧ m < 2 ^ 62 ∧ -(2 ^ 62) ≤ n ∧ n < 2 ^ 62) ∧ R ((List.range (n - m).toNat).map fun i => .int (m + (i : Nat))) dNoGuard G1
  | _ => False) := rfl
theorem x_dLcM (wi : DTI) (p : Pat) (tt : DTT) (te : DTE) (vs : List Nat) (S : DS) (G : GH) (Q : DQ) : dLcM wi p tt te vs S G Q = (dLc wi p tt te vs S G fun d G' => match d with
  | .lst acc => ∀ a, G' a = none → Q (.rf a) (gput G' a (.lst acc))
  | _ => False) := rfl
theorem x_dGet1 (td ty : DTE) (S : DS) (G : GH) (Q : DQ) : dGet1 td ty S G Q = (td S G fun x G1 => D.hasTy "dict" (x.cur G1) = true ∧ ty S G1 fun y G2 => match (x.cur G2).look y with
  | some o => Q (o.getD .non) G2
  | none => False) := rfl
theorem x_dGet2 (td ty tx : DTE) (S : DS) (G : GH) (Q : DQ) : dGet2 td ty tx S G Q = (td S G fun x G1 => D.hasTy "dict" (x.cur G1) = true ∧ ty S G1 fun y G2 => tx S G2 fun z G3 => match (x.cur G3).look y with
  | some o => Q (o.getD z) G3
  | none => False) := rfl
theorem x_diEnumT (ta : DTA) (S : DS) (G : GH) (R : List D → (GH → Prop) → GH → Prop) : diEnumT ta S G R = (ta S G fun ds G1 => match ds with
  | [.tup xs] => R (xs.mapIdx fun i x => .tup [.int (i : Nat), x]) dNoGuard G1
  | _ => False) := rfl
theorem x_diZipS (ta : DTA) (S : DS) (G : GH) (R : List D → (GH → Prop) → GH → Prop) : diZipS ta S G R = (ta S G fun ds G1 => match ds with
  | [.str x, .str y] => R (List.zipWith (fun a b => .tup [.str (sgn a), .str (sgn b)]) x.cps.toList y.cps.toList) dNoGuard G1
  | _ => False) := rfl
theorem x_diZipT (ta : DTA) (S : DS) (G : GH) (R : List D → (GH → Prop) → GH → Prop) : diZipT ta S G R = (ta S G fun ds G1 => match ds with
  | [.tup xs, .tup ys] => R (List.zipWith (fun a b => .tup [a, b]) xs ys) dNoGuard G1
  | _ => False) := rfl
theorem x_dPar (i j : Nat) (ta : DTA) (D' : DEnds) (S : DS) (G : GH) : dPar i j ta D' S G = (ta S G fun ds G1 => match ds with
  | [x, y] => D'.nx ((S.set i (some x)).set j (some y)) G1
  | _ => False) := rfl
theorem x_dPar3 (i j l : Nat) (ta : DTA) (D' : DEnds) (S : DS) (G : GH) : dPar3 i j l ta D' S G = (ta S G fun ds G1 => match ds with
  | [x, y, z] => D'.nx (((S.set i (some x)).set j (some y)).set l (some z)) G1
  | _ => False) := rfl
theorem x_dAug (i : Nat) (te : DTE) (f : Int → Int → Int) (D' : DEnds) (S : DS) (G : GH) : dAug i te f D' S G = (match S[i]? with
  | some (some (.int a)) => te S G fun d G1 => (match d with
    | .int b => D'.nx (S.set i (some (.int (f a b)))) G1
    | _ => False)
  | _ => False) := rfl
theorem x_dRevL (te : DTE) (S : DS) (G : GH) (Q : DQ) : dRevL te S G Q = (te S G fun d G1 => match d.cur G1 with
  | .lst xs => Q (.lst xs.reverse) G1
  | _ => False) := rfl
theorem x_dRevLM (te : DTE) (S : DS) (G : GH) (Q : DQ) : dRevLM te S G Q = (te S G fun d G1 => match d.cur G1 with
  | .lst xs => ∀ p, G1 p = none → Q (.rf p) (gput G1 p (.lst xs.reverse))
  | _ => False) := rfl
theorem x_dDisp (tp : DTP) (S : DS) (G : GH) (Q : DQ) : dDisp tp S G Q = (tp S G fun qs G1 => match keyed qs with
  | some kds => kds.length ≤ 15 ∧ Q (.dK (mergeD [] kds)) G1
  | none => False) := rfl
theorem x_dDispM (tp : DTP) (S : DS) (G : GH) (Q : DQ) : dDispM tp S G Q = (tp S G fun qs G1 => match keyed qs with
  | some kds => kds.length ≤ 15 ∧ ∀ p, G1 p = none → Q (.rf p) (gput G1 p (.dK (mergeD [] kds)))
  | none => False) := rfl
theorem x_dChain (r r' : DR2) (ta tb tc : DTE) (S : DS) (G : GH) (Q : DQ) : dChain r r' ta tb tc S G Q = (ta S G fun x G1 => tb S G1 fun y G2 => r x y G2 fun z G3 => match z with
  | .bl k => if k = true then tc S G3 fun w G4 => r' y w G4 Q else Q (.bl false) G3
  | _ => False) := rfl
theorem x_for (wi : DTI) (g : DTG) (tb : DTS) (D' : DEnds) (S : DS) (G : GH) : dFor wi g tb D' S G = (wi S G fun ds gd G1 => ForB ds gd g tb D' S G1) := rfl
theorem x_while (c : DTT) (tb : DTS) (D' : DEnds) (S : DS) (G : GH) : dWhile c tb D' S G = WhB c tb D' S G := rfl
theorem x_lc (wi : DTI) (p : Pat) (tt : DTT) (te : DTE) (vs : List Nat) (S : DS) (G : GH) (Q : DQ) : dLc wi p tt te vs S G Q = (wi S G fun ds gd G1 => LcB ds gd p tt te vs S G1 Q) := rfl
theorem x_curK (G : GH) (a : Addr) : D.cur G (.rf a) = (match G a with
    | some (.lst xs) => .lst xs
    | some (.dK kds) => .dK kds
    | some (.dT kds) => .dT kds
    | some (.ins C kds) => .obj C kds
    | _ => .rf a) := rfl
theorem x_cur_non (G : GH)  : D.cur G (.non ) = .non  := rfl
theorem x_cur_bl (G : GH) (b : Bool) : D.cur G (.bl b) = .bl b := rfl
theorem x_cur_int (G : GH) (i : Int) : D.cur G (.int i) = .int i := rfl
theorem x_cur_str (G : GH) (x : Str) : D.cur G (.str x) = .str x := rfl
theorem x_ty_str (T : String) (x : Str) : D.hasTy T (.str x) = (T == "str") := rfl
theorem x_cur_ty (G : GH) (n : String) : D.cur G (.ty n) = .ty n := rfl
theorem x_cur_tup (G : GH) (xs : List D) : D.cur G (.tup xs) = .tup xs := rfl
theorem x_cur_lst (G : GH) (xs : List D) : D.cur G (.lst xs) = .lst xs := rfl
theorem x_ty_lst (T : String) (xs : List D) : D.hasTy T (.lst xs) = (T == "list") := rfl
theorem x_cur_dK (G : GH) (kvs : List (Key × D)) : D.cur G (.dK kvs) = .dK kvs := rfl
theorem x_ty_dK (T : String) (kvs : List (Key × D)) : D.hasTy T (.dK kvs) = (T == "dict") := rfl
theorem x_cur_dT (G : GH) (kvs : List (List Key × D)) : D.cur G (.dT kvs) = .dT kvs := rfl
theorem x_ty_dT (T : String) (kvs : List (List Key × D)) : D.hasTy T (.dT kvs) = (T == "dict") := rfl
theorem x_cur_obj (G : GH) (C : Addr) (fs : List (Str × D)) : D.cur G (.obj C fs) = .obj C fs := rfl
theorem x_cur_scr (G : GH) (ns : List Int) : D.cur G (.scr ns) = .scr ns := rfl
theorem x_item (x y : D) (G : GH) (Q : DQ) : rItem x y G Q = (match D.item (x.cur G) y with | some d => Q d G | none => False) := rfl
theorem x_int (C : Int → Int → Prop) (f : Int → Int → Int) (i j : Int) (G : GH) (Q : DQ) : rIntD C f (.int i) (.int j) G Q = (C i j ∧ Q (.int (f i j)) G) := rfl
theorem x_neg (i : Int) (G : GH) (Q : DQ) : rNegD (.int i) G Q = Q (.int (-i)) G := rfl
theorem dxs : (((((((∀ (i : Nat) (S : DS) (G : GH) (Q : DQ), dVar i S G Q = (match S[i]? with | some (some d) => Q d G | _ => False)) ∧
 (∀ (d : D) (S : DS) (G : GH) (Q : DQ), dC d S G Q = Q d G)) ∧
 ((∀ (S : DS) (G : GH) (Q : List D → GH → Prop), dNil S G Q = Q [] G) ∧
 ((∀ (ta : DTE) (tr : DTA) (S : DS) (G : GH) (Q : List D → GH → Prop), dCons ta tr S G Q = (ta S G fun d G1 => tr S G1 fun ds G2 => Q (d :: ds) G2)) ∧
 (∀ (ta : DTA) (S : DS) (G : GH) (Q : DQ), dTup ta S G Q = (ta S G fun ds G1 => ds.length ≤ sizeLine ∧ Q (.tup ds) G1))))) ∧
 (((∀ (ta : DTA) (S : DS) (G : GH) (Q : DQ), dLst ta S G Q = (ta S G fun ds G1 => ds.length ≤ sizeLine ∧ Q (.lst ds) G1)) ∧
 ((∀ (ta : DTA) (S : DS) (G : GH) (Q : DQ), dLstM ta S G Q = (ta S G fun ds G1 => ds.length ≤ sizeLine ∧ ∀ p, G1 p = none → Q (.rf p) (gput G1 p (.lst ds)))) ∧
 (∀ (r : DR2) (ta tb : DTE) (S : DS) (G : GH) (Q : DQ), dOp r ta tb S G Q = (ta S G fun x G1 => tb S G1 fun y G2 => r x y G2 Q)))) ∧
 ((∀ (r : DR1) (ta : DTE) (S : DS) (G : GH) (Q : DQ), dUn r ta S G Q = (ta S G fun x G1 => r x G1 Q)) ∧
 ((∀ (ta : DTE) (S : DS) (G : GH) (Q : Bool → GH → Prop), dTest ta S G Q = (ta S G fun d G1 => match d with | .bl b => Q b G1 | _ => False)) ∧
 (∀ (t : DTT) (S : DS) (G : GH) (Q : Bool → GH → Prop), dNot t S G Q = (t S G fun b G1 => Q (!b) G1)))))) ∧
 ((((∀ (t u : DTT) (S : DS) (G : GH) (Q : Bool → GH → Prop), dAnd t u S G Q = (t S G fun b G1 => if b = true then u S G1 Q else Q false G1)) ∧
 (∀ (t u : DTT) (S : DS) (G : GH) (Q : Bool → GH → Prop), dOr t u S G Q = (t S G fun b G1 => if b = true then Q true G1 else u S G1 Q))) ∧
 ((∀ (t : DTT) (ta tb : DTE) (S : DS) (G : GH) (Q : DQ), dIf t ta tb S G Q = (t S G fun b G1 => if b = true then ta S G1 Q else tb S G1 Q)) ∧
 ((∀ (ta tb : DTE) (S : DS) (G : GH) (Q : DQ), dAndV ta tb S G Q = (ta S G fun d G1 => match d with | .bl b => if b = true then tb S G1 Q else Q (.bl false) G1 | _ => False)) ∧
 (∀ (ta tb : DTE) (S : DS) (G : GH) (Q : DQ), dOrV ta tb S G Q = (ta S G fun d G1 => match d with | .bl b => if b = true then Q (.bl true) G1 else tb S G1 Q | _ => False))))) ∧
 (((∀ (ta : DTE) (S : DS) (G : GH) (Q : DQ), dNotV ta S G Q = (ta S G fun d G1 => match d with | .bl b => Q (.bl (!b)) G1 | _ => False)) ∧
 ((∀ (i : Nat) (d : D) (S : DS) (G : GH) (Q : DS → GH → Prop), dgName i d S G Q = Q (S.set i (some d)) G) ∧
 (∀ (n : Nat) (u : DTGs) (ds : List D) (S : DS) (G : GH) (Q : DS → GH → Prop), dgTup n u (.tup ds) S G Q = (ds.length = n ∧ u ds S G Q)))) ∧
 ((∀ (S : DS) (G : GH) (Q : DS → GH → Prop), dgNil [] S G Q = Q S G) ∧
 ((∀ (t : DTG) (u : DTGs) (d : D) (ds : List D) (S : DS) (G : GH) (Q : DS → GH → Prop), dgCons t u (d :: ds) S G Q = (t d S G fun S1 G1 => u ds S1 G1 Q)) ∧
 (∀ (D' : DEnds) (S : DS) (G : GH), dNext D' S G = D'.nx S G)))))) ∧
 (((((∀ (t u : DTS) (D' : DEnds) (S : DS) (G : GH), dSeq t u D' S G = t { D' with nx := u D' } S G) ∧
 (∀ (te : DTE) (g : DTG) (D' : DEnds) (S : DS) (G : GH), dAsg te g D' S G = (te S G fun d G1 => g d S G1 D'.nx))) ∧
 ((∀ (te : DTE) (D' : DEnds) (S : DS) (G : GH), dDrop te D' S G = (te S G fun _ G1 => D'.nx S G1)) ∧
 ((∀ (te : DTE) (D' : DEnds) (S : DS) (G : GH), dRet te D' S G = te S G D'.rt) ∧
 (∀ (D' : DEnds) (S : DS) (G : GH), dRetN D' S G = D'.rt .non G)))) ∧
 (((∀ (c : DTT) (t u : DTS) (D' : DEnds) (S : DS) (G : GH), dIfS c t u D' S G = (c S G fun b G1 => if b = true then t D' S G1 else u D' S G1)) ∧
 ((∀ (D' : DEnds) (S : DS) (G : GH), dNever D' S G = False) ∧
 (∀ (D' : DEnds) (S : DS) (G : GH), dBreak D' S G = D'.bk S G))) ∧
 ((∀ (D' : DEnds) (S : DS) (G : GH), dCont D' S G = D'.ct S G) ∧
 ((∀ (sp : SpD) (ta : DTA) (S : DS) (G : GH) (Q : DQ), dCall sp ta S G Q = (ta S G fun ds G1 => sp ds G1 Q)) ∧
 (∀ (r : List D → GH → DQ → Prop) (ta : DTA) (S : DS) (G : GH) (Q : DQ), dCB r ta S G Q = (ta S G fun ds G1 => r ds G1 Q)))))) ∧
 ((((∀ (T : String) (r : D → List D → GH → DQ → Prop) (to : DTE) (ta : DTA) (S : DS) (G : GH) (Q : DQ), dBM T r to ta S G Q = (to S G fun x G1 => D.hasTy T (x.cur G1) = true ∧ ta S G1 fun ds G2 => r x ds G2 Q)) ∧
 ((∀ (T : String) (r : D → List D → GH → DQ → Prop) (to : DTE) (S : DS) (G : GH) (Q : DQ), dBM0 T r to S G Q = (to S G fun x G1 => D.hasTy T (x.cur G1) = true ∧ r x [] G1 Q)) ∧
 (∀ (S : DS) (G : GH) (Q : Option Int → GH → Prop), dNoPart S G Q = Q none G))) ∧
 ((∀ (ta : DTE) (S : DS) (G : GH) (Q : Option Int → GH → Prop), dPart ta S G Q = (ta S G fun d G1 => match d with | .int i => Q (some i) G1 | _ => False)) ∧
 ((∀ (ta : DTE) (tl th : DTO) (S : DS) (G : GH) (Q : DQ), dSlice ta tl th S G Q = (ta S G fun x G1 => tl S G1 fun lo G2 => th S G2 fun hi G3 => rSlice x lo hi G3 Q)) ∧
 (∀ (S : DS) (G : GH) (Q : DQ), dNewK S G Q = (∀ p, G p = none → Q (.rf p) (gput G p (.dK []))))))) ∧
 (((∀ (S : DS) (G : GH) (Q : DQ), dNewT S G Q = (∀ p, G p = none → Q (.rf p) (gput G p (.dT [])))) ∧
 ((∀ (S : DS) (G : GH) (Q : Bool → GH → Prop), dYes S G Q = Q true G) ∧
 (∀ (S : DS) (G : GH) (Q : List (D × D) → GH → Prop), dpNil S G Q = Q [] G))) ∧
 ((∀ (tk tv : DTE) (tr : DTP) (S : DS) (G : GH) (Q : List (D × D) → GH → Prop), dpCons tk tv tr S G Q = (tk S G fun k G1 => tv S G1 fun v G2 => tr S G2 fun qs G3 => Q ((k, v) :: qs) G3)) ∧
 ((∀ (ta : DTE) (S : DS) (G : GH) (Q : DQ), dCold ta S G Q = (ta S G fun d G1 => match d with
  | .rf a => (match G1 a with
    | some o => (match o.cold with
      | some d => Q d (gdel G1 a)
      | none => False)
    | none => False)
  | d => Q d G1)) ∧
 (∀ (C : Addr) (f : Str) (ta : DTE) (S : DS) (G : GH) (Q : DQ), dFld C f ta S G Q = (ta S G fun d G1 => match d.cur G1 with
  | .obj C' fs => C' = C ∧ (match fs.lookup f with
    | some v => Q v G1
    | none => False)
  | _ => False)))))))) ∧
 ((((((∀ (C : Addr) (f : Str) (ta tv : DTE) (D' : DEnds) (S : DS) (G : GH), dSetFld C f ta tv D' S G = (tv S G fun y G1 => ta S G1 fun x G2 => match x with
  | .rf a => (match G2 a with
    | some (.ins C' fs) => C' = C ∧ fs.length < 1000 ∧ D'.nx S (gput G2 a (.ins C (putFD f y fs)))
    | _ => False)
  | _ => False)) ∧
 (∀ (to ti : DTE) (v : D) (S : DS) (G : GH) (Q : DS → GH → Prop), dSetSub to ti v S G Q = (to S G fun x G1 => ti S G1 fun i G2 => match x with
  | .rf a => (match G2 a with
    | some (.lst xs) => (match i with
      | .int j => (match ixN xs.length j with
        | some n => Q S (gput G2 a (.lst (xs.set n v)))
        | none => False)
      | _ => False)
    | some (.dK kds) => (match i.key with
      | some k => kds.length < sizeLine ∧ Q S (gput G2 a (.dK (putD kds k v)))
      | none => False)
    | some (.dT kds) => (match i with
      | .tup ds => (match D.keys ds with
        | some k => kds.length < sizeLine ∧ Q S (gput G2 a (.dT (putD kds k v)))
        | none => False)
      | _ => False)
    | _ => False)
  | _ => False))) ∧
 ((∀ (C : Addr) (m : Str) (sp : SpD) (ta : DTE) (tr : DTA) (S : DS) (G : GH) (Q : DQ), dMeth C m sp ta tr S G Q = (ta S G fun d G1 => match d.cur G1 with
  | .obj C' fs => C' = C ∧ fs.lookup m = none ∧ tr S G1 fun ds G2 => sp (d :: ds) G2 Q
  | _ => False)) ∧
 ((∀ (C : Addr) (sp : SpD) (tr : DTA) (S : DS) (G : GH) (Q : DQ), dMake C sp tr S G Q = (tr S G fun ds G1 => ∀ y, G1 y = none → sp (.rf y :: ds) (gput G1 y (.ins C [])) fun d G2 => match d with
  | .non => Q (.rf y) G2
  | _ => False)) ∧
 (∀ (te : DTE) (S : DS) (G : GH) (R : List D → (GH → Prop) → GH → Prop), diTup te S G R = (te S G fun d G1 => match d with
  | .tup ds => R ds dNoGuard G1
  | _ => False))))) ∧
 (((∀ (te : DTE) (S : DS) (G : GH) (R : List D → (GH → Prop) → GH → Prop), diList te S G R = (te S G fun d G1 => match d with
  | .lst ds => R ds dNoGuard G1
  | .rf a => (match G1 a with
    | some (.lst ds) => R ds (fun G => G a = some (.lst ds)) G1
    | _ => False)
  | _ => False)) ∧
 ((∀ (te : DTE) (S : DS) (G : GH) (R : List D → (GH → Prop) → GH → Prop), diStr te S G R = (te S G fun d G1 => match d with
  | .str x => R (signs x) dNoGuard G1
  | _ => False)) ∧
 (∀ (ta : DTA) (S : DS) (G : GH) (R : List D → (GH → Prop) → GH → Prop), diRange1 ta S G R = (ta S G fun ds G1 => match ds with
  | [.int n] => -(2 ^ 62) ≤ n ∧ n < 2 ^ 62 ∧ R ((List.range n.toNat).map fun i => .int (i : Nat)) dNoGuard G1
  | _ => False)))) ∧
 ((∀ (ta : DTA) (S : DS) (G : GH) (R : List D → (GH → Prop) → GH → Prop), diRange2 ta S G R = (ta S G fun ds G1 => match ds with
  | [.int m, .int n] => (-(2 ^ 62) ≤ m ∧ m < 2 ^ 62 ∧ -(2 ^ 62) ≤ n ∧ n < 2 ^ 62) ∧ R ((List.range (n - m).toNat).map fun i => .int (m + (i : Nat))) dNoGuard G1
  | _ => False)) ∧
 ((∀ (wi : DTI) (p : Pat) (tt : DTT) (te : DTE) (vs : List Nat) (S : DS) (G : GH) (Q : DQ), dLcM wi p tt te vs S G Q = (dLc wi p tt te vs S G fun d G' => match d with
  | .lst acc => ∀ a, G' a = none → Q (.rf a) (gput G' a (.lst acc))
  | _ => False)) ∧
 (∀ (td ty : DTE) (S : DS) (G : GH) (Q : DQ), dGet1 td ty S G Q = (td S G fun x G1 => D.hasTy "dict" (x.cur G1) = true ∧ ty S G1 fun y G2 => match (x.cur G2).look y with
  | some o => Q (o.getD .non) G2
  | none => False)))))) ∧
 ((((∀ (td ty tx : DTE) (S : DS) (G : GH) (Q : DQ), dGet2 td ty tx S G Q = (td S G fun x G1 => D.hasTy "dict" (x.cur G1) = true ∧ ty S G1 fun y G2 => tx S G2 fun z G3 => match (x.cur G3).look y with
  | some o => Q (o.getD z) G3
  | none => False)) ∧
 (∀ (ta : DTA) (S : DS) (G : GH) (R : List D → (GH → Prop) → GH → Prop), diEnumT ta S G R = (ta S G fun ds G1 => match ds with
  | [.tup xs] => R (xs.mapIdx fun i x => .tup [.int (i : Nat), x]) dNoGuard G1
  | _ => False))) ∧
 ((∀ (ta : DTA) (S : DS) (G : GH) (R : List D → (GH → Prop) → GH → Prop), diZipS ta S G R = (ta S G fun ds G1 => match ds with
  | [.str x, .str y] => R (List.zipWith (fun a b => .tup [.str (sgn a), .str (sgn b)]) x.cps.toList y.cps.toList) dNoGuard G1
  | _ => False)) ∧
 ((∀ (ta : DTA) (S : DS) (G : GH) (R : List D → (GH → Prop) → GH → Prop), diZipT ta S G R = (ta S G fun ds G1 => match ds with
  | [.tup xs, .tup ys] => R (List.zipWith (fun a b => .tup [a, b]) xs ys) dNoGuard G1
  | _ => False)) ∧
 (∀ (i j : Nat) (ta : DTA) (D' : DEnds) (S : DS) (G : GH), dPar i j ta D' S G = (ta S G fun ds G1 => match ds with
  | [x, y] => D'.nx ((S.set i (some x)).set j (some y)) G1
  | _ => False))))) ∧
 (((∀ (i j l : Nat) (ta : DTA) (D' : DEnds) (S : DS) (G : GH), dPar3 i j l ta D' S G = (ta S G fun ds G1 => match ds with
  | [x, y, z] => D'.nx (((S.set i (some x)).set j (some y)).set l (some z)) G1
  | _ => False)) ∧
 ((∀ (i : Nat) (te : DTE) (f : Int → Int → Int) (D' : DEnds) (S : DS) (G : GH), dAug i te f D' S G = (match S[i]? with
  | some (some (.int a)) => te S G fun d G1 => (match d with
    | .int b => D'.nx (S.set i (some (.int (f a b)))) G1
    | _ => False)
  | _ => False)) ∧
 (∀ (te : DTE) (S : DS) (G : GH) (Q : DQ), dRevL te S G Q = (te S G fun d G1 => match d.cur G1 with
  | .lst xs => Q (.lst xs.reverse) G1
  | _ => False)))) ∧
 ((∀ (te : DTE) (S : DS) (G : GH) (Q : DQ), dRevLM te S G Q = (te S G fun d G1 => match d.cur G1 with
  | .lst xs => ∀ p, G1 p = none → Q (.rf p) (gput G1 p (.lst xs.reverse))
  | _ => False)) ∧
 ((∀ (tp : DTP) (S : DS) (G : GH) (Q : DQ), dDisp tp S G Q = (tp S G fun qs G1 => match keyed qs with
  | some kds => kds.length ≤ 15 ∧ Q (.dK (mergeD [] kds)) G1
  | none => False)) ∧
 (∀ (tp : DTP) (S : DS) (G : GH) (Q : DQ), dDispM tp S G Q = (tp S G fun qs G1 => match keyed qs with
  | some kds => kds.length ≤ 15 ∧ ∀ p, G1 p = none → Q (.rf p) (gput G1 p (.dK (mergeD [] kds)))
  | none => False))))))) ∧
 (((((∀ (r r' : DR2) (ta tb tc : DTE) (S : DS) (G : GH) (Q : DQ), dChain r r' ta tb tc S G Q = (ta S G fun x G1 => tb S G1 fun y G2 => r x y G2 fun z G3 => match z with
  | .bl k => if k = true then tc S G3 fun w G4 => r' y w G4 Q else Q (.bl false) G3
  | _ => False)) ∧
 (∀ (wi : DTI) (g : DTG) (tb : DTS) (D' : DEnds) (S : DS) (G : GH), dFor wi g tb D' S G = (wi S G fun ds gd G1 => ForB ds gd g tb D' S G1))) ∧
 ((∀ (c : DTT) (tb : DTS) (D' : DEnds) (S : DS) (G : GH), dWhile c tb D' S G = WhB c tb D' S G) ∧
 ((∀ (wi : DTI) (p : Pat) (tt : DTT) (te : DTE) (vs : List Nat) (S : DS) (G : GH) (Q : DQ), dLc wi p tt te vs S G Q = (wi S G fun ds gd G1 => LcB ds gd p tt te vs S G1 Q)) ∧
 (∀ (G : GH) (a : Addr), D.cur G (.rf a) = (match G a with
    | some (.lst xs) => .lst xs
    | some (.dK kds) => .dK kds
    | some (.dT kds) => .dT kds
    | some (.ins C kds) => .obj C kds
    | _ => .rf a))))) ∧
 (((∀ (G : GH), D.cur G (.non ) = .non) ∧
 ((∀ (G : GH) (b : Bool), D.cur G (.bl b) = .bl b) ∧
 (∀ (G : GH) (i : Int), D.cur G (.int i) = .int i))) ∧
 ((∀ (G : GH) (x : Str), D.cur G (.str x) = .str x) ∧
 ((∀ (G : GH) (n : String), D.cur G (.ty n) = .ty n) ∧
 (∀ (G : GH) (xs : List D), D.cur G (.tup xs) = .tup xs))))) ∧
 ((((∀ (G : GH) (xs : List D), D.cur G (.lst xs) = .lst xs) ∧
 ((∀ (G : GH) (kvs : List (Key × D)), D.cur G (.dK kvs) = .dK kvs) ∧
 (∀ (G : GH) (kvs : List (List Key × D)), D.cur G (.dT kvs) = .dT kvs))) ∧
 ((∀ (G : GH) (C : Addr) (fs : List (Str × D)), D.cur G (.obj C fs) = .obj C fs) ∧
 ((∀ (G : GH) (ns : List Int), D.cur G (.scr ns) = .scr ns) ∧
 (∀ (T : String) (xs : List D), D.hasTy T (.lst xs) = (T == "list"))))) ∧
 (((∀ (T : String) (x : Str), D.hasTy T (.str x) = (T == "str")) ∧
 ((∀ (T : String) (kvs : List (Key × D)), D.hasTy T (.dK kvs) = (T == "dict")) ∧
 (∀ (T : String) (kvs : List (List Key × D)), D.hasTy T (.dT kvs) = (T == "dict")))) ∧
 ((∀ (x y : D) (G : GH) (Q : DQ), rItem x y G Q = (match D.item (x.cur G) y with | some d => Q d G | none => False)) ∧
 ((∀ (C : Int → Int → Prop) (f : Int → Int → Int) (i j : Int) (G : GH) (Q : DQ), rIntD C f (.int i) (.int j) G Q = (C i j ∧ Q (.int (f i j)) G)) ∧
 (∀ (i : Int) (G : GH) (Q : DQ), rNegD (.int i) G Q = Q (.int (-i)) G)))))))) :=
 ⟨⟨⟨⟨⟨⟨@x_var, @x_C⟩, ⟨@x_nil, ⟨@x_cons, @x_tup⟩⟩⟩, ⟨⟨@x_lst, ⟨@x_lstM, @x_op⟩⟩, ⟨@x_un, ⟨@x_test, @x_not⟩⟩⟩⟩, ⟨⟨⟨@x_and, @x_or⟩, ⟨@x_if, ⟨@x_andV, @x_orV⟩⟩⟩, ⟨⟨@x_notV, ⟨@x_gname, @x_gtup⟩⟩, ⟨@x_gnil, ⟨@x_gcons, @x_next⟩⟩⟩⟩⟩, ⟨⟨⟨⟨@x_seq, @x_asg⟩, ⟨@x_drop, ⟨@x_ret, @x_retN⟩⟩⟩, ⟨⟨@x_ifS, ⟨@x_never, @x_break⟩⟩, ⟨@x_cont, ⟨@x_call, @x_cb⟩⟩⟩⟩, ⟨⟨⟨@x_bm, ⟨@x_bm0, @x_nopart⟩⟩, ⟨@x_part, ⟨@x_slice, @x_newK⟩⟩⟩, ⟨⟨@x_newT, ⟨@x_yes, @x_pnil⟩⟩, ⟨@x_pcons, ⟨@x_dCold, @x_dFld⟩⟩⟩⟩⟩⟩, ⟨⟨⟨⟨⟨@x_dSetFld, @x_dSetSub⟩, ⟨@x_dMeth, ⟨@x_dMake, @x_diTup⟩⟩⟩, ⟨⟨@x_diList, ⟨@x_diStr, @x_diRange1⟩⟩, ⟨@x_diRange2, ⟨@x_dLcM, @x_dGet1⟩⟩⟩⟩, ⟨⟨⟨@x_dGet2, @x_diEnumT⟩, ⟨@x_diZipS, ⟨@x_diZipT, @x_dPar⟩⟩⟩, ⟨⟨@x_dPar3, ⟨@x_dAug, @x_dRevL⟩⟩, ⟨@x_dRevLM, ⟨@x_dDisp, @x_dDispM⟩⟩⟩⟩⟩, ⟨⟨⟨⟨@x_dChain, @x_for⟩, ⟨@x_while, ⟨@x_lc, @x_curK⟩⟩⟩, ⟨⟨@x_cur_non, ⟨@x_cur_bl, @x_cur_int⟩⟩, ⟨@x_cur_str, ⟨@x_cur_ty, @x_cur_tup⟩⟩⟩⟩, ⟨⟨⟨@x_cur_lst, ⟨@x_cur_dK, @x_cur_dT⟩⟩, ⟨@x_cur_obj, ⟨@x_cur_scr, @x_ty_lst⟩⟩⟩, ⟨⟨@x_ty_str, ⟨@x_ty_dK, @x_ty_dT⟩⟩, ⟨@x_item, ⟨@x_int, @x_neg⟩⟩⟩⟩⟩⟩⟩
theorem gs {α : Type} (a : α) (l : List α) : (a :: l)[0]? = some a := rfl
theorem dl : (∀ (G : GH) (a : Addr) (o : MO), gput G a o a = some o) ∧ (∀ (α : Type) (a : α) (l : List α), (a :: l)[0]? = some a) ∧ (∀ (α : Type) (a : α) (l : List α) (i : Nat), (a :: l)[i + 1]? = l[i]?) ∧
  (∀ (α : Type) (a b : α) (l : List α), (a :: l).set 0 b = b :: l) ∧ (∀ (α : Type) (a b : α) (l : List α) (i : Nat), (a :: l).set (i + 1) b = a :: l.set i b) ∧ (∀ (α : Type) (a : α) (l : List α), (a :: l).length = l.length + 1) ∧ (∀ (α : Type), ([] : List α).length = 0) :=
  ⟨fun _ _ _ => gput_same, fun _ _ _ => rfl, fun _ _ _ _ => rfl, fun _ _ _ _ => rfl, fun _ _ _ _ _ => rfl, fun _ _ _ => rfl, fun _ => rfl⟩
end DL
end
section
set_option Elab.async false
set_option linter.all false
set_option maxRecDepth 100000
namespace DL
open PySem PySem.Spec PyProof.Rows L2
theorem okE_str (a b : Str) : okE (.str a) (.str b) = true := rfl
theorem eqv_str (a b : Str) : D.eqv (.str a) (.str b) = (a == b) := by simp [D.eqv, D.py, PyData.eqv]
theorem okE_int (a b : Int) : okE (.int a) (.int b) = true := rfl
theorem eqv_int (a b : Int) : D.eqv (.int a) (.int b) = (a == b) := by simp [D.eqv, D.py, PyData.eqv]
theorem okL_int (a b : Int) : okL (.int a) (.int b) = true := rfl
theorem okL_str (a b : Str) : okL (.str a) (.str b) = true := rfl
theorem lt_int (a b : Int) : D.lt (.int a) (.int b) = decide (a < b) := PySem.W.dataLt_int a b
theorem lt_str (a b : Str) : D.lt (.str a) (.str b) = decide (a.cps.toList < b.cps.toList) := PySem.W.dataLt_str a b
mutual
def D.si : D → Bool
  | .non | .int _ | .str _ => true
  | .tup xs | .lst xs => D.sis xs
  | _ => false
def D.sis : List D → Bool
  | [] => true
  | x :: xs => D.si x && D.sis xs
end
mutual
theorem D.si_pl : ∀ d : D, d.si = true → d.pl = true
  | .non, _ => rfl
  | .int _, _ => rfl
  | .str _, _ => rfl
  | .tup xs, h => D.sis_pls xs h
  | .lst xs, h => D.sis_pls xs h
  | .bl _, h => by cases h
  | .ty _, h => by cases h
  | .dK _, h => by cases h
  | .dT _, h => by cases h
  | .obj _ _, h => by cases h
  | .rf _, h => by cases h
  | .scr _, h => by cases h
theorem D.sis_pls : ∀ xs : List D, D.sis xs = true → D.pls xs = true
  | [], _ => rfl
  | x :: xs, h => by
    simp only [D.sis, Bool.and_eq_true] at h
    simp only [D.pls, Bool.and_eq_true]
    exact ⟨D.si_pl x h.1, D.sis_pls xs h.2⟩
end
mutual
theorem D.si_eqv : ∀ x y : D, x.si = true → y.si = true → (D.eqv x y = true ↔ x = y)
  | .non, y, _, h => by cases y <;> first | (cases h; done) | simp [D.eqv, D.py, PyData.eqv]
  | .int _, y, _, h => by cases y <;> first | (cases h; done) | simp [D.eqv, D.py, PyData.eqv]
  | .str _, y, _, h => by cases y <;> first | (cases h; done) | simp [D.eqv, D.py, PyData.eqv]
  | .tup xs, .tup ys, hx, hy => by
    have := D.sis_eqv xs ys hx hy
    simp only [D.eqv, D.py, PyData.eqv, D.tup.injEq]
    exact this
  | .lst xs, .lst ys, hx, hy => by
    have := D.sis_eqv xs ys hx hy
    simp only [D.eqv, D.py, PyData.eqv, D.lst.injEq]
    exact this
  | .tup xs, .non, _, _ => by simp [D.eqv, D.py, PyData.eqv]
  | .tup xs, .int _, _, _ => by simp [D.eqv, D.py, PyData.eqv]
  | .tup xs, .str _, _, _ => by simp [D.eqv, D.py, PyData.eqv]
  | .tup xs, .lst _, _, _ => by simp [D.eqv, D.py, PyData.eqv]
  | .lst xs, .non, _, _ => by simp [D.eqv, D.py, PyData.eqv]
  | .lst xs, .int _, _, _ => by simp [D.eqv, D.py, PyData.eqv]
  | .lst xs, .str _, _, _ => by simp [D.eqv, D.py, PyData.eqv]
  | .lst xs, .tup _, _, _ => by simp [D.eqv, D.py, PyData.eqv]
  | .tup _, .bl _, _, h => by cases h
  | .tup _, .ty _, _, h => by cases h
  | .tup _, .dK _, _, h => by cases h
  | .tup _, .dT _, _, h => by cases h
  | .tup _, .obj _ _, _, h => by cases h
  | .tup _, .rf _, _, h => by cases h
  | .tup _, .scr _, _, h => by cases h
  | .lst _, .bl _, _, h => by cases h
  | .lst _, .ty _, _, h => by cases h
  | .lst _, .dK _, _, h => by cases h
  | .lst _, .dT _, _, h => by cases h
  | .lst _, .obj _ _, _, h => by cases h
  | .lst _, .rf _, _, h => by cases h
  | .lst _, .scr _, _, h => by cases h
  | .bl _, _, h, _ => by cases h
  | .ty _, _, h, _ => by cases h
  | .dK _, _, h, _ => by cases h
  | .dT _, _, h, _ => by cases h
  | .obj _ _, _, h, _ => by cases h
  | .rf _, _, h, _ => by cases h
  | .scr _, _, h, _ => by cases h
theorem D.sis_eqv : ∀ xs ys : List D, D.sis xs = true → D.sis ys = true → (PyData.eqvAll (D.pys xs) (D.pys ys) = true ↔ xs = ys)
  | [], [], _, _ => by simp [D.pys, PyData.eqvAll]
  | [], _ :: _, _, _ => by simp [D.pys, PyData.eqvAll]
  | _ :: _, [], _, _ => by simp [D.pys, PyData.eqvAll]
  | x :: xs, y :: ys, hx, hy => by
    simp only [D.sis, Bool.and_eq_true] at hx hy
    have h1 := D.si_eqv x y hx.1 hy.1
    have h2 := D.sis_eqv xs ys hx.2 hy.2
    simp only [D.eqv] at h1
    simp only [D.pys, PyData.eqvAll, Bool.and_eq_true, h1, h2, List.cons.injEq]
end
mutual
def D.dp : D → Nat
  | .tup xs | .lst xs => D.dps xs + 1
  | _ => 0
def D.dps : List D → Nat
  | [] => 0
  | x :: xs => max (D.dp x) (D.dps xs)
end
mutual
theorem D.dp_ok : ∀ d : D, d.py.depth ≤ d.dp
  | .non => by simp [D.py, PyData.depth]
  | .bl _ => by simp [D.py, PyData.depth]
  | .int _ => by simp [D.py, PyData.depth]
  | .str _ => by simp [D.py, PyData.depth]
  | .tup xs => by have := D.dps_ok xs; simp only [D.py, PyData.depth, D.dp]; omega
  | .lst xs => by have := D.dps_ok xs; simp only [D.py, PyData.depth, D.dp]; omega
  | .ty _ => by simp [D.py, PyData.depth]
  | .dK _ => by simp [D.py, PyData.depth]
  | .dT _ => by simp [D.py, PyData.depth]
  | .obj _ _ => by simp [D.py, PyData.depth]
  | .rf _ => by simp [D.py, PyData.depth]
  | .scr _ => by simp [D.py, PyData.depth]
theorem D.dps_ok : ∀ xs : List D, PyData.depthAll (D.pys xs) ≤ D.dps xs
  | [] => by simp [D.pys, PyData.depthAll]
  | x :: xs => by have := D.dp_ok x; have := D.dps_ok xs; simp only [D.pys, PyData.depthAll, D.dps]; omega
end
theorem dps_le {xs : List D} {n : Nat} (h : ∀ x ∈ xs, x.dp ≤ n) : D.dps xs ≤ n := by
  induction xs with
  | nil => simp [D.dps]
  | cons x xs ih =>
    have h1 := h x (by simp)
    have h2 := ih fun y hy => h y (by simp [hy])
    simp only [D.dps]; omega
theorem sis_all {xs : List D} : D.sis xs = true ↔ ∀ x ∈ xs, x.si = true := by
  induction xs with
  | nil => simp [D.sis]
  | cons x xs ih => simp [D.sis, ih]
theorem okE_si {x y : D} (hx : x.si = true) (hy : y.si = true) (hd : x.dp ≤ 60) : okE x y = true := by
  have := D.dp_ok x
  simp only [okE, Bool.and_eq_true, decide_eq_true_eq]
  exact ⟨⟨D.si_pl x hx, D.si_pl y hy⟩, by omega⟩
theorem eqv_si {x y : D} (hx : x.si = true) (hy : y.si = true) : D.eqv x y = true ↔ x = y := D.si_eqv x y hx hy
theorem isIn_si {x : D} {ys : List D} (hx : x.si = true) (hy : D.sis ys = true) : D.isIn x ys = true ↔ x ∈ ys := by
  induction ys with
  | nil => simp [D.isIn, D.pys]
  | cons y ys ih =>
    simp only [D.sis, Bool.and_eq_true] at hy
    have h1 := D.si_eqv y x hy.1 hx
    have h2 := ih hy.2
    simp only [D.eqv] at h1
    simp only [D.isIn, D.pys, List.any_cons, Bool.or_eq_true, h1, List.mem_cons] at h2 ⊢
    rw [h2]
    exact ⟨fun h => h.imp Eq.symm id, fun h => h.imp Eq.symm id⟩
theorem okI_si {x : D} {ys : List D} (hx : x.si = true) (hy : D.sis ys = true) (hd : x.dp ≤ 60) : okI x ys = true := by
  have := D.dp_ok x
  simp only [okI, Bool.and_eq_true, decide_eq_true_eq]
  exact ⟨⟨D.si_pl x hx, D.sis_pls ys hy⟩, by omega⟩
end DL
end
section
set_option Elab.async false
set_option linter.all false
set_option maxRecDepth 100000
set_option maxHeartbeats 4000000
namespace DL
open PySem PySem.Spec PyProof.Rows L2
abbrev eSet (w : World) : Obj := { cls := .type "set", dict := none, data := .set #[] 0 (.fresh 0 0 (!w.params.followText "set-order")) }
section
variable {P : Program} {w : World} {A : Around} {E : Value → Shared → Prop} {s : Shared}
theorem call_set_lstI {l : Addr} {its : Array Value} (ns : List Int) {Q : Value → Shared → Prop} (zh : A.handled = none) (zl : s.heap.IsList l its) (zit : IntsAre its.toList ns) (zb : ns.length + 1 < scanBound)
    (h : ∀ (h' : Heap) (tk1 c : Nat), SetR w h' s.heap.objs.size (fun j => decide (j ∈ ns)) c → c ≤ ns.length → (∀ b o, s.heap.get? b = some o → h'.get? b = some o) → Q (.ref s.heap.objs.size) { s with heap := h', toks := tk1 }) : wpAny (model P w) A (call (.type "set") [.ref l]) Q E s := by
  have zsz : its.size = ns.length := by
    have q := IntsAre.length zit
    rw [Array.length_toList] at q
    exact q
  obtain ⟨c, tl, zmro⟩ := F.called_set.mro
  have zmade := F.called_set.made
  have zsub := F.called_set.sub
  (refine wpAny_call (codeAny_of_tree ?_))
  (show wpAny _ _ (callAny (.type "set") _) _ _ _)
  (refine wpAny_pure ⟨Code.quiet_builtin _ (by decide +kernel), codeAny_builtin F.entry_type_call ?_⟩)
  (rw [Around.under_plain (weight_type_call_type "set" [.ref l] []) rfl])
  have z1 := F.called_set.notType
  have z2 := F.called_set.canCreate
  have zct := F.typeCall_set_1 (.ref l)
  (repeat (any_goals (first | assumption | wp_step)))
  refine codeAny_mono (code_set_led1 (.ref l) (E := E) (Q₁ := fun ob s1 => ob = .ref s.heap.objs.size ∧ s1 = { s with heap := s.heap.push (eSet w) }) ⟨rfl, rfl⟩) fun r s1 zr => ?_
  cases r with
  | error e => exact zr
  | ok fl1 =>
    cases fl1 with
    | ret ob =>
      obtain ⟨rfl, rfl⟩ := zr
      have zS : (s.heap.push (eSet w)).get? s.heap.objs.size = some (eSet w) := Heap.get?_push_size _ rfl
      have zT : Shared.TypeIs { s with heap := s.heap.push (eSet w) } (.ref s.heap.objs.size) "set" := ⟨_, zS, rfl⟩
      have zli := F.called_set.init.lookup
      have zbi := F.called_set.init.bind (.ref s.heap.objs.size)
      (repeat (any_goals (first | assumption | wp_step)))
      refine codeAny_mono (codeAny_call_builtin (R := wants (fun r s2 => r = .none ∧ ∃ h' tk1 c, s2 = { s with heap := h', toks := tk1 } ∧ SetR w h' s.heap.objs.size (fun j => decide (j ∈ ns)) c ∧ c ≤ ns.length ∧
          (∀ b o, s.heap.get? b = some o → h'.get? b = some o)) E) F.called_set.init.plain F.entry_set_init (check_set_init_1 zT ?_)) fun r2 s2 zr2 => ?_
      · obtain ⟨zo, zol, zcl, zn, zdl⟩ := zl
        obtain ⟨zc1, zc2, zc3, zc4⟩ := zo
        simp only at zcl zdl
        subst zcl; subst zdl
        have zol' : (s.heap.push (eSet w)).get? l = some { cls := .type "list", dict := zc2, data := .seq its zn, slots := zc4 } := Heap.get?_push_of_some _ zol
        have zs1 := F.sub_list_set
        have zs2 := F.sub_list_frozenset
        have zne : (Value.type "list" == Value.type "dict") = false := by decide
        have zl1 : (s.heap.push (eSet w)).IsList l its := ⟨_, zol', rfl, zn, rfl⟩
        (unfold Builtin.«set.__init__» noKeywords Builtin.Frozenset.updateFrom)
        generalize zPI : pyIter = ZI
        wp_walk
        subst zPI
        refine wpAny_pyIter_list zl1 ?_
        (refine wpAny_bind (wpAny_runValue ?_))
        have zlS : l < s.heap.objs.size := Heap.lt_size zol
        have zh3 : A.in1.in1.in1.handled = none := by simp [zh]
        have zz1 : (s.heap.push (eSet w)).objs.size = s.heap.objs.size + 1 := Heap.size_push ..
        have zneI : l ≠ (s.heap.push (eSet w)).objs.size := by
          rw [Heap.size_push]; exact Nat.ne_of_lt (Nat.lt_succ_of_lt zlS)
        have zSf : s.heap.objs.size ∉ [(s.heap.push (eSet w)).objs.size, l] := by
          (rw [Heap.size_push]; simp only [List.mem_cons, List.mem_singleton, List.not_mem_nil, or_false, not_or])
          exact ⟨Nat.ne_of_lt (Nat.lt_succ_self _), Nat.ne_of_gt zlS⟩
        have zval : ∀ (i : Nat) (v : Value), its[i]? = some v → ∃ k t, ns[i]? = some k ∧ v = .int k t := fun i v zv => by
          have zi : i < ns.length := by rw [← zsz]; exact (Array.getElem?_eq_some_iff.mp zv).1
          obtain ⟨t, e⟩ := PyProof.Rows.IntsAre.int_at zit i v (by rw [Array.getElem?_toList]; exact zv)
          refine ⟨ns[i], t, List.getElem?_eq_getElem zi, ?_⟩
          rw [e, List.getD_eq_getElem?_getD, List.getElem?_eq_getElem zi] <;> rfl
        refine set_update_ints ((Walks.list zh3 _ l zneI its).toS) s.heap.objs.size
          zSf ns zsz zb zval (its.size - 0) 0 _ (by omega) (Nat.zero_le _)
          ⟨⟨_, Heap.get?_push_size _ rfl, rfl, rfl⟩, (zl1.push _)⟩ ?hS0 ?hR
        case hS0 =>
          have zget : ((s.heap.push (eSet w)).push { cls := .type "list_iterator", data := .fields #[.ref l, .int 0 0] }).get? s.heap.objs.size
              = some (eSet w) := Heap.get?_push_of_some _ zS
          exact ⟨0, Nat.le_refl 0, setR_new_at zget⟩
        case hR =>
          intro s' c' zm zc' zS'
          obtain ⟨h', q2, q3, q4, q5⟩ := s'
          have y1 : q2 = s.gens := zm.gens
          have y2 : q3 = s.drawn := zm.drawn
          have y3 : q5 = s.os := zm.os
          subst y1; subst y2; subst y3
          show wpAny _ _ _ _ _ _
          refine wpAny_pure ?_
          (show wpAny _ _ (ret Value.none) _ _ _)
          rw [zsz] at zc'
          refine wpAny_pure ⟨rfl, h', q4, c', rfl, zS', zc', fun b o e => ?_⟩
          have y4 : b < s.heap.objs.size := Heap.lt_size e
          have y5 : b ≠ s.heap.objs.size := Nat.ne_of_lt y4
          have y6 : b ≠ (s.heap.push (eSet w)).objs.size := by
            rw [Heap.size_push]; exact Nat.ne_of_lt (Nat.lt_succ_of_lt y4)
          exact zm.heap b o (by simp only [List.mem_cons, List.mem_singleton, List.not_mem_nil, or_false, not_or]; exact ⟨y5, y6⟩) (Heap.get?_push_of_some _ (Heap.get?_push_of_some _ e))
      · cases r2 with
        | error e => exact zr2
        | ok fl2 =>
          cases fl2 with
          | ret r =>
            obtain ⟨rfl, h', tk1, c', rfl, zS', zc', zk'⟩ := zr2
            (repeat (any_goals (first | assumption | wp_step)))
            exact h _ _ _ zS' zc' zk'
          | _ => exact zr2.elim
    | _ => exact zr.elim
end
/-- set(l), l a list of ints -/
def rSetL (w : World) (K : PySem.W.Frag) : List V → Hp → VK → Prop := fun vs H Q => ∃ (a : Addr) (ns : List Int), vs = [.ref a] ∧ SqL K H a (ns.map V.int) ∧ ns.length ≤ 1000 ∧
  ∀ p c, H p = none → c ≤ ns.length → Q (.ref p) (upd H p (SetO w p (fun j => decide (j ∈ ns)) c))
section
variable {X : Cx} {pos : Pos}
theorem cr_setL (hc : X.calm = true) : CallR X (.type "set") (rSetL X.w X.K) := by
  intro pins s σ H vs us Q I r h
  obtain ⟨a, ns, rfl, ha, hl, q⟩ := h
  rw [Vals.ref1 r]
  obtain ⟨its, rv, pl, hz⟩ := I.list ha
  refine call_set_lstI ns (I.ok.hd hc) pl.isList (by simpa using ints_of_vals rv) (by unfold scanBound; omega) fun h' tk c R hcn k => ?_
  exact ⟨.ref _, _, I.laid (t' := tk) k (Nat.le_refl _) (setO_new R), rfl, q _ c (I.hok.fresh (Nat.le_refl _)) hcn⟩
end
end DL
end
section
set_option Elab.async false
set_option linter.all false
set_option maxRecDepth 100000
set_option maxHeartbeats 4000000
namespace DL
open PySem PySem.Spec PyProof.Rows L2
section
variable {α : Type} [DecidableEq α]
/-- each at its first time -/
def addF (ks : List α) (t : α) : List α := if t ∈ ks then ks else ks ++ [t]
def firstsF (ts : List α) : List α := ts.foldl addF []
theorem addF_nodup {ks : List α} {t : α} (h : ks.Nodup) : (addF ks t).Nodup := by
  unfold addF
  split
  · exact h
  · rename_i ht
    rw [List.nodup_append]
    refine ⟨h, by simp, fun a ha b hb => ?_⟩
    simp at hb
    subst hb
    exact fun e => ht (e ▸ ha)
theorem addF_mem {ks : List α} {t k : α} : k ∈ addF ks t ↔ k ∈ ks ∨ k = t := by
  unfold addF
  split
  · rename_i h
    exact ⟨.inl, fun q => q.elim id fun e => e ▸ h⟩
  · simp
theorem foldl_addF_nodup : ∀ (ts ks : List α), ks.Nodup → (ts.foldl addF ks).Nodup
  | [], _, h => h
  | t :: ts, _, h => foldl_addF_nodup ts _ (addF_nodup h)
theorem foldl_addF_mem {k : α} : ∀ (ts ks : List α), k ∈ ts.foldl addF ks ↔ k ∈ ks ∨ k ∈ ts
  | [], ks => by simp
  | t :: ts, ks => by
    rw [List.foldl_cons, foldl_addF_mem ts, addF_mem, List.mem_cons, or_assoc]
theorem firstsF_nodup (ts : List α) : (firstsF ts).Nodup := foldl_addF_nodup ts [] List.nodup_nil
theorem firstsF_mem {ts : List α} {k : α} : k ∈ firstsF ts ↔ k ∈ ts := by
  unfold firstsF
  rw [foldl_addF_mem]
  simp
end
section
variable {X : Cx} {pos : Pos}
def intsD : List D → Option (List Int)
  | [] => some []
  | .int n :: r => (intsD r).map (n :: ·)
  | _ :: _ => none
theorem intsD_rep {K : PySem.W.Frag} {F : Hp} : ∀ {ds : List D} {ns : List Int} {vs : List V}, intsD ds = some ns → Reps K F vs ds → vs = ns.map V.int
  | [], ns, _, h, .nil => by cases h; rfl
  | .int n :: r, ns, _, h, .cons a b => by
    unfold intsD at h
    cases e : intsD r with
    | none => rw [e] at h; cases h
    | some m =>
      rw [e] at h
      cases h
      rw [intsD_rep e b]
      cases a
      rfl
theorem intsD_map (ns : List Int) : intsD (ns.map D.int) = some ns := by
  induction ns with
  | nil => rfl
  | cons n ns ih => simp [intsD, ih]
/-- each once, in order -/
def isort1 (ns : List Int) : List Int := (firstsF ns).mergeSort (· ≤ ·)
theorem isort1_uniq {ns ms : List Int} (s : ms.Pairwise (· < ·)) (h : ∀ k, k ∈ ms ↔ k ∈ ns) : ms = isort1 ns := by
  have nd : ms.Nodup := s.imp fun h => by omega
  have pm : ms.Perm (firstsF ns) := (List.perm_ext_iff_of_nodup nd (firstsF_nodup ns)).mpr fun k => by rw [h k, firstsF_mem]
  exact isort_uniq pm (s.imp fun h => by omega)
def dSortSet (te : DTE) : DTE := fun S G Q => te S G fun d G1 => match d.cur G1 with
  | .lst xs => (match intsD xs with
    | some ns => ns.length < 64 ∧ Q (.lst ((isort1 ns).map .int)) G1
    | none => False)
  | _ => False
theorem de_sortSet {e : Expr} {te : DTE} {p q p2 : Pos} (hc : X.calm = true) (hg : Gl X "sorted") (hm : X.mg "sorted" = none) (hg2 : Gl X "set") (hm2 : X.mg "set" = none) (ha : DE X e te)
    (na : starEach [e] X.env = (false, eval e X.env) :: starEach [] X.env := by rfl)
    (nb : starEach [.Call (.Name "set" p2) [e] [] q] X.env = (false, eval (.Call (.Name "set" p2) [e] [] q) X.env) :: starEach [] X.env := by rfl) : DE X (.Call (.Name "sorted" p) [.Call (.Name "set" p2) [e] [] q] [] pos) (dSortSet te) := by
  obtain ⟨t, p1, r1⟩ := ha.ex
  have ps := pe_callTy (pos := q) (p := p2) (cr_setL hc) hg2 hm2 PyProof.Rows.boot_set (pa_cons p1 pa_nil na) (by decide) (by decide) na (by rfl)
  have pp := pe_callB (pos := pos) (p := p) (cr_sortedSet hc) hg hm PyProof.Rows.boot_sorted (pa_cons ps pa_nil nb) (by decide) (by decide) nb (by rfl)
  refine ⟨_, pp, fun F H σ S G o Q' h Q k => ?_⟩
  refine r1 F H σ S G o _ h _ fun F1 H1 v d G1 e1 g1 q1 h1 => ?_
  dsimp only at h1
  split at h1
  · rename_i xs ex
    split at h1
    · rename_i ns en
      obtain ⟨a, vs, rfl, ha, rs⟩ := cur_list g1 q1 ex
      rw [intsD_rep en rs] at ha
      refine ⟨a, ns, rfl, .inl (.inl ha), by omega, fun z c hz hcn => ?_⟩
      refine ⟨z, _, c, rfl, upd_same, by omega, fun ms z2 hs hk hl hz2 => ?_⟩
      have em : ms = isort1 ns := isort1_uniq hs fun j => by rw [hk j]; simp
      subst em
      have gr1 : Gr F1 H1 F1 (upd H1 z (SetO X.w z (fun j => decide (j ∈ ns)) c)) := ⟨Ex.refl _, g1.ex.trans (Ex.new hz), Ex.new hz, fun _ _ _ w => w⟩
      have g2 := g1.grow gr1
      have gr2 := Gr.new (u := .lst ((isort1 ns).map V.int)) g2.ex hz2
      exact k _ _ _ _ G1 (e1.trans (gr1.go.trans gr2.go)) (g2.grow gr2) (.lst upd_same (Reps.ints _)) h1.2
    · exact h1.elim
  · exact h1.elim
end
end DL
end
section
set_option Elab.async false
set_option linter.all false
set_option maxRecDepth 100000
set_option maxHeartbeats 4000000
namespace DL
open PySem PySem.Spec PyProof.Rows L2
def tkey (e : Int × Value) : Str := match e.2 with | .str k _ => k | _ => ""
def TGood (w : World) (e : Int × Value) : Prop := ∃ k tk, e.2 = Value.str k tk ∧ e.1 = hashStr w k
/-- the set of texts at a: ks its members in some order; the table rises and can be walked -/
def SetS (w : World) (h : Heap) (a : Addr) (ks : List Str) : Prop :=
  ∃ o es ep t, h.get? a = some o ∧ o.ExactSet ∧ o.data = .set es ep t ∧ (∀ e ∈ es.toList, TGood w e) ∧ (es.toList.map tkey).Perm ks ∧ ks.Nodup ∧
    es.size < scanBound ∧ t.fits es.size = true ∧ Ris t.place.toList ∧ (w.params.followText "set-order" = true ∨ t.led = true)
section
variable {P : Program} {w : World} {h h' : Heap} {a : Addr} {ks : List Str}
theorem SetS.keep (R : SetS w h a ks) (k : ∀ o, h.get? a = some o → h'.get? a = some o) : SetS w h' a ks := by
  obtain ⟨o, es, ep, t, q, r⟩ := R
  exact ⟨o, es, ep, t, k o q, r⟩
theorem tgood_elems {l : List (Int × Value)} (g : ∀ e ∈ l, TGood w e) : ElemsOf (strKind P w) l := fun e he => by
  obtain ⟨k, tk, p1, p2⟩ := g e he
  exact ⟨⟨k, by rw [p1]; exact strKind_is P w k tk, p2⟩, by rw [p1] <;> rfl⟩
theorem tgood_is {e : Int × Value} (g : TGood w e) (k : Str) : (strKind P w).is k e.2 = true ↔ tkey e = k := by
  obtain ⟨k0, tk, p1, _⟩ := g
  unfold tkey
  rw [p1]
  refine ⟨fun z => ?_, fun z => z ▸ strKind_is P w k0 tk⟩
  simpa [PySem.strKind, Value.isStrOf] using z
end
section
variable {P : Program} {w : World} {A : Around} {E : Value → Shared → Prop} {s : Shared} {a : Addr} {ks : List Str}
theorem sets_tail {g : Bool → Sem Unit} (zg : ∀ (b : Bool) (z1 : Shared) (Q' : Unit → Shared → Prop), Q' () z1 → wpAny (model P w) A (g b) Q' E z1)
    {o : Obj} {es : Array (Int × Value)} {ep : Nat} {t : SetTable} (zo : s.heap.get? a = some o) (zx : o.ExactSet) (zd : o.data = .set es ep t)
    {fs : Array (Int × Value)} {u : SetTable} (z1 : ∀ e ∈ fs.toList, TGood w e) (z2 : (fs.toList.map tkey).Perm ks) (z3 : ks.Nodup)
    (z4 : fs.size < scanBound) (z5 : u.fits fs.size = true) (z6 : Ris u.place.toList) (z7 : w.params.followText "set-order" = true ∨ u.led = true) {wd : Bool} {R : Option Bool → Shared → Prop}
    (zR : ∀ h', Heap.SameBut a s.heap h' → SetS w h' a ks → R (some true) { s with heap := h' }) :
    wpAny (model P w) A (do
        storeSet a fs u
        if (!wd && u.tooFull) = true then do
            g (relayAll u fs (SetTable.grown fs.size)).2.2
            storeSet a (relayAll u fs (SetTable.grown fs.size)).1 (relayAll u fs (SetTable.grown fs.size)).2.1
            pure (some true)
          else pure (some true)) R E s := by
  refine wpAny_bind (wpAny_storeSet_of zo zd ?_ (fits_of_scanBound z4))
  have zo1 := store_at (es' := fs) (t' := u) zo zd
  have zb1 := Heap.SameBut.update s.heap a (Obj.putSet fs u)
  by_cases zc : (!wd && u.tooFull) = true
  · rw [if_pos zc]
    have y1 := relayAll_perm u fs (SetTable.grown fs.size)
    have y2 := relayAll_fits u fs (SetTable.grown fs.size)
    have y3 := relayAll_ris u fs (SetTable.grown fs.size)
    have y4 := relayAll_led u fs (SetTable.grown fs.size)
    generalize relayAll u fs (SetTable.grown fs.size) = Z at y1 y2 y3 y4 ⊢
    obtain ⟨gs, v, gv⟩ := Z
    dsimp only at y1 y2 y3 y4 ⊢
    have ysz : gs.size = fs.size := by rw [← Array.length_toList, y1.length_eq, Array.length_toList]
    refine wpAny_bind (zg _ _ _ ?_)
    refine wpAny_bind (wpAny_storeSet_of zo1 rfl ?_ (fits_of_scanBound (by rw [ysz]; exact z4)))
    have zo2 := store_at (es' := gs) (t' := v) zo1 rfl
    refine wpAny_pure (zR _ (zb1.trans (Heap.SameBut.update _ a _)) ?_)
    exact ⟨_, gs, _, v, zo2, zx, rfl, fun e he => z1 e (y1.mem_iff.mp he), (y1.map tkey).trans z2, z3, by rw [ysz]; exact z4, y2, y3, z7.imp id fun z => by rw [y4]; exact z⟩
  · rw [if_neg zc]
    exact wpAny_pure (zR _ zb1 ⟨_, fs, _, u, zo1, zx, rfl, z1, z2, z3, z4, z5, z6, z7⟩)
theorem sets_addH {k : Str} {tk : Tok} {Q : Bool → Shared → Prop} (R : SetS w s.heap a ks) (room : ks.length + 1 < scanBound)
    (zQ : ∀ h', Heap.SameBut a s.heap h' → SetS w h' a (addF ks k) → Q (!decide (k ∈ ks)) { s with heap := h' }) :
    wpAny (model P w) A (setAddHashed a (.str k tk) ((strKind P w).hash k)) Q E s := by
  obtain ⟨o, es, ep, t, zo, zx, zd, zg, zp, zn, zb, zf, zr, zl⟩ := R
  have zk : (strKind P w).is k (.str k tk) = true := strKind_is P w k tk
  have zs : (Value.str k tk).scannable = true := rfl
  have ze : ElemsOf (strKind P w) es.toList := tgood_elems zg
  have zsz : es.size = ks.length := by rw [← Array.length_toList, ← List.length_map (f := tkey), zp.length_eq]
  unfold setAddHashed setAddHashedIn
  refine wpAny_holding (wpAny_bind (wpAny_setState_of zo zd zf ?_))
  dsimp only
  rw [byScan_of zs zb ze]
  simp only [↓reduceIte]
  unfold setAddByScan
  refine wpAny_bind ?_
  refine wpAny_bind (wpAny_rule ?_)
  refine wpAny_bind (wpAny_setScan_of zk zo zd zf ze ?_)
  cases zfi : List.findIdx? (fun e => (strKind P w).is k e.2) es.toList with
  | some j =>
    dsimp only
    obtain ⟨hj, pj, _⟩ := List.findIdx?_eq_some_iff_getElem.mp zfi
    have hin : k ∈ ks := zp.mem_iff.mp (List.mem_map.mpr ⟨es.toList[j], List.getElem_mem hj, (tgood_is (P := P) (zg _ (List.getElem_mem hj)) k).1 pj⟩)
    refine wpAny_pure (wpAny_pure ?_)
    have q := zQ s.heap (Heap.SameBut.refl a s.heap) ⟨o, es, ep, t, zo, zx, zd, zg, by rw [show addF ks k = ks from if_pos hin]; exact zp, addF_nodup zn, zb, zf, zr, zl⟩
    rw [decide_eq_true hin] at q
    exact q
  | none =>
    dsimp only
    have hout : k ∉ ks := fun z => by
      obtain ⟨e, he, q⟩ := List.mem_map.mp (zp.mem_iff.mpr z)
      have c := List.findIdx?_eq_none_iff.mp zfi e he
      rw [(tgood_is (P := P) (zg e he) k).2 q] at c
      cases c
    have zgw : ∀ (b : Bool) {z1 : Shared} {Q' : Unit → Shared → Prop}, Q' () z1 → wpAny (model P w) A (match b with | true => rule "set.scan.the-table-gave-way" | false => pure ()) Q' E z1 :=
      fun b z1 Q' q => by cases b <;> first | exact wpAny_pure q | exact wpAny_rule q
    have y1 := layNew_perm t es ((strKind P w).hash k) (.str k tk)
    have y2 := layNew_fits t es ((strKind P w).hash k) (.str k tk)
    have y3 := layNew_ris t es ((strKind P w).hash k) (.str k tk) zr
    have y4 := layNew_led t es ((strKind P w).hash k) (.str k tk)
    generalize layNew t es ((strKind P w).hash k) (.str k tk) = Z at y1 y2 y3 y4 ⊢
    obtain ⟨fs, u, wd, gv⟩ := Z
    dsimp only at y1 y2 y3 y4 ⊢
    rw [Array.toList_push] at y1
    have x1 : ∀ e ∈ fs.toList, TGood w e := fun e he => by
      rcases List.mem_append.mp (y1.mem_iff.mp he) with z | z
      · exact zg e z
      · rw [List.mem_singleton.mp z]; exact ⟨k, tk, rfl, rfl⟩
    have ea : addF ks k = ks ++ [k] := if_neg hout
    have x2 : (fs.toList.map tkey).Perm (addF ks k) := by
      have q := y1.map tkey
      rw [List.map_append] at q
      rw [ea]
      exact q.trans (List.Perm.append_right _ zp)
    have x3 : (addF ks k).Nodup := addF_nodup zn
    have x4 : fs.size < scanBound := by
      rw [← Array.length_toList, y1.length_eq, List.length_append, Array.length_toList, zsz]
      exact room
    have x7 : w.params.followText "set-order" = true ∨ u.led = true := zl.imp id fun z => by rw [y4]; exact z
    have fin : ∀ h', Heap.SameBut a s.heap h' → SetS w h' a (addF ks k) → Q true { s with heap := h' } := fun h' sb r => by
      have q := zQ h' sb r
      rw [decide_eq_false hout] at q
      exact q
    refine wpAny_bind (zgw _ ?_)
    split
    · refine wpAny_bind ?_
      rw [hashByValue_scannable 8 zs]
      refine wpAny_pure ?_
      refine sets_tail ?_ zo zx zd x1 x2 x3 x4 ?_ ?_ ?_ ?_
      · intro b z1 Q' q; cases b <;> first | exact wpAny_pure q | exact wpAny_rule q
      · first | (split <;> first | exact y2 | exact SetTable.fits_plain_off y2) | exact y2
      · first | (split <;> exact y3) | exact y3
      · first | (split <;> exact x7) | exact x7
      · intro h' sb r; dsimp only; exact wpAny_pure (fin h' sb r)
    · refine wpAny_bind (wpAny_pure ?_)
      simp only [↓reduceIte]
      refine sets_tail ?_ zo zx zd x1 x2 x3 x4 y2 y3 x7 ?_
      · intro b z1 Q' q; cases b <;> first | exact wpAny_pure q | exact wpAny_rule q
      · intro h' sb r; dsimp only; exact wpAny_pure (fin h' sb r)
theorem firstsF_snoc {α : Type} [DecidableEq α] (l : List α) (x : α) : firstsF (l ++ [x]) = addF (firstsF l) x := by simp [firstsF]
theorem addF_len {α : Type} [DecidableEq α] (l : List α) (x : α) : (addF l x).length ≤ l.length + 1 := by unfold addF; split <;> simp
theorem firstsF_len {α : Type} [DecidableEq α] (l : List α) : (firstsF l).length ≤ l.length := by
  have : ∀ (l : List α) (acc : List α), (l.foldl addF acc).length ≤ acc.length + l.length := by
    intro l
    induction l with
    | nil => intro acc; simp
    | cons x l ih =>
      intro acc
      have h1 := ih (addF acc x)
      have h2 := addF_len acc x
      simp only [List.foldl_cons, List.length_cons]
      omega
  simpa [firstsF] using this l []
theorem sets_loop {I : Addr} {fp wr : List Addr} {G : Array GenState → Array GenState → Prop} {n : Nat} {Pv : Nat → Value → Prop} {St : Nat → Shared → Prop} {R : Result → Shared → Prop}
    (W : WalksS P w A.in1 I fp wr G n Pv St) (S : Addr) (zS : S ∉ fp) (xs : List Str) (zn : n = xs.length) (zb : xs.length + 1 < scanBound) (zv : ∀ i v, Pv i v → ∃ k t, xs[i]? = some k ∧ v = .str k t) :
    ∀ (k i : Nat) (s : Shared), n - i = k → i ≤ n → St i s → SetS w s.heap S (firstsF (xs.take i)) →
      (∀ s', Moved (S :: wr) G s s' → SetS w s'.heap S (firstsF xs) → R (.ok (.ret .none)) s') →
      codeAny (model P w) A (.builtin "set.update.loop" ⟨[.ref S, .ref I], []⟩) R s := by
  have zSw : S ∉ wr := fun h => zS (W.sub _ h)
  have zsub : ∀ b ∈ wr, b ∈ S :: wr := fun b hb => List.mem_cons_of_mem _ hb
  intro k
  induction k with
  | zero =>
    intro i s e1 e2 st zH zR
    have ei : i = n := by omega
    subst ei
    refine codeAny_builtin F.entry_set_update_loop ?_
    rw [Around.under_plainId F.plain_set_update_loop _]
    show wpAny _ A.in1 (pyNext (.ref I) >>= _) _ _ s
    refine wpAny_bind (W.done s _ _ st fun s' zm => ?_)
    show wpAny _ A.in1 (ret Value.none) _ _ s'
    rw [List.take_of_length_le (by omega)] at zH
    exact wpAny_pure (zR s' (zm.mono zsub) (zH.keep fun o e => zm.heap S o zSw e))
  | succ k ih =>
    intro i s e1 e2 st zH zR
    have hlt : i < n := by omega
    refine codeAny_builtin F.entry_set_update_loop ?_
    rw [Around.under_plainId F.plain_set_update_loop _]
    show wpAny _ A.in1 (pyNext (.ref I) >>= _) _ _ s
    refine wpAny_bind (W.item i s _ _ hlt st fun v s' hP st' zm => ?_)
    obtain ⟨z, t, hz, rfl⟩ := zv i v hP
    have zH' : SetS w s'.heap S (firstsF (xs.take i)) := zH.keep fun o e => zm.heap S o zSw e
    show wpAny _ A.in1 (holding [Value.str z t] (setAdd S (.str z t)) >>= _) _ _ s'
    refine wpAny_bind (wpAny_holding ?_)
    unfold setAdd
    refine wpAny_holding ?_
    refine wpAny_bind ((strKind P w).pyHash (k := z) (strKind_is _ _ _ _) ?_)
    have hfl := firstsF_len (xs.take i)
    rw [List.length_take] at hfl
    refine sets_addH (s := { s' with toks := s'.toks + 1 }) zH' (by omega) fun h' sb zH2 => ?_
    rw [← firstsF_snoc] at zH2
    have et : xs.take (i + 1) = xs.take i ++ [z] := by rw [List.take_add_one, hz]; rfl
    rw [← et] at zH2
    refine wpAny_pure ⟨plainId_quiet F.plain_set_update_loop _, ih (i + 1) _ (by omega) hlt (W.frame _ s' _ _ st' (Nat.le_succ _) fun b hb o e => ?_) zH2 fun s2 zm2 zH3 => ?_⟩
    · rw [sb.2 b (fun h : b = S => zS (by rw [← h]; exact hb))]; exact e
    · refine zR s2 (Moved.trans W.gtrans ((zm.mono zsub).then_heap (Nat.le_succ _) fun b o hb e => ?_) zm2) zH3
      rw [sb.2 b (fun h : b = S => hb (by rw [h]; exact List.mem_cons_self))]; exact e
theorem sets_new {h : Heap} {a : Addr} (ho : h.get? a = some (eSet w)) : SetS w h a (firstsF []) := by
  refine ⟨_, #[], 0, _, ho, ⟨rfl, rfl, rfl⟩, rfl, (fun e he => by simp at he), List.Perm.nil, List.nodup_nil, (by decide), (by rfl), List.Pairwise.nil, ?_⟩
  show _ ∨ (!w.params.followText "set-order") = true
  cases w.params.followText "set-order"
  · exact .inr rfl
  · exact .inl rfl
theorem call_set_lstS {l : Addr} {its : Array Value} (ns : List Str) {Q : Value → Shared → Prop} (zh : A.handled = none) (zl : s.heap.IsList l its) (zit : StrsAre its.toList ns) (zb : ns.length + 1 < scanBound)
    (h : ∀ (h' : Heap) (tk1 : Nat), SetS w h' s.heap.objs.size (firstsF ns) → (∀ b o, s.heap.get? b = some o → h'.get? b = some o) → Q (.ref s.heap.objs.size) { s with heap := h', toks := tk1 }) : wpAny (model P w) A (call (.type "set") [.ref l]) Q E s := by
  have zsz : its.size = ns.length := by
    have q := StrsAre.length zit
    rw [Array.length_toList] at q
    exact q
  obtain ⟨c, tl, zmro⟩ := F.called_set.mro
  have zmade := F.called_set.made
  have zsub := F.called_set.sub
  (refine wpAny_call (codeAny_of_tree ?_))
  (show wpAny _ _ (callAny (.type "set") _) _ _ _)
  (refine wpAny_pure ⟨Code.quiet_builtin _ (by decide +kernel), codeAny_builtin F.entry_type_call ?_⟩)
  (rw [Around.under_plain (weight_type_call_type "set" [.ref l] []) rfl])
  have z1 := F.called_set.notType
  have z2 := F.called_set.canCreate
  have zct := F.typeCall_set_1 (.ref l)
  (repeat (any_goals (first | assumption | wp_step)))
  refine codeAny_mono (code_set_led1 (.ref l) (E := E) (Q₁ := fun ob s1 => ob = .ref s.heap.objs.size ∧ s1 = { s with heap := s.heap.push (eSet w) }) ⟨rfl, rfl⟩) fun r s1 zr => ?_
  cases r with
  | error e => exact zr
  | ok fl1 =>
    cases fl1 with
    | ret ob =>
      obtain ⟨rfl, rfl⟩ := zr
      have zS : (s.heap.push (eSet w)).get? s.heap.objs.size = some (eSet w) := Heap.get?_push_size _ rfl
      have zT : Shared.TypeIs { s with heap := s.heap.push (eSet w) } (.ref s.heap.objs.size) "set" := ⟨_, zS, rfl⟩
      have zli := F.called_set.init.lookup
      have zbi := F.called_set.init.bind (.ref s.heap.objs.size)
      (repeat (any_goals (first | assumption | wp_step)))
      refine codeAny_mono (codeAny_call_builtin (R := wants (fun r s2 => r = .none ∧ ∃ h' tk1, s2 = { s with heap := h', toks := tk1 } ∧ SetS w h' s.heap.objs.size (firstsF ns) ∧
          (∀ b o, s.heap.get? b = some o → h'.get? b = some o)) E) F.called_set.init.plain F.entry_set_init (check_set_init_1 zT ?_)) fun r2 s2 zr2 => ?_
      · obtain ⟨zo, zol, zcl, zn, zdl⟩ := zl
        obtain ⟨zc1, zc2, zc3, zc4⟩ := zo
        simp only at zcl zdl
        subst zcl; subst zdl
        have zol' : (s.heap.push (eSet w)).get? l = some { cls := .type "list", dict := zc2, data := .seq its zn, slots := zc4 } := Heap.get?_push_of_some _ zol
        have zs1 := F.sub_list_set
        have zs2 := F.sub_list_frozenset
        have zne : (Value.type "list" == Value.type "dict") = false := by decide
        have zl1 : (s.heap.push (eSet w)).IsList l its := ⟨_, zol', rfl, zn, rfl⟩
        (unfold Builtin.«set.__init__» noKeywords Builtin.Frozenset.updateFrom)
        generalize zPI : pyIter = ZI
        wp_walk
        subst zPI
        refine wpAny_pyIter_list zl1 ?_
        (refine wpAny_bind (wpAny_runValue ?_))
        have zlS : l < s.heap.objs.size := Heap.lt_size zol
        have zh3 : A.in1.in1.in1.handled = none := by simp [zh]
        have zz1 : (s.heap.push (eSet w)).objs.size = s.heap.objs.size + 1 := Heap.size_push ..
        have zneI : l ≠ (s.heap.push (eSet w)).objs.size := by
          rw [Heap.size_push]; exact Nat.ne_of_lt (Nat.lt_succ_of_lt zlS)
        have zSf : s.heap.objs.size ∉ [(s.heap.push (eSet w)).objs.size, l] := by
          (rw [Heap.size_push]; simp only [List.mem_cons, List.mem_singleton, List.not_mem_nil, or_false, not_or])
          exact ⟨Nat.ne_of_lt (Nat.lt_succ_self _), Nat.ne_of_gt zlS⟩
        have zval : ∀ (i : Nat) (v : Value), its[i]? = some v → ∃ k t, ns[i]? = some k ∧ v = .str k t := fun i v zv => by
          have zi : i < ns.length := by rw [← zsz]; exact (Array.getElem?_eq_some_iff.mp zv).1
          obtain ⟨y, t, e, ey⟩ := StrsAre.item zit i v (by rw [Array.getElem?_toList]; exact zv)
          exact ⟨y, t, ey, e⟩
        refine sets_loop ((Walks.list zh3 _ l zneI its).toS) s.heap.objs.size
          zSf ns zsz zb zval (its.size - 0) 0 _ (by omega) (Nat.zero_le _)
          ⟨⟨_, Heap.get?_push_size _ rfl, rfl, rfl⟩, (zl1.push _)⟩ ?hS0 ?hR
        case hS0 =>
          have zget : ((s.heap.push (eSet w)).push { cls := .type "list_iterator", data := .fields #[.ref l, .int 0 0] }).get? s.heap.objs.size
              = some (eSet w) := Heap.get?_push_of_some _ zS
          exact sets_new zget
        case hR =>
          intro s' zm zS'
          obtain ⟨h', q2, q3, q4, q5⟩ := s'
          have y1 : q2 = s.gens := zm.gens
          have y2 : q3 = s.drawn := zm.drawn
          have y3 : q5 = s.os := zm.os
          subst y1; subst y2; subst y3
          show wpAny _ _ _ _ _ _
          refine wpAny_pure ?_
          (show wpAny _ _ (ret Value.none) _ _ _)
          refine wpAny_pure ⟨rfl, h', q4, rfl, zS', fun b o e => ?_⟩
          have y4 : b < s.heap.objs.size := Heap.lt_size e
          have y5 : b ≠ s.heap.objs.size := Nat.ne_of_lt y4
          have y6 : b ≠ (s.heap.push (eSet w)).objs.size := by
            rw [Heap.size_push]; exact Nat.ne_of_lt (Nat.lt_succ_of_lt y4)
          exact zm.heap b o (by simp only [List.mem_cons, List.mem_singleton, List.not_mem_nil, or_false, not_or]; exact ⟨y5, y6⟩) (Heap.get?_push_of_some _ (Heap.get?_push_of_some _ e))
      · cases r2 with
        | error e => exact zr2
        | ok fl2 =>
          cases fl2 with
          | ret r =>
            obtain ⟨rfl, h', tk1, rfl, zS', zk'⟩ := zr2
            (repeat (any_goals (first | assumption | wp_step)))
            exact h _ _ zS' zk'
          | _ => exact zr2.elim
    | _ => exact zr.elim
theorem strs_of : ∀ (l : List Value), (∀ v ∈ l, ∃ k tk, v = Value.str k tk) → StrsAre l (l.map fun v => tkey (0, v))
  | [], _ => .nil
  | v :: l, h => by
    obtain ⟨k, tk, rfl⟩ := h v List.mem_cons_self
    exact .cons k tk (strs_of l fun u hu => h u (List.mem_cons_of_mem _ hu))
theorem sorted_sets {Q : Value → Shared → Prop} (R : SetS w s.heap a ks) (zh : A.handled = none)
    (zQ : ∀ s' p (out : Array Value) (c : Nat) (ys : List Str), (∀ b o, s.heap.get? b = some o → s'.heap.get? b = some o) → s'.gens = s.gens → s'.os = s.os → s.heap.objs.size ≤ p →
      s'.heap.get? p = some (seqObj "list" out c) → StrsAre out.toList ys → ys.Perm ks → sortedS ys = true → Q (.ref p) s') :
    wpAny (model P w) A (call (.builtin "sorted") [.ref a]) Q E s := by
  obtain ⟨o, es, ep, t, zo, zx, zd, zg, zp, zn, zb, zf, zr, zl⟩ := R
  refine Calls.call_function_entry kind_sorted plain_sorted entry_sorted (args_sorted1 _) ?_
  unfold Builtin.«sorted»
  refine wpAny_bind (m := checkCount "sorted" 1 1 _) (wpAny_pure ?_)
  refine wpAny_bind (collect_set (A := A.in1) zh ⟨o, zo, zx.1, zd⟩ zf zb zr zl fun s1 vs k1 hz g1 o1 pm => ?_)
  have x1 : StrsAre vs (vs.map fun v => tkey (0, v)) := strs_of vs fun v hv => by
    obtain ⟨e, he, q⟩ := List.mem_map.mp (pm.mem_iff.mp hv)
    obtain ⟨k, tk, h1, _⟩ := zg e he
    exact ⟨k, tk, by rw [← q]; exact h1⟩
  have x2 : (vs.map fun v => tkey (0, v)).Perm ks := by
    have q := pm.map fun v => tkey (0, v)
    rw [List.map_map] at q
    exact q.trans zp
  have x3 : vs.length ≤ sizeLine := by
    rw [pm.length_eq, List.length_map, Array.length_toList]
    exact fits_of_scanBound zb
  refine wpAny_bind (wpAny_newList ?_ x3)
  have x4 : (s1.heap.push (seqObj "list" vs.toArray 0)).get? s1.heap.objs.size = some (seqObj "list" vs.toArray 0) := Heap.get?_push_size _ rfl
  refine wpAny_bind (wpAny_holding (wpAny_call_entry slot_list_sort ⟨_, x4, rfl⟩ entry_list_sort (list_sort_treeKAny strKind_oneLt x4 x1.keysOf (fun v₁ v₂ rest e => keyKind_strs (by rw [← e]; exact x1)) x3 fun st' hp hs => ⟨_, rfl, ?_⟩) (args_list_sort _)))
  obtain ⟨ys, y1, y2, y3⟩ := sorted_out_str x1 hp hs
  obtain ⟨c, hc⟩ := sortedHeap_at (vs := vs) (out := (arrOf st').map (·.2)) x4
  refine wpAny_pure ⟨_, rfl, zQ _ s1.heap.objs.size _ c ys (fun b u e => ?_) g1 o1 hz hc y1 (y2.trans x2) y3⟩
  have q := k1 b u e
  have hlt := Heap.lt_size q
  show (sortedHeap (s1.heap.push (seqObj "list" vs.toArray 0)) s1.heap.objs.size vs _).get? b = some u
  rw [sortedHeap_old (Nat.ne_of_lt hlt) (by rw [size_push']; exact Nat.lt_succ_of_lt hlt)]
  exact Heap.get?_push_of_some _ q
end
end DL
end
section
set_option Elab.async false
set_option linter.all false
set_option maxRecDepth 100000
set_option maxHeartbeats 4000000
namespace DL
open PySem PySem.Spec PyProof.Rows L2
def tDispT (tk tv : TE) : TE := fun σ H Q => ∀ p, H p = none → tPairs [(tk, tv)] σ (upd H p (.dT [])) fun ps H2 => H2 p = some (.dT []) ∧ ∃ k b v, ps = [(.ref b, v)] ∧ H2 b = some (.tup (k.map kV)) ∧ Q (.ref p) (upd H2 p (.dT [(k, v)]))
section
variable {X : Cx} {pos : Pos}
theorem pe_dispT {ke ve : Expr} {tk tv : TE} (hu : X.A.units + 1 < cLine) (hk : PE X ke tk) (hv : PE X ve tv) : PE X (.Dict [some ke] [ve] pos) (tDispT tk tv) := by
  refine ⟨fun pins s σ H Q I q => ?_⟩
  have hn := I.hok.fresh (Nat.le_refl s.heap.objs.size)
  have I1 := I.laid (a := s.heap.objs.size) (o := .dT []) (h' := s.heap.push { cls := .type "dict", data := .dict #[] }) (t' := s.toks) (fun _ _ q => Heap.get?_push_of_some _ q) (Nat.le_refl _) (dt_empty s.heap I.big)
  have hp := pps_cons (pos := pos) hk hv (pps_nil (X := X))
  have hzip := zip_pairTrees [some ke] [ve] X.env pos rfl rfl
  have hlen := pairTrees_length [some ke] [ve] X.env pos rfl rfl
  rw [arm_eval_Dict, hzip, dictDisplay_pairs _ (by intro z; rw [z] at hlen; cases hlen) (by rw [hlen]; exact (by decide : 1 < 17))]
  refine wpAny_bind (wpAny_standAt (wpAny_bind (wpAny_subDictH (knd := tupleKind (mixKind X.prog X.w)) (Q := fun d s' => wpAny (model X.prog X.w) X.A (pure (Value.ref d)) _ X.xe s') (by show X.A.units < cLine; omega) (by rw [hlen]; exact (by decide : 1 ≤ 15)) ?_)))
  refine thn (hp.run pins _ σ _ _ I1 (q _ hn)) fun ws s2 ⟨ps, H2, I2, rel, e, k, b, v, ep, hb, q2⟩ => ?_
  subst ep
  obtain ⟨z, hd, vs0, r0, dd⟩ := dt_of I2.hok e
  cases r0
  cases rel with
  | cons r1 r2 =>
    cases r2
    rename_i w0 _
    obtain ⟨u1, u2⟩ := w0
    obtain ⟨ra, rv⟩ := r1
    cases (show u1 = Value.ref b from ra)
    refine ⟨[(k, b, u2)], ⟨rfl, rfl, key_of I2.hok hb, trivial⟩, dd, fun h' tk' dd' hs => wpAny_pure ⟨.ref s.heap.objs.size, _, ?_, rfl, q2⟩⟩
    obtain ⟨q', es, ep, hq, h2, h3, h4, _, h5⟩ := dd'
    refine d_write I2 (by rw [e]; exact True.intro) hs ⟨q', hq⟩ ⟨by show 1 ≤ sizeLine; rw [sizeLine_eq]; decide, hd, [(k, b, u2)], .cons ⟨rfl, ?_, rv⟩ .nil, q', es, ep, hq, h2, h3, h4, h5⟩
    rw [upd_ne (ne_of hb e (fun z => nomatch z))]
    exact hb
/-- a new thing that may change, laid out before others -/
theorem own_later {K : PySem.W.Frag} {F H F' H' : Hp} {G G' : GH} {p : Addr} {u : HO} {o : MO} (hp : H p = none) (go : Go F H G F' H' G') (g : Gok K F' H' G') (fp : F' p = none) (gp : G' p = none) (hd : o.isDeck = false) (m0 : MRep K F' (upd H' p u) (gput G' p o) p o) :
    Gok K F' (upd H' p u) (gput G' p o) ∧ Go F H G F' (upd H' p u) (gput G' p o) := by
  constructor
  · refine ⟨g.ex.updR fp, fun a w e => ?_, fun a b k1 k2 k3 n j1 j2 j3 m e1 e2 => ?_⟩
    · by_cases nq : a = p
      · subst nq
        rw [gput_same] at e; cases e
        exact ⟨fp, m0⟩
      · rw [gput_ne nq] at e
        obtain ⟨f, m⟩ := g.at_ a w e
        refine ⟨f, m.move (Ex.refl F') (fun b u hb hc => ?_) fun c z => ?_⟩
        · have n2 : b ≠ p := fun z => by
            rcases hc with hc | hc
            · exact nq (hc ▸ z)
            · rw [z, gp] at hc; cases hc
          rw [upd_ne n2]; exact hb
        · have n2 : c ≠ p := fun y => by rw [y, gp] at z; cases z
          rw [gput_ne n2]; exact z
    · have ha : a ≠ p := fun y => by rw [y, gput_same] at e1; cases e1; cases hd
      have hb : b ≠ p := fun y => by rw [y, gput_same] at e2; cases e2; cases hd
      rw [gput_ne ha] at e1; rw [gput_ne hb] at e2
      exact g.one a b k1 k2 k3 n j1 j2 j3 m e1 e2
  · refine ⟨go.ex, fun b u hb gb => ?_, go.no, fun b z => go.st b (upd_none z)⟩
    have n2 : b ≠ p := fun z => by rw [z, hp] at hb; cases hb
    rw [upd_ne n2, gput_ne n2]; exact go.fr b u hb gb
def dDispT (tk tv : DTE) : DTE := fun S G Q => tk S G fun k G1 => tv S G1 fun v G2 => match k with
  | .tup ds => (match D.keys ds with
    | some ks => ∀ p, G2 p = none → Q (.rf p) (gput G2 p (.dT [(ks, v)]))
    | none => False)
  | _ => False
theorem de_dispT {ke ve : Expr} {tk tv : DTE} (hu : X.A.units + 100 < cLine) (hk : DE X ke tk) (hv : DE X ve tv) : DE X (.Dict [some ke] [ve] pos) (dDispT tk tv) := by
  obtain ⟨t1, p1, r1⟩ := hk.ex
  obtain ⟨t2, p2, r2⟩ := hv.ex
  refine ⟨_, pe_dispT (by omega) p1 p2, fun F H σ S G o Q' h Q kk => ?_⟩
  intro p hp
  have gp : G p = none := o.g.free hp
  have fp : F p = none := o.g.ex.nope hp
  have gr : Gr F H F (upd H p (.dT [])) := Gr.only o.g.ex hp
  refine r1 F _ σ S G ⟨o.g.grow gr, o.s⟩ _ h _ fun F1 H1 v1 d1 G1 e1 g1 q1 h1 => ?_
  refine r2 F1 H1 σ S G1 (Ok.go ⟨o.g.grow gr, o.s⟩ e1 g1) _ h1 _ fun F2 H2 v2 d2 G2 e2 g2 q2 h2 => ?_
  have e12 := e1.trans e2
  have fr := e12.fr p _ upd_same gp
  refine ⟨fr.1, ?_⟩
  dsimp only at h2
  split at h2
  · rename_i ds
    split at h2
    · rename_i ks ek
      cases q1 with
      | tup hb rs =>
        have hvs := rs.keys ek
        subst hvs
        refine ⟨ks, _, v2, rfl, g2.ex _ _ (e2.ex _ _ hb), ?_⟩
        have hz := own_later (K := X.K) (u := .dT [(ks, v2)]) (o := .dT [(ks, d2)]) hp ((gr.go (G := G)).trans e12) g2 (e12.no p _ upd_same gp fp (fun _ z => nomatch z)) fr.2 rfl ⟨[(ks, v2)], upd_same, rfl, .cons q2 .nil⟩
        exact kk _ _ _ _ _ hz.2 hz.1 (.rf p) (h2 p fr.2)
    · exact h2.elim
  · exact h2.elim
/-- int(n) -/
def rIntC (ds : List D) (G : GH) (Q : DQ) : Prop := match ds with
  | [.int i] => Q (.int i) G
  | [.bl b] => Q (.int (if b then 1 else 0)) G
  | _ => False
theorem cd_int : CallD X (.type "int") rIntC := by
  refine ⟨_, call_int1, fun F H G vs ds g rs Q' h Q k => ?_⟩
  unfold rIntC at h
  split at h
  · rename_i i
    cases rs with
    | cons r b =>
      cases b
      cases r
      exact .inl ⟨i, rfl, k _ _ _ _ G Go.refl g (.int i) h⟩
  · rename_i b0
    cases rs with
    | cons r b =>
      cases b
      cases r
      exact .inr ⟨b0, rfl, k _ _ _ _ G Go.refl g (.int _) h⟩
  · exact h.elim
end
end DL
end
section
set_option Elab.async false
set_option linter.all false
set_option maxRecDepth 100000
set_option maxHeartbeats 4000000
namespace DL
open PySem PySem.Spec PyProof.Rows L2
structure DK (X : Cx) (kws : List Keyword) (t' : DTA) : Prop where
  ex : ∃ t, PK X kws t ∧ ∀ F H σ S G, Ok X.K F H σ S G → ∀ Q', t' S G Q' → ∀ Q, KpA X.K F H G Q' Q → t σ H Q
/-- the arguments in the order of the parameters -/
def perm {α : Type} (z : α) (js : List Nat) (us ws : List α) : List α := js.map fun j => (us ++ ws)[j]?.getD z
structure CalK (P : Program) (w : World) (K : PySem.W.Frag) (mg : Str → Option Value) (base : Heap) (x : Str) (k : Nat) (ps : List Str) (sp : SpD) (n : Nat) (ks : List Str) (js : List Nat) : Prop where
  ex : ∃ f fd, FnG P w K mg base CX0 k f fd ps (SpOf K sp) ∧ mg x = some (.ref f) ∧ PySem.W.keepIn K (.ref f) = true ∧
    ∀ (s : Shared) (us ws : List Value), us.length = n → ws.length = ks.length → BindsTo s fd ⟨us, ks.zip ws⟩ (ps.zip (perm .none js us ws))
section
variable {X : Cx} {pos kpos : Pos} {nm : Option Str}
theorem dk_nil : DK X [] dNil := ⟨_, pk_nil, fun F H σ S G o Q' h Q k => k F H [] [] G Go.refl o.g .nil h⟩
theorem dk_cons {e : Expr} {kws : List Keyword} {ta : DTE} {tr : DTA} (ha : DE X e ta) (hr : DK X kws tr) : DK X (⟨nm, e, kpos⟩ :: kws) (dCons ta tr) := by
  obtain ⟨t1, p1, r1⟩ := ha.ex
  obtain ⟨t2, p2, r2⟩ := hr.ex
  refine ⟨_, pk_cons p1 p2, fun F H σ S G o Q' h Q k => ?_⟩
  refine r1 F H σ S G o _ h _ fun F1 H1 v d G1 e1 g1 q1 h1 => ?_
  refine r2 F1 H1 σ S G1 (o.go e1 g1) _ h1 _ fun F2 H2 vs ds G2 e2 g2 q2 h2 => ?_
  exact k F2 H2 _ _ G2 (e1.trans e2) g2 (.cons (q1.mono e2.ex) q2) h2
def dCallK (sp : SpD) (n m : Nat) (js : List Nat) (ta tk : DTA) : DTE := fun S G Q => ta S G fun ds G1 => tk S G1 fun zs G2 => (ds.length = n ∧ zs.length = m) ∧ sp (perm .non js ds zs) G2 Q
theorem vals_at {vs : List V} {us : List Value} (r : Vals vs us) (j : Nat) : RelV (vs[j]?.getD .non) (us[j]?.getD .none) := by
  induction r generalizing j with
  | nil => rfl
  | cons a t ih => cases j with
    | zero => exact a
    | succ j => simpa using ih j
theorem reps_at {K : PySem.W.Frag} {F : Hp} {vs : List V} {ds : List D} (r : Reps K F vs ds) (j : Nat) : Rep K F (vs[j]?.getD .non) (ds[j]?.getD .non) := by
  induction ds generalizing vs j with
  | nil => cases r; exact .non
  | cons d ds ih => cases r with
    | cons a t => cases j with
      | zero => exact a
      | succ j => simpa using ih t j
theorem vals_perm {vs zs : List V} {us ws : List Value} (r : Vals vs us) (q : Vals zs ws) : ∀ js : List Nat, Vals (perm .non js vs zs) (perm .none js us ws)
  | [] => .nil
  | j :: js => .cons (vals_at (r.append q) j) (vals_perm r q js)
theorem reps_app {K : PySem.W.Frag} {F : Hp} : ∀ {vs zs : List V} {ds es : List D}, Reps K F vs ds → Reps K F zs es → Reps K F (vs ++ zs) (ds ++ es)
  | _, _, _, _, .nil, q => q
  | _, _, _, _, .cons a t, q => .cons a (reps_app t q)
theorem reps_perm {K : PySem.W.Frag} {F : Hp} {vs zs : List V} {ds es : List D} (r : Reps K F vs ds) (q : Reps K F zs es) : ∀ js : List Nat, Reps K F (perm .non js vs zs) (perm .non js ds es)
  | [] => .nil
  | j :: js => .cons (reps_at (reps_app r q) j) (reps_perm r q js)
/-- f(k = v, ..) -/
theorem de_calK0 {x : Str} {k : Nat} {ps : List Str} {sp : SpD} {ks : List Str} {js : List Nat} {p : Pos} {kws : List Keyword} {tk : DTA} (c : CalK X.prog X.w X.K X.mg X.base x k ps sp 0 ks js) (hA : X.A.guards = some []) (hr : Room k X.A) (hw : DK X kws tk)
    (hg : Gl X x := by rfl) (hall : (backToKw pos (keywordEach kws X.env)).all (·.1.isSome) = true := by rfl) (hks : (backToKw pos (keywordEach kws X.env)).filterMap (·.1) = ks := by rfl)
    (hdb : (x == ("__debug__" : Str)) = false := by decide)
    (hpl : ((backTo pos (starEach [] X.env)).any (·.1) || (backToKw pos (keywordEach kws X.env)).any (·.1.isNone)) = false := by rfl) : DE X (.Call (.Name x p) [] kws pos) (dCallK sp 0 ks.length js dNil tk) := by
  obtain ⟨f, fd, Fn, hm, hk, hb⟩ := c.ex
  obtain ⟨t2, p2, r2⟩ := hw.ex
  refine ⟨fun σ H Q => t2 σ H fun zs H2 => zs.length = ks.length ∧ SpOf X.K sp (perm .non js [] zs) H2 Q (fun _ _ _ => False), ?_, fun F H σ S G o Q' h Q kk => ?_⟩
  · constructor
    intro pins s σ H Q I h
    apply wpAny_Call_Name_kw
    refine ld_glob I hg hm ?_ hdb
    refine PySem.W.callWith_KW0 (h₀ := X.base) I.ok.mod.kin hk hall (thn (p2.run pos pins s σ H _ I h) ?_) hpl
    rintro ws s2 ⟨zs, H2, I2, rz, l2, q2⟩
    refine ⟨I2.kIn, ?_⟩
    rw [hks]
    exact goes_fn (us := []) Fn hA hr _ (fun s3 i l => hb s3 [] ws rfl (by rw [← rz.length]; exact l2)) pass0 I2 (vals_perm .nil rz js) q2
  · refine r2 F H σ S G o _ h _ fun F2 H2 zs es G2 e2 g2 q2 h2 => ?_
    exact ⟨by rw [q2.length]; exact h2.1.2, F2, G2, _, Q', g2, reps_perm .nil q2 js, h2.2, kk.mono e2⟩
end
theorem cal_mkK {P : Program} {w : World} {K : PySem.W.Frag} {mg : Str → Option Value} {base : Heap} {x : Str} {st : Stmt} {N ps : List Str} {k : Nat} {sp : SpD} {n : Nat} {ks : List Str} {js : List Nat} (d : Def K mg x st) (sc : FnScope N ps (defScope st)) (len : ∀ ds G Q, sp ds G Q → ds.length = ps.length)
    (bi : ∀ (kV doc pm : Value) (an : Option Addr) (cdv ct : Value) (us : List Value), us.length = ps.length → bindArgs (PySem.W.fnOf x x (defArgs st) (defBody st) (defScope st) .none kV doc pm an cdv ct) ⟨us, []⟩ = pure (ps.zip us))
    (bk : ∀ (kV doc pm : Value) (an : Option Addr) (cdv ct : Value) (us ws : List Value), us.length = n → ws.length = ks.length → bindArgs (PySem.W.fnOf x x (defArgs st) (defBody st) (defScope st) .none kV doc pm an cdv ct) ⟨us, ks.zip ws⟩ = pure (ps.zip (perm .none js us ws)))
    (hb : ∀ (f : Addr) (cdv : Value) (A : Around) (outer : List Env) (s : Shared) (H : Hp) (E : XK), A.guards = some [] → Room k (A.deeper (envOfC x (defScope st) s.heap.objs.size f cdv)) →
      ∃ t', DPs (cxOf CX0 P w K mg base N x (defScope st) f cdv A outer s H E).nox (defBody st) t' ∧ ∀ ds G Q, sp ds G Q → t' (fin Q) (dstart N ds) G) : Cal P w K mg base x (k + 1) ps sp ∧ CalK P w K mg base x (k + 1) ps sp n ks js := by
  obtain ⟨f, fd, Fu, hm⟩ := d.ex
  have fn := fn_mk (P := P) (w := w) (mg := mg) (base := base) Fu sc len (hb f)
  refine ⟨⟨f, fd, fn, hm, Fu.kp, Fu.binds bi⟩, f, fd, fn, hm, Fu.kp, fun s us ws h1 h2 => ?_⟩
  obtain ⟨oc, od, kV, doc, pm, an, cdv, ct, osl, rfl, lk, hcd⟩ := Fu.ex
  exact .of_eq (bk kV doc pm an cdv ct us ws h1 h2)
end DL
end
section
set_option Elab.async false
set_option linter.all false
set_option maxRecDepth 100000
set_option maxHeartbeats 4000000
namespace DL
open PySem PySem.Spec PyProof.Rows L2
def keyD : Key → D
  | .inl n => .int n
  | .inr x => .str x
def ktD (ks : List Key) : D := .tup (ks.map keyD)
section
variable {X : Cx} {pos : Pos} {tg : Expr}
def diKeysT (te : DTE) : DTI := fun S G R => te S G fun d G1 => match d with
  | .rf p => (match G1 p with
    | some (.lkT o kvs kds) => R (kds.map fun kv => ktD kv.1) (fun G => G p = some (.lkT o kvs kds)) G1
    | _ => False)
  | _ => False
end
end DL
end
section
set_option Elab.async false
set_option linter.all false
set_option maxRecDepth 100000
set_option maxHeartbeats 4000000
namespace DL
open PySem PySem.Spec PyProof.Rows L2
structure PT where
  p : Addr
  k : List Key
  b : Addr
  v : V
def mergeT (kvs : List (List Key × V)) (es : List PT) : List (List Key × V) := es.foldl (fun acc e => putK acc e.k e.v) kvs
section
variable {X : Cx} {pos : Pos}
theorem pts_of {pins : List (Addr × Obj)} {σ : L2.St} {H : Hp} {s : Shared} (I : Inv X pins σ H s) : ∀ {es : List PT}, (∀ e ∈ es, H e.p = some (.tup [.ref e.b, e.v])) →
    ∃ ws : List (PT × Value), ws.map (·.1) = es ∧ ∀ x ∈ ws, IsTup s.heap x.1.p #[.ref x.1.b, x.2] ∧ RelV x.1.v x.2
  | [], _ => ⟨[], rfl, fun x hx => by simp at hx⟩
  | e :: es, h => by
    obtain ⟨ws, hw, hx⟩ := pts_of I (es := es) fun y hy => h y (by simp [hy])
    obtain ⟨its, rv, ht, _⟩ := I.tuple (.inl (.inl (h e (by simp))))
    obtain ⟨u, y, ei, ru, ry⟩ := vals2 rv
    subst ei
    cases (show u = Value.ref e.b from ru)
    refine ⟨(e, y) :: ws, by simp [hw], fun x hm => ?_⟩
    rcases List.mem_cons.mp hm with rfl | hm
    · exact ⟨ht, ry⟩
    · exact hx x hm
theorem KT_all {H : Hp} : ∀ {ws : List (PT × Value)} {kvs : List (List Key × V)} {xs : List (List Key × Addr × Value)}, KT H kvs xs → (∀ x ∈ ws, H x.1.b = some (.tup (x.1.k.map kV)) ∧ RelV x.1.v x.2) →
    KT H (mergeT kvs (ws.map (·.1))) (storedAllH xs (ws.map fun x => (x.1.k, x.1.b, x.2)))
  | [], kvs, xs, r, _ => r
  | w :: ws, kvs, xs, r, h => by
    obtain ⟨h1, h2⟩ := h w (by simp)
    exact KT_all (ws := ws) (r.put w.1.k h1 h2) fun x hx => h x (by simp [hx])
theorem mergeT_len : ∀ (es : List PT) (kvs : List (List Key × V)), (mergeT kvs es).length ≤ kvs.length + es.length
  | [], kvs => by simp [mergeT]
  | e :: es, kvs => by
    have h1 := mergeT_len es (putK kvs e.k e.v)
    have h2 := length_putK kvs e.k e.v
    have : mergeT kvs (e :: es) = mergeT (putK kvs e.k e.v) es := rfl
    rw [this, List.length_cons]
    omega
theorem cr_dictT (hc : X.calm = true) (hu : X.A.units + 100 < cLine) : CallR X (.type "dict") (fun xs H Q => ∃ (a : Addr) (es : List PT), xs = [.ref a] ∧ SqL X.K H a (es.map fun e => V.ref e.p) ∧ (∀ e ∈ es, H e.p = some (.tup [.ref e.b, e.v])) ∧ (∀ e ∈ es, H e.b = some (.tup (e.k.map kV))) ∧
    ∀ p, H p = none → Q (.ref p) (upd H p (.dT (mergeT [] es)))) := by
  intro pins s σ H xs us Q I r q
  obtain ⟨a, es, ex, hq, hp, hb, q⟩ := q
  subst ex
  obtain ⟨u, eu, rx⟩ := vals1 r
  subst eu
  cases rx
  obtain ⟨its, rv, pl, hz⟩ := I.list hq
  have ei := refs_at (ps := es.map (·.p)) (by rw [List.map_map]; exact rv)
  subst ei
  rw [List.length_map] at hz
  obtain ⟨ws, hw, hx⟩ := pts_of I hp
  subst hw
  obtain ⟨o, n, ho, hcl, hd, hdat⟩ := pl
  have hitems : PairItems s.heap (((ws.map (·.1)).map (·.p)).map Value.ref).toArray (fun j => ((ws.map fun x => x.1.p)[j]?).getD 0) (ws.map fun x => (Value.ref x.1.b, x.2)) := by
    refine ⟨by simp, fun j k v hj => ?_⟩
    rw [List.getElem?_map] at hj
    cases e : ws[j]? with
    | none => rw [e] at hj; cases hj
    | some x =>
      rw [e] at hj; cases hj
      refine ⟨by simp [e], .inl ?_⟩
      have hh := (hx x (List.mem_of_getElem? e)).1
      have e' : ((ws.map fun x => x.1.p)[j]?).getD 0 = x.1.p := by simp [e]
      show s.heap.IsTuple (((ws.map fun x => x.1.p)[j]?).getD 0) _
      rw [e']
      exact hh
  refine call_dict_pairsH (knd := tupleKind (mixKind X.prog X.w)) (ps := ws.map fun x => (x.1.k, x.1.b, x.2)) (PairArg.list a _ _ _) (I.ok.hd hc) (by show X.A.in1.in1.units < cLine; simp; omega) ⟨⟨o, n, ho, hcl, hd, hdat⟩, hitems⟩ ⟨by simp, fun i key v hr => ?_⟩ (fun h' hk x hxm => ?_) (by simpa using hz) fun h' tk hd' k => ?_
  · rw [PairRel, List.getElem?_map] at hr
    cases e : ws[i]? with
    | none => rw [e] at hr; cases hr
    | some x => rw [e] at hr; cases hr; exact ⟨x.1.k, x.1.b, by simp [e], rfl⟩
  · obtain ⟨y, hy, rfl⟩ := List.mem_map.mp hxm
    have hby := hb y.1 (List.mem_map.mpr ⟨y, hy, rfl⟩)
    obtain ⟨oo, items, n2, h1, h2, h3, h4⟩ := key_of I.hok hby
    have hlt := Heap.lt_size h1
    exact ⟨oo, items, n2, hk _ _ (Nat.ne_of_lt hlt) (by simp) h1, h2, h3, h4⟩
  · have hm : (s.heap.objs.size == sysModules) = false := beq_eq_false_iff_ne.mpr (Nat.ne_of_gt I.big)
    have hn := I.hok.fresh (Nat.le_refl s.heap.objs.size)
    have hlen : (mergeT [] (ws.map (·.1))).length ≤ sizeLine := by
      have := mergeT_len (ws.map (·.1)) []
      simp at this hz
      simp
      omega
    obtain ⟨q', es', ep, hq', h2, h3, h4, _, h5⟩ := hd'
    have kt : KT H (mergeT [] (ws.map (·.1))) (storedAllH [] (ws.map fun x => (x.1.k, x.1.b, x.2))) := KT_all .nil fun x hxm => ⟨hb x.1 (List.mem_map.mpr ⟨x, hxm, rfl⟩), (hx x hxm).2⟩
    refine ⟨.ref s.heap.objs.size, upd H s.heap.objs.size (.dT (mergeT [] (ws.map (·.1)))), I.laid (t' := tk) (fun b ob e => k b ob (by simp) e) (Nat.le_refl _) ⟨hlen, hm, _, kt.keeps fun c ys ec => ?_, q', es', ep, hq', h2, h3, h4, h5⟩, rfl, q _ hn⟩
    rw [upd_ne (ne_of_none ec hn)]
    exact ec
/-- pairs with tuple keys -/
def prsT : List D → Option (List (List Key × D))
  | [] => some []
  | .tup [.tup ks, v] :: r => (match D.keys ks, prsT r with
    | some k, some m => some ((k, v) :: m)
    | _, _ => none)
  | _ :: _ => none
def mergeDT (kds more : List (List Key × D)) : List (List Key × D) := more.foldl (fun acc kv => putD acc kv.1 kv.2) kds
theorem prsT_rep {K : PySem.W.Frag} {F : Hp} : ∀ {xs : List D} {ms : List (List Key × D)} {vs : List V}, prsT xs = some ms → Reps K F vs xs →
    ∃ es : List PT, vs = es.map (fun e => V.ref e.p) ∧ (∀ e ∈ es, F e.p = some (.tup [.ref e.b, e.v])) ∧ (∀ e ∈ es, F e.b = some (.tup (e.k.map kV))) ∧ es.map (·.k) = ms.map (·.1) ∧ Reps K F (es.map (·.v)) (ms.map (·.2))
  | [], ms, _, h, .nil => by
    cases h
    exact ⟨[], rfl, fun e he => by simp at he, fun e he => by simp at he, rfl, .nil⟩
  | x :: r, ms, _, h, .cons a b => by
    unfold prsT at h
    split at h
    · rename_i h1; cases h1
    · rename_i ks v r' h1
      cases h1
      split at h
      · rename_i k m ek em
        cases h
        obtain ⟨es, h2, h3, h4, h5, h6⟩ := prsT_rep em b
        cases a with
        | tup ha rs =>
          rename_i p ws
          cases rs with
          | cons r1 r2 =>
            cases r2 with
            | cons r3 r4 =>
              cases r4
              cases r1 with
              | tup hb rk =>
                rename_i bb wk
                have hk := rk.keys ek
                subst hk
                rename_i vv
                refine ⟨⟨p, k, bb, _⟩ :: es, by rw [h2]; rfl, fun e he => ?_, fun e he => ?_, by simp [h5], .cons r3 h6⟩
                · rcases List.mem_cons.mp he with rfl | he
                  · exact ha
                  · exact h3 e he
                · rcases List.mem_cons.mp he with rfl | he
                  · exact hb
                  · exact h4 e he
      · cases h
    · cases h
theorem KR_mergeT {K : PySem.W.Frag} {F : Hp} : ∀ {es : List PT} {ms : List (List Key × D)} {kvs : List (List Key × V)} {kds : List (List Key × D)}, es.map (·.k) = ms.map (·.1) → Reps K F (es.map (·.v)) (ms.map (·.2)) → KR K F kvs kds → KR K F (mergeT kvs es) (mergeDT kds ms)
  | [], [], kvs, kds, _, _, r => r
  | e :: es, m :: ms, kvs, kds, h, rs, r => by
    simp only [List.map_cons, List.cons.injEq] at h
    cases rs with
    | cons a b =>
      have : mergeT kvs (e :: es) = mergeT (putK kvs e.k e.v) es := rfl
      rw [this]
      show KR K F _ (mergeDT (putD kds m.1 m.2) ms)
      refine KR_mergeT h.2 b ?_
      rw [h.1]
      exact r.put a
  | [], _ :: _, _, _, h, _, _ => by simp at h
  | _ :: _, [], _, _, h, _, _ => by simp at h
def rDictT (ds : List D) (G : GH) (Q : DQ) : Prop := match ds with
  | [d] => (match d.cur G with
    | .lst xs => (match prsT xs with
      | some ms => Q (.dT (mergeDT [] ms)) G
      | none => False)
    | _ => False)
  | _ => False
theorem cd_dictT (hc : X.calm = true) (hu : X.A.units + 100 < cLine) : CallD X (.type "dict") rDictT := by
  refine ⟨_, cr_dictT hc hu, fun F H G vs ds g rs Q' h Q k => ?_⟩
  unfold rDictT at h
  split at h
  · rename_i d
    cases rs with
    | cons r b =>
      cases b
      split at h
      · rename_i xs ex
        split at h
        · rename_i ms em
          obtain ⟨a, ws, rfl, ha, rw'⟩ := cur_list g r ex
          obtain ⟨es, rfl, h3, h4, h5, h6⟩ := prsT_rep em rw'
          refine ⟨a, es, rfl, .inl (.inl ha), fun e he => g.ex _ _ (h3 e he), fun e he => g.ex _ _ (h4 e he), fun p hp => ?_⟩
          have gr := Gr.new (u := .dT (mergeT [] es)) g.ex hp
          have kr : KR X.K F (mergeT [] es) (mergeDT [] ms) := KR_mergeT h5 h6 ⟨rfl, .nil⟩
          have kr2 := kr.mono gr.ff
          exact k _ _ _ _ G gr.go (g.grow gr) (.dT upd_same kr2.ks kr2.vs) h
        · exact h.elim
      · exact h.elim
  · exact h.elim
end
end DL
end
section
set_option Elab.async false
set_option linter.all false
set_option maxRecDepth 100000
set_option maxHeartbeats 4000000
namespace DL
open PySem PySem.Spec PyProof.Rows L2
/-- what is known of the heap by G is known by some G' x, too -/
def Cv (G : GH) {α : Type} (P : α → Prop) (G' : α → GH) : Prop := ∀ K F H, Gok K F H G → ∃ x, P x ∧ Gok K F H (G' x) ∧ ∀ b, G b = none → G' x b = none
def Cv1 (G G' : GH) : Prop := ∀ K F H, Gok K F H G → Gok K F H G' ∧ ∀ b, G b = none → G' b = none
theorem go_view {F H : Hp} {G G' : GH} (h : ∀ b, G b = none → G' b = none) : Go F H G F H G' := ⟨Ex.refl F, fun b u e g => ⟨e, h b g⟩, fun _ _ _ _ f _ => f, fun _ z => z⟩
section
variable {X : Cx} {pos : Pos}
def dIn (t : DTS) : DTS := fun D' S G => ∃ (α : Type) (P : α → Prop) (G' : α → GH), Cv G P G' ∧ ∀ x, P x → t D' S (G' x)
theorem dps_in {body : List Stmt} {t' : DTS} (h : DPs X body t') : DPs X body (dIn t') := by
  obtain ⟨t, p, r⟩ := h.ex
  refine ⟨t, p, fun F H σ S G o D' h D0 k => ?_⟩
  obtain ⟨α, P, G', cv, h⟩ := h
  obtain ⟨x, px, g, fr⟩ := cv X.K F H o.g
  exact r F H σ S (G' x) ⟨g, o.s⟩ D' (h x px) D0 (k.mono (go_view fr))
def outE (D' : DEnds) : DEnds := { nx := fun S G => ∃ G2, Cv1 G G2 ∧ D'.nx S G2, rt := fun d G => ∃ G2, Cv1 G G2 ∧ D'.rt d G2, bk := fun S G => ∃ G2, Cv1 G G2 ∧ D'.bk S G2, ct := fun S G => ∃ G2, Cv1 G G2 ∧ D'.ct S G2 }
def dOut (t : DTS) : DTS := fun D' S G => t (outE D') S G
theorem dps_out {body : List Stmt} {t' : DTS} (h : DPs X body t') : DPs X body (dOut t') := by
  obtain ⟨t, p, r⟩ := h.ex
  refine ⟨t, p, fun F H σ S G o D' h D0 k => r F H σ S G o (outE D') h D0 ⟨?_, ?_, ?_, ?_⟩⟩
  · rintro F1 H1 σ1 S1 G1 e1 o1 ⟨G2, cv, q⟩
    obtain ⟨g, fr⟩ := cv X.K F1 H1 o1.g
    exact k.nx F1 H1 σ1 S1 G2 (e1.trans (go_view fr)) ⟨g, o1.s⟩ q
  · rintro F1 H1 v d G1 e1 g1 r1 ⟨G2, cv, q⟩
    obtain ⟨g, fr⟩ := cv X.K F1 H1 g1
    exact k.rt F1 H1 v d G2 (e1.trans (go_view fr)) g r1 q
  · rintro F1 H1 σ1 S1 G1 e1 o1 ⟨G2, cv, q⟩
    obtain ⟨g, fr⟩ := cv X.K F1 H1 o1.g
    exact k.bk F1 H1 σ1 S1 G2 (e1.trans (go_view fr)) ⟨g, o1.s⟩ q
  · rintro F1 H1 σ1 S1 G1 e1 o1 ⟨G2, cv, q⟩
    obtain ⟨g, fr⟩ := cv X.K F1 H1 o1.g
    exact k.ct F1 H1 σ1 S1 G2 (e1.trans (go_view fr)) ⟨g, o1.s⟩ q
end
/-- what may stand in an open deck -/
structure Deck where
  c : Addr
  g : Int
  t : Int
  ns : List Int
def Deck.ok (x : Deck) (n : Nat) : Prop := 0 ≤ x.t ∧ x.t + n ≤ 1099511627776 ∧ 0 ≤ x.g ∧ x.g < 4294967296 ∧ x.ns.length ≤ 63
def openG (G : GH) (p : Addr) (k1 k2 k3 : Str) (x : Deck) : GH := gput (gput G x.c (.lst (x.ns.map .int))) p (.dK [(.inr k1, .rf x.c), (.inr k2, .int x.g), (.inr k3, .int x.t)])
theorem MRep.other {K : PySem.W.Frag} {F H : Hp} {G G' : GH} {a : Addr} {o : MO} (h : MRep K F H G a o) (nd : ∀ k1 k2 k3 n, o ≠ .deck k1 k2 k3 n) : MRep K F H G' a o := by
  cases o with
  | deck k1 k2 k3 n => exact absurd rfl (nd k1 k2 k3 n)
  | _ => exact h
theorem ints_vs {K : PySem.W.Frag} {F : Hp} {ns : List Int} {vs : List V} (r : Reps K F vs (ns.map .int)) : vs = ns.map V.int := by
  induction ns generalizing vs with
  | nil => cases r; rfl
  | cons n ns ih => cases r with
    | cons a b => cases a; rw [ih b]; rfl
theorem deck_open {G : GH} {p : Addr} {k1 k2 k3 : Str} {n : Nat} (h : G p = some (.deck k1 k2 k3 n)) : Cv G (fun x : Deck => x.ok n ∧ G x.c = some .dcell ∧ x.c ≠ p ∧ ∀ a, a ≠ p → ∀ j1 j2 j3 m, G a ≠ some (.deck j1 j2 j3 m)) (openG G p k1 k2 k3) := by
  intro K F H g
  obtain ⟨fp, c, g0, t, ns, hp, hc, gc, h1, h2, h3, h4, h5⟩ := g.at_ p _ h
  have ne : c ≠ p := fun z => by rw [z, h] at gc; cases gc
  refine ⟨⟨c, g0, t, ns⟩, ⟨⟨h1, h2, h3, h4, h5⟩, gc, ne, fun a na j1 j2 j3 m z => na (g.one a p _ _ _ _ _ _ _ _ z h)⟩, ⟨g.ex, fun a o e => ?_, fun a b j1 j2 j3 m i1 i2 i3 m2 e1 e2 => ?_⟩, fun b hb => ?_⟩
  · unfold openG at e
    by_cases q : a = p
    · subst q
      rw [gput_same] at e; cases e
      exact ⟨fp, _, hp, rfl, .cons (.rf c) (.cons (.int _) (.cons (.int _) .nil))⟩
    · rw [gput_ne q] at e
      by_cases q2 : a = c
      · subst q2
        rw [gput_same] at e; cases e
        exact ⟨(g.at_ a _ gc).1, _, hc, Reps.ints ns⟩
      · rw [gput_ne q2] at e
        obtain ⟨f, m⟩ := g.at_ a o e
        refine ⟨f, m.other fun j1 j2 j3 m z => ?_⟩
        subst z
        exact q (g.one a p _ _ _ _ _ _ _ _ e h)
  · have n1 : ∀ a j1 j2 j3 m, openG G p k1 k2 k3 ⟨c, g0, t, ns⟩ a ≠ some (.deck j1 j2 j3 m) := fun a j1 j2 j3 m z => by
      unfold openG at z
      by_cases q : a = p
      · subst q; rw [gput_same] at z; cases z
      · rw [gput_ne q] at z
        by_cases q2 : a = c
        · subst q2; rw [gput_same] at z; cases z
        · rw [gput_ne q2] at z
          exact q (g.one a p _ _ _ _ _ _ _ _ z h)
    exact absurd e1 (n1 a j1 j2 j3 m)
  · have q : b ≠ p := fun z => by rw [z, h] at hb; cases hb
    have q2 : b ≠ c := fun z => by rw [z, gc] at hb; cases hb
    unfold openG
    rw [gput_ne q, gput_ne q2]; exact hb
def NoDeck (G : GH) : Prop := ∀ a k1 k2 k3 n, G a ≠ some (.deck k1 k2 k3 n)
/-- shut: budget n -/
def shutG (G : GH) (p c : Addr) (k1 k2 k3 : Str) (n : Nat) : GH := gput (gput G c .dcell) p (.deck k1 k2 k3 n)
theorem deck_shut {G : GH} {p : Addr} {k1 k2 k3 : Str} {n : Nat} {x : Deck} (nd : NoDeck G) (hp : G p = some (.dK [(.inr k1, .rf x.c), (.inr k2, .int x.g), (.inr k3, .int x.t)])) (hc : G x.c = some (.lst (x.ns.map .int))) (ok : x.ok n) : Cv1 G (shutG G p x.c k1 k2 k3 n) := by
  intro K F H g
  obtain ⟨fp, kvs, e1, e2, e3⟩ := g.at_ p _ hp
  obtain ⟨fc, vs, f1, f2⟩ := g.at_ x.c _ hc
  have ne : x.c ≠ p := fun z => by rw [z, hp] at hc; cases hc
  have ev := ints_vs f2
  subst ev
  have ek : kvs = [(.inr k1, .ref x.c), (.inr k2, .int x.g), (.inr k3, .int x.t)] := by
    match kvs, e2, e3 with
    | [(a1, b1), (a2, b2), (a3, b3)], e2, e3 =>
      simp only [List.map_cons, List.map_nil, List.cons.injEq, and_true] at e2
      obtain ⟨rfl, rfl, rfl⟩ := e2
      cases e3 with
      | cons r1 r2 => cases r2 with
        | cons r3 r4 => cases r4 with
          | cons r5 r6 => cases r1; cases r3; cases r5; rfl
  subst ek
  obtain ⟨o1, o2, o3, o4, o5⟩ := ok
  refine ⟨⟨g.ex, fun a o e => ?_, fun a b j1 j2 j3 m i1 i2 i3 m2 z1 z2 => ?_⟩, fun b hb => ?_⟩
  · unfold shutG at e
    by_cases q : a = p
    · subst q
      rw [gput_same] at e; cases e
      refine ⟨fp, x.c, x.g, x.t, x.ns, e1, f1, ?_, o1, o2, o3, o4, o5⟩
      unfold shutG
      rw [gput_ne ne, gput_same]
    · rw [gput_ne q] at e
      by_cases q2 : a = x.c
      · subst q2
        rw [gput_same] at e; cases e
        exact ⟨fc, _, f1⟩
      · rw [gput_ne q2] at e
        obtain ⟨f, m⟩ := g.at_ a o e
        exact ⟨f, m.other fun j1 j2 j3 m z => nd a j1 j2 j3 m (z ▸ e)⟩
  · have n1 : ∀ a j1 j2 j3 m, shutG G p x.c k1 k2 k3 n a = some (.deck j1 j2 j3 m) → a = p := fun a j1 j2 j3 m z => by
      unfold shutG at z
      by_cases q : a = p
      · exact q
      · rw [gput_ne q] at z
        by_cases q2 : a = x.c
        · subst q2; rw [gput_same] at z; cases z
        · rw [gput_ne q2] at z; exact absurd z (nd a j1 j2 j3 m)
    rw [n1 _ _ _ _ _ z1, n1 _ _ _ _ _ z2]
  · have q : b ≠ p := fun z => by rw [z, hp] at hb; cases hb
    have q2 : b ≠ x.c := fun z => by rw [z, hc] at hb; cases hb
    unfold shutG
    rw [gput_ne q, gput_ne q2]; exact hb
/-- one draw taken -/
theorem shut_open {G : GH} {p c : Addr} {k1 k2 k3 : Str} {m n : Nat} {o1 o2 : MO} (h : G p = some (.deck k1 k2 k3 m)) (hc : G c = some .dcell) (ne : c ≠ p) : shutG (gput (gput G c o1) p o2) p c k1 k2 k3 n = gput G p (.deck k1 k2 k3 n) := by
  funext b
  unfold shutG
  by_cases q : b = p
  · subst q; rw [gput_same, gput_same]
  · rw [gput_ne q, gput_ne q]
    by_cases q2 : b = c
    · subst q2; rw [gput_same, hc]
    · rw [gput_ne q2, gput_ne q, gput_ne q2]
theorem open_nodeck {G : GH} {p : Addr} {k1 k2 k3 : Str} {x : Deck} (nd : ∀ a, a ≠ p → ∀ j1 j2 j3 m, G a ≠ some (.deck j1 j2 j3 m)) : NoDeck (openG G p k1 k2 k3 x) := by
  intro a j1 j2 j3 m z
  unfold openG at z
  by_cases q : a = p
  · subst q; rw [gput_same] at z; cases z
  · rw [gput_ne q] at z
    by_cases q2 : a = x.c
    · subst q2; rw [gput_same] at z; cases z
    · rw [gput_ne q2] at z; exact nd a q j1 j2 j3 m z
theorem deck_close {G : GH} {p : Addr} {k1 k2 k3 : Str} {m n : Nat} {x : Deck} (h : G p = some (.deck k1 k2 k3 m)) (gc : G x.c = some .dcell) (ne : x.c ≠ p) (nd : ∀ a, a ≠ p → ∀ j1 j2 j3 m, G a ≠ some (.deck j1 j2 j3 m)) (ok : x.ok n) :
    Cv1 (openG G p k1 k2 k3 x) (gput G p (.deck k1 k2 k3 n)) := by
  have := deck_shut (G := openG G p k1 k2 k3 x) (p := p) (k1 := k1) (k2 := k2) (k3 := k3) (n := n) (x := x) (open_nodeck nd) gput_same (by unfold openG; rw [gput_ne ne, gput_same]) ok
  unfold openG at this
  rw [shut_open h gc ne] at this
  exact this
end DL
end
section
set_option Elab.async false
set_option linter.all false
set_option maxRecDepth 100000
namespace DL
open PySem PySem.Spec PyProof.Rows L2
theorem dx2 : (∀ (tk tv : DTE) (S : DS) (G : GH) (Q : DQ), dDispT tk tv S G Q = (tk S G fun k G1 => tv S G1 fun v G2 => match k with
    | .tup ds => (match D.keys ds with
      | some ks => ∀ p, G2 p = none → Q (.rf p) (gput G2 p (.dT [(ks, v)]))
      | none => False)
    | _ => False)) ∧
  (∀ (te : DTE) (S : DS) (G : GH) (Q : DQ), dSortSet te S G Q = (te S G fun d G1 => match d.cur G1 with
    | .lst xs => (match intsD xs with
      | some ns => ns.length < 64 ∧ Q (.lst ((isort1 ns).map .int)) G1
      | none => False)
    | _ => False)) ∧
  (∀ (sp : SpD) (n m : Nat) (js : List Nat) (ta tk : DTA) (S : DS) (G : GH) (Q : DQ), dCallK sp n m js ta tk S G Q = (ta S G fun ds G1 => tk S G1 fun zs G2 => (ds.length = n ∧ zs.length = m) ∧ sp (perm .non js ds zs) G2 Q)) ∧
  (∀ (t : DTS) (D' : DEnds) (S : DS) (G : GH), dOut t D' S G = t (outE D') S G) ∧
  (∀ (te : DTE) (S : DS) (G : GH) (R : List D → (GH → Prop) → GH → Prop), diKeysT te S G R = (te S G fun d G1 => match d with
    | .rf p => (match G1 p with
      | some (.lkT o kvs kds) => R (kds.map fun kv => ktD kv.1) (fun G => G p = some (.lkT o kvs kds)) G1
      | _ => False)
    | _ => False)) := ⟨fun _ _ _ _ _ => rfl, fun _ _ _ _ => rfl, fun _ _ _ _ _ _ _ _ _ => rfl, fun _ _ _ _ => rfl, fun _ _ _ _ => rfl⟩
theorem gput_comm {G : GH} {a b : Addr} {o o' : MO} (h : a ≠ b) : gput (gput G a o) b o' = gput (gput G b o') a o := by
  funext c
  by_cases q : c = a
  · subst q; rw [gput_ne h, gput_same, gput_same]
  · rw [gput_ne q]
    by_cases q2 : c = b
    · subst q2; rw [gput_same, gput_same]
    · rw [gput_ne q2, gput_ne q2, gput_ne q]
/-- a thing changed under another -/
theorem gput_under {G : GH} {a b : Addr} {o o' o2 : MO} (h : a ≠ b) : gput (gput (gput G a o) b o') a o2 = gput (gput G a o2) b o' := by
  rw [gput_comm h, gput_gput, ← gput_comm h]
theorem sub_new2 {G : GH} {p z : Addr} {o o' : MO} (hp : G p = none) (hz : G z = none) (ne : z ≠ p) (h1 : o.isDeck = false) (h2 : o'.isDeck = false) : Sub G (gput (gput G p o) z o') :=
  (sub_new hp h1).trans (sub_new (by rw [gput_ne ne]; exact hz) h2)
theorem item_dT (kds : List (List Key × D)) (ds : List D) : D.item (.dT kds) (.tup ds) = ((D.keys ds).map (valD kds)).join := rfl
theorem item_tup (xs : List D) (n : Int) : D.item (.tup xs) (.int n) = atI xs n := rfl
theorem item_lst (xs : List D) (n : Int) : D.item (.lst xs) (.int n) = atI xs n := rfl
theorem inn_dT (kds : List (List Key × D)) (ds : List D) : D.inn (.tup ds) (.dT kds) = ((D.keys ds).map (valD kds)).map Option.isSome := rfl
structure Mak (P : Program) (w : World) (K : PySem.W.Frag) (mg : Str → Option Value) (base : Heap) (x : Str) (C : Addr) (k : Nat) (ps : List Str) (sp : SpD) : Prop where
  ex : ∃ f fd, Mk K C f ∧ FnG P w K mg base CX0 k f fd ps (SpOf K sp) ∧ mg x = some (.ref C) ∧ Binds K fd ps []
theorem de_mak {X : Cx} {pos : Pos} {x : Str} {C : Addr} {k : Nat} {ps : List Str} {sp : SpD} {p : Pos} {e : Expr} {es : List Expr} {ta : DTA} (c : Mak X.prog X.w X.K X.mg X.base x C k ps sp) (hA : X.A.guards = some []) (hr : Room (k + 1) X.A) (ha : DA X (e :: es) ta) (hg : Gl X x := by rfl) (hdb : (x == ("__debug__" : Str)) = false := by decide)
    (he : starEach (e :: es) X.env = (false, eval e X.env) :: starEach es X.env := by rfl) (hpl : (backTo pos (starEach es X.env)).any (·.1) = false := by rfl) : DE X (.Call (.Name x p) (e :: es) [] pos) (dCold (dMake C sp ta)) := by
  obtain ⟨f, fd, M, Fn, hm, hb⟩ := c.ex
  exact de_cold (de_make M Fn hA hr hg hm hb ha hdb he hpl)
/-- the __init__ of the class at C -/
structure DefI (K : PySem.W.Frag) (C : Addr) (qual : Str) (st : Stmt) : Prop where
  ex : ∃ f fd, Fun K "__init__" qual st f fd ∧ Mk K C f
theorem mak_mk {P : Program} {w : World} {K : PySem.W.Frag} {mg : Str → Option Value} {base : Heap} {x qual : Str} {C : Addr} {st : Stmt} {N ps : List Str} {k : Nat} {sp : SpD} (d : DefI K C qual st) (hm : mg x = some (.ref C)) (sc : FnScope N ps (defScope st)) (len : ∀ ds G Q, sp ds G Q → ds.length = ps.length)
    (bi : ∀ (kV doc pm : Value) (an : Option Addr) (cdv ct : Value) (us : List Value), us.length = ps.length → bindArgs (PySem.W.fnOf "__init__" qual (defArgs st) (defBody st) (defScope st) .none kV doc pm an cdv ct) ⟨us, []⟩ = pure (ps.zip us))
    (hb : ∀ (f : Addr) (cdv : Value) (A : Around) (outer : List Env) (s : Shared) (H : Hp) (E : XK), A.guards = some [] → Room k (A.deeper (envOfC qual (defScope st) s.heap.objs.size f cdv)) →
      ∃ t', DPs (cxOf CX0 P w K mg base N qual (defScope st) f cdv A outer s H E).nox (defBody st) t' ∧ ∀ ds G Q, sp ds G Q → t' (fin Q) (dstart N ds) G) : Mak P w K mg base x C (k + 1) ps sp := by
  obtain ⟨f, fd, Fu, M⟩ := d.ex
  exact ⟨f, fd, M, fn_mk Fu sc len (hb f), hm, Fu.binds bi⟩
theorem dx3 : (∀ (x : Str) (G : GH) (Q : DQ), rIsiD [.str x, .ty "str"] G Q = Q (.bl true) G) ∧ (∀ (x : Int) (G : GH) (Q : DQ), rIsiD [.int x, .ty "int"] G Q = Q (.bl true) G) ∧ (∀ (x : Int) (G : GH) (Q : DQ), rIsiD [.int x, .ty "bool"] G Q = Q (.bl false) G) ∧
  (∀ (xs : List D) (G : GH) (Q : DQ), rIsiD [.tup xs, .ty "tuple"] G Q = Q (.bl true) G) ∧
  (∀ (xs : List D) (G : GH) (Q : DQ), rTupleD [.lst xs] G Q = Q (.tup xs) G) ∧ (∀ (xs : List D) (G : GH) (Q : DQ), rTupleD [.tup xs] G Q = Q (.tup xs) G) ∧
  (∀ (xs : List D) (G : GH) (Q : DQ), rLenD [.lst xs] G Q = Q (.int (xs.length : Nat)) G) ∧ (∀ (xs : List D) (G : GH) (Q : DQ), rLenD [.tup xs] G Q = Q (.int (xs.length : Nat)) G) ∧
  (∀ (i : Int) (G : GH) (Q : DQ), rIntC [.int i] G Q = Q (.int i) G) ∧
  (∀ (x : Str) (lo hi : Option Int) (G : GH) (Q : DQ), rSlice (.str x) lo hi G Q = (x.length ≤ sizeLine ∧ Q (.str (cutS x lo hi)) G)) ∧
  (∀ (xs : List D) (lo hi : Option Int) (G : GH) (Q : DQ), rSlice (.tup xs) lo hi G Q = Q (.tup (DL.cutD xs lo hi)) G) ∧
  (∀ (xs : List D) (lo hi : Option Int) (G : GH) (Q : DQ), rSlice (.lst xs) lo hi G Q = Q (.lst (DL.cutD xs lo hi)) G) ∧
  (∀ (ns : List Int) (lo hi : Option Int) (G : GH) (Q : DQ), rSlice (.scr ns) lo hi G Q = Q (.lst ((DL.cutD ns lo hi).map .int)) G) ∧
  (∀ (i j : Int) (G : GH) (Q : DQ), rAddD (.int i) (.int j) G Q = Q (.int (i + j)) G) ∧
  (∀ (a b : Str) (G : GH) (Q : DQ), rAddD (.str a) (.str b) G Q = (a.length + b.length ≤ sizeLine ∧ Q (.str (a ++ b)) G)) ∧
  (∀ (a b : List D) (G : GH) (Q : DQ), rAddD (.tup a) (.tup b) G Q = (a.length + b.length ≤ sizeLine ∧ Q (.tup (a ++ b)) G)) ∧
  (∀ (i j : Int) (G : GH) (Q : DQ), rMulD (.int i) (.int j) G Q = (CMul i j ∧ Q (.int (i * j)) G)) ∧
  (∀ (b : Bool), (!(!b)) = b) ∧ (∀ (x y : D), okE x y = true ∧ True ↔ okE x y = true) :=
  ⟨fun _ _ _ => rfl, fun _ _ _ => rfl, fun _ _ _ => rfl, fun _ _ _ => rfl, fun _ _ _ => rfl, fun _ _ _ => rfl, fun _ _ _ => rfl, fun _ _ _ => rfl, fun _ _ _ => rfl, fun _ _ _ _ _ => rfl, fun _ _ _ _ _ => rfl, fun _ _ _ _ _ => rfl, fun _ _ _ _ _ => rfl, fun _ _ _ _ => rfl, fun _ _ _ _ => rfl, fun _ _ _ _ => rfl, fun _ _ _ _ => rfl, fun b => by cases b <;> rfl, fun _ _ => by simp⟩
theorem len_str {x : Str} (h : x.length ≤ sizeLine) (G : GH) (Q : DQ) : rLenD [.str x] G Q = Q (.int (x.length : Nat)) G := by
  simp [rLenD, D.cur, D.len, h]
theorem all_map {α : Type} (f : α → Bool) (l : List α) (G : GH) (Q : DQ) : rAllD [.lst (l.map fun x => .bl (f x))] G Q = Q (.bl (l.all f)) G := by
  have e : bools (l.map fun x => D.bl (f x)) = some (l.map f) := by
    rw [← bools_map, List.map_map]; rfl
  show (match bools (l.map fun x => D.bl (f x)) with | some bs => Q (.bl (bs.all id)) G | none => False) = _
  rw [e]
  simp [List.all_map]
theorem inn_str (x z : Str) : D.inn (.str x) (.str z) = some (strIn x z) := rfl
theorem lc_someA {α : Type} {ds : List D} {gd : GH → Prop} {p : Pat} {tt : DTT} {te : DTE} {vs : List Nat} {S : DS} {G : GH} {Q : DQ} (l : List α) (g : α → D) (b : α → Bool) (f : α → D) (e0 : ds = l.map g) (hz : l.length ≤ sizeLine) (hg : gd G)
    (h : ∀ a ∈ l, ∃ S2, p.put (g a) (dwipe S vs) = some S2 ∧ (∀ Q : Bool → GH → Prop, Q (b a) G → tt S2 G Q) ∧ (b a = true → ∀ Q : DQ, Q (f a) G → te S2 G Q)) (q : Q (.lst ((l.filter b).map f)) G) : LcB ds gd p tt te vs S G Q := by
  subst e0
  refine ⟨by simpa using hz, fun i acc G' => G' = G ∧ acc = ((l.take i).filter b).map f, ⟨rfl, by simp⟩, fun _ _ _ z => z.1 ▸ hg, ?_, ?_⟩
  · rintro i acc G' d ⟨rfl, rfl⟩ hd
    rw [List.getElem?_map] at hd
    cases ei : l[i]? with
    | none => rw [ei] at hd; cases hd
    | some a =>
      rw [ei] at hd
      cases hd
      obtain ⟨S2, h1, h2, h3⟩ := h a (List.mem_of_getElem? ei)
      have e : l.take (i + 1) = l.take i ++ [a] := by rw [List.take_add_one, ei]; rfl
      refine ⟨S2, h1, h2 _ ?_⟩
      cases hb : b a with
      | true =>
        rw [if_pos rfl]
        refine h3 hb _ ⟨rfl, ?_⟩
        rw [e, List.filter_append, List.map_append]
        simp [hb]
      | false =>
        rw [if_neg Bool.false_ne_true]
        refine ⟨rfl, ?_⟩
        rw [e, List.filter_append, List.map_append]
        simp [hb]
  · rintro acc G' ⟨rfl, rfl⟩
    rw [List.length_map, List.take_length]
    exact q
theorem lc_mapA {α : Type} {ds : List D} {gd : GH → Prop} {p : Pat} {te : DTE} {vs : List Nat} {S : DS} {G : GH} {Q : DQ} (l : List α) (g : α → D) (f : α → D) (e0 : ds = l.map g) (hz : l.length ≤ sizeLine) (hg : gd G)
    (h : ∀ a ∈ l, ∃ S2, p.put (g a) (dwipe S vs) = some S2 ∧ ∀ Q : DQ, Q (f a) G → te S2 G Q) (q : Q (.lst (l.map f)) G) : LcB ds gd p dYes te vs S G Q := by
  refine lc_someA l g (fun _ => true) f e0 hz hg (fun a ha => ?_) (by rw [show l.filter (fun _ => true) = l from List.filter_eq_self.mpr fun _ _ => rfl]; exact q)
  obtain ⟨S2, h1, h2⟩ := h a ha
  exact ⟨S2, h1, fun Q z => z, fun _ => h2⟩
theorem zip_map {α β γ : Type} (f : α → β → γ) : ∀ (l : List α) (m : List β), List.zipWith f l m = (l.zip m).map fun p => f p.1 p.2
  | [], _ => by simp
  | _ :: _, [] => by simp
  | a :: l, b :: m => by simp [zip_map f l m]
end DL
end
section
set_option Elab.async false
set_option linter.all false
set_option maxRecDepth 100000
set_option maxHeartbeats 4000000
namespace DL
open PySem PySem.Spec PyProof.Rows L2
def SetSO (w : World) (a : Addr) (ks : List Str) : HO := .ext fun h => SetS w h a ks
section
variable {X : Cx} {pos : Pos}
theorem setSO_new {w : World} {P : Program} {H : Hp} {h : Heap} {a : Addr} {ks : List Str} (R : SetS w h a ks) : ObjOk P w H h a (SetSO w a ks) := by
  have ⟨o, _, _, _, ho, _⟩ := R
  exact ⟨R, ⟨o, ho⟩, fun h1 h2 p k => SetS.keep p k⟩
theorem setSO_get {pins : List (Addr × Obj)} {σ : L2.St} {H : Hp} {s : Shared} {a : Addr} {ks : List Str} (I : Inv X pins σ H s) (ha : H a = some (SetSO X.w a ks)) : SetS X.w s.heap a ks := (I.hok a _ ha).1
def rSetLS (w : World) (K : PySem.W.Frag) : List V → Hp → VK → Prop := fun vs H Q => ∃ (a : Addr) (xs : List Str), vs = [.ref a] ∧ SqL K H a (xs.map V.str) ∧ xs.length ≤ 1000 ∧
  ∀ p, H p = none → Q (.ref p) (upd H p (SetSO w p (firstsF xs)))
theorem cr_setLS (hc : X.calm = true) : CallR X (.type "set") (rSetLS X.w X.K) := by
  intro pins s σ H vs us Q I r h
  obtain ⟨a, xs, rfl, ha, hl, q⟩ := h
  rw [Vals.ref1 r]
  obtain ⟨its, rv, pl, hz⟩ := I.list ha
  refine call_set_lstS xs (I.ok.hd hc) pl.isList (by simpa using rv.strs) (by unfold scanBound; omega) fun h' tk R k => ?_
  exact ⟨.ref _, _, I.laid (t' := tk) k (Nat.le_refl _) (setSO_new R), rfl, q _ (I.hok.fresh (Nat.le_refl _))⟩
def rSortedSS (w : World) : List V → Hp → VK → Prop := fun vs H Q => ∃ (a : Addr) (ks : List Str), vs = [V.ref a] ∧ H a = some (SetSO w a ks) ∧ ks.length ≤ 1000 ∧
  ∀ (ys : List Str) (p : Addr), ys.Perm ks → sortedS ys = true → H p = none → Q (.ref p) (upd H p (.lst (ys.map V.str)))
theorem cr_sortedSS (hc : X.calm = true) : CallR X (.builtin "sorted") (rSortedSS X.w) := by
  intro pins s σ H vs us Q I r h
  obtain ⟨a, ks, rfl, ha, h64, q⟩ := h
  have R := setSO_get I ha
  rw [Vals.ref1 r]
  refine sorted_sets R (I.ok.hd hc) fun s' p out c ys k g o hp hg hi hs hm => ?_
  have hlen : (ys.map V.str).length ≤ sizeLine := by rw [List.length_map, hs.length_eq, sizeLine_eq]; omega
  have hn : H p = none := I.hok.fresh hp
  have J : Inv X pins σ (upd H p (.lst (ys.map V.str))) { s with heap := s'.heap, gens := s'.gens, drawn := s'.drawn, toks := s'.toks } :=
    I.call (ch := []) (Un.laid k hp hn) (I.hok.laid k hp ⟨hlen, out.toList, c, vals_of_strs hi, hg⟩) (by rw [g]; exact I.bare) (fun _ z => nomatch z)
  have e : s' = { s with heap := s'.heap, gens := s'.gens, drawn := s'.drawn, toks := s'.toks } := by
    cases s'; cases s; cases o; rfl
  rw [e]
  exact ⟨.ref p, _, J, rfl, q ys p hs hm hn⟩
theorem Reps.strs {K : PySem.W.Frag} {F : Hp} : ∀ (ns : List Str), Reps K F (ns.map V.str) (ns.map D.str)
  | [] => .nil
  | n :: ns => .cons (.str n) (Reps.strs ns)
def dSortSetS (te : DTE) : DTE := fun S G Q => te S G fun d G1 => match d.cur G1 with
  | .lst xs => (match texts xs with
    | some ts => ts.length ≤ 1000 ∧ ∀ ys : List Str, ys.Perm (firstsF ts) → sortedS ys = true → Q (.lst (ys.map .str)) G1
    | none => False)
  | _ => False
theorem de_sortSetS {e : Expr} {te : DTE} {p q p2 : Pos} (hc : X.calm = true) (hg : Gl X "sorted") (hm : X.mg "sorted" = none) (hg2 : Gl X "set") (hm2 : X.mg "set" = none) (ha : DE X e te)
    (na : starEach [e] X.env = (false, eval e X.env) :: starEach [] X.env := by rfl)
    (nb : starEach [.Call (.Name "set" p2) [e] [] q] X.env = (false, eval (.Call (.Name "set" p2) [e] [] q) X.env) :: starEach [] X.env := by rfl) : DE X (.Call (.Name "sorted" p) [.Call (.Name "set" p2) [e] [] q] [] pos) (dSortSetS te) := by
  obtain ⟨t, p1, r1⟩ := ha.ex
  have ps := pe_callTy (pos := q) (p := p2) (cr_setLS hc) hg2 hm2 PyProof.Rows.boot_set (pa_cons p1 pa_nil na) (by decide) (by decide) na (by rfl)
  have pp := pe_callB (pos := pos) (p := p) (cr_sortedSS hc) hg hm PyProof.Rows.boot_sorted (pa_cons ps pa_nil nb) (by decide) (by decide) nb (by rfl)
  refine ⟨_, pp, fun F H σ S G o Q' h Q k => ?_⟩
  refine r1 F H σ S G o _ h _ fun F1 H1 v d G1 e1 g1 q1 h1 => ?_
  dsimp only at h1
  split at h1
  · rename_i xs ex
    split at h1
    · rename_i ts en
      obtain ⟨a, vs, rfl, ha, rs⟩ := cur_list g1 q1 ex
      rw [texts_rep en rs] at ha
      refine ⟨a, ts, rfl, .inl (.inl ha), h1.1, fun z hz => ?_⟩
      refine ⟨z, _, rfl, upd_same, Nat.le_trans (firstsF_len ts) h1.1, fun ys z2 hs hk hz2 => ?_⟩
      have gr1 : Gr F1 H1 F1 (upd H1 z (SetSO X.w z (firstsF ts))) := ⟨Ex.refl _, g1.ex.trans (Ex.new hz), Ex.new hz, fun _ _ _ w => w⟩
      have g2 := g1.grow gr1
      have gr2 := Gr.new (u := .lst (ys.map V.str)) g2.ex hz2
      exact k _ _ _ _ G1 (e1.trans (gr1.go.trans gr2.go)) (g2.grow gr2) (.lst upd_same (Reps.strs _)) (h1.2 ys hs hk)
    · exact h1.elim
  · exact h1.elim
end
end DL
end
section
set_option Elab.async false
set_option linter.all false
set_option maxRecDepth 100000
set_option maxHeartbeats 4000000
namespace DL
open PySem PySem.Spec PyProof.Rows L2
end DL
end
section
set_option Elab.async false
set_option linter.all false
set_option maxRecDepth 100000
set_option maxHeartbeats 4000000
namespace DL
open PySem PySem.Spec PyProof.Rows L2
section
variable {X : Cx} {pos : Pos}
/-- the name of the own class -/
theorem de_cls {x : Str} {C : Addr} (hg : Gl X x) (hm : X.mg x = some (.ref C)) (hd : (x == ("__debug__" : Str)) = false := by decide) : DE X (.Name x pos) (dC (.rf C)) :=
  dc_of (pe_glob (v := .ref C) hg hm rfl hd) fun _ => .rf C
end
end DL
end
section
set_option Elab.async false
set_option linter.all false
set_option maxRecDepth 100000
set_option maxHeartbeats 4000000
namespace DL
open PySem PySem.Spec PyProof.Rows L2
end DL
end
section
set_option Elab.async false
set_option linter.all false
set_option maxRecDepth 100000
set_option maxHeartbeats 4000000
namespace DL
open PySem PySem.Spec PyProof.Rows L2
structure Fine (d : D) (n w : Nat) : Prop where
  pl : d.pl = true
  sh : d.py.showable = true
  dp : d.py.depth ≤ n
  ls : d.py.leavesShort 13 = true
  bk : d.py.bulk ≤ w
theorem Fine.mono {d : D} {n w n' w' : Nat} (h : Fine d n w) (h1 : n ≤ n') (h2 : w ≤ w') : Fine d n' w' := ⟨h.pl, h.sh, Nat.le_trans h.dp h1, h.ls, Nat.le_trans h.bk h2⟩
theorem fine_bl {b : Bool} {n w : Nat} : Fine (.bl b) n w := ⟨rfl, rfl, Nat.zero_le _, rfl, Nat.zero_le _⟩
theorem fine_int {i : Int} {n w : Nat} (h : i.natAbs < 1000000000) : Fine (.int i) n w := by
  refine ⟨rfl, ?_, Nat.zero_le _, ?_, Nat.zero_le _⟩
  · show decide (i.natAbs.log2 < 1920) = true
    rw [decide_eq_true_eq]
    by_cases h0 : i.natAbs = 0
    · rw [h0]; decide
    · have : i.natAbs.log2 < 30 := (Nat.log2_lt h0).mpr (Nat.lt_trans h (by decide))
      omega
  · show decide ((PyData.shown (.int i)).length ≤ 13) = true
    rw [decide_eq_true_eq]
    exact PyData.shown_int_le (Nat.lt_trans h (by decide))
theorem fine_str {x : Str} {n w : Nat} (h : ∀ c ∈ x.cps.toList, c < 1114112) (hl : x.length ≤ w) : Fine (.str x) n w := by
  refine ⟨rfl, rfl, Nat.zero_le _, ?_, hl⟩
  show (x.cps.toList.all fun c => decide (c < 16 ^ 8)) = true
  rw [List.all_eq_true]
  intro c hc
  have := h c hc
  simp only [decide_eq_true_eq]
  omega
theorem fine_all {n w : Nat} : ∀ {xs : List D}, (∀ x ∈ xs, Fine x n w) → D.pls xs = true ∧ PyData.showableAll (D.pys xs) = true ∧ PyData.depthAll (D.pys xs) ≤ n ∧ PyData.leavesShortAll 13 (D.pys xs) = true ∧ PyData.bulkAll (D.pys xs) ≤ xs.length * (w + 1)
  | [], _ => ⟨rfl, rfl, Nat.zero_le _, rfl, Nat.zero_le _⟩
  | x :: xs, h => by
    obtain ⟨h1, h2, h3, h4, h5⟩ := fine_all (xs := xs) fun y hy => h y (List.mem_cons_of_mem _ hy)
    have f := h x List.mem_cons_self
    refine ⟨?_, ?_, ?_, ?_, ?_⟩
    · show (x.pl && D.pls xs) = true
      rw [f.pl, h1]; rfl
    · show (x.py.showable && PyData.showableAll (D.pys xs)) = true
      rw [f.sh, h2]; rfl
    · show max x.py.depth (PyData.depthAll (D.pys xs)) ≤ n
      exact Nat.max_le.mpr ⟨f.dp, h3⟩
    · show (x.py.leavesShort 13 && PyData.leavesShortAll 13 (D.pys xs)) = true
      rw [f.ls, h4]; rfl
    · show x.py.bulk + 1 + PyData.bulkAll (D.pys xs) ≤ (xs.length + 1) * (w + 1)
      have := f.bk
      rw [Nat.add_mul]
      omega
theorem fine_lst {n w : Nat} {xs : List D} (h : ∀ x ∈ xs, Fine x n w) : Fine (.lst xs) (n + 1) (xs.length * (w + 1)) := by
  obtain ⟨h1, h2, h3, h4, h5⟩ := fine_all h
  refine ⟨h1, h2, ?_, h4, h5⟩
  show PyData.depthAll (D.pys xs) + 1 ≤ n + 1
  omega
theorem Fine.okR {d : D} {n w : Nat} (h : Fine d n w) (hn : n ≤ 60) : okR d = true := by
  unfold DL.okR
  rw [h.pl, h.sh]
  simp only [Bool.and_self, Bool.true_and, decide_eq_true_eq]
  exact Nat.le_trans h.dp hn
theorem Fine.len {d : D} {n w : Nat} (h : Fine d n w) (hw : w ≤ 1000000) : (D.shown d).length ≤ sizeLine := PyData.shown_fits_bulk (B := 13) (by decide) (by decide) h.ls (Nat.le_trans h.bk (Nat.le_trans hw (by decide)))
theorem repr_lst {xs : List D} {n w : Nat} (h : ∀ x ∈ xs, Fine x n w) (hn : n ≤ 50) (hw : xs.length * (w + 1) ≤ 1000000) {G : GH} {Q : DQ} (q : Q (.str (D.shown (.lst xs))) G) : rReprD [.lst xs] G Q :=
  ⟨(fine_lst h).okR (by omega), (fine_lst h).len hw, q⟩
end DL
end
section
set_option Elab.async false
set_option linter.all false
set_option maxRecDepth 100000
set_option maxHeartbeats 4000000
namespace DL
open PySem PySem.Spec PyProof.Rows L2
abbrev AlE : Type := He.AlD × Bool
def obsE (fa : List He.Fa) (fn : List He.DefD) (ex : PySem.W.Frag → Bool) (K : PySem.W.Frag) : AlE := (He.obsD fa fn K, ex K)
def insB (K : PySem.W.Frag) (C : Addr) : Bool := He.eqO (PySem.W.findIn K (.ref C) "__class__") (some (some (.builtin "object.__class__"))) && (He.eqO (PySem.W.specialIn K (.builtin "object.__class__") "__get__") (some (some (.builtin "getset_descriptor.__get__"))) &&
  (decide (PySem.W.takesIn K (.builtin "object.__class__") = some true) && (decide (PySem.W.mroIn K C (.type "object") = some true) && decide (PySem.W.kitOne K (.ref C) (.ref C) = some true))))
theorem insB_ok {K : PySem.W.Frag} {C : Addr} (c : Cls K C) (h : insB K C = true) : C8.InsC K C := by
  unfold insB at h
  simp only [Bool.and_eq_true, decide_eq_true_eq] at h
  exact ⟨c, He.eqO_ok h.1, He.eqO_ok h.2.1, h.2.2.1, h.2.2.2.1, h.2.2.2.2⟩
end DL
end
section
set_option Elab.async false
set_option linter.all false
set_option maxRecDepth 100000
set_option maxHeartbeats 4000000
namespace DL
open PySem PySem.Spec PyProof.Rows L2
section
variable {X : Cx} {pos : Pos}
structure NeO (K : PySem.W.Frag) (C : Addr) : Prop where
  ne : PySem.W.findIn K (.ref C) "__ne__" = some (some (.builtin "object.__ne__"))
  hm : PySem.W.mroIn K C (.type "object") = some true
  sf : PySem.W.selfFirst K C = true
def neB (K : PySem.W.Frag) (C : Addr) : Bool := He.eqO (PySem.W.findIn K (.ref C) "__ne__") (some (some (.builtin "object.__ne__"))) && (decide (PySem.W.mroIn K C (.type "object") = some true) && PySem.W.selfFirst K C)
theorem neB_ok {K : PySem.W.Frag} {C : Addr} (h : neB K C = true) : NeO K C := by
  unfold neB at h
  simp only [Bool.and_eq_true, decide_eq_true_eq] at h
  exact ⟨He.eqO_ok h.1, h.2.1, h.2.2⟩
end
end DL
end
section
set_option Elab.async false
set_option linter.all false
set_option maxRecDepth 100000
set_option maxHeartbeats 4000000
namespace DL
open PySem PySem.Spec PyProof.Rows L2
end DL
end
section
set_option Elab.async false
set_option linter.all false
set_option maxRecDepth 100000
set_option maxHeartbeats 4000000
namespace DL
open PySem PySem.Spec PyProof.Rows L2
end DL
end
section
set_option Elab.async false
set_option linter.all false
set_option maxRecDepth 100000
set_option maxHeartbeats 4000000
namespace DL
open PySem PySem.Spec PyProof.Rows L2
mutual
/-- a value that is a key -/
inductive NkV (H : Hp) : V → NestedKey → Prop
  | non : NkV H .non .none
  | int (i : Int) : NkV H (.int i) (.num i)
  | str (x : Str) : NkV H (.str x) (.text x)
  | tup {a : Addr} {vs : List V} {ks : List NestedKey} : H a = some (.tup vs) → NksV H vs ks → NkV H (.ref a) (.tup ks)
inductive NksV (H : Hp) : List V → List NestedKey → Prop
  | nil : NksV H [] []
  | cons {v : V} {vs : List V} {k : NestedKey} {ks : List NestedKey} : NkV H v k → NksV H vs ks → NksV H (v :: vs) (k :: ks)
end
mutual
theorem Rep.nk {K : PySem.W.Frag} {F H : Hp} (e : Ex F H) : ∀ {v : V} {d : D} {k : NestedKey}, Rep K F v d → d.nkey = some k → NkV H v k
  | _, _, _, .non, h => by cases h; exact .non
  | _, _, _, .bl b, h => by cases h
  | _, _, _, .int i, h => by cases h; exact .int i
  | _, _, _, .str x, h => by cases h; exact .str x
  | _, _, _, .ty n, h => by cases h
  | _, _, _, .tup (ds := ds) q r, h => by
    simp only [D.nkey] at h
    obtain ⟨ks, hk, rfl⟩ := Option.map_eq_some_iff.mp h
    exact .tup (e _ _ q) (Reps.nk e r hk)
  | _, _, _, .lst q r, h => by cases h
  | _, _, _, .dK q l r, h => by cases h
  | _, _, _, .dT q l r, h => by cases h
  | _, _, _, .obj q l r, h => by cases h
  | _, _, _, .rf a, h => by cases h
  | _, _, _, .scr q, h => by cases h
theorem Reps.nk {K : PySem.W.Frag} {F H : Hp} (e : Ex F H) : ∀ {vs : List V} {ds : List D} {ks : List NestedKey}, Reps K F vs ds → D.nkeys ds = some ks → NksV H vs ks
  | _, _, _, .nil, h => by cases h; exact .nil
  | _, _, _, .cons (d := d) (ds := ds) r t, h => by
    simp only [D.nkeys] at h
    split at h
    · rename_i k ks h1 h2
      cases h
      exact .cons (Rep.nk e r h1) (Reps.nk e t h2)
    · cases h
end
mutual
theorem NkV.is {P : Program} {w : World} {H : Hp} {h : Heap} (ok : HOk P w H h) : ∀ {v : V} {k : NestedKey} {u : Value}, NkV H v k → RelV v u → NestedIs h k u
  | _, _, _, .non, r => by cases r; exact .none
  | _, _, _, .int i, r => by obtain ⟨t, rfl⟩ := r; exact .int i t
  | _, _, _, .str x, r => by obtain ⟨t, rfl⟩ := r; exact .text x t
  | _, _, _, .tup q t, r => by
    cases r
    obtain ⟨_, its, rs, o, h1, h2, n, h3⟩ := (show ObjOk P w H h _ (.tup _) from ok _ _ q)
    exact .tup h1 h2 h3 (by simpa using NksV.is ok t rs)
theorem NksV.is {P : Program} {w : World} {H : Hp} {h : Heap} (ok : HOk P w H h) : ∀ {vs : List V} {ks : List NestedKey} {us : List Value}, NksV H vs ks → Vals vs us → NestedAll h ks us
  | _, _, _, .nil, r => by cases r; exact .nil
  | _, _, _, .cons a t, r => by
    cases r with
    | cons r1 r2 => exact .cons (NkV.is ok a r1) (NksV.is ok t r2)
end
/-- the dict stands there -/
def NAt (w : World) (H : Hp) (a : Addr) (xs : List (NestedKey × Addr × Value)) : Prop :=
  H a = some (.ext (RawN w a xs)) ∧ xs.length ≤ sizeLine ∧ ∀ x ∈ xs, NkV H (.ref x.2.1) x.1 ∧ x.1.depth ≤ 8
theorem NAt.dict {P : Program} {w : World} {H : Hp} {h : Heap} {a : Addr} {xs : List (NestedKey × Addr × Value)} (n : NAt w H a xs) (ok : HOk P w H h) : (a == sysModules) = false ∧ h.DictOfH (nestedKind P w) a xs := by
  obtain ⟨e, _, hk⟩ := n
  obtain ⟨⟨hs, o, es, ep, h1, h2, h3, h4, h5⟩, _⟩ := (show ObjOk P w H h a (.ext (RawN w a xs)) from ok _ _ e)
  exact ⟨hs, o, es, ep, h1, h2, h3, h4, fun x hx => ⟨NkV.is ok (hk x hx).1 rfl, (hk x hx).2⟩, h5⟩
theorem KN.keys {K : PySem.W.Frag} {F H : Hp} (e : Ex F H) : ∀ {kds : List (NestedKey × D)} {xs : List (NestedKey × Addr × Value)}, KN K F kds xs → ∀ x ∈ xs, NkV H (.ref x.2.1) x.1 ∧ x.1.depth ≤ 8
  | _, _, .nil, x, hx => by cases hx
  | _, _, .cons (a := p) (b := q) h t, x, hx => by
    rcases List.mem_cons.mp hx with rfl | hx
    · obtain ⟨z1, ⟨d, z2, zd, z3⟩, _⟩ := h
      rw [← z1]
      exact ⟨Rep.nk e z3 z2, zd⟩
    · exact KN.keys e t x hx
theorem KN.val {K : PySem.W.Frag} {F : Hp} (k : NestedKey) : ∀ {kds : List (NestedKey × D)} {xs : List (NestedKey × Addr × Value)}, KN K F kds xs → (valD kds k = none ∧ atKey xs k = none) ∨ ∃ d p v, valD kds k = some d ∧ atKey xs k = some p ∧ RelV v p.2 ∧ Rep K F v d
  | _, _, .nil => .inl ⟨rfl, rfl⟩
  | _, _, .cons (a := p) (b := q) h t => by
    obtain ⟨z1, _, v, z4, z5⟩ := h
    by_cases e : p.1 = k
    · refine .inr ⟨p.2, q.2, v, ?_, ?_, z4, z5⟩
      · simp [valD, List.find?_cons, e]
      · simp [atKey, List.find?_cons, ← z1, e]
    · have e2 : ¬ q.1 = k := fun z => e (z1.trans z)
      rcases KN.val k t with ⟨h1, h2⟩ | ⟨d, p', v', h1, h2, h3, h4⟩
      · refine .inl ⟨?_, ?_⟩
        · simpa [valD, List.find?_cons, e] using h1
        · simpa [atKey, List.find?_cons, e2] using h2
      · refine .inr ⟨d, p', v', ?_, ?_, h3, h4⟩
        · simpa [valD, List.find?_cons, e] using h1
        · simpa [atKey, List.find?_cons, e2] using h2
theorem KN.len {K : PySem.W.Frag} {F : Hp} {kds : List (NestedKey × D)} {xs : List (NestedKey × Addr × Value)} (h : KN K F kds xs) : kds.length = xs.length := Paired.length h
theorem any_val {kds : List (NestedKey × D)} {k : NestedKey} : (kds.any fun kv => decide (kv.1 = k)) = (valD kds k).isSome := by
  unfold valD
  induction kds with
  | nil => rfl
  | cons a l ih =>
    by_cases e : a.1 = k
    · simp [List.find?_cons, e]
    · simp only [List.any_cons, e, decide_false, Bool.false_or, List.find?_cons]
      exact ih
theorem KN.put {K : PySem.W.Frag} {F : Hp} {kds : List (NestedKey × D)} {xs : List (NestedKey × Addr × Value)} (h : KN K F kds xs) {k : NestedKey} {b : Addr} {r : Value} {dk d : D} {v : V} (hk : dk.nkey = some k) (hd : k.depth ≤ 8) (rk : Rep K F (.ref b) dk) (rv : RelV v r) (rd : Rep K F v d) :
    KN K F (putD kds k d) (storedH xs k b r) := by
  have ev := KN.val k h
  unfold putD storedH
  rw [any_val]
  rcases ev with ⟨h1, h2⟩ | ⟨d', p', v', h1, h2, _⟩
  · rw [h1, h2]
    rw [if_neg (by simp), if_neg (by simp)]
    exact Paired.snoc h ⟨rfl, ⟨dk, hk, hd, rk⟩, v, rv, rd⟩
  · rw [h1, h2, if_pos (show (some d').isSome = true from rfl), if_pos (show (some p').isSome = true from rfl)]
    clear h1 h2
    induction h with
    | nil => exact .nil
    | @cons p q ps qs hq t ih =>
      refine .cons ?_ ih
      obtain ⟨z1, z2, v2, z4, z5⟩ := hq
      unfold putAt
      dsimp only
      by_cases e : p.1 = k
      · rw [if_pos e, if_pos (by rw [← z1]; exact e)]
        exact ⟨z1, z2, v, rv, rd⟩
      · rw [if_neg e, if_neg (by rw [← z1]; exact e)]
        exact ⟨z1, z2, v2, z4, z5⟩
end DL
end
section
set_option Elab.async false
set_option linter.all false
set_option maxRecDepth 100000
set_option maxHeartbeats 4000000
namespace DL
open PySem PySem.Spec PyProof.Rows L2
end DL
end
section
set_option Elab.async false
set_option linter.all false
set_option maxRecDepth 100000
set_option maxHeartbeats 4000000
namespace DL
open PySem PySem.Spec PyProof.Rows L2
end DL
end
section
set_option Elab.async false
set_option linter.all false
set_option maxRecDepth 100000
set_option maxHeartbeats 4000000
namespace DL
open PySem PySem.Spec PyProof.Rows L2
end DL
end
section
set_option Elab.async false
set_option linter.all false
set_option maxRecDepth 100000
set_option maxHeartbeats 4000000
namespace DL
open PySem PySem.Spec PyProof.Rows L2
end DL
end
section
set_option Elab.async false
set_option linter.all false
set_option maxRecDepth 100000
set_option maxHeartbeats 4000000
namespace DL
open PySem PySem.Spec PyProof.Rows L2 HT
end DL
end
section
set_option Elab.async false
set_option linter.all false
set_option maxRecDepth 100000
set_option maxHeartbeats 4000000
namespace DL
open PySem PySem.Spec PyProof.Rows L2
mutual
def D.pyR : D → PyData
  | .non => .none
  | .bl b => .bool b
  | .int i => .int i
  | .str x => .str x
  | .tup xs => .tuple (D.pysR xs)
  | .lst xs => .list (D.pysR xs)
  | .dK _ => .dict []
  | _ => .none
def D.pysR : List D → List PyData
  | [] => []
  | x :: xs => D.pyR x :: D.pysR xs
end
mutual
def D.plR : D → Bool
  | .non | .bl _ | .int _ | .str _ => true
  | .tup xs | .lst xs => D.plsR xs
  | .dK kds => kds.isEmpty
  | _ => false
def D.plsR : List D → Bool
  | [] => true
  | x :: xs => D.plR x && D.plsR xs
end
/-- the place of the modules is in the written part -/
def SysM (K : PySem.W.Frag) : Prop := ∃ o, K.lookup sysModules = some o
def sysB (K : PySem.W.Frag) : Bool := (K.lookup sysModules).isSome
theorem sysB_ok {K : PySem.W.Frag} (h : sysB K = true) : SysM K := Option.isSome_iff_exists.mp h
end DL
end
section
set_option Elab.async false
set_option linter.all false
set_option maxRecDepth 100000
set_option maxHeartbeats 4000000
namespace DL
open PySem PySem.Spec PyProof.Rows L2
end DL
end
section
set_option Elab.async false
set_option linter.all false
set_option maxRecDepth 100000
set_option maxHeartbeats 4000000
namespace DL
open PySem PySem.Spec PyProof.Rows L2
section
variable {X : Cx} {pos : Pos}
theorem Reps.repN {K : PySem.W.Frag} {F : Hp} {vs : List V} {ds : List D} (r : Reps K F vs ds) : ∀ n : Nat, Reps K F (List.replicate n vs).flatten (List.replicate n ds).flatten
  | 0 => .nil
  | n + 1 => by
    rw [List.replicate_succ, List.replicate_succ, List.flatten_cons, List.flatten_cons]
    exact r.append (Reps.repN r n)
end
end DL
end
section
set_option Elab.async false
set_option linter.all false
set_option maxRecDepth 100000
set_option maxHeartbeats 4000000
namespace DL
open PySem PySem.Spec PyProof.Rows L2 ClX
end DL
end
section
set_option Elab.async false
set_option linter.all false
set_option maxRecDepth 100000
set_option maxHeartbeats 4000000
namespace DL
open PySem PySem.Spec PyProof.Rows L2 ClX
end DL
end
section
set_option Elab.async false
set_option linter.all false
set_option maxRecDepth 100000
set_option maxHeartbeats 4000000
namespace DL
open PySem PySem.Spec PyProof.Rows L2
end DL
end
section
set_option Elab.async false
set_option linter.all false
set_option maxRecDepth 100000
set_option maxHeartbeats 4000000
namespace DL
open PySem PySem.Spec PyProof.Rows L2 PySem.Calls
abbrev exTl : List Value := [.type "Exception", .type "BaseException", .type "object"]
/-- what the written part says of the error at C and of its __init__ -/
structure XCls (K : PySem.W.Frag) (fl : Str) (C : Addr) (qual : Str) (params : Arguments) (body : List Stmt) (scope : Scope) (fI cc cda : Addr) (dV kV doc pm ct : Value) (an : Option Addr) : Prop where
  q : PySem.W.excInitIn K C exTl "Exception.__new__" = true
  kC : PySem.W.keepIn K (.ref C) = true
  iI : PySem.W.findIn K (.ref C) "__init__" = some (some (.ref fI))
  fn : ∃ oc od osl, K.lookup fI = some ⟨oc, od, .func (PySem.W.fnX "__init__" qual params body scope [("__class__", cc)] dV kV doc pm an (.ref cda) ct), osl⟩
  tI : PySem.W.typeIn K (.ref fI) = some (.type "function")
  ce : ∃ cl cld csl, K.lookup cc = some ⟨cl, cld, .cell (some (.ref C)), csl⟩
  co : ∃ ccl cdd ccs vs file tf, K.lookup cda = some ⟨ccl, cdd, .fields vs, ccs⟩ ∧ vs[2]? = some (.str file tf) ∧ (fl == file) = true
  cd : PySem.W.codeIn K (.ref cda) qual = true
  xB : PySem.W.subIn K (.ref C) (.type "BaseException") = some true
  xT : PySem.W.typeIn K (.ref C) = some (.type "type")
  xE : PySem.W.subIn K (.ref C) (.type "Exception") = some true
  xC : PySem.W.mroIn K C (.ref C) = some true
  su : PySem.W.nsIn K mainGlobals "super" = some none
  op : PySem.W.nsIn K cStatics "thirdparty.any" = some none
  al : PySem.W.ks_superIn K C C "__init__" = some (some (.builtin "Exception.__init__"))
/-- how super().__init__("text") is read, at its places in the text -/
def SupT (msg : Str) (j : Nat) (p0 p1 p2 p3 p4 : Pos) : Prop := ∀ env : Env, ∃ pl : Sem Bool, eval (.Call (.Attribute (.Call (.Name "super" p0) [] [] p1) "__init__" p2) [.Constant (.str msg) j p3] [] p4) env = (do
  let ov ← attributeBase (.Call (.Name "super" p0) [] [] p1) "__init__" env (eval (.Call (.Name "super" p0) [] [] p1) env)
  standAt p2.atName
  let (f, first) ← holding [ov] (getMethod ov "__init__" pl)
  callWith p4 f first (backTo p4 (starEach [.Constant (.str msg) j p3] env)) [])
section
variable {P : Program} {w : World} {K : PySem.W.Frag} {fl : Str} {C : Addr} {qual : Str} {params : Arguments} {body : List Stmt} {scope : Scope} {fI cc cda : Addr} {dV kV doc pm ct : Value} {an : Option Addr}
/-- the first statement of such an __init__ -/
theorem super_step {A : Around} {E : Value → Shared → Prop} {h base : Heap} {g : Array GenState} {d : Drawn} {t : Nat} {os : OsState} {mg m : Str → Option Value} {L e t0 : Addr} {ar : Arg} {msg : Str} {j : Nat} {p0 p1 p2 p3 p4 p5 : Pos} {bd rest : List Stmt} {Q : Flow → Shared → Prop}
    (T : XCls K fl C qual params body scope fI cc cda dV kV doc pm ct an) (X : K.In h) (M : Mod K mg base) (kb : ∀ b o, base.get? b = some o → h.get? b = some o) (hmg : mg "super" = none)
    (hL : h.Ns L m) (hv : m ar.arg = some (.ref e)) (he : h.get? e = some (HandSPX.excO C t0))
    (hp : (params.posonlyargs ++ params.args).head? = some ar) (hk : scope.kind = .function) (hks : scope.names.lookup ("super" : Str) = some .globalImplicit) (hkc : scope.names.lookup ("__class__" : Str) = some .free) (hka : scope.names.lookup ar.arg = some .local)
    (ht : SupT msg j p0 p1 p2 p3 p4) (hfile : P.main.file = fl) (htop : (P.main.scope.names.lookup ("super" : Str)).isSome = false)
    (hq : ∀ h' t' t1, (∀ b o, b ≠ e → h.get? b = some o → h'.get? b = some o) → h'.get? e = some (HandSPX.excO C t1) →
      PySem.wpAt (model P w) A (.func bd (PySem.W.ksEnv qual scope L fI (.ref cda) cc)) (execs rest (PySem.W.ksEnv qual scope L fI (.ref cda) cc)) Q E ⟨h', g, d, t', os⟩) :
    PySem.wpAt (model P w) A (.func bd (PySem.W.ksEnv qual scope L fI (.ref cda) cc)) (execs (.Expr (.Call (.Attribute (.Call (.Name "super" p0) [] [] p1) "__init__" p2) [.Constant (.str msg) j p3] [] p4) p5 :: rest) (PySem.W.ksEnv qual scope L fI (.ref cda) cc)) Q E ⟨h, g, d, t, os⟩ := by
  obtain ⟨oc, od, osl, lk⟩ := T.fn
  obtain ⟨cl, cld, csl, hcell⟩ := T.ce
  obtain ⟨ccl, cdd, ccs, vs, file, tf, hcode, hvs, hf⟩ := T.co
  obtain ⟨nm, N, qn, bs, bm, hdct, sn, sub, ab, col, dd, k0, k1, k2, k3, k5, hC, hT⟩ := PySem.W.excInit_of X T.q
  have I : PySem.W.InstAt h e (HandSPX.excO C t0) C none := ⟨he, rfl, rfl, trivial⟩
  obtain ⟨mb, b1, b2⟩ := M.blt
  obtain ⟨cdC, hcC⟩ : ∃ cd, PySem.W.clsIn K C = some cd := by
    cases hc : PySem.W.clsIn K C with
    | none =>
      have := T.al
      unfold PySem.W.ks_superIn at this
      rw [hc] at this
      cases this
    | some cd => exact ⟨cd, rfl⟩
  obtain ⟨oD, hD1, hD2⟩ : ∃ oD, h.get? C = some oD ∧ oD.data = .cls cdC := by
    have hcC' := hcC
    unfold PySem.W.clsIn at hcC'
    split at hcC'
    · rename_i c d cd' sl ho
      cases hcC'
      exact ⟨_, X _ _ ho, rfl⟩
    · cases hcC'
  have hne : e ≠ C := PySem.W.ks_ne X I hcC
  have hLe : L ≠ e := fun z => by
    obtain ⟨oL, es, ep, h1, h2, _⟩ := hL
    rw [z, he] at h1
    have z2 := Option.some.inj h1
    subst z2
    cases h2
  obtain ⟨pl, htq⟩ := ht (PySem.W.ksEnv qual scope L fI (.ref cda) cc)
  refine PySem.ks_wpAt_execs_cons (PySem.ks_wpAt_Expr_any (PySem.ks_wpAt_MethodCall (pl := pl) ?_ htq) (by show (scope.kind == .module && _) = false; rw [hk]; rfl))
  refine PySem.ks_wpAt_super_base (env := PySem.W.ksEnv qual scope L fI (.ref cda) cc) hks hkc rfl rfl (X _ _ lk) rfl hp rfl (X _ _ hcode) rfl hvs (by rw [hfile]; exact hf) htop ?_
  refine PySem.W.ks_loadName_global hk hks (loadGlobal_builtin (env := PySem.W.ksEnv qual scope L fI (.ref cda) cc) (M.glob.keeps kb) hmg (b1.keeps kb) ((b2 "super" (by decide)).trans (show bootBuiltins "super" = some (.type "super") from Boot.«super»)) ⟨rfl, ?_⟩)
  refine wpAny_loadName_free hk hkc rfl ⟨_, X _ _ hcell, rfl⟩ ?_
  refine wpAny_loadName_local hk hka hL hv ?_
  refine PySem.ks_wpAny_isType_cls hD1 hD2 ⟨rfl, ?_⟩
  refine PySem.ks_wpAny_call_super hD1 hD2 he rfl (fun c z => nomatch z) (PySem.W.looks_mroIn X T.xC) (fun h1 e1 kk1 => ?_)
  have X1 : K.In h1 := X.keeps kk1
  have hmro : PySem.W.Looks (model P w) h1 (mroOf (.ref C)) cdC.mro := fun A Q E s k q => wpAny_bind ((PySem.W.looks_clsIn X1 hcC) A _ E s k (wpAny_pure q))
  have hin : PySem.W.Looks (model P w) h1 (isInstance (.ref e) (.type "Exception")) true := (PySem.W.InstAt.type (M := model P w) (show PySem.W.InstAt h1 e (HandSPX.excO C t0) C none from ⟨kk1 _ _ he, rfl, rfl, trivial⟩)).andThen (PySem.W.looks_subIn X1 T.xE)
  have hal : PySem.W.alongIn K "__init__" ((cdC.mro.dropWhile (· != .ref C)).drop 1) = some (some (.builtin "Exception.__init__")) := by
    have := T.al
    unfold PySem.W.ks_superIn at this
    rw [hcC] at this
    exact this
  refine PySem.ESX.getMethod_super e1 (PySem.W.looks_opaque X1 T.op) hmro rfl X1 hal hne rfl hin ?_
  refine PySem.ESX.callWith_bound (x := e) ?_
  refine spliced_more (Constant_str (spliced_none ?_))
  have kk2 : ∀ b o, h.get? b = some o → (h1.push (PySem.ESX.bw e)).get? b = some o := fun b o z => Heap.get?_push_of_some _ (kk1 b o z)
  refine ⟨Heap.get?_push_at rfl rfl, ?_⟩
  refine PySem.ESX.call_bw (kk2 _ _ hC) (kk2 _ _ he) (Heap.get?_push_at rfl rfl) (by show 1 ≤ sizeLine; rw [sizeLine_eq]; omega) (fun h' t1 kk3 e3 => ?_)
  exact hq h' _ t1 (fun b o hb z => kk3 b o hb (kk2 b o z)) e3
end
end DL
end
section
set_option Elab.async false
set_option linter.all false
set_option maxRecDepth 100000
set_option maxHeartbeats 4000000
namespace DL
open PySem PySem.Spec PyProof.Rows L2
abbrev XFs := List (Str × D)
abbrev DXQ := Addr → XFs → GH → Prop
/-- an error: its class, its attributes -/
def XRep (K : PySem.W.Frag) (F H : Hp) (G : GH) (cls : Value) (d : Option Addr) (C : Addr) (fs : XFs) : Prop :=
  cls = .ref C ∧ ((d = none ∧ fs = []) ∨ ∃ dx vs, d = some dx ∧ H dx = some (.xd vs) ∧ G dx = none ∧ fs ≠ [] ∧ vs.map (·.1) = fs.map (·.1) ∧ Reps K F (vs.map (·.2)) (fs.map (·.2)))
def KpX (K : PySem.W.Frag) (F H : Hp) (G : GH) (σ : L2.St) (E' : DXQ) (W : WX) : Prop := ∀ F' H' G' cls d C fs, Go F H G F' H' G' → Gok K F' H' G' → XRep K F' H' G' cls d C fs → E' C fs G' → W cls d σ H'
def KpXS (K : PySem.W.Frag) (F H : Hp) (G : GH) (E' : DS → DXQ) (W : WX) : Prop := ∀ F' H' σ S G' cls d C fs, Go F H G F' H' G' → Ok K F' H' σ S G' → XRep K F' H' G' cls d C fs → E' S C fs G' → W cls d σ H'
def KpXE (K : PySem.W.Frag) (F H : Hp) (G : GH) (E' : DXQ) (E : XK) : Prop := ∀ F' H' G' cls d C fs, Go F H G F' H' G' → Gok K F' H' G' → XRep K F' H' G' cls d C fs → E' C fs G' → E cls d H'
section
variable {K : PySem.W.Frag} {F H F1 H1 : Hp} {G G1 : GH}
theorem XRep.sub {cls : Value} {d : Option Addr} {C : Addr} {fs : XFs} {G0 : GH} (s : Sub G0 G) (h : XRep K F H G cls d C fs) : XRep K F H G0 cls d C fs := by
  refine ⟨h.1, h.2.imp id ?_⟩
  rintro ⟨dx, vs, h1, h2, h3, h4⟩
  refine ⟨dx, vs, h1, h2, ?_, h4⟩
  cases q : G0 dx with
  | none => rfl
  | some o => rw [s.le dx o q] at h3; cases h3
theorem KpX.mono {σ : L2.St} {E' : DXQ} {W : WX} (e : Go F H G F1 H1 G1) (h : KpX K F H G σ E' W) : KpX K F1 H1 G1 σ E' W := fun F' H' G' cls d C fs a b c q => h F' H' G' cls d C fs (e.trans a) b c q
theorem KpXS.mono {E' : DS → DXQ} {W : WX} (e : Go F H G F1 H1 G1) (h : KpXS K F H G E' W) : KpXS K F1 H1 G1 E' W := fun F' H' σ S G' cls d C fs a b c q => h F' H' σ S G' cls d C fs (e.trans a) b c q
theorem KpXS.at_ {σ : L2.St} {S : DS} {E' : DS → DXQ} {W : WX} (s : Slots K F σ S) (h : KpXS K F H G E' W) : KpX K F H G σ (E' S) W := fun F' H' G' cls d C fs a b c q => h F' H' σ S G' cls d C fs a ⟨b, s.mono a.ex⟩ c q
end
abbrev DTEX := DS → GH → DQ → DXQ → Prop
abbrev DTSX := DEnds → (DS → DXQ) → DS → GH → Prop
structure DEX (X : Cx) (e : Expr) (t' : DTEX) : Prop where
  ex : ∀ W, Takes X W → ∃ t, PE X e t ∧ ∀ F H σ S G, Ok X.K F H σ S G → ∀ Q' E', t' S G Q' E' → ∀ Q, KpE X.K F H G Q' Q → KpX X.K F H G σ E' W → t σ H Q
structure DPX (X : Cx) (st : Stmt) (t' : DTSX) : Prop where
  ex : ∀ W, Takes X W → ∃ t, PS X st t ∧ ∀ F H σ S G, Ok X.K F H σ S G → ∀ D' E', t' D' E' S G → ∀ D0, KpS X.K F H G D' D0 → KpXS X.K F H G E' W → t D0 σ H
structure DPsX (X : Cx) (st : List Stmt) (t' : DTSX) : Prop where
  ex : ∀ W, Takes X W → ∃ t, PSs X st t ∧ ∀ F H σ S G, Ok X.K F H σ S G → ∀ D' E', t' D' E' S G → ∀ D0, KpS X.K F H G D' D0 → KpXS X.K F H G E' W → t D0 σ H
def xE (t : DTE) : DTEX := fun S G Q _ => t S G Q
def xS (t : DTS) : DTSX := fun D' _ S G => t D' S G
section
variable {X : Cx} {pos : Pos}
theorem dpx_of {st : Stmt} {t : DTS} (h : DP X st t) : DPX X st (xS t) := ⟨fun W _ => by
  obtain ⟨t1, p1, r1⟩ := h.ex
  exact ⟨t1, p1, fun F H σ S G o D' E' h D0 k _ => r1 F H σ S G o D' h D0 k⟩⟩
theorem dpsx_of {st : List Stmt} {t : DTS} (h : DPs X st t) : DPsX X st (xS t) := ⟨fun W _ => by
  obtain ⟨t1, p1, r1⟩ := h.ex
  exact ⟨t1, p1, fun F H σ S G o D' E' h D0 k _ => r1 F H σ S G o D' h D0 k⟩⟩
def dSeqX (t u : DTSX) : DTSX := fun D' E' S G => t { D' with nx := u D' E' } E' S G
theorem dpsx_cons {st : Stmt} {rest : List Stmt} {t u : DTSX} (h1 : DPX X st t) (h2 : DPsX X rest u) : DPsX X (st :: rest) (dSeqX t u) := ⟨fun W tk => by
  obtain ⟨t1, p1, r1⟩ := h1.ex W tk
  obtain ⟨t2, p2, r2⟩ := h2.ex W tk
  refine ⟨_, pss_cons p1 p2, fun F H σ S G o D' E' h D0 k kx => ?_⟩
  exact r1 F H σ S G o _ E' h _ ⟨fun F1 H1 σ1 S1 G1 e1 o1 h1 => r2 F1 H1 σ1 S1 G1 o1 _ E' h1 _ (k.mono e1) (kx.mono e1), k.rt, k.bk, k.ct⟩ kx⟩
theorem dpsx_one {st : Stmt} {t : DTSX} (h1 : DPX X st t) : DPsX X [st] t := ⟨fun W tk => by
  obtain ⟨t1, p1, r1⟩ := h1.ex W tk
  exact ⟨_, pss_one p1, r1⟩⟩
/-- a block that is never reached -/
theorem dpsx_never {st : List Stmt} : DPsX X st (fun _ _ _ _ => False) := ⟨fun W _ => ⟨fun _ _ _ => False, ⟨fun _ _ _ _ _ _ z => z.elim⟩, fun _ _ _ _ _ _ _ _ h => h.elim⟩⟩
theorem dpx_asg {tg e : Expr} {te : DTEX} {g : DTG} (he : DEX X e te) (hg : DG X tg g) (hs : swapsWithSole [tg] e pos.line X.env = pure false := by rfl) (hw : swappedStores [tg] e X.env = pure none := by rfl)
    (h1 : (assignEach [tg] X.env).map (·.2) = [assign tg X.env] := by rfl) : DPX X (.Assign [tg] e pos) (fun D' E' S G => te S G (fun d G1 => g d S G1 D'.nx) (E' S)) := ⟨fun W tk => by
  obtain ⟨t1, p1, r1⟩ := he.ex W tk
  obtain ⟨t2, p2, r2⟩ := hg.ex
  refine ⟨_, ps_asg p1 p2 hs hw h1, fun F H σ S G o D' E' h D0 k kx => ?_⟩
  refine r1 F H σ S G o _ _ h _ (fun F1 H1 v d G1 e1 g1 q1 h1 => ?_) (kx.at_ o.s)
  exact r2 F1 H1 σ S G1 v d (o.go e1 g1) q1 _ h1 _ (k.nx.mono e1)⟩
theorem dpx_expr {e : Expr} {te : DTEX} (he : DEX X e te) (hs : swapsWith e none pos.line X.env = pure false := by rfl) : DPX X (.Expr e pos) (fun D' E' S G => te S G (fun _ G1 => D'.nx S G1) (E' S)) := ⟨fun W tk => by
  obtain ⟨t1, p1, r1⟩ := he.ex W tk
  refine ⟨_, ps_expr p1 hs, fun F H σ S G o D' E' h D0 k kx => ?_⟩
  exact r1 F H σ S G o _ _ h _ (fun F1 H1 v d G1 e1 g1 q1 h1 => k.nx F1 H1 σ S G1 e1 (o.go e1 g1) h1) (kx.at_ o.s)⟩
theorem dpx_if {c : Expr} {a b : List Stmt} {tc : DTT} {t u : DTSX} (hc : DT X c tc) (ha : DPsX X a t) (hb : DPsX X b u) : DPX X (.If c a b pos) (fun D' E' S G => tc S G fun b G1 => if b = true then t D' E' S G1 else u D' E' S G1) := ⟨fun W tk => by
  obtain ⟨t0, p0, r0⟩ := hc.ex
  obtain ⟨t1, p1, r1⟩ := ha.ex W tk
  obtain ⟨t2, p2, r2⟩ := hb.ex W tk
  refine ⟨_, ps_if p0 p1 p2, fun F H σ S G o D' E' h D0 k kx => ?_⟩
  refine r0 F H σ S G o _ h _ fun F1 H1 b G1 e1 g1 h1 => ?_
  cases b with
  | true =>
    rw [if_pos rfl] at h1 ⊢
    exact r1 F1 H1 σ S G1 (o.go e1 g1) D' E' h1 D0 (k.mono e1) (kx.mono e1)
  | false =>
    rw [if_neg Bool.false_ne_true] at h1 ⊢
    exact r2 F1 H1 σ S G1 (o.go e1 g1) D' E' h1 D0 (k.mono e1) (kx.mono e1)⟩
abbrev SpX := List D → GH → DQ → DXQ → Prop
def SpOfX (K : PySem.W.Frag) (sp : SpX) : Sp := fun vs H Q E => ∃ F G ds Q' E', Gok K F H G ∧ Reps K F vs ds ∧ sp ds G Q' E' ∧ KpE K F H G Q' Q ∧ KpXE K F H G E' E
def finX (E' : DXQ) : DS → DXQ := fun _ C fs G => ∃ G0, Sub G0 G ∧ E' C fs G0
theorem fnX_mk {P : Program} {w : World} {K : PySem.W.Frag} {mg : Str → Option Value} {base : Heap} {x qual : Str} {st : Stmt} {f : Addr} {fd : FuncData} {N ps : List Str} {k : Nat} {sp : SpX} (Fu : Fun K x qual st f fd) (sc : FnScope N ps (defScope st))
    (len : ∀ ds G Q E, sp ds G Q E → ds.length = ps.length)
    (hb : ∀ (cdv : Value) (A : Around) (outer : List Env) (s : Shared) (H : Hp) (E : XK), A.guards = some [] → Room k (A.deeper (envOfC qual (defScope st) s.heap.objs.size f cdv)) →
      ∃ t', DPsX (cxOf (L2.CX P w) P w K mg base N qual (defScope st) f cdv A outer s H E) (defBody st) t' ∧ ∀ ds G Q E', sp ds G Q E' → t' (fin Q) (finX E') (dstart N ds) G) : FnG P w K mg base (L2.CX P w) (k + 1) f fd ps (SpOfX K sp) := by
  obtain ⟨oc, od, kV, doc, pm, an, cdv, ct, osl, rfl, lk, hcd⟩ := Fu.ex
  refine fng_of lk hcd sc (fun vs H Q E h => ?_) (fun A outer s H vs Q E hg hr h => ?_)
  · obtain ⟨F, G, ds, Q', E', g, r, h, _⟩ := h
    rw [r.length]
    exact len ds G Q' E' h
  · obtain ⟨F, G, ds, Q', E', g, r, h, kk, kx⟩ := h
    obtain ⟨t', d, rd⟩ := hb cdv A outer s H E hg hr
    obtain ⟨t, p, rf⟩ := d.ex (fun cls d _ H' => E cls d H') (takes_of rfl rfl rfl rfl)
    refine ⟨t, p, rf F H _ _ G ⟨g, r.start⟩ _ _ (rd ds G Q' E' h) _ ⟨fun F1 H1 σ1 S1 G1 e1 o1 h1 => ?_, fun F1 H1 v d G1 e1 g1 r1 h1 => ?_, fun _ _ _ _ _ _ _ z => z.elim, fun _ _ _ _ _ _ _ z => z.elim⟩ ?_⟩
    · obtain ⟨G0, sb, h1⟩ := h1
      exact kk F1 H1 _ _ G0 (e1.sub sb) (o1.g.sub sb) .non h1
    · obtain ⟨G0, sb, h1⟩ := h1
      exact kk F1 H1 v d G0 (e1.sub sb) (g1.sub sb) r1 h1
    · intro F1 H1 σ1 S1 G1 cls d C fs e1 o1 xr h1
      obtain ⟨G0, sb, h1⟩ := h1
      exact kx F1 H1 G0 cls d C fs (e1.sub sb) (o1.g.sub sb) (xr.sub sb) h1
section
variable {k : Nat} {f C : Addr} {fd : FuncData} {ps : List Str} {sp0 : Sp} {x m : Str} {p apos : Pos} {e o : Expr} {es : List Expr} {t : TA} {ta : TE} {W : WX}
theorem goes_fnS {pins : List (Addr × Obj)} {σ : L2.St} {H : Hp} {s : Shared} {Q : VK} {us ws : List Value} {zs : List V} (F : FnG X.prog X.w X.K X.mg X.base (L2.CX X.prog X.w) k f fd ps sp0) (hA : X.A.guards = some []) (hr : Room k X.A)
    (bd : ∀ s : Shared, X.K.In s.heap → ws.length = ps.length → BindsTo s fd ⟨us, []⟩ (ps.zip ws)) (tk : Takes X W)
    (I : Inv X pins σ H s) (r : Vals zs ws) (h : sp0 zs H Q (WE W σ)) : wpAny (model X.prog X.w) X.A (call (.ref f) us []) (EP X pins σ Q) X.xe s := by
  have many : ws.length = ps.length := r.length ▸ F.many zs H Q _ h
  refine wpAny_call (codeAny_mono (F.goes X.A X.stack s H ⟨us, []⟩ ws zs Q (WE W σ) hA hr I.env0 (bd s I.kIn many) r h) ?_)
  intro res s' z
  match res, z with
  | .error er, z => exact passAt tk σ pins H s er s' I z
  | .ok (.ret u), z => exact I.after z
  | .ok .next, z => exact z.elim
  | .ok .brk, z => exact z.elim
  | .ok .cont, z => exact z.elim
theorem pg_callS (F : FnG X.prog X.w X.K X.mg X.base (L2.CX X.prog X.w) k f fd ps sp0) (hA : X.A.guards = some []) (hr : Room k X.A) (hg : Gl X x) (hm : X.mg x = some (.ref f)) (hk : PySem.W.keepIn X.K (.ref f) = true) (hb : Binds X.K fd ps []) (tk : Takes X W)
    (ha : PA X (e :: es) t) (hdb : (x == ("__debug__" : Str)) = false) (he : starEach (e :: es) X.env = (false, eval e X.env) :: starEach es X.env) (hpl : (backTo pos (starEach es X.env)).any (·.1) = false) :
    PE X (.Call (.Name x p) (e :: es) [] pos) (fun σ H Q => t σ H fun vs H1 => sp0 vs H1 Q (WE W σ)) := by
  constructor
  intro pins s σ H Q I h
  apply wpAny_Call_Name_kw
  refine ld_glob I hg hm ?_ hdb
  refine PySem.W.callWith_K (h₀ := X.base) I.ok.mod.kin hk (thn (ha.run pos pins s σ H _ I h) ?_) he hpl
  rintro us s1 ⟨vs, H1, I1, r, q⟩
  exact ⟨I1.kIn, goes_fnS F hA hr (fun s2 i l => by simpa using hb s2 us i (by simpa using l)) tk I1 r q⟩
end
structure CalX (P : Program) (w : World) (K : PySem.W.Frag) (mg : Str → Option Value) (base : Heap) (x : Str) (k : Nat) (ps : List Str) (sp : SpX) : Prop where
  ex : ∃ f fd, FnG P w K mg base (L2.CX P w) k f fd ps (SpOfX K sp) ∧ mg x = some (.ref f) ∧ PySem.W.keepIn K (.ref f) = true ∧ Binds K fd ps []
theorem calX_mk {P : Program} {w : World} {K : PySem.W.Frag} {mg : Str → Option Value} {base : Heap} {x : Str} {st : Stmt} {N ps : List Str} {k : Nat} {sp : SpX} (d : Def K mg x st) (sc : FnScope N ps (defScope st)) (len : ∀ ds G Q E, sp ds G Q E → ds.length = ps.length)
    (bi : ∀ (kV doc pm : Value) (an : Option Addr) (cdv ct : Value) (us : List Value), us.length = ps.length → bindArgs (PySem.W.fnOf x x (defArgs st) (defBody st) (defScope st) .none kV doc pm an cdv ct) ⟨us, []⟩ = pure (ps.zip us))
    (hb : ∀ (f : Addr) (cdv : Value) (A : Around) (outer : List Env) (s : Shared) (H : Hp) (E : XK), A.guards = some [] → Room k (A.deeper (envOfC x (defScope st) s.heap.objs.size f cdv)) →
      ∃ t', DPsX (cxOf (L2.CX P w) P w K mg base N x (defScope st) f cdv A outer s H E) (defBody st) t' ∧ ∀ ds G Q E', sp ds G Q E' → t' (fin Q) (finX E') (dstart N ds) G) : CalX P w K mg base x (k + 1) ps sp := by
  obtain ⟨f, fd, Fu, hm⟩ := d.ex
  exact ⟨f, fd, fnX_mk Fu sc len (hb f), hm, Fu.kp, Fu.binds bi⟩
theorem dex_cal {x : Str} {k : Nat} {ps : List Str} {sp : SpX} {p : Pos} {e : Expr} {es : List Expr} {ta : DTA} (c : CalX X.prog X.w X.K X.mg X.base x k ps sp) (hA : X.A.guards = some []) (hr : Room k X.A) (ha : DA X (e :: es) ta) (hg : Gl X x := by rfl) (hdb : (x == ("__debug__" : Str)) = false := by decide)
    (he : starEach (e :: es) X.env = (false, eval e X.env) :: starEach es X.env := by rfl) (hpl : (backTo pos (starEach es X.env)).any (·.1) = false := by rfl) : DEX X (.Call (.Name x p) (e :: es) [] pos) (fun S G Q E => ta S G fun ds G1 => sp ds G1 Q E) := ⟨fun W tk => by
  obtain ⟨f, fd, Fn, hm, hk, hb⟩ := c.ex
  obtain ⟨t1, p1, r1⟩ := ha.ex
  refine ⟨_, pg_callS Fn hA hr hg hm hk hb tk p1 hdb he hpl, fun F H σ S G o Q' E' h Q k kx => ?_⟩
  refine r1 F H σ S G o _ h _ fun F1 H1 vs ds G1 e1 g1 q1 h1 => ?_
  exact ⟨F1, G1, ds, Q', E', g1, q1, h1, k.mono e1, fun F' H' G' cls d C fs a b c q => kx F' H' G' cls d C fs (e1.trans a) b c q⟩⟩
end
end DL
namespace DL
open PySem PySem.Spec PyProof.Rows L2
end DL
end
section
set_option Elab.async false
set_option linter.all false
set_option maxRecDepth 100000
set_option maxHeartbeats 4000000
namespace DL
open PySem PySem.Spec PyProof.Rows L2
/-- in a suite: what is known of the error stands beside the state -/
structure DEE (X : Cx) (xr : Hp → Hp → GH → Prop) (e : Expr) (t' : DTE) : Prop where
  ex : ∃ t, PE X e t ∧ ∀ F H σ S G, Ok X.K F H σ S G → xr F H G → ∀ Q', t' S G Q' → ∀ Q, KpE X.K F H G Q' Q → t σ H Q
structure DAE (X : Cx) (xr : Hp → Hp → GH → Prop) (es : List Expr) (t' : DTA) : Prop where
  ex : ∃ t, PA X es t ∧ ∀ F H σ S G, Ok X.K F H σ S G → xr F H G → ∀ Q', t' S G Q' → ∀ Q, KpA X.K F H G Q' Q → t σ H Q
structure DPsE (X : Cx) (xr : Hp → Hp → GH → Prop) (st : List Stmt) (t' : DTS) : Prop where
  ex : ∃ t, PSs X st t ∧ ∀ F H σ S G, Ok X.K F H σ S G → xr F H G → ∀ D', t' D' S G → ∀ D0, KpS X.K F H G D' D0 → t D0 σ H
def Keeps (xr : Hp → Hp → GH → Prop) : Prop := ∀ F H G F' H' G', Go F H G F' H' G' → xr F H G → xr F' H' G'
theorem xrep_keeps {K : PySem.W.Frag} {cls : Value} {d : Option Addr} {C : Addr} {fs : XFs} : Keeps (fun F H G => XRep K F H G cls d C fs) := fun F H G F' H' G' e h => by
  refine ⟨h.1, h.2.imp id ?_⟩
  rintro ⟨dx, vs, h1, h2, h3, h0, h4, h5⟩
  obtain ⟨a, b⟩ := e.fr dx _ h2 h3
  exact ⟨dx, vs, h1, a, b, h0, h4, h5.mono e.ex⟩
section
variable {X : Cx} {xr : Hp → Hp → GH → Prop} {pos : Pos}
theorem dee_of {e : Expr} {t : DTE} (h : DE X e t) : DEE X xr e t := by
  obtain ⟨t1, p1, r1⟩ := h.ex
  exact ⟨t1, p1, fun F H σ S G o _ Q' h Q k => r1 F H σ S G o Q' h Q k⟩
theorem dae_nil : DAE X xr [] dNil := ⟨_, pa_nil, fun F H σ S G o _ Q' h Q k => k F H [] [] G Go.refl o.g .nil h⟩
theorem dae_cons {e : Expr} {es : List Expr} {ta : DTE} {tr : DTA} (kp : Keeps xr) (ha : DEE X xr e ta) (hr : DAE X xr es tr) (hs : starEach (e :: es) X.env = (false, eval e X.env) :: starEach es X.env := by rfl) : DAE X xr (e :: es) (dCons ta tr) := by
  obtain ⟨t1, p1, r1⟩ := ha.ex
  obtain ⟨t2, p2, r2⟩ := hr.ex
  refine ⟨_, pa_cons p1 p2 hs, fun F H σ S G o x Q' h Q k => ?_⟩
  refine r1 F H σ S G o x _ h _ fun F1 H1 v d G1 e1 g1 q1 h1 => ?_
  refine r2 F1 H1 σ S G1 (o.go e1 g1) (kp _ _ _ _ _ _ e1 x) _ h1 _ fun F2 H2 vs ds G2 e2 g2 q2 h2 => ?_
  exact k F2 H2 _ _ G2 (e1.trans e2) g2 (.cons (q1.mono e2.ex) q2) h2
theorem dee_lst {es : List Expr} {ta : DTA} (h : DAE X xr es ta) : DEE X xr (.List es pos) (dLst ta) := by
  obtain ⟨t, p, r⟩ := h.ex
  refine ⟨_, pe_lst p, fun F H σ S G o x Q' h Q k => ?_⟩
  refine r F H σ S G o x _ h _ fun F1 H1 vs ds G1 e1 g1 q1 h1 => ?_
  refine ⟨q1.length ▸ h1.1, fun p hp => ?_⟩
  have gr : Gr F1 H1 (upd F1 p (.lst vs)) (upd H1 p (.lst vs)) := Gr.new g1.ex hp
  exact k _ _ _ _ G1 (e1.trans gr.go) (g1.grow gr) (.lst upd_same (q1.mono gr.ff)) h1.2
theorem dpse_asg {tg e : Expr} {te : DTE} {g : DTG} (he : DEE X xr e te) (hg : DG X tg g) (hs : swapsWithSole [tg] e pos.line X.env = pure false := by rfl) (hw : swappedStores [tg] e X.env = pure none := by rfl)
    (h1 : (assignEach [tg] X.env).map (·.2) = [assign tg X.env] := by rfl) : DPsE X xr [.Assign [tg] e pos] (dAsg te g) := by
  obtain ⟨t1, p1, r1⟩ := he.ex
  obtain ⟨t2, p2, r2⟩ := hg.ex
  refine ⟨_, pss_one (ps_asg p1 p2 hs hw h1), fun F H σ S G o x D' h D0 k => ?_⟩
  refine r1 F H σ S G o x _ h _ fun F1 H1 v d G1 e1 g1 q1 h1 => ?_
  exact r2 F1 H1 σ S G1 v d (o.go e1 g1) q1 _ h1 _ (k.nx.mono e1)
def dTryAs (K : PySem.W.Frag) (C : Addr) (i : Nat) (tb : DTSX) (ts : Addr → XFs → Addr → DTS) : DTS := fun D' S G => tb D' (fun S1 C1 fs G1 => PySem.W.exmOne K (.ref C1) (.ref C) = some true ∧
  ∀ a, ts C1 fs a { nx := fun S2 G2 => D'.nx (S2.set i none) G2, rt := D'.rt, bk := fun S2 G2 => D'.bk (S2.set i none) G2, ct := fun S2 G2 => D'.ct (S2.set i none) G2 } (S1.set i (some (.rf a))) G1) S G
theorem dp_try_as {x n : Str} {C : Addr} {i : Nat} {body suite : List Stmt} {b₀ : Stmt} {np pos' : Pos} {tb : DTSX} {ts : Addr → XFs → Addr → DTS} (hx : ∀ e s, X.xe e s ↔ False) (hs : X.stack = X.env :: X.outer) (hf : X.env.frame = some X.env.locals) (hN : X.N.Nodup) (hi : X.N[i]? = some n) (hln : X.env.kindOf n = some .local)
    (hg : Gl X x) (hm : X.mg x = some (.ref C)) (hdb : (x == ("__debug__" : Str)) = false)
    (hb : ∀ (pn : List (Addr × Obj)) (xe : Value → Shared → Prop), DPsX (X.tr pn xe) body tb)
    (hsu : ∀ (a : Addr) (oe : Obj) (d : Option Addr) (pn : List (Addr × Obj)) (C1 : Addr) (fs : XFs), Zc (.ref C1) d oe → (∃ vs, oe.data = .fields vs) → DPsE (X.suite a ((a, oe) :: pn)) (fun F H G => XRep X.K F H G (.ref C1) d C1 fs) (b₀ :: suite) (ts C1 fs a)) :
    DP X (.Try body [.ExceptHandler (some (.Name x np)) (some n) (b₀ :: suite) pos'] [] [] pos) (dTryAs X.K C i tb ts) := by
  have tk : Takes X (fun _ _ _ _ => False) := fun u s' ⟨_, _, _, _, _, _, _, _, _, _, _, _, _, _, _, _, z⟩ => z.elim
  refine ⟨_, ps_try_as (c := .ref C) (i := i) (tb := fun W D σ H => ∀ pn xe, Takes (X.tr pn xe) W → PassesOwn (model X.prog X.w) X.A X.env xe → ∃ t, PSs (X.tr pn xe) body t ∧ t D σ H)
    (ts := fun a cls d D σ H => ∀ oe pn, Zc cls d oe → (∃ vs, oe.data = .fields vs) → ∃ t, PSs (X.suite a ((a, oe) :: pn)) (b₀ :: suite) t ∧ t D σ H) (Wout := fun _ _ _ _ => False) hs hf hN hi hln ⟨hg, hdb, .inl hm⟩ tk
    (fun W pn xe tkw pw => ⟨fun pins s σ H D I h => ?_⟩) (fun a oe cls d pn hz hv => ⟨fun pins s σ H D I h => ?_⟩), fun F H σ S G o D' h D0 k => ?_⟩
  · obtain ⟨t, p, q⟩ := h pn xe tkw pw
    exact p.run pins s σ H D I q
  · obtain ⟨t, p, q⟩ := h oe pn hz hv
    exact p.run pins s σ H D I q
  · intro pn xe tkw pw
    obtain ⟨t, p, r⟩ := (hb pn xe).ex _ tkw
    refine ⟨t, p, r F H σ S G o D' _ h D0 k ?_⟩
    intro F1 H1 σ1 S1 G1 cls d C1 fs e1 o1 xr hE
    obtain ⟨hb1, hE⟩ := hE
    have hc := xr.1
    subst hc
    refine ⟨true, hb1, fun _ a na => ?_, fun z => by cases z⟩
    intro oe pn2 hz hv
    obtain ⟨t2, p2, r2⟩ := (hsu a oe d pn2 C1 fs hz hv).ex
    refine ⟨t2, p2, r2 F1 H1 _ (S1.set i (some (.rf a))) G1 ⟨o1.g, o1.s.set (.rf a) i⟩ xr _ (hE a) _ ⟨?_, k.rt.mono e1, ?_, ?_⟩⟩
    · exact fun F2 H2 σ2 S2 G2 e2 o2 h2 => k.nx F2 H2 _ _ G2 (e1.trans e2) ⟨o2.g, o2.s.setN none i⟩ h2
    · exact fun F2 H2 σ2 S2 G2 e2 o2 h2 => k.bk F2 H2 _ _ G2 (e1.trans e2) ⟨o2.g, o2.s.setN none i⟩ h2
    · exact fun F2 H2 σ2 S2 G2 e2 o2 h2 => k.ct F2 H2 _ _ G2 (e1.trans e2) ⟨o2.g, o2.s.setN none i⟩ h2
end
end DL
end
section
set_option Elab.async false
set_option linter.all false
set_option maxRecDepth 100000
set_option maxHeartbeats 4000000
namespace DL
open PySem PySem.Spec PyProof.Rows L2
abbrev FnX : Type := Option (Str × Str × Arguments × FuncBody × Scope × Addr × List Str × Addr)
def fnXo (K : PySem.W.Frag) (a : Addr) : FnX := match K.lookup a with
  | some ⟨_, _, .func fd, _⟩ => some (fd.name, fd.qualname, fd.params, fd.body, fd.scope, fd.globals, fd.closure.map (·.1), fd.builtins)
  | _ => none
/-- the __init__ of an own error -/
structure ErrD where
  cls : Str
  qual : Str
  params : Arguments
  body : List Stmt
  scope : Scope
def ErrD.val (d : ErrD) : FnX := some ("__init__", d.qual, d.params, .stmts d.body, d.scope, mainGlobals, ["__class__"], builtinsNs)
def eI (K : PySem.W.Frag) (x : Str) : Addr := He.ma K (He.ga K x) "__init__"
def okC (K : PySem.W.Frag) (fl : Str) (C : Addr) (fI : Addr) : Bool := match K.lookup fI with
  | some ⟨_, _, .func fd, _⟩ => (match fd.closure, fd.code, fd.defaults with
    | [(_, cc)], .ref cda, .none => (match K.lookup cc with
        | some ⟨_, _, .cell (some (.ref C')), _⟩ => decide (C' = C)
        | _ => false) && ((match K.lookup cda with
        | some ⟨_, _, .fields vs, _⟩ => (match (vs[2]? : Option Value) with
          | some (Value.str file _) => fl == file
          | _ => false)
        | _ => false) && PySem.W.codeIn K (.ref cda) fd.qualname)
    | _, _, _ => false)
  | _ => false
def errB (K : PySem.W.Frag) (fl x : Str) : Bool :=
  PySem.W.excInitIn K (He.ga K x) exTl "Exception.__new__" && (PySem.W.keepIn K (.ref (He.ga K x)) && (He.eqO (PySem.W.findIn K (.ref (He.ga K x)) "__init__") (some (some (.ref (eI K x)))) && (okC K fl (He.ga K x) (eI K x) &&
  (decide (PySem.W.typeIn K (.ref (eI K x)) = some (.type "function")) && (decide (PySem.W.subIn K (.ref (He.ga K x)) (.type "BaseException") = some true) && (decide (PySem.W.typeIn K (.ref (He.ga K x)) = some (.type "type")) &&
  (decide (PySem.W.subIn K (.ref (He.ga K x)) (.type "Exception") = some true) && (decide (PySem.W.mroIn K (He.ga K x) (.ref (He.ga K x)) = some true) && (He.eqO (PySem.W.nsIn K mainGlobals "super") (some none) &&
  (He.eqO (PySem.W.nsIn K cStatics "thirdparty.any") (some none) && He.eqO (PySem.W.ks_superIn K (He.ga K x) (He.ga K x) "__init__") (some (some (.builtin "Exception.__init__")))))))))))))
theorem err_ok {K : PySem.W.Frag} {fl : Str} {d : ErrD} (hb : errB K fl d.cls = true) (hv : fnXo K (eI K d.cls) = d.val) : ∃ cc cda kV doc pm ct an, XCls K fl (He.ga K d.cls) d.qual d.params d.body d.scope (eI K d.cls) cc cda .none kV doc pm ct an := by
  unfold errB at hb
  simp only [Bool.and_eq_true, decide_eq_true_eq] at hb
  obtain ⟨h1, h2, h3, h4, h5, h6, h7, h8, h9, h10, h11, h12⟩ := hb
  unfold okC at h4
  unfold fnXo at hv
  cases q : K.lookup (eI K d.cls) with
  | none => rw [q] at hv; cases hv
  | some o =>
    obtain ⟨oc, od, dt, osl⟩ := o
    rw [q] at h4 hv
    cases dt with
    | func fd =>
      obtain ⟨n1, n2, n3, n4, n5, n6, n7, n8, n9, n10, n11, n12, n13, n14, n15⟩ := fd
      have e2 : (some (n1, n2, n3, n4, n5, n6, n7.map (·.1), n15) : FnX) = (some ("__init__", d.qual, d.params, FuncBody.stmts d.body, d.scope, mainGlobals, ["__class__"], builtinsNs) : FnX) := hv
      simp only [Option.some.injEq, Prod.mk.injEq] at e2
      obtain ⟨z1, z2, z3, z4, z5, z6, z7, z8⟩ := e2
      subst z1 z2 z3 z4 z5 z6 z8
      dsimp only at h4
      split at h4
      · rename_i c0 cc cda
        have z7' : c0 = "__class__" := by simpa using z7
        subst z7'
        simp only [Bool.and_eq_true] at h4
        obtain ⟨k1, k2, k3⟩ := h4
        refine ⟨cc, cda, n9, n10, n11, n14, n12, ⟨h1, h2, He.eqO_ok h3, ⟨_, _, _, q⟩, h5, ?_, ?_, k3, h6, h7, h8, h9, He.eqO_ok h10, He.eqO_ok h11, He.eqO_ok h12⟩⟩
        · split at k1
          · rename_i C' e
            simp only [decide_eq_true_eq] at k1
            subst k1
            exact ⟨_, _, _, e⟩
          · cases k1
        · split at k2
          · rename_i vs e
            split at k2
            · rename_i file tf e5
              exact ⟨_, _, _, _, _, _, e, e5, k2⟩
            · cases k2
          · cases k2
      · cases h4
    | _ => cases hv
/-- an own error as the parts know it -/
structure ErrC (P : Program) (K : PySem.W.Frag) (mg : Str → Option Value) (C : Addr) (x qual : Str) (st : Stmt) : Prop where
  ex : ∃ fI cc cda kV doc pm ct an, XCls K P.main.file C qual (defArgs st) (defBody st) (defScope st) fI cc cda .none kV doc pm ct an
  mg_ : mg x = some (.ref C)
  su : mg "super" = none
  top : (P.main.scope.names.lookup ("super" : Str)).isSome = false
def excCB (K : PySem.W.Frag) (C : Addr) : Bool := He.eqO (PySem.W.findIn K (.ref C) "__getattribute__") (some (some (.builtin "BaseException.__getattribute__"))) && (He.eqO (PySem.W.findIn K (.ref C) "__getattr__") (some none) &&
  (decide (PySem.W.subIn K (.ref C) (.type "BaseException") = some true) && (PySem.W.hasDictIn K C && (He.eqO (PySem.W.findIn K (.ref C) "__class__") (some (some (.builtin "object.__class__"))) &&
  (He.eqO (PySem.W.specialIn K (.builtin "object.__class__") "__get__") (some (some (.builtin "getset_descriptor.__get__"))) && (decide (PySem.W.takesIn K (.builtin "object.__class__") = some true) && decide (PySem.W.mroIn K C (.type "object") = some true)))))))
theorem excCB_ok {K : PySem.W.Frag} {C : Addr} (h : excCB K C = true) : ExcC K C := by
  unfold excCB at h
  simp only [Bool.and_eq_true, decide_eq_true_eq] at h
  obtain ⟨h1, h2, h3, h4, h5, h6, h7, h8⟩ := h
  exact ⟨He.eqO_ok h1, He.eqO_ok h2, h3, h4, He.eqO_ok h5, He.eqO_ok h6, h7, h8⟩
/-- the error at C, and CE above it -/
structure IsE (K : PySem.W.Frag) (C CE : Addr) : Prop where
  c : ExcC K C
  k : PySem.W.kitOne K (.ref C) (.ref CE) = some true
  m : PySem.W.exmOne K (.ref C) (.ref C) = some true
def isEB (K : PySem.W.Frag) (C CE : Addr) : Bool := excCB K C && (decide (PySem.W.kitOne K (.ref C) (.ref CE) = some true) && decide (PySem.W.exmOne K (.ref C) (.ref C) = some true))
theorem isEB_ok {K : PySem.W.Frag} {C CE : Addr} (h : isEB K C CE = true) : IsE K C CE := by
  unfold isEB at h
  simp only [Bool.and_eq_true, decide_eq_true_eq] at h
  exact ⟨excCB_ok h.1, h.2.1, h.2.2⟩
def cellsG (g : Addr → Option Obj) (as : List Addr) : List Addr := as.flatMap fun a => match g a with
  | some ⟨_, _, .func fd, _⟩ => fd.closure.map (·.2)
  | _ => []
abbrev AlX : Type := AlE × List FnX
abbrev YsX : Type := List ((PySem.W.Frag → Addr) × FnX)
def obsX (fa : List He.Fa) (fn : List He.DefD) (ex : PySem.W.Frag → Bool) (ys : YsX) (K : PySem.W.Frag) : AlX := (obsE fa fn ex K, ys.map fun p => fnXo K (p.1 K))
def obsXG (n : Nat) (fa : List He.Fa) (fn : List He.DefD) (ex : PySem.W.Frag → Bool) (ys : YsX) (g : Addr → Option Obj) : AlX := obsX fa fn ex ys (He.frG g (cStatics :: sysModules :: (He.asD g n ++ cellsG g (He.asD g n))))
def hookX (n : Nat) (fa : List He.Fa) (fn : List He.DefD) (ex : PySem.W.Frag → Bool) (ys : YsX) : PySem.W.Hook where
  α := AlX
  obs := fun s => obsXG n fa fn ex ys s.heap.get?
  val := fun _ => (((He.valD fn, true), ys.map Prod.snd) : AlX)
  says := fun _ h => ∃ K : PySem.W.Frag, K.In h ∧ He.SaysD fa fn K ∧ ex K = true ∧ (ys.map fun p => fnXo K (p.1 K)) = ys.map Prod.snd
  of := fun _ _ e => ⟨_, He.frG_in, congrArg (fun z : AlX => z.1.1) e, congrArg (fun z : AlX => z.1.2) e, congrArg Prod.snd e⟩
  keeps := fun _ _ _ ⟨K, hK, c⟩ k => ⟨K, PySem.W.Frag.In.keeps hK k, c⟩
theorem obsXG_eq {n : Nat} {fa : List He.Fa} {fn : List He.DefD} {ex : PySem.W.Frag → Bool} {ys : YsX} {g : Addr → Option Obj} {s : Shared} (h : ∀ a, g a = s.heap.get? a) : obsXG n fa fn ex ys g = (hookX n fa fn ex ys).obs s := by
  have e : g = s.heap.get? := funext h
  rw [e] <;> rfl
theorem ysX {K : PySem.W.Frag} {ys : YsX} (h : (ys.map fun p => fnXo K (p.1 K)) = ys.map Prod.snd) (i : Nat) {p : (PySem.W.Frag → Addr) × FnX} (e : ys[i]? = some p) : fnXo K (p.1 K) = p.2 := by
  have e2 : (ys.map fun p => fnXo K (p.1 K))[i]? = (ys.map Prod.snd)[i]? := by rw [h]
  rw [List.getElem?_map, List.getElem?_map, e] at e2
  exact Option.some.inj e2
end DL
end
section
set_option Elab.async false
set_option linter.all false
set_option maxRecDepth 100000
set_option maxHeartbeats 4000000
namespace DL
open PySem PySem.Spec PyProof.Rows L2 PySem.Calls
/-- own classes, then Exception's own line -/
def refsX : List Value → Bool
  | .ref _ :: r => refsX r
  | l => l == exTl
theorem refsX_cases : ∀ l : List Value, refsX l = true → (∃ c r, l = .ref c :: r ∧ refsX r = true) ∨ l = exTl
  | [], e => .inr (beq_iff_eq.mp e)
  | .ref c :: r, e => .inl ⟨c, r, rfl, e⟩
  | .none :: _, e => .inr (beq_iff_eq.mp e)
  | .ellipsis :: _, e => .inr (beq_iff_eq.mp e)
  | .notImplemented :: _, e => .inr (beq_iff_eq.mp e)
  | .bool _ :: _, e => .inr (beq_iff_eq.mp e)
  | .int _ _ :: _, e => .inr (beq_iff_eq.mp e)
  | .float _ _ :: _, e => .inr (beq_iff_eq.mp e)
  | .str _ _ :: _, e => .inr (beq_iff_eq.mp e)
  | .bytes _ _ :: _, e => .inr (beq_iff_eq.mp e)
  | .type _ :: _, e => .inr (beq_iff_eq.mp e)
  | .builtin _ :: _, e => .inr (beq_iff_eq.mp e)
section
open Builtin Builtin.ObjectAttr
theorem refsX_pass (self : Value) : ∀ l : List Value, refsX l = true → refuseLoop self "__setattr__" l = pure () := by
  intro l
  induction l with
  | nil => intro e; exact absurd e (by decide)
  | cons a r ih =>
    intro e
    rcases refsX_cases (a :: r) e with ⟨c, r', q, h⟩ | q
    · obtain ⟨rfl, rfl⟩ := List.cons.inj q
      rw [refuseLoop_ref]; exact ih h
    · rw [q]; exact F.store_Exception.passes self
end
theorem refsX_contains (X : String) : ∀ l : List Value, refsX l = true → l.contains (.type X) = exTl.contains (.type X) := by
  intro l
  induction l with
  | nil => intro e; exact absurd e (by decide)
  | cons a r ih =>
    intro e
    rcases refsX_cases (a :: r) e with ⟨c, r', q, h⟩ | q
    · obtain ⟨rfl, rfl⟩ := List.cons.inj q
      rw [List.contains_cons, ih h]; rfl
    · rw [q]
theorem refsX_ne {l : List Value} (e : refsX l = true) : l.isEmpty = false := by
  cases l with
  | nil => exact absurd e (by decide)
  | cons _ _ => rfl
/-- what is asked of the class for its attribute f to be stored -/
structure XAtt (K : PySem.W.Frag) (C : Addr) (f : Str) : Prop where
  cd : ∃ cd, PySem.W.clsIn K C = some cd ∧ refsX cd.mro = true ∧ cd.hasDict = true
  sa : PySem.W.findIn K (.ref C) "__setattr__" = some (some (.builtin "object.__setattr__"))
  no : PySem.W.findIn K (.ref C) f = some none
def xattB (K : PySem.W.Frag) (C : Addr) (f : Str) : Bool := (match PySem.W.clsIn K C with
  | some cd => refsX cd.mro && cd.hasDict
  | none => false) && (He.eqO (PySem.W.findIn K (.ref C) "__setattr__") (some (some (.builtin "object.__setattr__"))) && He.eqO (PySem.W.findIn K (.ref C) f) (some none))
theorem xattB_ok {K : PySem.W.Frag} {C : Addr} {f : Str} (h : xattB K C f = true) : XAtt K C f := by
  unfold xattB at h
  simp only [Bool.and_eq_true] at h
  obtain ⟨h1, h2, h3⟩ := h
  refine ⟨?_, He.eqO_ok h2, He.eqO_ok h3⟩
  split at h1
  · rename_i cd e
    simp only [Bool.and_eq_true] at h1
    exact ⟨cd, e, h1.1, h1.2⟩
  · cases h1
section
open Builtin Builtin.ObjectAttr
variable {prog : Program} {w : World} {A : Around} {E : Value → Shared → Prop} {R : Result → Shared → Prop} {hp : Heap} {g : Array GenState} {d : Drawn} {t : Nat} {os : OsState}
theorem osaX {K : PySem.W.Frag} {name : Str} {tk : Tok} {v : Value} {x C : Addr} {fv : Array Value} {cd : ClassData}
    (X : K.In hp) (hx : hp.get? x = some { cls := .ref C, data := .fields fv }) (hcd : PySem.W.clsIn K C = some cd) (hm : refsX cd.mro = true) (hh : cd.hasDict = true) (ha : PySem.W.findIn K (.ref C) name = some none)
    (hq : ∀ h' tk' dx, (∀ b o, b ≠ x → hp.get? b = some o → h'.get? b = some o) → hp.objs.size ≤ dx → dx ≠ x → h'.get? x = some { cls := .ref C, dict := some dx, data := .fields fv } →
      h'.Ns1 dx (fun y => if y = name then some v else none) → R (.ok (.ret .none)) ⟨h', g, d, tk', os⟩) :
    codeAny (model prog w) A (.call (.builtin "object.__setattr__") ⟨[.ref x, .str name tk, v], []⟩) R ⟨hp, g, d, t, os⟩ := by
  have I : PySem.W.InstAt hp x { cls := .ref C, data := .fields fv } C none := ⟨hx, rfl, rfl, trivial⟩
  have SF := F.store_object
  have ne := refsX_ne hm
  have hob : cd.mro.contains (.type "object") = true := (refsX_contains "object" _ hm).trans (by decide +kernel)
  have hxs : x ≠ hp.objs.size := Nat.ne_of_lt (Heap.lt_size hx)
  have sub : PySem.W.Looks (model prog w) hp (isInstance (.ref x) (.type "object")) true := I.type.andThen (PySem.W.looks_mroIn X (by unfold PySem.W.mroIn; rw [hcd, Option.bind_some, if_neg (by rw [ne]; decide), hob]))
  refine codeAny_call_builtin SF.slot.plain SF.entry (@PySem.W.check_slot (model prog w) _ _ ⟨hp, g, d, t, os⟩ "object.__setattr__" "object" "__setattr__" (.ref x) [.str name tk, v] [] _ SF.kind SF.split sub (SF.args (.ref x) (.str name tk) v) ?_)
  have hmr : PySem.W.Looks (model prog w) hp (mroOf (.ref C)) cd.mro := (PySem.W.looks_clsIn X hcd).andThen .now
  have L3 : PySem.W.Looks (model prog w) hp (storeTaker? none) none := .now
  have hcls : PySem.W.Looks (model prog w) hp (classData C) cd := PySem.W.looks_clsIn X hcd
  rw [PySem.W.osa_eq, refuse_eq]
  refine wpAny_bind (wpAny_bind (I.type.at (wpAny_bind (hmr.at ?_))))
  rw [refsX_pass _ _ hm]
  refine wpAny_pure (wpAny_bind (I.type.at (wpAny_bind ((PySem.W.looks_findIn X ha).at (wpAny_bind (L3.at ?_))))))
  show wpAny _ _ (storeInOwnDict (.ref x) (.ref C) (.str name tk) name v false) _ _ _
  obtain ⟨nm, bs, mro, ns, qn, hd, sn, sb, ab, col, del⟩ := cd
  dsimp only at hh
  subst hh
  unfold storeInOwnDict ownDictForStores
  repeat (first | with_reducible refine HandSPX.store_in_new ?_ ?_ | with_reducible refine wpAny_loadPart_at hx ?_ | with_reducible refine hcls.at ?_ | wp_step)
  · exact ⟨_, #[], _, (Heap.get?_update_ne _ _ _ _ hxs.symm).trans (Heap.get?_push_at rfl rfl), rfl, fun e he => absurd he (by simp), fun _ => rfl⟩
  · intro h' tk' hn' hs
    have hx₁ : (hp.push { cls := .type "dict", data := .dict #[] }).get? x = some { cls := .ref C, data := .fields fv } := Heap.get?_push_of_some _ hx
    refine hq h' tk' hp.objs.size (fun b o hb ho => ?_) (Nat.le_refl _) hxs.symm ?_ hn'
    · exact (hs.2 b (Nat.ne_of_lt (Heap.lt_size ho))).trans ((Heap.get?_update_ne _ _ _ _ hb).trans (Heap.get?_push_of_some _ ho))
    · exact (hs.2 x hxs).trans (Heap.get?_update_self _ hx₁ rfl)
end
section
variable {P : Program} {w : World} {K : PySem.W.Frag} {fl : Str} {C : Addr} {qual : Str} {params : Arguments} {body : List Stmt} {scope : Scope} {fI cc cda : Addr} {dV kV doc pm ct : Value} {an : Option Addr}
/-- such an __init__ with one store: self.f = x -/
theorem init_runs1 {A : Around} {R : Result → Shared → Prop} {h base : Heap} {g : Array GenState} {d : Drawn} {t : Nat} {os : OsState} {mg : Str → Option Value} {e t0 : Addr} {ar : Arg} {msg f x : Str} {j : Nat} {p0 p1 p2 p3 p4 p5 q0 q1 q2 q3 : Pos} {us : List Value} {u : Value} {binds : List (Str × Value)}
    (T : XCls K fl C qual params body scope fI cc cda dV kV doc pm ct an) (TA : XAtt K C f)
    (hbody : body = [.Expr (.Call (.Attribute (.Call (.Name "super" p0) [] [] p1) "__init__" p2) [.Constant (.str msg) j p3] [] p4) p5, .Assign [.Attribute (.Name ar.arg q0) f q1] (.Name x q2) q3]) (X : K.In h) (M : Mod K mg base) (kb : ∀ b o, base.get? b = some o → h.get? b = some o) (hmg : mg "super" = none)
    (he : h.get? e = some (HandSPX.excO C t0)) (hKe : K.lookup e = none) (hd : A.depth < recursionLimit)
    (hb : ∀ (s : Shared) (oc : Value), BindsTo s (PySem.W.fnX "__init__" qual params body scope [("__class__", cc)] dV kV doc pm an (.ref cda) ct) ⟨.ref e :: us, []⟩ binds) (hloc : ∀ y ∈ binds, scope.names.lookup y.1 = some .local) (hself : binds.reverse.lookup ar.arg = some (.ref e)) (hx : binds.reverse.lookup x = some u)
    (hp : (params.posonlyargs ++ params.args).head? = some ar) (hk : scope.kind = .function) (hks : scope.names.lookup ("super" : Str) = some .globalImplicit) (hkc : scope.names.lookup ("__class__" : Str) = some .free) (hka : scope.names.lookup ar.arg = some .local) (hkx : scope.names.lookup x = some .local)
    (hda : (ar.arg == ("__debug__" : Str)) = false) (hdx : (x == ("__debug__" : Str)) = false)
    (hcell : ∀ x ∈ scope.names, x.2 ≠ .cell) (hco : scope.isCoroutine = false) (hgen : scope.isGenerator = false)
    (ht : SupT msg j p0 p1 p2 p3 p4) (hfile : P.main.file = fl) (htop : (P.main.scope.names.lookup ("super" : Str)).isSome = false)
    (hq : ∀ h' t' t1 dx, (∀ b o, b ≠ e → h.get? b = some o → h'.get? b = some o) → h.objs.size ≤ dx → dx ≠ e → h'.get? e = some { cls := .ref C, dict := some dx, data := .fields #[.ref t1, .none, .none, .none, .bool false, .none] } → h'.Ns1 dx (fun y => if y = f then some u else none) → R (.ok (.ret .none)) ⟨h', g, d, t', os⟩) :
    codeAny (model P w) A (.call (.ref fI) ⟨.ref e :: us, []⟩) R ⟨h, g, d, t, os⟩ := by
  obtain ⟨oc, od, osl, lk⟩ := T.fn
  obtain ⟨cdC, c1, c2, c3⟩ := TA.cd
  have nl : h.NoLimit := M.nolimit.keeps kb
  refine PySem.ks_codeAny_call_defAt (fd := PySem.W.fnX "__init__" qual params body scope [("__class__", cc)] dV kV doc pm an (.ref cda) ct) (body := body) (binds := binds) hd (X _ _ lk) rfl nl (PySem.W.codeRec_of X T.cd) rfl (hb _ .none) hcell hloc (fun h1 hns kk => ?_) hco hgen hk
  show PySem.wpAt _ _ _ (execs body (PySem.W.ksEnv qual scope h.objs.size fI (.ref cda) cc)) _ _ _
  have hLe : h.objs.size ≠ e := Ne.symm (Nat.ne_of_lt (Heap.lt_size he))
  rw [hbody]
  refine super_step T (X.keeps kk) M (fun b o z => kk b o (kb b o z)) hmg hns hself (kk _ _ he) hp hk hks hkc hka ht hfile htop fun h' t' t1 k2 e2 => ?_
  have hns2 : h'.Ns h.objs.size _ := Heap.Ns.at hns fun o z => k2 _ o hLe z
  have X2 : K.In h' := fun b o z => k2 b o (fun y => by rw [y, hKe] at z; cases z) (kk b o (X b o z))
  refine PySem.ks_wpAt_execs_cons (wpAt_of_wpAny (plainObj_wpAny_Assign_Attribute (wpAny_Name (wpAny_loadName_local hk hkx hns2 hx ?_) hdx) ?_))
  · refine wpAny_Name (wpAny_loadName_local hk hka hns2 hself ?_) hda
    refine PySem.W.set_plain X2 (ox := HandSPX.excO C t1) (od := none) ⟨e2, rfl, rfl, trivial⟩ TA.sa ?_
    refine osaX X2 e2 c1 c2 c3 TA.no fun h3 tk3 dx k3 sz3 ne3 he3 hn3 => ?_
    refine wpAt_of_wpAny (wpAny_execs_nil ?_)
    refine hq h3 tk3 t1 dx (fun b o hne z => k3 b o hne (k2 b o hne (kk b o z))) (Nat.le_trans ?_ sz3) ne3 he3 hn3
    obtain ⟨o, _, _, z, _⟩ := hns2
    exact Nat.le_of_lt (Heap.lt_size z)
  · rfl
/-- where E(a) is made -/
theorem pmk_sup1 {X : Cx} {fl : Str} {C : Addr} {qual x f y : Str} {params : Arguments} {body : List Stmt} {scope : Scope} {fI cc cda : Addr} {dV kV doc pm ct : Value} {an : Option Addr} {ar : Arg} {msg : Str} {j k : Nat} {p p0 p1 p2 p3 p4 p5 q0 q1 q2 q3 pos : Pos} {e1 : Expr} {ta : TA}
    (T : XCls X.K fl C qual params body scope fI cc cda dV kV doc pm ct an) (TA : XAtt X.K C f)
    (hbody : body = [.Expr (.Call (.Attribute (.Call (.Name "super" p0) [] [] p1) "__init__" p2) [.Constant (.str msg) j p3] [] p4) p5, .Assign [.Attribute (.Name ar.arg q0) f q1] (.Name y q2) q3])
    (hb : ∀ (s : Shared) (oc : Value) (e u : Value), BindsTo s (PySem.W.fnX "__init__" qual params body scope [("__class__", cc)] dV kV doc pm an (.ref cda) ct) ⟨[e, u], []⟩ [(ar.arg, e), (y, u)])
    (hay : (ar.arg == y) = false)
    (hp : (params.posonlyargs ++ params.args).head? = some ar) (hk : scope.kind = .function) (hks : scope.names.lookup ("super" : Str) = some .globalImplicit) (hkc : scope.names.lookup ("__class__" : Str) = some .free) (hka : scope.names.lookup ar.arg = some .local) (hkx : scope.names.lookup y = some .local)
    (hda : (ar.arg == ("__debug__" : Str)) = false) (hdy : (y == ("__debug__" : Str)) = false)
    (hcell : ∀ x ∈ scope.names, x.2 ≠ .cell) (hco : scope.isCoroutine = false) (hgen : scope.isGenerator = false)
    (ht : SupT msg j p0 p1 p2 p3 p4) (hfile : X.prog.main.file = fl) (htop : (X.prog.main.scope.names.lookup ("super" : Str)).isSome = false)
    (hr : Room (k + 1) X.A) (hg : Gl X x) (hm : X.mg x = some (.ref C)) (hmg : X.mg "super" = none) (hdb : (x == ("__debug__" : Str)) = false) (ha : PA X [e1] ta)
    (he : starEach [e1] X.env = [(false, eval e1 X.env)] := by rfl) :
    PMk X (.Call (.Name x p) [e1] [] pos) (fun σ H Q => ta σ H fun vs H1 => ∃ v, vs = [v] ∧ ∀ dx, H1 dx = none → Q (.ref C) (some dx) (upd H1 dx (.xd [(f, v)]))) := by
  intro pins s σ H Q I h
  refine wpAny_Call_Name_kw (ld_glob I hg hm ?_ hdb)
  refine PySem.W.callWith_K (h₀ := X.base) I.ok.mod.kin T.kC (thn (ha.run pos pins s σ H _ I h) fun us s1 ⟨vs, H1, I1, r1, q1⟩ => ⟨I1.kIn, ?_⟩) he rfl
  show wpAny _ _ (call (.ref C) us) _ _ _
  obtain ⟨v, rfl, q1⟩ := q1
  obtain ⟨u, rfl, ru⟩ : ∃ u, us = [u] ∧ RelV v u := by
    cases r1 with
    | cons a b => cases b; exact ⟨_, rfl, a⟩
  obtain ⟨hp0, g, dr, tk, os⟩ := s1
  obtain ⟨nm, N, qn, bs, bm, hdct, sn, sub, ab, col, dd, k0, k1, k2, k3, k5, hC, hT⟩ := PySem.W.excInit_of I1.kIn T.q
  have hsz : hp0.objs.size ≤ hp0.objs.size + 1 := Nat.le_succ _
  have hn : H1 (hp0.objs.size + 1) = none := I1.hok.fresh hsz
  have kk : ∀ b o, hp0.get? b = some o → ((hp0.push (PySem.W.kdv_tup [u])).push (PySem.HandSPX.excO C hp0.objs.size)).get? b = some o := fun b o e => Heap.get?_push_of_some _ (Heap.get?_push_of_some _ e)
  have hget : ((hp0.push (PySem.W.kdv_tup [u])).push (PySem.HandSPX.excO C hp0.objs.size)).get? (hp0.objs.size + 1) = some (PySem.HandSPX.excO C hp0.objs.size) := by heap_get
  have na : ∀ {b : Addr} {o : Obj}, hp0.get? b = some o → b ≠ hp0.objs.size + 1 := fun {b o} z => Nat.ne_of_lt (Nat.lt_of_lt_of_le (Heap.lt_size z) hsz)
  have hKe : X.K.lookup (hp0.objs.size + 1) = none := by
    cases z : X.K.lookup (hp0.objs.size + 1) with
    | none => rfl
    | some o => exact absurd rfl (na (I1.kIn _ _ z))
  refine wpAny_call (PySem.HandSPX.call_own F.excBase_Exception hT hC (PySem.W.looks_findIn I1.kIn T.iI) (fun self => PySem.W.bind_fn I1.kIn self T.tI) (by show 1 ≤ sizeLine; rw [sizeLine_eq]; omega)
    (init_runs1 (us := [u]) (u := u) (binds := [(ar.arg, .ref (hp0.objs.size + 1)), (y, u)]) T TA hbody (I1.kIn.keeps kk) I1.ok.mod (fun b o z => kk b o (I1.bk b o z)) hmg hget hKe (hr.make C [u] []).depth (fun s oc => hb s oc _ _) (fun z hz => ?_) ?_ ?_ hp hk hks hkc hka hkx hda hdy hcell hco hgen ht hfile htop fun h' t' t1 dx k3 sz3 ne3 e3 n3 => ?_))
  · simp only [List.mem_cons, List.not_mem_nil, or_false] at hz
    rcases hz with rfl | rfl
    · exact hka
    · exact hkx
  · show List.lookup ar.arg [(y, u), (ar.arg, _)] = _
    rw [List.lookup_cons, hay, List.lookup_cons]
    simp
  · show List.lookup y [(y, u), (ar.arg, _)] = _
    rw [List.lookup_cons]
    simp
  · refine ⟨rfl, ?_⟩
    have up : ∀ b o, hp0.get? b = some o → h'.get? b = some o := fun b o z => k3 b o (na z) (kk b o z)
    obtain ⟨G, g1, g2⟩ := restrict h' fun b => decide (b ≠ hp0.objs.size + 1)
    have gk : ∀ b, b ≠ hp0.objs.size + 1 → G.get? b = h'.get? b := fun b hb => g1 b (decide_eq_true hb)
    have ge : G.get? (hp0.objs.size + 1) = none := g2 _ (by simp)
    have szd : hp0.objs.size ≤ dx := Nat.le_trans (by simp [Heap.push]; omega) sz3
    have nd : H1 dx = none := I1.hok.fresh szd
    have J : Inv X pins σ (upd H1 dx (.xd [(f, v)])) ⟨G, g, dr, t', os⟩ := I1.laid (t' := t') (a := dx) (o := .xd [(f, v)]) (h' := G) (fun b o z => (gk b (na z)).trans (up b o z)) szd
      ⟨_, n3.at fun o z => (gk dx ne3).trans z, relO_put (fs := []) ru fun g => True.intro⟩
    refine ⟨hp0.objs.size + 1, _, _, ⟨G, g, dr, t', os⟩, _, .ref C, some dx, rfl, J, fun b o z => ?_, ge, e3, ⟨rfl, rfl⟩, rfl, rfl, ?_, rfl, I1.bare, raises_own T.xB T.xT, q1 dx nd⟩
    · by_cases hb : b = hp0.objs.size + 1
      · rw [hb] at z
        rw [show (Shared.heap ⟨G, g, dr, t', os⟩).get? (hp0.objs.size + 1) = none from ge] at z
        cases z
      · exact (gk b hb).symm.trans z
    · rw [upd_ne (Ne.symm ne3)]
      exact hn
end
section
variable {X : Cx} {pos : Pos}
/-- raise E(a) -/
theorem dpx_raise1 {p p0 p1 p2 p3 p4 p5 q0 q1 q2 q3 pos' : Pos} {x qual f y : Str} {C : Addr} {st : Stmt} {ar : Arg} {msg : Str} {j k : Nat} {e1 : Expr} {ta : DTA} (hc : X.calm = true) (c : ErrC X.prog X.K X.mg C x qual st) (TA : XAtt X.K C f) (hr : Room (k + 1) X.A) (ha : DA X [e1] ta)
    (hp : ((defArgs st).posonlyargs ++ (defArgs st).args).head? = some ar) (hbody : defBody st = [.Expr (.Call (.Attribute (.Call (.Name "super" p0) [] [] p1) "__init__" p2) [.Constant (.str msg) j p3] [] p4) p5, .Assign [.Attribute (.Name ar.arg q0) f q1] (.Name y q2) q3])
    (hb : ∀ (kV doc pm : Value) (an : Option Addr) (cdv ct : Value) (cl : List (Str × Addr)) (e u : Value), bindArgs (PySem.W.fnX "__init__" qual (defArgs st) (defBody st) (defScope st) cl .none kV doc pm an cdv ct) ⟨[e, u], []⟩ = pure [(ar.arg, e), (y, u)])
    (hay : (ar.arg == y) = false) (hk : (defScope st).kind = .function) (hks : (defScope st).names.lookup ("super" : Str) = some .globalImplicit) (hkc : (defScope st).names.lookup ("__class__" : Str) = some .free) (hka : (defScope st).names.lookup ar.arg = some .local) (hkx : (defScope st).names.lookup y = some .local)
    (hda : (ar.arg == ("__debug__" : Str)) = false) (hdy : (y == ("__debug__" : Str)) = false)
    (hcell : ∀ x ∈ (defScope st).names, x.2 ≠ .cell) (hco : (defScope st).isCoroutine = false) (hgen : (defScope st).isGenerator = false) (ht : SupT msg j p0 p1 p2 p3 p4)
    (hg : Gl X x := by rfl) (hdb : (x == ("__debug__" : Str)) = false := by decide) (he : starEach [e1] X.env = [(false, eval e1 X.env)] := by rfl) :
    DPX X (.Raise (some (.Call (.Name x p) [e1] [] pos)) none pos') (fun _ E' S G => ta S G fun ds G1 => ∃ d, ds = [d] ∧ E' S C [(f, d)] G1) := ⟨fun W tk => by
  obtain ⟨fI, cc, cda, kV, doc, pm, ct, an, T⟩ := c.ex
  obtain ⟨t1, pa, r1⟩ := ha.ex
  refine ⟨_, ps_raise hc tk (pmk_sup1 T TA hbody (fun s oc e u => BindsTo.of_eq (hb kV doc pm an (.ref cda) ct [("__class__", cc)] e u)) hay hp hk hks hkc hka hkx hda hdy hcell hco hgen ht rfl c.top hr hg c.mg_ c.su hdb pa he), fun F H σ S G o D' E' h D0 kn kx => ?_⟩
  refine r1 F H σ S G o _ h _ fun F1 H1 vs ds G1 e1 g1 q1 h1 => ?_
  obtain ⟨d, rfl, h1⟩ := h1
  cases q1 with
  | cons rv b =>
    cases b
    rename_i v
    refine ⟨v, rfl, fun dx hd => ?_⟩
    have gr := Gr.only (u := .xd [(f, v)]) g1.ex hd
    exact kx F1 _ σ S G1 _ _ C [(f, d)] (e1.trans gr.go) ⟨g1.grow gr, o.s.mono e1.ex⟩ ⟨rfl, .inr ⟨dx, [(f, v)], rfl, upd_same, g1.free hd, by simp, rfl, .one rv⟩⟩ h1⟩
def rIsE1 (K : PySem.W.Frag) (D a : Addr) (d : Option Addr) : List V → Hp → VK → Prop := fun xs H Q => ∃ (c : V) (cv : Value) (b : Bool) (dd : Addr) (fs : List (Str × V)), xs = [.ref a, c] ∧ (∀ u, RelV c u → u = cv) ∧ PySem.W.kitOne K (.ref D) cv = some b ∧ d = some dd ∧ H dd = some (.xd fs) ∧ Q (.bl b) H
theorem call_isE1 {a D : Addr} {oe : Obj} {d : Option Addr} {pn : List (Addr × Obj)} (C : ExcC X.K D) (hz : Zc (.ref D) d oe) (hf : ∃ vs, oe.data = .fields vs) : CallR (X.suite a ((a, oe) :: pn)) (.builtin "isinstance") (rIsE1 X.K D a d) := by
  intro pins s σ H xs us Q I r h
  obtain ⟨c, cv, b, dd, fs, rfl, hcv, e, ed, ea, q⟩ := h
  cases r with
  | cons rx rr =>
    cases rr with
    | cons rt rr =>
      cases rr
      cases rx
      have ec := hcv _ rt
      subst ec
      subst ed
      obtain ⟨hget, _⟩ := I.pin (a, oe) (List.mem_append.mpr (.inl List.mem_cons_self))
      obtain ⟨vs, hv⟩ := hf
      have hx : ObjOk X.prog X.w H s.heap dd (.xd fs) := I.hok dd _ ea
      obtain ⟨mA, hns, hr⟩ := hx
      obtain ⟨od, ho, hl⟩ := lookIn_ns hns
      have J : PySem.W.InstAt s.heap a oe D (some od) := ⟨hget, hz.1, by unfold PySem.W.notCls; rw [hv] <;> rfl, by rw [hz.2]; exact ho⟩
      have hcl : (PySem.W.clsIn X.K D).isSome = true := by
        obtain ⟨cdD, hcD, _⟩ := PySem.W.any_some C.hd
        rw [hcD]; rfl
      exact PySem.W.kia_one (PySem.W.kitx_exc hcl C.hg C.hk C.hs C.ha C.hn C.ht C.hm) I.kIn J e (fun z => nomatch z) fun tk => ⟨.bl b, H, I.kept (t' := tk) fun _ _ z => z, rfl, q⟩
def dIsE1 (C1 D a CE : Addr) (fs : XFs) (b : Bool) (ta : DTA) : DTE := fun S G Q => ta S G fun ds G1 => ds = [.rf a, .rf CE] ∧ C1 = D ∧ fs ≠ [] ∧ Q (.bl b) G1
theorem dee_isE1 {a D CE : Addr} {oe : Obj} {d : Option Addr} {pn : List (Addr × Obj)} {C1 : Addr} {fs : XFs} {b : Bool} {p : Pos} {e : Expr} {es : List Expr} {ta : DTA} (T : ExcC X.K D) (hk : PySem.W.kitOne X.K (.ref D) (.ref CE) = some b) (hz : Zc (.ref C1) d oe) (hf : ∃ vs, oe.data = .fields vs)
    (hg : Gl X "isinstance") (hm : X.mg "isinstance" = none) (ha : DA (X.suite a ((a, oe) :: pn)) (e :: es) ta)
    (he : starEach (e :: es) X.env = (false, eval e X.env) :: starEach es X.env := by rfl) (hpl : (backTo pos (starEach es X.env)).any (·.1) = false := by rfl) :
    DEE (X.suite a ((a, oe) :: pn)) (fun F H G => XRep X.K F H G (.ref C1) d C1 fs) (.Call (.Name "isinstance" p) (e :: es) [] pos) (dIsE1 C1 D a CE fs b ta) := by
  obtain ⟨t1, p1, r1⟩ := ha.ex
  by_cases hD : C1 = D
  · subst hD
    refine ⟨_, pe_callB (call_isE1 T hz hf) hg hm Boot.«isinstance» p1 (by decide) (by decide) he hpl, fun F H σ S G o x Q' h Q k => ?_⟩
    refine r1 F H σ S G o _ h _ fun F1 H1 vs ds G1 e1 g1 q1 h1 => ?_
    obtain ⟨rfl, _, hne, h1⟩ := h1
    rcases (xrep_keeps F H G F1 H1 G1 e1 x).2 with ⟨_, z⟩ | ⟨dx, ws, ed, hH, _⟩
    · exact absurd z hne
    cases q1 with
    | cons qa qr =>
      cases qr with
      | cons qb qn =>
        cases qn
        cases qa
        cases qb
        exact ⟨.ref CE, .ref CE, b, dx, ws, rfl, fun u hu => hu, hk, ed, hH, k F1 H1 _ _ G1 e1 g1 (.bl b) h1⟩
  · refine ⟨_, pe_callB (r := fun _ _ _ => False) (fun _ _ _ _ _ _ _ _ _ z => z.elim) hg hm Boot.«isinstance» p1 (by decide) (by decide) he hpl, fun F H σ S G o x Q' h Q k => ?_⟩
    refine r1 F H σ S G o _ h _ fun F1 H1 vs ds G1 e1 g1 q1 h1 => ?_
    exact absurd h1.2.1 hD
/-- e.x -/
def dXf (C1 D a : Addr) (f : Str) (fs : XFs) (te : DTE) : DTE := fun S G Q => te S G fun d G1 => d = .rf a ∧ C1 = D ∧ (match fs.lookup f with
  | some v => Q v G1
  | none => False)
theorem dee_xf {a D : Addr} {oe : Obj} {d : Option Addr} {pn : List (Addr × Obj)} {C1 : Addr} {fs : XFs} {f : Str} {e : Expr} {te : DTE} (T : XfC X.K D) (TA : XAtt X.K D f) (hz : Zc (.ref C1) d oe) (hf : ∃ vs, oe.data = .fields vs) (he : DE (X.suite a ((a, oe) :: pn)) e te)
    (hb : attributeBase e f X.env (eval e X.env) = eval e X.env := by rfl) :
    DEE (X.suite a ((a, oe) :: pn)) (fun F H G => XRep X.K F H G (.ref C1) d C1 fs) (.Attribute e f pos) (dXf C1 D a f fs te) := by
  obtain ⟨t1, p1, r1⟩ := he.ex
  refine ⟨_, pe_xf T TA.no hz hf p1 hb, fun F H σ S G o x Q' h Q k => ?_⟩
  refine r1 F H σ S G o _ h _ fun F1 H1 v dd G1 e1 g1 q1 h1 => ?_
  obtain ⟨rfl, rfl, h1⟩ := h1
  cases q1
  split at h1
  · rename_i dv el
    rcases (xrep_keeps F H G F1 H1 G1 e1 x).2 with ⟨_, z⟩ | ⟨dx, ws, ed, hH, _, _, hks, hrs⟩
    · rw [z] at el; cases el
    · have kr : KR X.K F1 ws fs := ⟨hks, hrs⟩
      obtain ⟨wv, hl, rv⟩ := kr.look.1 dv el
      exact ⟨rfl, rfl, dx, ws, wv, ed, hH, hl, k F1 H1 _ _ G1 e1 g1 rv h1⟩
  · exact h1.elim
end
end DL
end
section
set_option Elab.async false
set_option linter.all false
set_option maxRecDepth 100000
set_option maxHeartbeats 4000000
namespace Pace
open PySem PySem.Spec PyProof.Rows L2 DL
def top (i : Nat) : Stmt := PySem.Challenge.pw_pacehouse_k42_needs_beside_all_captions.main.body.getD i (.Pass ⟨0, 0, 0, 0⟩)
abbrev s__wall : Stmt := top 0
abbrev s_states_behind : Stmt := top 2
abbrev s_mute : Stmt := top 3
abbrev s_Mute_u__init_u_ : Stmt := inClass (top 9) 0
abbrev s_check_full : Stmt := top 11
abbrev s_less : Stmt := top 14
abbrev s_first_row : Stmt := top 15
abbrev s_row_behind : Stmt := top 16
abbrev s_rows_along : Stmt := top 17
abbrev s_rest_ahead : Stmt := top 18
abbrev s_rests_along : Stmt := top 19
abbrev s_least_of : Stmt := top 20
abbrev s_need : Stmt := top 21
abbrev s_mended_by : Stmt := top 22
abbrev s_mended : Stmt := top 23
abbrev s_fewest_signs : Stmt := top 24
abbrev s_judge_need : Stmt := top 25
abbrev s_are_letters : Stmt := top 36
abbrev s_number_in : Stmt := top 37
abbrev s_text_of : Stmt := top 38
abbrev s_first_line : Stmt := top 39
abbrev s_move_line : Stmt := top 40
abbrev s_parts_in : Stmt := top 41
abbrev s_is_integer : Stmt := top 46
abbrev s_is_letter_of : Stmt := top 47
abbrev s_is_move : Stmt := top 48
abbrev s_is_row : Stmt := top 49
abbrev s_steps_of : Stmt := top 50
abbrev s_states_met : Stmt := top 51
abbrev s_classes_of : Stmt := top 52
abbrev s_least_rows : Stmt := top 53
abbrev s_step_at : Stmt := top 54
abbrev s_paired_steps : Stmt := top 55
abbrev s_one_keys : Stmt := top 56
abbrev s_check_letters : Stmt := top 57
abbrev s_Rules_u__init_u_ : Stmt := inClass (top 58) 0
abbrev s__law_deck : Stmt := top 60
abbrev s__law_draw : Stmt := top 61
abbrev s__law_pick : Stmt := top 62
abbrev s__law_world : Stmt := top 63
abbrev s__law_code : Stmt := top 64
abbrev s__law_some : Stmt := top 65
abbrev s__law_mute : Stmt := top 66
abbrev s__law_page : Stmt := top 67
abbrev s__law_captions : Stmt := top 68
abbrev s__law_apart : Stmt := top 69
abbrev s__law_heard : Stmt := top 70
abbrev s__law_right : Stmt := top 71
abbrev s_law : Stmt := top 72
structure Txt (K : PySem.W.Frag) (mg : Str → Option Value) (C : Addr) : Prop where
  f_Exception : mg "Exception" = none
  f_classmethod : mg "classmethod" = none
  f_tuple : mg "tuple" = none
  f_min : mg "min" = none
  f_enumerate : mg "enumerate" = none
  f_zip : mg "zip" = none
  f_all : mg "all" = none
  f_dict : mg "dict" = none
  f_range : mg "range" = none
  f_sorted : mg "sorted" = none
  f_len : mg "len" = none
  f_isinstance : mg "isinstance" = none
  f_str : mg "str" = none
  f_int : mg "int" = none
  f_list : mg "list" = none
  f_repr : mg "repr" = none
  f_bool : mg "bool" = none
  f_set : mg "set" = none
  f_super : mg "super" = none
  c_NEED : ∃ t, mg "NEED" = some (.str "need" t)
  c_RULES_WORD : ∃ t, mg "RULES_WORD" = some (.str "rules" t)
  c_MOVE_WORD : ∃ t, mg "MOVE_WORD" = some (.str "move" t)
  c_BREAK : ∃ t, mg "BREAK" = some (.str "\n" t)
  c_BLANK : ∃ t, mg "BLANK" = some (.str " " t)
  c_DIGITS : ∃ t, mg "DIGITS" = some (.str "0123456789" t)
  c_MOST_DIGITS : ∃ t, mg "MOST_DIGITS" = some (.int (3) t)
  c_FIRST_PARTS : ∃ t, mg "FIRST_PARTS" = some (.int (4) t)
  c_MOVE_PARTS_ruletexts : ∃ t, mg "MOVE_PARTS_ruletexts" = some (.int (5) t)
  c_LETTERS : ∃ t, mg "LETTERS" = some (.str "abcdefghijklmnopqrstuvwxyz" t)
  c_MOST_STATES : ∃ t, mg "MOST_STATES" = some (.int (999) t)
  c_MOVE_PARTS_rules : ∃ t, mg "MOVE_PARTS_rules" = some (.int (3) t)
  c_NOWHERE : ∃ t, mg "NOWHERE" = some (.int (-1) t)
  clR : Cls K C
  mgR : mg "Rules" = some (.ref C)
  insR : C8.InsC K C
  neR : NeO K C
  no_heard : NoAttr K C "heard"
  no_written : NoAttr K C "written"
  no_rows : NoAttr K C "rows"
  no_steps : NoAttr K C "steps"
  sysM : SysM K
structure ErT (P : Program) (K : PySem.W.Frag) (mg : Str → Option Value) : Prop where
  mg_CaptionError : mg "CaptionError" = some (.ref (He.ga K "CaptionError"))
  e_Mute : ErrC P K mg (He.ga K "Mute") "Mute" "Mute.__init__" s_Mute_u__init_u_
  i_Mute : IsE K (He.ga K "Mute") (He.ga K "CaptionError")
  a_Mute : XAtt K (He.ga K "Mute") "speech"
  f_Mute : XfC K (He.ga K "Mute")
end Pace
end
section
set_option Elab.async false
set_option linter.all false
set_option maxRecDepth 100000
set_option maxHeartbeats 0
namespace Pace
open PySem PySem.Spec PyProof.Rows L2 DL
def d__wall : He.DefD := ⟨("_wall", none), "_wall", "_wall", defArgs s__wall, defBody s__wall, defScope s__wall, [], []⟩
def d_states_behind : He.DefD := ⟨("states_behind", none), "states_behind", "states_behind", defArgs s_states_behind, defBody s_states_behind, defScope s_states_behind, [], []⟩
def d_mute : He.DefD := ⟨("mute", none), "mute", "mute", defArgs s_mute, defBody s_mute, defScope s_mute, [], []⟩
def d_check_full : He.DefD := ⟨("check_full", none), "check_full", "check_full", defArgs s_check_full, defBody s_check_full, defScope s_check_full, [], []⟩
def d_less : He.DefD := ⟨("less", none), "less", "less", defArgs s_less, defBody s_less, defScope s_less, [], []⟩
def d_first_row : He.DefD := ⟨("first_row", none), "first_row", "first_row", defArgs s_first_row, defBody s_first_row, defScope s_first_row, [], []⟩
def d_row_behind : He.DefD := ⟨("row_behind", none), "row_behind", "row_behind", defArgs s_row_behind, defBody s_row_behind, defScope s_row_behind, [], []⟩
def d_rows_along : He.DefD := ⟨("rows_along", none), "rows_along", "rows_along", defArgs s_rows_along, defBody s_rows_along, defScope s_rows_along, [], []⟩
def d_rest_ahead : He.DefD := ⟨("rest_ahead", none), "rest_ahead", "rest_ahead", defArgs s_rest_ahead, defBody s_rest_ahead, defScope s_rest_ahead, [], []⟩
def d_rests_along : He.DefD := ⟨("rests_along", none), "rests_along", "rests_along", defArgs s_rests_along, defBody s_rests_along, defScope s_rests_along, [], []⟩
def d_least_of : He.DefD := ⟨("least_of", none), "least_of", "least_of", defArgs s_least_of, defBody s_least_of, defScope s_least_of, [], []⟩
def d_need : He.DefD := ⟨("need", none), "need", "need", defArgs s_need, defBody s_need, defScope s_need, [], []⟩
def d_mended_by : He.DefD := ⟨("mended_by", none), "mended_by", "mended_by", defArgs s_mended_by, defBody s_mended_by, defScope s_mended_by, [], []⟩
def d_mended : He.DefD := ⟨("mended", none), "mended", "mended", defArgs s_mended, defBody s_mended, defScope s_mended, [], []⟩
def d_fewest_signs : He.DefD := ⟨("fewest_signs", none), "fewest_signs", "fewest_signs", defArgs s_fewest_signs, defBody s_fewest_signs, defScope s_fewest_signs, [], []⟩
def d_judge_need : He.DefD := ⟨("judge_need", none), "judge_need", "judge_need", defArgs s_judge_need, defBody s_judge_need, defScope s_judge_need, [], []⟩
def d_are_letters : He.DefD := ⟨("are_letters", none), "are_letters", "are_letters", defArgs s_are_letters, defBody s_are_letters, defScope s_are_letters, [], []⟩
def d_number_in : He.DefD := ⟨("number_in", none), "number_in", "number_in", defArgs s_number_in, defBody s_number_in, defScope s_number_in, [], []⟩
def d_text_of : He.DefD := ⟨("text_of", none), "text_of", "text_of", defArgs s_text_of, defBody s_text_of, defScope s_text_of, [], []⟩
def d_first_line : He.DefD := ⟨("first_line", none), "first_line", "first_line", defArgs s_first_line, defBody s_first_line, defScope s_first_line, [], []⟩
def d_move_line : He.DefD := ⟨("move_line", none), "move_line", "move_line", defArgs s_move_line, defBody s_move_line, defScope s_move_line, [], []⟩
def d_parts_in : He.DefD := ⟨("parts_in", none), "parts_in", "parts_in", defArgs s_parts_in, defBody s_parts_in, defScope s_parts_in, [], []⟩
def d_is_integer : He.DefD := ⟨("is_integer", none), "is_integer", "is_integer", defArgs s_is_integer, defBody s_is_integer, defScope s_is_integer, [], []⟩
def d_is_letter_of : He.DefD := ⟨("is_letter_of", none), "is_letter_of", "is_letter_of", defArgs s_is_letter_of, defBody s_is_letter_of, defScope s_is_letter_of, [], []⟩
def d_is_move : He.DefD := ⟨("is_move", none), "is_move", "is_move", defArgs s_is_move, defBody s_is_move, defScope s_is_move, [], []⟩
def d_is_row : He.DefD := ⟨("is_row", none), "is_row", "is_row", defArgs s_is_row, defBody s_is_row, defScope s_is_row, [], []⟩
def d_steps_of : He.DefD := ⟨("steps_of", none), "steps_of", "steps_of", defArgs s_steps_of, defBody s_steps_of, defScope s_steps_of, [], []⟩
def d_states_met : He.DefD := ⟨("states_met", none), "states_met", "states_met", defArgs s_states_met, defBody s_states_met, defScope s_states_met, [], []⟩
def d_classes_of : He.DefD := ⟨("classes_of", none), "classes_of", "classes_of", defArgs s_classes_of, defBody s_classes_of, defScope s_classes_of, [], []⟩
def d_least_rows : He.DefD := ⟨("least_rows", none), "least_rows", "least_rows", defArgs s_least_rows, defBody s_least_rows, defScope s_least_rows, [], []⟩
def d_step_at : He.DefD := ⟨("step_at", none), "step_at", "step_at", defArgs s_step_at, defBody s_step_at, defScope s_step_at, [], []⟩
def d_paired_steps : He.DefD := ⟨("paired_steps", none), "paired_steps", "paired_steps", defArgs s_paired_steps, defBody s_paired_steps, defScope s_paired_steps, [], []⟩
def d_one_keys : He.DefD := ⟨("one_keys", none), "one_keys", "one_keys", defArgs s_one_keys, defBody s_one_keys, defScope s_one_keys, [], []⟩
def d_check_letters : He.DefD := ⟨("check_letters", none), "check_letters", "check_letters", defArgs s_check_letters, defBody s_check_letters, defScope s_check_letters, [], []⟩
def d__law_deck : He.DefD := ⟨("_law_deck", none), "_law_deck", "_law_deck", defArgs s__law_deck, defBody s__law_deck, defScope s__law_deck, [], []⟩
def d__law_draw : He.DefD := ⟨("_law_draw", none), "_law_draw", "_law_draw", defArgs s__law_draw, defBody s__law_draw, defScope s__law_draw, [], []⟩
def d__law_pick : He.DefD := ⟨("_law_pick", none), "_law_pick", "_law_pick", defArgs s__law_pick, defBody s__law_pick, defScope s__law_pick, [], []⟩
def d__law_world : He.DefD := ⟨("_law_world", none), "_law_world", "_law_world", defArgs s__law_world, defBody s__law_world, defScope s__law_world, [], []⟩
def d__law_code : He.DefD := ⟨("_law_code", none), "_law_code", "_law_code", defArgs s__law_code, defBody s__law_code, defScope s__law_code, [], []⟩
def d__law_some : He.DefD := ⟨("_law_some", none), "_law_some", "_law_some", defArgs s__law_some, defBody s__law_some, defScope s__law_some, [], []⟩
def d__law_mute : He.DefD := ⟨("_law_mute", none), "_law_mute", "_law_mute", defArgs s__law_mute, defBody s__law_mute, defScope s__law_mute, [], []⟩
def d__law_page : He.DefD := ⟨("_law_page", none), "_law_page", "_law_page", defArgs s__law_page, defBody s__law_page, defScope s__law_page, [], []⟩
def d__law_captions : He.DefD := ⟨("_law_captions", none), "_law_captions", "_law_captions", defArgs s__law_captions, defBody s__law_captions, defScope s__law_captions, [], []⟩
def d__law_apart : He.DefD := ⟨("_law_apart", none), "_law_apart", "_law_apart", defArgs s__law_apart, defBody s__law_apart, defScope s__law_apart, [], []⟩
def d__law_heard : He.DefD := ⟨("_law_heard", none), "_law_heard", "_law_heard", defArgs s__law_heard, defBody s__law_heard, defScope s__law_heard, [], []⟩
def d__law_right : He.DefD := ⟨("_law_right", none), "_law_right", "_law_right", defArgs s__law_right, defBody s__law_right, defScope s__law_right, [], []⟩
def d_law : He.DefD := ⟨("law", none), "law", "law", defArgs s_law, defBody s_law, defScope s_law, [], []⟩
def d_RI : He.DefD := ⟨("Rules", some "__init__"), "__init__", "Rules.__init__", defArgs s_Rules_u__init_u_, defBody s_Rules_u__init_u_, defScope s_Rules_u__init_u_, [], []⟩
def hfn0 : List He.DefD := [d__wall, d_states_behind, d_mute, d_check_full, d_less, d_first_row, d_row_behind, d_rows_along, d_rest_ahead, d_rests_along, d_least_of, d_need, d_mended_by, d_mended, d_fewest_signs, d_judge_need, d_are_letters, d_number_in, d_text_of, d_first_line]
def hfn1 : List He.DefD := [d_move_line, d_parts_in, d_is_integer, d_is_letter_of, d_is_move, d_is_row, d_steps_of, d_states_met, d_classes_of, d_least_rows, d_step_at, d_paired_steps, d_one_keys, d_check_letters, d__law_deck, d__law_draw, d__law_pick, d__law_world, d__law_code, d__law_some]
def hfn2 : List He.DefD := [d__law_mute, d__law_page, d__law_captions, d__law_apart, d__law_heard, d__law_right, d_law, d_RI]
def hfn : List He.DefD := hfn0 ++ hfn1 ++ hfn2
def hfa0 : List He.Fa := [.glo "_wall", .glo "states_behind", .glo "mute", .glo "check_full", .glo "less", .glo "first_row", .glo "row_behind", .glo "rows_along", .glo "rest_ahead", .glo "rests_along", .glo "least_of", .glo "need", .glo "mended_by", .glo "mended", .glo "fewest_signs", .glo "judge_need", .glo "are_letters", .glo "number_in", .glo "text_of", .glo "first_line"]
def hfa1 : List He.Fa := [.glo "move_line", .glo "parts_in", .glo "is_integer", .glo "is_letter_of", .glo "is_move", .glo "is_row", .glo "steps_of", .glo "states_met", .glo "classes_of", .glo "least_rows", .glo "step_at", .glo "paired_steps", .glo "one_keys", .glo "check_letters", .glo "_law_deck", .glo "_law_draw", .glo "_law_pick", .glo "_law_world", .glo "_law_code", .glo "_law_some"]
def hfa2 : List He.Fa := [.glo "_law_mute", .glo "_law_page", .glo "_law_captions", .glo "_law_apart", .glo "_law_heard", .glo "_law_right", .glo "law", .free "Exception", .free "classmethod", .free "tuple", .free "min", .free "enumerate", .free "zip", .free "all", .free "dict", .free "range", .free "sorted", .free "len", .free "isinstance", .free "str"]
def hfa3 : List He.Fa := [.free "int", .free "list", .free "repr", .free "bool", .free "set", .free "super", .str "NEED" "need", .str "RULES_WORD" "rules", .str "MOVE_WORD" "move", .str "BREAK" "\n", .str "BLANK" " ", .str "DIGITS" "0123456789", .int "MOST_DIGITS" (3), .int "FIRST_PARTS" (4), .int "MOVE_PARTS_ruletexts" (5), .str "LETTERS" "abcdefghijklmnopqrstuvwxyz", .int "MOST_STATES" (999), .int "MOVE_PARTS_rules" (3), .int "NOWHERE" (-1), .glo "Rules"]
def hfa4 : List He.Fa := [.cls "Rules", .mkr "Rules", .noat "Rules" "heard", .noat "Rules" "written", .noat "Rules" "rows", .noat "Rules" "steps", .glo "CaptionError", .glo "Mute"]
def hfa : List He.Fa := hfa0 ++ hfa1 ++ hfa2 ++ hfa3 ++ hfa4
def hnm0 : List PySem.Str := ["_wall", "states_behind", "mute", "CaptionError", "BadRules", "BadText", "OtherLetters", "Mute", "check_full", "NEED", "less", "first_row", "row_behind", "rows_along", "rest_ahead", "rests_along", "least_of", "need", "mended_by", "mended"]
def hnm1 : List PySem.Str := ["fewest_signs", "judge_need", "RULES_WORD", "MOVE_WORD", "BREAK", "BLANK", "DIGITS", "MOST_DIGITS", "FIRST_PARTS", "MOVE_PARTS_ruletexts", "LETTERS", "are_letters", "number_in", "text_of", "first_line", "move_line", "parts_in", "MOST_STATES", "MOVE_PARTS_rules", "NOWHERE"]
def hnm2 : List PySem.Str := ["is_integer", "is_letter_of", "is_move", "is_row", "steps_of", "states_met", "classes_of", "least_rows", "step_at", "paired_steps", "one_keys", "check_letters", "Rules", "_law_deck", "_law_draw", "_law_pick", "_law_world", "_law_code", "_law_some", "_law_mute"]
def hnm3 : List PySem.Str := ["_law_page", "_law_captions", "_law_apart", "_law_heard", "_law_right"]
def hnm : List PySem.Str := hnm0 ++ hnm1 ++ hnm2 ++ hnm3
def dE_Mute : ErrD := ⟨"Mute", "Mute.__init__", defArgs s_Mute_u__init_u_, defBody s_Mute_u__init_u_, defScope s_Mute_u__init_u_⟩
def hys : YsX := [((fun K => eI K "Mute"), dE_Mute.val)]
abbrev hR : PySem.W.OpenRow := PySem.W.OpenLaw.row PySem.Challenge.rw_pacehouse_k42_needs_beside_all_captions
abbrev hfl : Str := hR.prog.main.file
def hex (K : PySem.W.Frag) : Bool := (insB K (He.ga K "Rules") && neB K (He.ga K "Rules")) && (sysB K && (errB K hfl "Mute" && (isEB K (He.ga K "Mute") (He.ga K "CaptionError") && (xattB K (He.ga K "Mute") "speech" && xfB K (He.ga K "Mute")))))
abbrev hhk : PySem.W.Hook := hookX 6 hfa hfn hex hys
def hob (s : PySem.W.SharedT) : AlX := obsXG 6 hfa hfn hex hys (HandSHeadRun.getT s)
theorem hob_eq (s : PySem.W.SharedT) : hob s = hhk.obs s.abs := obsXG_eq (HandSHeadRun.getT_eq s)
theorem hrun (w : World) : HandSHeadRun.RunEq hR (PySem.W.view hR.prog [72]) hhk hob 20000 hnm w := by
  intro os
  kernel_rfl
end Pace
end
section
set_option Elab.async false
set_option linter.all false
set_option maxRecDepth 100000
set_option maxHeartbeats 4000000
namespace Pace
open PySem PySem.Spec PyProof.Rows L2 DL
/-- a move: heard letter, written letter (codes), state -/
structure Mv where
  h : Nat
  c : Nat
  t : Nat
  deriving DecidableEq
def Mv.d (m : Mv) : D := .tup [.str (sgn m.h), .str (sgn m.c), .int (m.t : Int)]
def rowD (r : List Mv) : D := .tup (r.map Mv.d)
def rowsD (rs : List (List Mv)) : D := .tup (rs.map rowD)
def natsD (ns : List Nat) : List D := ns.map fun (n : Nat) => D.int (n : Int)
structure Rul where
  heard : Str
  written : Str
  rows : List (List Mv)
def stepsD (rs : List (List Mv)) : D := .lst (rs.map fun r => .dT (r.map fun m => ([.inr (sgn m.h), .inr (sgn m.c)], .int (m.t : Int))))
def rulF (R : Rul) : List (Str × D) := [("heard", .str R.heard), ("written", .str R.written), ("rows", rowsD R.rows), ("steps", stepsD R.rows)]
def rulD (C : Addr) (R : Rul) : D := .obj C (rulF R)
theorem rulF_heard (R : Rul) : (rulF R).lookup ("heard" : Str) = some (.str R.heard) := rfl
theorem rulF_rows (R : Rul) : (rulF R).lookup ("rows" : Str) = some (rowsD R.rows) := rfl
/-- what Python's rules ask, as far as the walk needs it -/
structure Rul.Ok (R : Rul) : Prop where
  few : R.rows.length ≤ 1000
  at_ : ∀ r ∈ R.rows, r.length ≤ 1000 ∧ ∀ m ∈ r, m.t < R.rows.length
def hits (rs : List (List Mv)) (s c : Nat) : List Nat := ((rs.getD s []).filter fun m => m.h == c).map (·.t)
def nins (a : Nat) : List Nat → List Nat
  | [] => [a]
  | b :: l => if a ≤ b then a :: b :: l else b :: nins a l
def nsort : List Nat → List Nat
  | [] => []
  | a :: l => nins a (nsort l)
theorem nins_perm (a : Nat) : ∀ l : List Nat, (nins a l).Perm (a :: l)
  | [] => .refl _
  | b :: l => by
    unfold nins
    split
    · exact .refl _
    · exact ((nins_perm a l).cons b).trans (.swap a b l)
theorem nsort_perm : ∀ l : List Nat, (nsort l).Perm l
  | [] => .refl _
  | a :: l => (nins_perm a (nsort l)).trans ((nsort_perm l).cons a)
theorem nins_le (a : Nat) : ∀ l : List Nat, l.Pairwise (· ≤ ·) → (nins a l).Pairwise (· ≤ ·)
  | [], _ => by simp [nins]
  | b :: l, h => by
    unfold nins
    rw [List.pairwise_cons] at h
    split
    · rename_i hab
      refine List.pairwise_cons.mpr ⟨fun c hc => ?_, List.pairwise_cons.mpr h⟩
      rcases List.mem_cons.mp hc with rfl | hc
      · exact hab
      · have := h.1 c hc; omega
    · rename_i hab
      refine List.pairwise_cons.mpr ⟨fun c hc => ?_, nins_le a l h.2⟩
      rcases List.mem_cons.mp ((nins_perm a l).mem_iff.mp hc) with rfl | hc
      · omega
      · exact h.1 c hc
theorem nsort_le : ∀ l : List Nat, (nsort l).Pairwise (· ≤ ·)
  | [] => .nil
  | a :: l => nins_le a _ (nsort_le l)
/-- the states behind a letter -/
def behind (rs : List (List Mv)) (ss : List Nat) (c : Nat) : List Nat := nsort (firstsF (ss.flatMap fun s => hits rs s c))
theorem addF_lt {n : Nat} {ks : List Nat} {t : Nat} (h : ∀ k ∈ ks, k < n) (ht : t < n) : ∀ k ∈ addF ks t, k < n := by
  unfold addF
  split
  · exact h
  · intro k hk
    rcases List.mem_append.mp hk with hk | hk
    · exact h k hk
    · simp at hk; omega
/-- the pairs of the dict -/
def kds (ks : List Nat) : List (Key × D) := ks.map fun (t : Nat) => (.inl (t : Int), .bl true)
theorem kds_put (ks : List Nat) (t : Nat) : putD (kds ks) (.inl (t : Int)) (.bl true) = kds (addF ks t) := by
  have e : ((kds ks).any fun kv => decide (kv.1 = (Sum.inl (t : Int) : Key))) = decide (t ∈ ks) := by
    unfold kds
    rw [List.any_map]
    rw [Bool.eq_iff_iff]
    simp only [List.any_eq_true, Function.comp, decide_eq_true_eq]
    constructor
    · rintro ⟨x, hx, e⟩
      have e' : (x : Int) = (t : Int) := Sum.inl.inj e
      have : x = t := by omega
      exact this ▸ hx
    · intro h
      exact ⟨t, h, rfl⟩
  unfold putD addF
  rw [e]
  by_cases h : t ∈ ks
  · rw [if_pos (decide_eq_true h), if_pos h]
    unfold kds
    rw [List.map_map]
    apply List.map_congr_left
    intro x hx
    simp only [Function.comp]
    split
    · rfl
    · rfl
  · rw [if_neg (by simp [h]), if_neg h]
    simp [kds]
theorem kds_ints (ks : List Nat) : intKeys (kds ks) = some (ks.map fun (t : Nat) => (t : Int)) := by
  induction ks with
  | nil => rfl
  | cons t ks ih =>
    have : kds (t :: ks) = (.inl (t : Int), .bl true) :: kds ks := rfl
    rw [this]
    simp [intKeys, ih]
theorem isort_nat (ks : List Nat) : ((ks.map fun (t : Nat) => (t : Int)).mergeSort (· ≤ ·)).map D.int = natsD (nsort ks) := by
  have e : (nsort ks).map (fun (t : Nat) => (t : Int)) = (ks.map fun (t : Nat) => (t : Int)).mergeSort (· ≤ ·) := by
    refine isort_uniq ((nsort_perm ks).map _) ?_
    rw [List.pairwise_map]
    exact (nsort_le ks).imp fun h => by omega
  rw [← e, List.map_map]
  rfl
theorem nodup_lt_len {n : Nat} {ks : List Nat} (h : ks.Nodup) (hl : ∀ k ∈ ks, k < n) : ks.length ≤ n := by
  have := List.Nodup.length_le_of_subset h (l₂ := List.range n) (fun k hk => List.mem_range.mpr (hl k hk))
  simpa using this
theorem natsD_get {ns : List Nat} {i : Nat} {d : D} (h : (natsD ns)[i]? = some d) : ∃ n, ns[i]? = some n ∧ d = .int (n : Int) := by
  unfold natsD at h
  rw [List.getElem?_map] at h
  cases e : ns[i]? with
  | none => rw [e] at h; cases h
  | some n => rw [e] at h; cases h; exact ⟨n, rfl, rfl⟩
theorem sgn_inj {a b : Nat} (h : sgn a = sgn b) : a = b := by
  have : (sgn a).cps.toList = (sgn b).cps.toList := by rw [h]
  simpa [sgn] using this
theorem sgn_beq (a b : Nat) : (sgn a == sgn b) = (a == b) := by
  rw [Bool.eq_iff_iff]
  simp only [beq_iff_eq]
  exact ⟨sgn_inj, fun h => by rw [h]⟩
theorem hu100 {k : Nat} {A : Around} (hr : Room k A) : A.units + 100 < cLine := by have := hr.un; omega
end Pace
end
section
set_option Elab.async false
set_option linter.all false
set_option maxRecDepth 100000
set_option maxHeartbeats 4000000
namespace Pace
open PySem PySem.Spec PyProof.Rows L2 DL
theorem sz {n : Nat} (h : n ≤ 5000) : n ≤ sizeLine := by rw [sizeLine_eq]; omega
theorem szl {n : Nat} (h : n ≤ 5000) : n < sizeLine := by rw [sizeLine_eq]; omega
/-- what is reached by a speech -/
def run (rs : List (List Mv)) (ss : List Nat) (cs : List Nat) : List Nat := cs.foldl (behind rs) ss
theorem behind_mem {rs : List (List Mv)} {ss : List Nat} {c k : Nat} : k ∈ behind rs ss c ↔ ∃ s ∈ ss, ∃ m ∈ rs.getD s [], m.h = c ∧ m.t = k := by
  unfold behind
  rw [(nsort_perm _).mem_iff, firstsF_mem]
  simp [hits, and_assoc]
theorem behind_lt {rs : List (List Mv)} {n : Nat} (h : ∀ r ∈ rs, ∀ m ∈ r, m.t < n) {ss : List Nat} {c : Nat} : ∀ k ∈ behind rs ss c, k < n := by
  intro k hk
  obtain ⟨s, _, m, hm, _, rfl⟩ := behind_mem.mp hk
  cases e : rs[s]? with
  | none => simp [List.getD, e] at hm
  | some r =>
    simp [List.getD, e] at hm
    exact h r (List.mem_of_getElem? e) m hm
theorem lt_of_le_nd : ∀ {l : List Nat}, l.Pairwise (· ≤ ·) → l.Nodup → l.Pairwise (· < ·)
  | [], _, _ => .nil
  | a :: l, h, nd => by
    rw [List.pairwise_cons] at h
    rw [List.nodup_cons] at nd
    refine List.pairwise_cons.mpr ⟨fun b hb => ?_, lt_of_le_nd h.2 nd.2⟩
    have h1 := h.1 b hb
    have h2 : a ≠ b := fun e => nd.1 (e ▸ hb)
    omega
theorem behind_sorted {rs : List (List Mv)} {ss : List Nat} {c : Nat} : (behind rs ss c).Pairwise (· < ·) := by
  unfold behind
  refine lt_of_le_nd (nsort_le _) ?_
  exact (nsort_perm _).nodup_iff.mpr (firstsF_nodup _)
/-- the sets of numbers below n -/
def subs : Nat → List (List Nat)
  | 0 => [[]]
  | n + 1 => subs n ++ (subs n).map (· ++ [n])
theorem subs_len : ∀ n, (subs n).length = 2 ^ n
  | 0 => rfl
  | n + 1 => by simp [subs, subs_len n]; omega
theorem subs_mem : ∀ (n : Nat) (l : List Nat), l.Pairwise (· < ·) → (∀ k ∈ l, k < n) → l ∈ subs n
  | 0, l, _, h => by
    cases l with
    | nil => simp [subs]
    | cons a l => exact absurd (h a (by simp)) (by omega)
  | n + 1, l, hp, h => by
    rcases List.eq_nil_or_concat l with rfl | ⟨l', a, rfl⟩
    · exact List.mem_append.mpr (.inl (subs_mem n [] .nil (by simp)))
    · rw [List.concat_eq_append] at *
      rw [List.pairwise_append] at hp
      obtain ⟨h1, _, h3⟩ := hp
      have ha := h a (by simp)
      by_cases e : a = n
      · subst e
        refine List.mem_append.mpr (.inr (List.mem_map.mpr ⟨l', subs_mem a l' h1 fun k hk => h3 k hk a (by simp), rfl⟩))
      · refine List.mem_append.mpr (.inl (subs_mem n _ (List.pairwise_append.mpr ⟨h1, by simp, h3⟩) fun k hk => ?_))
        rcases List.mem_append.mp hk with hk | hk
        · have := h3 k hk a (by simp); omega
        · simp at hk; omega
theorem sets_len {ls : List (List Nat)} {n : Nat} (nd : ls.Nodup) (h : ∀ l ∈ ls, l.Pairwise (· < ·) ∧ ∀ k ∈ l, k < n) : ls.length ≤ 2 ^ n := by
  rw [← subs_len n]
  exact List.Nodup.length_le_of_subset nd fun l hl => subs_mem n l (h l hl).1 (h l hl).2
/-- sets met, each with its speech -/
abbrev Ord := List (List Nat × List Nat)
def stepL (rs : List (List Mv)) (here : List Nat × List Nat) : Ord → List Nat → List Nat ⊕ Ord
  | ord, [] => .inr ord
  | ord, c :: cs => if behind rs here.1 c = [] then .inl (here.2 ++ [c]) else if behind rs here.1 c ∈ ord.map (·.1) then stepL rs here ord cs else stepL rs here (ord ++ [(behind rs here.1 c, here.2 ++ [c])]) cs
theorem stepL_nil {rs : List (List Mv)} {here : List Nat × List Nat} {ord : Ord} : stepL rs here ord [] = .inr ord := rfl
theorem stepL_cons {rs : List (List Mv)} {here : List Nat × List Nat} {ord : Ord} {c : Nat} {cs : List Nat} : stepL rs here ord (c :: cs) = if behind rs here.1 c = [] then .inl (here.2 ++ [c]) else if behind rs here.1 c ∈ ord.map (·.1) then stepL rs here ord cs else stepL rs here (ord ++ [(behind rs here.1 c, here.2 ++ [c])]) cs := rfl
def bfs (rs : List (List Mv)) (hs : List Nat) : Nat → Nat → Ord → Option (List Nat)
  | 0, _, _ => none
  | f + 1, i, ord => match ord[i]? with
    | none => none
    | some here => match stepL rs here ord hs with
      | .inl p => some p
      | .inr ord' => bfs rs hs f (i + 1) ord'
def muteOf (rs : List (List Mv)) (hs : List Nat) : Option (List Nat) := bfs rs hs (2 ^ rs.length) 0 [([0], [])]
structure OrdOk (rs : List (List Mv)) (hs : List Nat) (ord : Ord) : Prop where
  nd : (ord.map (·.1)).Nodup
  st : ∀ x ∈ ord, x.1.Pairwise (· < ·) ∧ ∀ k ∈ x.1, k < rs.length
  ln : ∀ (i : Nat) (x : List Nat × List Nat), ord[i]? = some x → x.2.length ≤ i
  rn : ∀ x ∈ ord, run rs [0] x.2 = x.1 ∧ x.1 ≠ [] ∧ ∀ c ∈ x.2, c ∈ hs
theorem OrdOk.len {rs : List (List Mv)} {hs : List Nat} {ord : Ord} (h : OrdOk rs hs ord) : ord.length ≤ 2 ^ rs.length := by
  have := sets_len (ls := ord.map (·.1)) (n := rs.length) h.nd fun l hl => by
    obtain ⟨x, hx, rfl⟩ := List.mem_map.mp hl
    exact h.st x hx
  simpa using this
theorem OrdOk.start {rs : List (List Mv)} {hs : List Nat} (h : 0 < rs.length) : OrdOk rs hs [([0], [])] where
  nd := by simp
  st := fun x hx => by simp at hx; subst hx; exact ⟨by simp, by simpa using h⟩
  ln := fun i x hx => by
    cases i with
    | zero => simp at hx; subst hx; simp
    | succ i => simp at hx
  rn := fun x hx => by simp at hx; subst hx; exact ⟨rfl, by simp, by simp⟩
theorem run_lt {rs : List (List Mv)} {n : Nat} (h : ∀ r ∈ rs, ∀ m ∈ r, m.t < n) {ss : List Nat} (hs : ∀ k ∈ ss, k < n) : ∀ {cs : List Nat}, ∀ k ∈ run rs ss cs, k < n := by
  intro cs
  rcases List.eq_nil_or_concat cs with rfl | ⟨l, a, rfl⟩
  · exact hs
  · intro k hk
    rw [List.concat_eq_append] at hk
    have : run rs ss (l ++ [a]) = behind rs (run rs ss l) a := by simp [run]
    rw [this] at hk
    exact behind_lt h k hk
/-- a text of codes -/
def strOf (cs : List Nat) : Str := ⟨cs.toArray⟩
theorem strOf_app (a b : List Nat) : strOf a ++ strOf b = strOf (a ++ b) := by
  show (⟨a.toArray ++ b.toArray⟩ : Str) = ⟨(a ++ b).toArray⟩
  simp
theorem strOf_sgn (a : List Nat) (c : Nat) : strOf a ++ sgn c = strOf (a ++ [c]) := strOf_app a [c]
theorem strOf_len (a : List Nat) : (strOf a).length = a.length := by
  show a.toArray.size = _
  simp
theorem strOf_inj {a b : List Nat} (h : strOf a = strOf b) : a = b := by
  have : (strOf a).cps.toList = (strOf b).cps.toList := by rw [h]
  simpa [strOf] using this
theorem signs_get {cs : List Nat} {i : Nat} {d : D} (h : (DL.signs (strOf cs))[i]? = some d) : ∃ c, cs[i]? = some c ∧ d = .str (sgn c) := by
  unfold DL.signs strOf at h
  rw [List.getElem?_map] at h
  simp only at h
  cases e : cs[i]? with
  | none => rw [e] at h; cases h
  | some c => rw [e] at h; cases h; exact ⟨c, rfl, rfl⟩
theorem signs_len (cs : List Nat) : (DL.signs (strOf cs)).length = cs.length := by simp [DL.signs, strOf]
theorem run_snoc {rs : List (List Mv)} {ss cs : List Nat} {c : Nat} : run rs ss (cs ++ [c]) = behind rs (run rs ss cs) c := by simp [run]
theorem OrdOk.add {rs : List (List Mv)} {hs : List Nat} {ord : Ord} (h : OrdOk rs hs ord) (tl : ∀ r ∈ rs, ∀ m ∈ r, m.t < rs.length) {i : Nat} {here : List Nat × List Nat} (hi : ord[i]? = some here) {c : Nat} (hc : c ∈ hs) (h1 : behind rs here.1 c ≠ []) (h2 : behind rs here.1 c ∉ ord.map (·.1)) :
    OrdOk rs hs (ord ++ [(behind rs here.1 c, here.2 ++ [c])]) where
  nd := by
    rw [List.map_append, List.nodup_append]
    refine ⟨h.nd, by simp, fun a ha b hb => ?_⟩
    simp at hb
    subst hb
    exact fun e => h2 (e ▸ ha)
  st := fun x hx => by
    rcases List.mem_append.mp hx with hx | hx
    · exact h.st x hx
    · simp at hx; subst hx; exact ⟨behind_sorted, behind_lt tl⟩
  ln := fun j x hx => by
    by_cases hj : j < ord.length
    · rw [List.getElem?_append_left hj] at hx; exact h.ln j x hx
    · rw [List.getElem?_append_right (by omega)] at hx
      have hj' : j - ord.length = 0 := by
        cases e : j - ord.length with
        | zero => rfl
        | succ k => rw [e] at hx; simp at hx
      rw [hj'] at hx
      simp at hx
      subst hx
      have := h.ln i here hi
      have := (List.getElem?_eq_some_iff.mp hi).1
      simp; omega
  rn := fun x hx => by
    rcases List.mem_append.mp hx with hx | hx
    · exact h.rn x hx
    · simp at hx; subst hx
      obtain ⟨a, b, d⟩ := h.rn here (List.mem_of_getElem? hi)
      refine ⟨by rw [run_snoc, a], h1, fun e he => ?_⟩
      rcases List.mem_append.mp he with he | he
      · exact d e he
      · simp at he; subst he; exact hc
/-- a speech that ends the way -/
def MutP (rs : List (List Mv)) (hs : List Nat) (p : List Nat) : Prop := ∃ q c, p = q ++ [c] ∧ c ∈ hs ∧ (∀ x ∈ q, x ∈ hs) ∧ run rs [0] q ≠ [] ∧ run rs [0] p = [] ∧ q.length ≤ 2 ^ rs.length
theorem stepL_ok {rs : List (List Mv)} {hs : List Nat} (tl : ∀ r ∈ rs, ∀ m ∈ r, m.t < rs.length) {i : Nat} {here : List Nat × List Nat} : ∀ (cs : List Nat) (ord : Ord), (∀ c ∈ cs, c ∈ hs) → OrdOk rs hs ord → ord[i]? = some here →
    (∀ p, stepL rs here ord cs = .inl p → MutP rs hs p) ∧ ∀ ord', stepL rs here ord cs = .inr ord' → OrdOk rs hs ord'
  | [], ord, _, h, hi => ⟨fun p e => by simp [stepL] at e, fun o e => by simp [stepL] at e; exact e ▸ h⟩
  | c :: cs, ord, hc, h, hi => by
    unfold stepL
    obtain ⟨a, b, d⟩ := h.rn here (List.mem_of_getElem? hi)
    split
    · rename_i e
      refine ⟨fun p q => ?_, fun o q => by cases q⟩
      cases q
      exact ⟨here.2, c, rfl, hc c (by simp), d, by rw [a]; exact b, by rw [run_snoc, a]; exact e, by have h1 := h.ln i here hi; have h2 := h.len; have h3 := (List.getElem?_eq_some_iff.mp hi).1; omega⟩
    · rename_i e
      split
      · exact stepL_ok tl cs ord (fun x hx => hc x (by simp [hx])) h hi
      · rename_i e2
        refine stepL_ok (i := i) tl cs _ (fun x hx => hc x (by simp [hx])) (h.add tl hi (hc c (by simp)) e e2) ?_
        rw [List.getElem?_append_left (List.getElem?_eq_some_iff.mp hi).1]
        exact hi
theorem bfs_some {rs : List (List Mv)} {hs : List Nat} (tl : ∀ r ∈ rs, ∀ m ∈ r, m.t < rs.length) : ∀ (f i : Nat) (ord : Ord) (p : List Nat), OrdOk rs hs ord → bfs rs hs f i ord = some p → MutP rs hs p
  | 0, _, _, _, _, e => by simp [bfs] at e
  | f + 1, i, ord, p, h, e => by
    unfold bfs at e
    split at e
    · cases e
    · rename_i here hi
      have hs2 := stepL_ok (hs := hs) tl hs ord (fun _ z => z) h hi
      split at e
      · rename_i p' e'
        cases e
        exact hs2.1 _ e'
      · rename_i o' e'
        exact bfs_some tl f (i + 1) o' p (hs2.2 _ e') e
theorem muteOf_some {rs : List (List Mv)} {hs : List Nat} (tl : ∀ r ∈ rs, ∀ m ∈ r, m.t < rs.length) (h0 : 0 < rs.length) {p : List Nat} (h : muteOf rs hs = some p) : MutP rs hs p := bfs_some tl _ _ _ _ (.start h0) h
/-- the two things that mute keeps -/
def ordL (ord : Ord) : List D := ord.map fun x => .tup (natsD x.1)
def ordT (ord : Ord) : List (List Key × D) := ord.map fun x => (x.1.map fun (n : Nat) => (.inl (n : Int)), .str (strOf x.2))
theorem natsD_keys : ∀ ns : List Nat, D.keys (natsD ns) = some (ns.map fun (n : Nat) => (.inl (n : Int)))
  | [] => rfl
  | n :: ns => by
    show D.keys (.int (n : Int) :: natsD ns) = _
    simp [D.keys, D.key, natsD_keys ns]
theorem nkey_inj {a b : List Nat} (h : (a.map fun (n : Nat) => (Sum.inl (n : Int) : Key)) = b.map fun (n : Nat) => (.inl (n : Int))) : a = b := by
  refine List.map_inj_right (f := fun (n : Nat) => (Sum.inl (n : Int) : Key)) (fun x y e => ?_) |>.mp h
  have : (x : Int) = (y : Int) := Sum.inl.inj e
  omega
theorem natsD_inj {a b : List Nat} (h : natsD a = natsD b) : a = b := by
  refine List.map_inj_right (f := fun (n : Nat) => D.int (n : Int)) (fun x y e => ?_) |>.mp h
  have : (x : Int) = (y : Int) := D.int.inj e
  omega
theorem natsD_si (ns : List Nat) : D.sis (natsD ns) = true := by
  rw [sis_all]
  intro x hx
  obtain ⟨n, _, rfl⟩ := List.mem_map.mp hx
  rfl
theorem natsD_dps (ns : List Nat) : D.dps (natsD ns) ≤ 0 := dps_le fun x hx => by
  obtain ⟨n, _, rfl⟩ := List.mem_map.mp hx
  simp [D.dp]
theorem natsD_eqv (a b : List Nat) : D.eqv (.tup (natsD a)) (.tup (natsD b)) = decide (a = b) := by
  rw [Bool.eq_iff_iff, eqv_si (x := .tup (natsD a)) (y := .tup (natsD b)) (natsD_si a) (natsD_si b)]
  simp only [D.tup.injEq, decide_eq_true_eq]
  exact ⟨natsD_inj, fun e => by rw [e]⟩
theorem natsD_okE (a b : List Nat) : okE (.tup (natsD a)) (.tup (natsD b)) = true := okE_si (natsD_si a) (natsD_si b) (by have := natsD_dps a; simp only [D.dp]; omega)
theorem find_key {β : Type} {f : List Nat × List Nat → β} {ord : Ord} {l : List Nat} (h : l ∉ ord.map (·.1)) : (ord.map fun x => ((x.1.map fun (n : Nat) => (Sum.inl (n : Int) : Key)), f x)).find? (fun kv => decide (kv.1 = l.map fun (n : Nat) => (.inl (n : Int)))) = none := by
  rw [List.find?_eq_none]
  intro x hx
  obtain ⟨y, hy, rfl⟩ := List.mem_map.mp hx
  simp only [decide_eq_true_eq]
  intro e
  exact h (nkey_inj e ▸ List.mem_map.mpr ⟨y, hy, rfl⟩)
theorem val_no {f : List Nat × List Nat → D} {ord : Ord} {l : List Nat} (h : l ∉ ord.map (·.1)) : valD (ord.map fun x => ((x.1.map fun (n : Nat) => (Sum.inl (n : Int) : Key)), f x)) (l.map fun (n : Nat) => (.inl (n : Int))) = none := by
  unfold valD
  rw [find_key h]
  rfl
theorem val_at {f : List Nat × List Nat → D} : ∀ {ord : Ord} {i : Nat} {x : List Nat × List Nat}, (ord.map (·.1)).Nodup → ord[i]? = some x → valD (ord.map fun x => ((x.1.map fun (n : Nat) => (Sum.inl (n : Int) : Key)), f x)) (x.1.map fun (n : Nat) => (.inl (n : Int))) = some (f x)
  | [], _, _, _, h => by simp at h
  | y :: ord, i, x, nd, h => by
    rw [List.map_cons, List.nodup_cons] at nd
    cases i with
    | zero =>
      simp at h; subst h
      simp [valD]
    | succ i =>
      simp at h
      have hne : ¬ ((y.1.map fun (n : Nat) => (Sum.inl (n : Int) : Key)) = x.1.map fun (n : Nat) => (.inl (n : Int))) := fun e => nd.1 (nkey_inj e ▸ List.mem_map.mpr ⟨x, List.mem_of_getElem? h, rfl⟩)
      have ih := val_at (f := f) nd.2 h
      unfold valD at ih ⊢
      rw [List.map_cons, List.find?_cons]
      simp only [hne, decide_false]
      exact ih
theorem val_isSome {f : List Nat × List Nat → D} {ord : Ord} {l : List Nat} (nd : (ord.map (·.1)).Nodup) : (valD (ord.map fun x => ((x.1.map fun (n : Nat) => (Sum.inl (n : Int) : Key)), f x)) (l.map fun (n : Nat) => (.inl (n : Int)))).isSome = decide (l ∈ ord.map (·.1)) := by
  by_cases h : l ∈ ord.map (·.1)
  · obtain ⟨x, hx, rfl⟩ := List.mem_map.mp h
    obtain ⟨i, hi⟩ := List.mem_iff_getElem?.mp hx
    rw [val_at nd hi]
    simp [h]
  · rw [val_no h]; simp [h]
theorem put_new {κ : Type} [DecidableEq κ] {kds : List (κ × D)} {k : κ} {d : D} (h : valD kds k = none) : putD kds k d = kds ++ [(k, d)] := by
  unfold putD
  rw [if_neg]
  intro z
  unfold valD at h
  rw [Option.map_eq_none_iff, List.find?_eq_none] at h
  rw [List.any_eq_true] at z
  obtain ⟨x, hx, e⟩ := z
  exact h x hx e
theorem natsD_eqv0 (a : List Nat) : D.eqv (.tup (natsD a)) (.tup []) = decide (a = []) := natsD_eqv a []
theorem natsD_okE0 (a : List Nat) : okE (.tup (natsD a)) (.tup []) = true := natsD_okE a []
theorem ordL_at {ord : Ord} {i : Nat} {x : List Nat × List Nat} (h : ord[i]? = some x) : atI (ordL ord) (i : Int) = some (.tup (natsD x.1)) := atI_nat (by rw [ordL, List.getElem?_map, h]; rfl)
theorem ordL_len (ord : Ord) : (ordL ord).length = ord.length := by simp [ordL]
theorem ordT_len (ord : Ord) : (ordT ord).length = ord.length := by simp [ordT]
theorem ordT_at {ord : Ord} {i : Nat} {x : List Nat × List Nat} (nd : (ord.map (·.1)).Nodup) (h : ord[i]? = some x) : valD (ordT ord) (x.1.map fun (n : Nat) => (.inl (n : Int))) = some (.str (strOf x.2)) := val_at (f := fun x => .str (strOf x.2)) nd h
theorem ordT_is {ord : Ord} {l : List Nat} (nd : (ord.map (·.1)).Nodup) : (valD (ordT ord) (l.map fun (n : Nat) => (.inl (n : Int)))).isSome = decide (l ∈ ord.map (·.1)) := val_isSome (f := fun x => .str (strOf x.2)) nd
theorem ordT_put {ord : Ord} {l p : List Nat} (h : l ∉ ord.map (·.1)) : putD (ordT ord) (l.map fun (n : Nat) => (.inl (n : Int))) (.str (strOf p)) = ordT (ord ++ [(l, p)]) := by
  have h1 : valD (ordT ord) (l.map fun (n : Nat) => (.inl (n : Int))) = none := val_no (f := fun x => .str (strOf x.2)) h
  rw [put_new h1]
  simp [ordT]
theorem ordL_put {ord : Ord} {l p : List Nat} : ordL ord ++ [.tup (natsD l)] = ordL (ord ++ [(l, p)]) := by simp [ordL]
end Pace
end
section
set_option Elab.async false
set_option linter.all false
set_option maxRecDepth 100000
set_option maxHeartbeats 4000000
namespace Pace
open PySem PySem.Spec PyProof.Rows L2 DL
theorem strIn_sgn (c : Nat) (a : List Nat) : strIn (sgn c) (strOf a) = decide (c ∈ a) := by
  exact (StrLaws.found_one (strOf a) c).trans (decide_eq_decide.mpr (by simp [strOf]))
theorem cut_last {α : Type} (xs : List α) : DL.cutD xs none (some (-1)) = xs.dropLast := by
  unfold DL.cutD
  rw [HT.sIx_none, List.drop_zero, Nat.sub_zero, List.dropLast_eq_take]
  congr 1
  show (if (-1 : Int) < 0 then ((-1 : Int) + (xs.length : Int)).toNat else min (-1 : Int).toNat xs.length) = _
  rw [if_pos (by decide)]
  omega
theorem cut_tail {α : Type} (xs : List α) : DL.cutD xs (some 1) none = xs.tail := by
  unfold DL.cutD
  have e : HT.sIx xs.length 0 (some 1) = min 1 xs.length := HT.sIx_nat xs.length 0 1
  rw [HT.sIx_none, e]
  cases xs with
  | nil => rfl
  | cons x xs =>
    have : min 1 (x :: xs).length = 1 := by simp
    rw [this]
    simp
theorem cutS_strOf (cs : List Nat) (lo hi : Option Int) : cutS (strOf cs) lo hi = strOf (DL.cutD cs lo hi) := by
  unfold cutS DL.cutD
  rw [strOf_len]
  simp [strOf]
def abc : List Nat := [97, 98, 99, 100, 101, 102, 103, 104, 105, 106, 107, 108, 109, 110, 111, 112, 113, 114, 115, 116, 117, 118, 119, 120, 121, 122]
theorem abc_str : (Str.ofString "abcdefghijklmnopqrstuvwxyz") = strOf abc := by decide +kernel
/-- neighbours -/
def nbr {α : Type} (r : α → α → Bool) (l : List α) : Bool := (List.zipWith r l.dropLast l.tail).all id
def lettersB (cs : List Nat) : Bool := !cs.isEmpty && cs.all (fun c => decide (c ∈ abc)) && nbr (fun a b => decide (a < b)) cs
def mvB (hs ws : List Nat) (n : Nat) (m : Mv) : Bool := decide (m.h ∈ hs) && decide (m.c ∈ ws) && decide (m.t < n)
def mvLt (a b : Mv) : Bool := decide (a.h < b.h ∨ (a.h = b.h ∧ a.c < b.c))
def rowB (hs ws : List Nat) (n : Nat) (r : List Mv) : Bool := r.all (mvB hs ws n) && nbr mvLt r
theorem sgn_lt (a b : Nat) : D.lt (.str (sgn a)) (.str (sgn b)) = decide (a < b) := by
  rw [DL.lt_str]
  refine decide_eq_decide.mpr ?_
  simp [sgn, List.cons_lt_cons_iff]
theorem mv_lt (a b : Mv) : D.lt (.tup [.str (sgn a.h), .str (sgn a.c)]) (.tup [.str (sgn b.h), .str (sgn b.c)]) = mvLt a b := by
  have e : D.lt (.tup [.str (sgn a.h), .str (sgn a.c)]) (.tup [.str (sgn b.h), .str (sgn b.c)]) = PySem.W.dataLt (.tuple [.str (sgn a.h), .str (sgn a.c)]) (.tuple [.str (sgn b.h), .str (sgn b.c)]) := rfl
  rw [e, PySem.W.dataLt_pair rfl rfl]
  have e1 : ∀ x y : Nat, PyData.eqv (.str (sgn x)) (.str (sgn y)) = (x == y) := fun x y => by
    have := eqv_str (sgn x) (sgn y)
    rw [sgn_beq] at this
    exact this
  have e2 : ∀ x y : Nat, PySem.W.dataLt (.str (sgn x)) (.str (sgn y)) = decide (x < y) := fun x y => sgn_lt x y
  rw [e1, e1, e2, e2]
  unfold mvLt
  by_cases h : a.h = b.h
  · rw [if_pos (by simp [h])]
    by_cases h2 : a.c = b.c
    · rw [if_pos (by simp [h2])]; simp [h, h2]
    · rw [if_neg (by simp [h2])]; simp [h]
  · rw [if_neg (by simp [h])]; simp [h]
theorem mv_okL (a b : Mv) : okL (.tup [.str (sgn a.h), .str (sgn a.c)]) (.tup [.str (sgn b.h), .str (sgn b.c)]) = true := rfl
theorem str_nil : Str.ofString "" = strOf [] := by decide +kernel
theorem mv0 (m : Mv) : D.item (.tup [.str (sgn m.h), .str (sgn m.c), .int (m.t : Int)]) (.int 0) = some (.str (sgn m.h)) := rfl
theorem mv1 (m : Mv) : D.item (.tup [.str (sgn m.h), .str (sgn m.c), .int (m.t : Int)]) (.int 1) = some (.str (sgn m.c)) := rfl
theorem mv2 (m : Mv) : D.item (.tup [.str (sgn m.h), .str (sgn m.c), .int (m.t : Int)]) (.int 2) = some (.int (m.t : Int)) := rfl
theorem mv_cut (m : Mv) : DL.cutD [.str (sgn m.h), .str (sgn m.c), .int (m.t : Int)] none (some 2) = [D.str (sgn m.h), .str (sgn m.c)] := rfl
theorem nbr_cons {α : Type} (r : α → α → Bool) (a b : α) (l : List α) : nbr r (a :: b :: l) = (r a b && nbr r (b :: l)) := by
  unfold nbr
  simp [List.dropLast]
theorem nbr_pair {α : Type} {r : α → α → Bool} (tr : ∀ a b c, r a b = true → r b c = true → r a c = true) : ∀ l : List α, nbr r l = true → l.Pairwise fun a b => r a b = true
  | [], _ => .nil
  | [a], _ => by simp
  | a :: b :: l, h => by
    rw [nbr_cons, Bool.and_eq_true] at h
    have ih := nbr_pair tr (b :: l) h.2
    refine List.pairwise_cons.mpr ⟨fun c hc => ?_, ih⟩
    rcases List.mem_cons.mp hc with rfl | hc
    · exact h.1
    · exact tr a b c h.1 ((List.pairwise_cons.mp ih).1 c hc)
theorem mvLt_tr (a b c : Mv) (h1 : mvLt a b = true) (h2 : mvLt b c = true) : mvLt a c = true := by
  unfold mvLt at *
  simp only [decide_eq_true_eq] at *
  omega
/-- a row's keys -/
def mvK (m : Mv) : List Key × D := ([.inr (sgn m.h), .inr (sgn m.c)], .int (m.t : Int))
theorem mvK_ne {a b : Mv} (h : mvLt a b = true) : (mvK a).1 ≠ (mvK b).1 := by
  intro e
  simp only [mvK, List.cons.injEq, Sum.inr.injEq, and_true] at e
  have h1 := sgn_inj e.1
  have h2 := sgn_inj e.2
  unfold mvLt at h
  simp only [decide_eq_true_eq] at h
  omega
theorem merge_row : ∀ (r : List Mv) (acc : List (List Key × D)), (∀ m ∈ r, ∀ x ∈ acc, x.1 ≠ (mvK m).1) → r.Pairwise (fun a b => mvLt a b = true) → mergeDT acc (r.map mvK) = acc ++ r.map mvK
  | [], acc, _, _ => by simp [mergeDT]
  | m :: r, acc, h, hp => by
    rw [List.pairwise_cons] at hp
    have hv : valD acc (mvK m).1 = none := by
      unfold valD
      rw [Option.map_eq_none_iff, List.find?_eq_none]
      intro x hx
      simpa using h m (by simp) x hx
    show mergeDT (putD acc (mvK m).1 (mvK m).2) (r.map mvK) = _
    rw [put_new hv, merge_row r _ (fun m' hm' x hx => ?_) hp.2]
    · simp
    · rcases List.mem_append.mp hx with hx | hx
      · exact h m' (by simp [hm']) x hx
      · simp at hx; subst hx
        exact mvK_ne (hp.1 m' hm')
theorem merge_rowB {hs ws : List Nat} {n : Nat} {r : List Mv} (h : rowB hs ws n r = true) : mergeDT [] (r.map mvK) = r.map mvK := by
  unfold rowB at h
  rw [Bool.and_eq_true] at h
  have := merge_row r [] (fun _ _ x hx => by simp at hx) (nbr_pair mvLt_tr r h.2)
  simpa using this
theorem prsT_row : ∀ r : List Mv, prsT (r.map fun m => .tup [.tup [.str (sgn m.h), .str (sgn m.c)], .int (m.t : Int)]) = some (r.map mvK)
  | [] => rfl
  | m :: r => by
    simp only [List.map_cons, prsT, D.keys, D.key, prsT_row r]
    rfl
/-- rules that Rules takes -/
structure RulV (hs ws : List Nat) (rs : List (List Mv)) : Prop where
  lh : lettersB hs = true
  lw : lettersB ws = true
  sh : hs.length ≤ 1000
  sw : ws.length ≤ 1000
  n1 : 1 ≤ rs.length
  n2 : rs.length ≤ 999
  row : ∀ r ∈ rs, rowB hs ws rs.length r = true ∧ r.length ≤ 1000
def mkR (hs ws : List Nat) (rs : List (List Mv)) : Rul := ⟨strOf hs, strOf ws, rs⟩
theorem RulV.ok {hs ws : List Nat} {rs : List (List Mv)} (h : RulV hs ws rs) : (mkR hs ws rs).Ok where
  few := by have := h.n2; show rs.length ≤ 1000; omega
  at_ := fun r hr => by
    obtain ⟨a, b⟩ := h.row r hr
    refine ⟨b, fun m hm => ?_⟩
    unfold rowB at a
    rw [Bool.and_eq_true, List.all_eq_true] at a
    have := a.1 m hm
    unfold mvB at this
    simp only [Bool.and_eq_true, decide_eq_true_eq] at this
    exact this.2
theorem pf1 (a : D) : putFD "heard" a [] = [(("heard" : Str), a)] := rfl
theorem pf2 (a b : D) : putFD "written" b [(("heard" : Str), a)] = [(("heard" : Str), a), (("written" : Str), b)] := rfl
theorem pf3 (a b c : D) : putFD "rows" c [(("heard" : Str), a), (("written" : Str), b)] = [(("heard" : Str), a), (("written" : Str), b), (("rows" : Str), c)] := rfl
theorem pf4 (a b c d : D) : putFD "steps" d [(("heard" : Str), a), (("written" : Str), b), (("rows" : Str), c)] = [(("heard" : Str), a), (("written" : Str), b), (("rows" : Str), c), (("steps" : Str), d)] := rfl
end Pace
end
section
set_option Elab.async false
set_option linter.all false
set_option maxRecDepth 100000
set_option maxHeartbeats 4000000
namespace Pace
open PySem PySem.Spec PyProof.Rows L2 DL
theorem rowsD_cur (G : GH) (rs : List (List Mv)) : D.cur G (rowsD rs) = rowsD rs := rfl
theorem rowsD_at {rs : List (List Mv)} {i : Nat} {r : List Mv} (h : rs[i]? = some r) : D.item (rowsD rs) (.int (i : Int)) = some (rowD r) := atI_nat (by rw [List.getElem?_map, h]; rfl)
/-- few enough for the set of what is reached -/
structure Few (rs : List (List Mv)) : Prop where
  few : ∃ B, (∀ r ∈ rs, r.length ≤ B) ∧ rs.length * B < 64
theorem flat_len {α β : Type} (f : α → List β) (B : Nat) : ∀ l : List α, (∀ a ∈ l, (f a).length ≤ B) → (l.flatMap f).length ≤ l.length * B
  | [], _ => by simp
  | a :: l, h => by
    have h1 := h a (by simp)
    have h2 := flat_len f B l fun b hb => h b (by simp [hb])
    simp only [List.flatMap_cons, List.length_append, List.length_cons]
    rw [Nat.add_mul]
    omega
theorem hits_len {rs : List (List Mv)} {B : Nat} (h : ∀ r ∈ rs, r.length ≤ B) (s c : Nat) : (hits rs s c).length ≤ B := by
  unfold hits
  rw [List.length_map]
  refine Nat.le_trans (List.length_filter_le _ _) ?_
  cases e : rs[s]? with
  | none => simp [List.getD, e]
  | some r => simpa [List.getD, e] using h r (List.mem_of_getElem? e)
theorem Few.len {rs : List (List Mv)} (h : Few rs) {ss : List Nat} (nd : ss.Nodup) (hl : ∀ s ∈ ss, s < rs.length) (c : Nat) : (ss.flatMap fun s => hits rs s c).length < 64 := by
  obtain ⟨B, h1, h2⟩ := h.few
  have h3 := flat_len (fun s => hits rs s c) B ss fun s _ => hits_len h1 s c
  have h4 := nodup_lt_len nd hl
  have h5 := Nat.mul_le_mul_right B h4
  omega
theorem isort1_nat (ts : List Nat) : (isort1 (ts.map fun (t : Nat) => (t : Int))).map D.int = natsD (nsort (firstsF ts)) := by
  have e : firstsF (ts.map fun (t : Nat) => (t : Int)) = (firstsF ts).map fun (t : Nat) => (t : Int) := by
    have aux : ∀ (l acc : List Nat), (l.map fun (t : Nat) => (t : Int)).foldl addF (acc.map fun (t : Nat) => (t : Int)) = (l.foldl addF acc).map fun (t : Nat) => (t : Int) := by
      intro l
      induction l with
      | nil => intro acc; rfl
      | cons t l ih =>
        intro acc
        rw [List.map_cons, List.foldl_cons, List.foldl_cons, ← ih]
        congr 1
        unfold addF
        have : ((t : Int) ∈ acc.map fun (t : Nat) => (t : Int)) ↔ t ∈ acc := by
          rw [List.mem_map]
          constructor
          · rintro ⟨a, ha, e⟩
            have : a = t := by omega
            exact this ▸ ha
          · exact fun h => ⟨t, h, rfl⟩
        by_cases h : t ∈ acc
        · rw [if_pos (this.mpr h), if_pos h]
        · rw [if_neg (fun z => h (this.mp z)), if_neg h]; simp
    exact aux ts []
  unfold isort1
  rw [e, isort_nat]
theorem intsD_nats (ts : List Nat) : intsD (natsD ts) = some (ts.map fun (t : Nat) => (t : Int)) := by
  have := intsD_map (ts.map fun (t : Nat) => (t : Int))
  rw [List.map_map] at this
  exact this
theorem natsD_len (a : List Nat) : (natsD a).length = a.length := by simp [natsD]
theorem natsD_app (a b : List Nat) : natsD a ++ natsD b = natsD (a ++ b) := by simp [natsD]
def pageD : Option (List Nat) → D
  | none => .non
  | some p => .str (strOf p)
end Pace
end
section
set_option Elab.async false
set_option linter.all false
set_option maxRecDepth 100000
set_option maxHeartbeats 4000000
namespace Pace
open PySem PySem.Spec PyProof.Rows L2 DL
/-- a lot: states, moves -/
abbrev Lot := List (Nat × Mv)
def lt3 (a b : Mv) : Bool := if a.h == b.h then (if a.c == b.c then decide (a.t < b.t) else decide (a.c < b.c)) else decide (a.h < b.h)
def le3 (a b : Mv) : Bool := !lt3 b a
theorem lt3_iff (a b : Mv) : lt3 a b = true ↔ a.h < b.h ∨ (a.h = b.h ∧ (a.c < b.c ∨ (a.c = b.c ∧ a.t < b.t))) := by
  unfold lt3
  by_cases h : a.h = b.h
  · rw [if_pos (by simp [h])]
    by_cases h2 : a.c = b.c
    · rw [if_pos (by simp [h2])]; simp [h, h2]
    · rw [if_neg (by simp [h2])]; simp [h, h2]
  · rw [if_neg (by simp [h])]; simp [h]
theorem le3_tr (a b c : Mv) (h1 : le3 a b = true) (h2 : le3 b c = true) : le3 a c = true := by
  unfold le3 at *
  simp only [Bool.not_eq_true', Bool.eq_false_iff, ne_eq, lt3_iff] at *
  omega
theorem le3_tot (a b : Mv) : (le3 a b || le3 b a) = true := by
  unfold le3
  rw [Bool.or_eq_true, Bool.not_eq_true', Bool.not_eq_true', Bool.eq_false_iff, Bool.eq_false_iff, ne_eq, ne_eq, lt3_iff, lt3_iff]
  omega
def rowOf (lot : Lot) (s : Nat) : List Mv := ((lot.filter fun x => x.1 == s).map (·.2)).mergeSort le3
def rowsOf (lot : Lot) (n : Nat) : List (List Mv) := (List.range n).map (rowOf lot)
theorem rowOf_mem {lot : Lot} {s : Nat} {m : Mv} : m ∈ rowOf lot s ↔ (s, m) ∈ lot := by
  unfold rowOf
  rw [(List.mergeSort_perm _ _).mem_iff, List.mem_map]
  constructor
  · rintro ⟨x, hx, rfl⟩
    rw [List.mem_filter] at hx
    have : x.1 = s := by simpa using hx.2
    rw [← this]
    exact hx.1
  · exact fun h => ⟨(s, m), List.mem_filter.mpr ⟨h, by simp⟩, rfl⟩
/-- keys are met once -/
def LotNd (lot : Lot) : Prop := (lot.map fun x => (x.1, x.2.h, x.2.c)).Nodup
theorem nbr_of_pair {α : Type} {r : α → α → Bool} : ∀ {l : List α}, l.Pairwise (fun a b => r a b = true) → nbr r l = true
  | [], _ => rfl
  | [a], _ => rfl
  | a :: b :: l, h => by
    rw [nbr_cons, Bool.and_eq_true]
    rw [List.pairwise_cons] at h
    exact ⟨h.1 b (by simp), nbr_of_pair h.2⟩
theorem rowOf_lt {lot : Lot} (nd : LotNd lot) (s : Nat) : (rowOf lot s).Pairwise fun a b => mvLt a b = true := by
  have h1 : (rowOf lot s).Pairwise fun a b => le3 a b = true := List.pairwise_mergeSort (le := le3) le3_tr le3_tot _
  have h2 : (rowOf lot s).Pairwise fun a b => (a.h, a.c) ≠ (b.h, b.c) := by
    have pm : (rowOf lot s).Perm ((lot.filter fun x => x.1 == s).map (·.2)) := List.mergeSort_perm _ _
    refine (pm.pairwise_iff fun h => fun e => h e.symm).mpr ?_
    rw [List.pairwise_map]
    have h3 : lot.Pairwise fun x y => (x.1, x.2.h, x.2.c) ≠ (y.1, y.2.h, y.2.c) := by
      unfold LotNd at nd
      rw [List.nodup_iff_pairwise_ne, List.pairwise_map] at nd
      exact nd
    have h4 := h3.sublist (List.filter_sublist (p := fun x => x.1 == s))
    refine h4.imp_of_mem fun {x y} hx hy h e => h ?_
    rw [List.mem_filter] at hx hy
    have e1 : x.1 = s := by simpa using hx.2
    have e2 : y.1 = s := by simpa using hy.2
    simp only [Prod.mk.injEq] at e
    rw [e1, e2, e.1, e.2]
  refine (h1.and h2).imp fun {a b} h => ?_
  obtain ⟨h, n⟩ := h
  unfold le3 at h
  rw [Bool.not_eq_true', Bool.eq_false_iff, ne_eq, lt3_iff] at h
  unfold mvLt
  simp only [decide_eq_true_eq]
  simp only [ne_eq, Prod.mk.injEq] at n
  omega
theorem intL_si (ns : List Int) : D.sis (ns.map D.int) = true := by
  rw [sis_all]
  intro x hx
  obtain ⟨n, _, rfl⟩ := List.mem_map.mp hx
  rfl
theorem intL_ok (ns : List Int) : okE (.lst (ns.map D.int)) (.lst []) = true := by
  refine okE_si (x := .lst (ns.map D.int)) (y := .lst []) (intL_si ns) rfl ?_
  have : D.dps (ns.map D.int) ≤ 0 := dps_le fun x hx => by
    obtain ⟨n, _, rfl⟩ := List.mem_map.mp hx
    simp [D.dp]
  simp only [D.dp]
  omega
theorem intL_eqv (ns : List Int) : D.eqv (.lst (ns.map D.int)) (.lst []) = decide (ns = []) := by
  rw [Bool.eq_iff_iff, eqv_si (x := .lst (ns.map D.int)) (y := .lst []) (intL_si ns) rfl]
  simp
theorem pop_last (ns : List Int) (a : Int) : ((ns ++ [a]).map D.int)[((ns ++ [a]).map D.int).length - 1]? = some (.int a) := by simp
theorem pop_rest (ns : List Int) (a : Int) : ((ns ++ [a]).map D.int).dropLast = ns.map D.int := by simp
end Pace
end
section
set_option Elab.async false
set_option linter.all false
set_option maxRecDepth 100000
set_option maxHeartbeats 4000000
namespace Pace
open PySem PySem.Spec PyProof.Rows L2 DL
theorem texts_sgn : ∀ cs : List Nat, texts (cs.map fun c => .str (sgn c)) = some (cs.map sgn)
  | [] => rfl
  | c :: cs => by simp [texts, texts_sgn cs]
theorem join_sgn : ∀ cs : List Nat, Txt.join (Str.ofString "") (cs.map sgn) = strOf cs := by
  have hn : ∀ x : Str, Str.ofString "" ++ x = x := fun x => by
    rw [str_nil]
    show (⟨#[] ++ x.cps⟩ : Str) = x
    simp
  intro cs
  rw [TL.join_eq]
  induction cs with
  | nil => rw [← str_nil]; rfl
  | cons c cs ih =>
    cases cs with
    | nil => rfl
    | cons d cs =>
      show sgn c ++ Str.ofString "" ++ Str.join (Str.ofString "") ((d :: cs).map sgn) = _
      rw [ih]
      have : sgn c ++ Str.ofString "" = sgn c := by
        rw [str_nil]
        show (⟨#[c] ++ #[]⟩ : Str) = _
        rfl
      rw [this]
      exact strOf_app [c] (d :: cs)
theorem sgn_sum (cs : List Nat) : ((cs.map sgn).map (·.length)).sum = cs.length := by
  induction cs with
  | nil => rfl
  | cons c cs ih =>
    simp only [List.map_cons, List.sum_cons, ih, List.length_cons]
    have : (sgn c).length = 1 := rfl
    omega
end Pace
end
section
set_option Elab.async false
set_option linter.all false
set_option maxRecDepth 100000
set_option maxHeartbeats 4000000
namespace Pace
open PySem PySem.Spec PyProof.Rows L2 DL
def key3 (x : Nat × Mv) : Nat × Nat × Nat := (x.1, x.2.h, x.2.c)
def lotPut (lot : Lot) (x : Nat × Mv) : Lot := if lot.any (fun y => decide (key3 y = key3 x)) then lot.map (fun y => if key3 y = key3 x then x else y) else lot ++ [x]
structure LotOk (sz : Nat) (hs ws : List Nat) (lot : Lot) : Prop where
  nd : LotNd lot
  at_ : ∀ x ∈ lot, x.1 < sz ∧ x.2.h ∈ hs ∧ x.2.c ∈ ws ∧ x.2.t < sz
theorem lotPut_keys (lot : Lot) (x : Nat × Mv) : (lotPut lot x).map key3 = if lot.any (fun y => decide (key3 y = key3 x)) then lot.map key3 else lot.map key3 ++ [key3 x] := by
  unfold lotPut
  split
  · rw [List.map_map]
    refine List.map_congr_left fun y _ => ?_
    simp only [Function.comp]
    split
    · rename_i h; exact h.symm
    · rfl
  · simp
theorem lotPut_mem {lot : Lot} {x y : Nat × Mv} (h : y ∈ lotPut lot x) : y ∈ lot ∨ y = x := by
  unfold lotPut at h
  split at h
  · obtain ⟨z, hz, rfl⟩ := List.mem_map.mp h
    split
    · exact .inr rfl
    · exact .inl hz
  · rcases List.mem_append.mp h with h | h
    · exact .inl h
    · simp at h; exact .inr h
theorem LotOk.put {sz : Nat} {hs ws : List Nat} {lot : Lot} (h : LotOk sz hs ws lot) {x : Nat × Mv} (hx : x.1 < sz ∧ x.2.h ∈ hs ∧ x.2.c ∈ ws ∧ x.2.t < sz) : LotOk sz hs ws (lotPut lot x) where
  nd := by
    have e := lotPut_keys lot x
    have n0 : (lot.map key3).Nodup := h.nd
    show ((lotPut lot x).map key3).Nodup
    rw [e]
    split
    · exact n0
    · rename_i hn
      rw [List.nodup_append]
      refine ⟨n0, by simp, fun a ha b hb => ?_⟩
      simp at hb
      subst hb
      intro e
      subst e
      obtain ⟨y, hy, e2⟩ := List.mem_map.mp ha
      exact hn (List.any_eq_true.mpr ⟨y, hy, by simpa using e2⟩)
  at_ := fun y hy => by
    rcases lotPut_mem hy with hy | rfl
    · exact h.at_ y hy
    · exact hx
theorem prod_len (a b : List Nat) : (a.flatMap fun x => b.map fun y => (x, y)).length = a.length * b.length := by
  induction a with
  | nil => simp
  | cons x a ih => simp only [List.flatMap_cons, List.length_append, List.length_map, ih, List.length_cons, Nat.add_mul]; omega
theorem row_few {sz : Nat} {hs ws : List Nat} {lot : Lot} (h : LotOk sz hs ws lot) (s : Nat) : (rowOf lot s).length ≤ hs.length * ws.length := by
  have hp := rowOf_lt h.nd s
  have nd : ((rowOf lot s).map fun m => (m.h, m.c)).Nodup := by
    rw [List.nodup_iff_pairwise_ne, List.pairwise_map]
    refine hp.imp fun {a b} hab e => ?_
    unfold mvLt at hab
    simp only [decide_eq_true_eq] at hab
    simp only [Prod.mk.injEq] at e
    omega
  have := List.Nodup.length_le_of_subset nd (l₂ := hs.flatMap fun x => ws.map fun y => (x, y)) fun p hp => by
    obtain ⟨m, hm, rfl⟩ := List.mem_map.mp hp
    obtain ⟨_, h2, h3, _⟩ := h.at_ _ (rowOf_mem.mp hm)
    exact List.mem_flatMap.mpr ⟨m.h, h2, List.mem_map.mpr ⟨m.c, h3, rfl⟩⟩
  rw [List.length_map, prod_len] at this
  exact this
theorem lot_few {sz : Nat} {hs ws : List Nat} {lot : Lot} (h : LotOk sz hs ws lot) : lot.length ≤ sz * (hs.length * ws.length) := by
  have nd : (lot.map key3).Nodup := h.nd
  have := List.Nodup.length_le_of_subset nd (l₂ := (List.range sz).flatMap fun s => (hs.flatMap fun x => ws.map fun y => (x, y)).map fun p => (s, p)) fun p hp => by
    obtain ⟨x, hx, rfl⟩ := List.mem_map.mp hp
    obtain ⟨h1, h2, h3, _⟩ := h.at_ _ hx
    exact List.mem_flatMap.mpr ⟨x.1, List.mem_range.mpr h1, List.mem_map.mpr ⟨(x.2.h, x.2.c), List.mem_flatMap.mpr ⟨x.2.h, h2, List.mem_map.mpr ⟨x.2.c, h3, rfl⟩⟩, rfl⟩⟩
  have e : ((List.range sz).flatMap fun s => (hs.flatMap fun x => ws.map fun y => (x, y)).map fun p => (s, p)).length ≤ sz * (hs.length * ws.length) := by
    have := flat_len (fun s => (hs.flatMap fun x => ws.map fun y => (x, y)).map fun p => (s, p)) (hs.length * ws.length) (List.range sz) fun s _ => by rw [List.length_map, prod_len]; exact Nat.le_refl _
    simpa using this
  rw [List.length_map] at this
  omega
theorem rowsOf_len (lot : Lot) (n : Nat) : (rowsOf lot n).length = n := by simp [rowsOf]
end Pace
end
section
set_option Elab.async false
set_option linter.all false
set_option maxRecDepth 100000
set_option maxHeartbeats 4000000
namespace Pace
open PySem PySem.Spec PyProof.Rows L2 DL
abbrev Rows := List (List Mv)
def rowS (A : Rows) (s : Nat) : List Mv := A.getD s []
/-- two rows with the same letters, and targets that go with each other -/
def rowsLike (P : Nat → Nat → Bool) : List Mv → List Mv → Bool
  | [], [] => true
  | m :: r, m' :: r' => (m.h == m'.h && m.c == m'.c && P m.t m'.t) && rowsLike P r r'
  | _, _ => false
/-- the same for k rounds -/
def sim : Nat → Rows → Nat → Rows → Nat → Bool
  | 0, _, _, _, _ => true
  | k + 1, A, s, B, t => rowsLike (fun x y => sim k A x B y) (rowS A s) (rowS B t)
def bis (A : Rows) (s : Nat) (B : Rows) (t : Nat) : Prop := ∀ k, sim k A s B t = true
theorem sim_refl (A : Rows) : ∀ k s, sim k A s A s = true := by
  intro k
  induction k with
  | zero => intro s; rfl
  | succ k ih =>
    intro s
    show rowsLike _ (rowS A s) (rowS A s) = true
    generalize rowS A s = r
    induction r with
    | nil => rfl
    | cons m r ihr => simp only [rowsLike, ih, ihr, beq_self_eq_true, Bool.and_self]
theorem sim_symm {A B : Rows} : ∀ {k s t}, sim k A s B t = true → sim k B t A s = true := by
  intro k
  induction k with
  | zero => intro s t _; rfl
  | succ k ih =>
    intro s t h
    show rowsLike _ (rowS B t) (rowS A s) = true
    have h : rowsLike _ (rowS A s) (rowS B t) = true := h
    generalize rowS A s = r at h
    generalize rowS B t = r' at h
    induction r generalizing r' with
    | nil => cases r' with
      | nil => rfl
      | cons _ _ => cases h
    | cons m r ihr => cases r' with
      | nil => cases h
      | cons m' r' =>
        simp only [rowsLike, Bool.and_eq_true, beq_iff_eq] at h ⊢
        exact ⟨⟨⟨h.1.1.1.symm, h.1.1.2.symm⟩, ih h.1.2⟩, ihr r' h.2⟩
theorem sim_trans {A B D : Rows} : ∀ {k s t u}, sim k A s B t = true → sim k B t D u = true → sim k A s D u = true := by
  intro k
  induction k with
  | zero => intro s t u _ _; rfl
  | succ k ih =>
    intro s t u h1 h2
    show rowsLike _ (rowS A s) (rowS D u) = true
    have h1 : rowsLike _ (rowS A s) (rowS B t) = true := h1
    have h2 : rowsLike _ (rowS B t) (rowS D u) = true := h2
    generalize rowS A s = r at h1
    generalize rowS B t = r' at h1 h2
    generalize rowS D u = r'' at h2
    induction r generalizing r' r'' with
    | nil => cases r' with
      | nil => cases r'' with
        | nil => rfl
        | cons _ _ => cases h2
      | cons _ _ => cases h1
    | cons m r ihr => cases r' with
      | nil => cases h1
      | cons m' r' => cases r'' with
        | nil => cases h2
        | cons m'' r'' =>
          simp only [rowsLike, Bool.and_eq_true, beq_iff_eq] at h1 h2 ⊢
          exact ⟨⟨⟨h1.1.1.1.trans h2.1.1.1, h1.1.1.2.trans h2.1.1.2⟩, ih h1.1.2 h2.1.2⟩, ihr r' h1.2 r'' h2.2⟩
theorem bis.refl (A : Rows) (s : Nat) : bis A s A s := fun k => sim_refl A k s
theorem bis.symm {A B : Rows} {s t : Nat} (h : bis A s B t) : bis B t A s := fun k => sim_symm (h k)
theorem bis.trans {A B D : Rows} {s t u : Nat} (h : bis A s B t) (g : bis B t D u) : bis A s D u := fun k => sim_trans (h k) (g k)
/-- what a bisimulation says of two rows -/
inductive Like (R : Nat → Nat → Prop) : List Mv → List Mv → Prop
  | nil : Like R [] []
  | cons {m m' : Mv} {r r' : List Mv} : m.h = m'.h → m.c = m'.c → R m.t m'.t → Like R r r' → Like R (m :: r) (m' :: r')
theorem bis.row {A B : Rows} {s t : Nat} (h : bis A s B t) : Like (fun x y => bis A x B y) (rowS A s) (rowS B t) := by
  have h : ∀ k, rowsLike (fun x y => sim k A x B y) (rowS A s) (rowS B t) = true := fun k => h (k + 1)
  generalize rowS A s = r at h
  generalize rowS B t = r' at h
  induction r generalizing r' with
  | nil => cases r' with
    | nil => exact .nil
    | cons _ _ => cases h 0
  | cons m r ih => cases r' with
    | nil => cases h 0
    | cons m' r' =>
      simp only [rowsLike, Bool.and_eq_true, beq_iff_eq] at h
      exact .cons (h 0).1.1.1 (h 0).1.1.2 (fun k => (h k).1.2) (ih r' fun k => (h k).2)
/-- a bisimulation: all pairs of it are the same -/
theorem bis_of {A B : Rows} {R : Nat → Nat → Prop} (h : ∀ s t, R s t → Like R (rowS A s) (rowS B t)) {s t : Nat} (r : R s t) : bis A s B t := by
  intro k
  induction k generalizing s t with
  | zero => rfl
  | succ k ih =>
    show rowsLike _ (rowS A s) (rowS B t) = true
    have l := h s t r
    generalize rowS A s = a at l
    generalize rowS B t = b at l
    clear r
    induction l with
    | nil => rfl
    | cons e1 e2 e3 _ ihl => simp only [rowsLike, e1, e2, ih e3, ihl, beq_self_eq_true, Bool.and_self]
theorem Like.imp {R R' : Nat → Nat → Prop} (f : ∀ x y, R x y → R' x y) {r r' : List Mv} (l : Like R r r') : Like R' r r' := by
  induction l with
  | nil => exact .nil
  | cons e1 e2 e3 _ ih => exact .cons e1 e2 (f _ _ e3) ih
inductive All2 (R : Nat → Nat → Prop) : List Nat → List Nat → Prop
  | nil : All2 R [] []
  | cons {x y : Nat} {l l' : List Nat} : R x y → All2 R l l' → All2 R (x :: l) (y :: l')
theorem All2.len {R : Nat → Nat → Prop} {l l' : List Nat} (h : All2 R l l') : l.length = l'.length := by
  induction h with
  | nil => rfl
  | cons _ _ ih => rw [List.length_cons, List.length_cons, ih]
theorem All2.snoc {R : Nat → Nat → Prop} {l l' : List Nat} {x y : Nat} (h : All2 R l l') (r : R x y) : All2 R (l ++ [x]) (l' ++ [y]) := by
  induction h with
  | nil => exact .cons r .nil
  | cons r' _ ih => exact .cons r' ih
theorem All2.get {R : Nat → Nat → Prop} {l l' : List Nat} (h : All2 R l l') : ∀ {i : Nat} {x : Nat}, l[i]? = some x → ∃ y, l'[i]? = some y ∧ R x y := by
  induction h with
  | nil => intro i x e; simp at e
  | cons r _ ih =>
    intro i x e
    cases i with
    | zero => simp at e; subst e; exact ⟨_, rfl, r⟩
    | succ i => simpa using ih (by simpa using e)
end Pace
end
section
set_option Elab.async false
set_option linter.all false
set_option maxRecDepth 100000
set_option maxHeartbeats 4000000
namespace Pace
open PySem PySem.Spec PyProof.Rows L2 DL
/-- targets lie within -/
def Closed (A : Rows) : Prop := 1 ≤ A.length ∧ ∀ r ∈ A, ∀ m ∈ r, m.t < A.length
theorem rowS_mem {A : Rows} {s : Nat} {m : Mv} (h : m ∈ rowS A s) : ∃ r ∈ A, m ∈ r := by
  unfold rowS at h
  rw [List.getD_eq_getElem?_getD] at h
  cases e : A[s]? with
  | none => rw [e] at h; simp at h
  | some r => rw [e] at h; exact ⟨r, List.mem_of_getElem? e, h⟩
theorem Closed.t {A : Rows} (c : Closed A) {s : Nat} {m : Mv} (h : m ∈ rowS A s) : m.t < A.length := by
  obtain ⟨r, hr, hm⟩ := rowS_mem h
  exact c.2 r hr m hm
theorem Like.mem {R : Nat → Nat → Prop} {r r' : List Mv} (l : Like R r r') : ∀ m ∈ r, ∃ t, R m.t t := by
  induction l with
  | nil => intro m hm; cases hm
  | cons e1 e2 e3 _ ih =>
    intro x hx
    rcases List.mem_cons.mp hx with rfl | hx
    · exact ⟨_, e3⟩
    · exact ih x hx
end Pace
end
section
set_option Elab.async false
set_option linter.all false
set_option maxRecDepth 100000
set_option maxHeartbeats 4000000
namespace DL
open PySem PySem.Spec PyProof.Rows L2
end DL
end
section
set_option Elab.async false
set_option linter.all false
set_option maxRecDepth 100000
set_option maxHeartbeats 4000000
namespace DL
open PySem PySem.Spec PyProof.Rows L2
end DL
end
section
set_option Elab.async false
set_option linter.all false
set_option maxRecDepth 100000
set_option maxHeartbeats 4000000
namespace DL
open PySem PySem.Spec PyProof.Rows L2
section
variable {X : Cx} {pos : Pos}
def rMulL : DR2 := fun x y G Q => match x, y with
  | .lst xs, .int n => 0 ≤ n ∧ n < 1000 ∧ xs.length ≤ 1000 ∧ Q (.lst (List.replicate n.toNat xs).flatten) G
  | _, _ => False
theorem od_mulL : OpD X (binaryOp .Mult) rMulL := by
  refine ⟨_, op_rep, fun F H G x y dx dy g rx ry Q' h Q k => ?_⟩
  unfold rMulL at h
  split at h
  · rename_i xs n
    cases rx with
    | lst ha rs =>
      rename_i a vs
      cases ry
      obtain ⟨h1, h2, h3, h5⟩ := h
      have hl := rs.length
      have hm : vs.length * n.toNat ≤ 1000 * 1000 := Nat.mul_le_mul (by omega) (by omega)
      refine ⟨_, _, vs, rfl, rfl, g.ex _ _ ha, by omega, by omega, by rw [sizeLine_eq]; omega, fun p hp => ?_⟩
      have gr := Gr.new (u := .lst (List.replicate n.toNat vs).flatten) g.ex hp
      exact k _ _ _ _ G gr.go (g.grow gr) (.lst upd_same ((rs.mono gr.ff).repN _)) h5
  · exact h.elim
end
end DL
end
section
set_option Elab.async false
set_option linter.all false
set_option maxRecDepth 100000
set_option maxHeartbeats 4000000
namespace DL
open PySem PySem.Spec PyProof.Rows L2
abbrev KB := Addr × List Key
end DL
end
section
set_option Elab.async false
set_option linter.all false
set_option maxRecDepth 100000
set_option maxHeartbeats 4000000
namespace DL
open PySem PySem.Spec PyProof.Rows L2
end DL
end
section
set_option Elab.async false
set_option linter.all false
set_option maxRecDepth 100000
set_option maxHeartbeats 4000000
namespace Pace
open PySem PySem.Spec PyProof.Rows L2 DL
/-- rows as the walks need them -/
structure Steps (A : Rows) : Prop where
  cl : Closed A
  n : A.length ≤ 999
  pw : ∀ r ∈ A, r.Pairwise fun a b => mvLt a b = true
  l : ∀ r ∈ A, r.length ≤ 1000
theorem RulV.steps {hs ws : List Nat} {rs : List (List Mv)} (v : RulV hs ws rs) : Steps rs where
  cl := ⟨v.n1, fun r hr m hm => (v.ok.at_ r hr).2 m hm⟩
  n := v.n2
  pw := fun r hr => by
    have := (v.row r hr).1
    unfold rowB at this
    rw [Bool.and_eq_true] at this
    exact nbr_pair (r := mvLt) mvLt_tr _ this.2
  l := fun r hr => (v.row r hr).2
theorem Steps.row {A : Rows} (h : Steps A) (s : Nat) : (rowS A s).Pairwise (fun a b => mvLt a b = true) ∧ (rowS A s).length ≤ 1000 := by
  unfold rowS
  rw [List.getD_eq_getElem?_getD]
  cases e : A[s]? with
  | none => exact ⟨.nil, Nat.zero_le _⟩
  | some r => exact ⟨h.pw r (List.mem_of_getElem? e), h.l r (List.mem_of_getElem? e)⟩
end Pace
end
section
set_option Elab.async false
set_option linter.all false
set_option maxRecDepth 100000
set_option maxHeartbeats 4000000
namespace Pace
open PySem PySem.Spec PyProof.Rows L2 DL
theorem _root_.DL.Sub.no {G G' : GH} (s : Sub G G') {p : Addr} (h : G' p = none) : G p = none := by
  cases q : G p with
  | none => rfl
  | some o => rw [s.le p o q] at h; cases h
end Pace
end
section
set_option Elab.async false
set_option linter.all false
set_option maxRecDepth 100000
set_option maxHeartbeats 4000000
namespace Pace
open PySem PySem.Spec PyProof.Rows L2 DL
theorem snoc_ind {α : Type} {P : List α → Prop} (nil : P []) (snoc : ∀ l a, P l → P (l ++ [a])) (l : List α) : P l := by
  rw [← List.reverse_reverse l]
  induction l.reverse with
  | nil => exact nil
  | cons a l ih => rw [List.reverse_cons]; exact snoc _ _ ih
theorem szB {n : Nat} (h : n ≤ 1000000) : n ≤ sizeLine := by rw [sizeLine_eq]; omega
theorem map_get {α : Type} {f : α → D} {l : List α} {i : Nat} {d : D} (h : (l.map f)[i]? = some d) : ∃ a, l[i]? = some a ∧ d = f a := by
  rw [List.getElem?_map] at h
  cases e : l[i]? with
  | none => rw [e] at h; cases h
  | some a => rw [e] at h; cases h; exact ⟨a, rfl, rfl⟩
theorem take_snoc {α : Type} {l : List α} {i : Nat} {a : α} (h : l[i]? = some a) : l.take (i + 1) = l.take i ++ [a] := by rw [List.take_add_one, h]; rfl
theorem range_get {n : Nat} {i : Nat} {d : D} (h : ((List.range (n : Int).toNat).map fun (i : Nat) => D.int (i : Nat))[i]? = some d) : i < n ∧ d = .int (i : Int) := by
  obtain ⟨a, ha, rfl⟩ := map_get h
  obtain ⟨h1, h2⟩ := List.getElem?_eq_some_iff.mp ha
  rw [List.length_range, Int.toNat_natCast] at h1
  rw [List.getElem_range] at h2
  subst h2
  exact ⟨h1, rfl⟩
theorem range_len (n : Nat) : ((List.range (n : Int).toNat).map fun (i : Nat) => D.int (i : Nat)).length = n := by simp
theorem signs_map (hs : List Nat) : DL.signs (strOf hs) = hs.map fun c => .str (sgn c) := by
  simp [DL.signs, strOf]
  intro a _
  rfl
theorem unsgn : ∀ {ys : List Str}, (∀ y ∈ ys, ∃ c, y = sgn c) → ∃ es : List Nat, ys = es.map sgn
  | [], _ => ⟨[], rfl⟩
  | y :: ys, h => by
    obtain ⟨c, rfl⟩ := h y (by simp)
    obtain ⟨es, rfl⟩ := unsgn fun z hz => h z (List.mem_cons_of_mem _ hz)
    exact ⟨c :: es, rfl⟩
theorem rising_sgn : ∀ (es : List Nat) (a : Nat), risingS (sgn a) (es.map sgn) = true → (a :: es).Nodup → nbr (fun a b => decide (a < b)) (a :: es) = true
  | [], a, _, _ => by simp [nbr]
  | b :: es, a, h, nd => by
    rw [nbr_cons]
    simp only [List.map_cons, risingS, Bool.and_eq_true] at h
    have ih := rising_sgn es b h.2 (List.nodup_cons.mp nd).2
    rw [ih, Bool.and_true]
    have h1 := h.1
    have hne : a ≠ b := fun e => by subst e; simp at nd
    have : ¬ b < a := by
      intro hlt
      have e : ltCps (sgn b).cps.toList (sgn a).cps.toList = true := by
        show ltCps [b] [a] = true
        simp [ltCps, hlt]
      rw [e] at h1
      cases h1
    simpa using (by omega : a < b)
def capD (x : List Nat × Nat) : D := .tup [.str (strOf x.1), .int (x.2 : Int)]
def capsStep (rs : List (List Mv)) (l : List (List Nat × Nat)) (c : Nat) : List (List Nat × Nat) := l.flatMap fun x => ((rs.getD x.2 []).filter fun m => m.h == c).map fun m => (x.1 ++ [m.c], m.t)
def caps (rs : List (List Mv)) (s : Nat) (cs : List Nat) : List (List Nat × Nat) := cs.foldl (capsStep rs) [([], s)]
theorem caps_snoc {rs : List (List Mv)} {s : Nat} {cs : List Nat} {c : Nat} : caps rs s (cs ++ [c]) = capsStep rs (caps rs s cs) c := by simp [caps]
theorem caps_run {rs : List (List Mv)} {s : Nat} (cs : List Nat) : ∀ k, (k ∈ (caps rs s cs).map (·.2)) ↔ k ∈ run rs [s] cs := by
  induction cs using snoc_ind with
  | nil => intro k; simp [caps, run]
  | snoc cs c ih =>
    intro k
    rw [caps_snoc, run_snoc, behind_mem]
    simp only [capsStep, List.mem_map, List.mem_flatMap, List.mem_filter]
    constructor
    · rintro ⟨y, ⟨x, hx, m, ⟨hm, he⟩, rfl⟩, rfl⟩
      exact ⟨x.2, (ih _).mp (List.mem_map.mpr ⟨x, hx, rfl⟩), m, hm, by simpa using he, rfl⟩
    · rintro ⟨t, ht, m, hm, he, rfl⟩
      obtain ⟨x, hx, rfl⟩ := List.mem_map.mp ((ih t).mpr ht)
      exact ⟨(x.1 ++ [m.c], m.t), ⟨x, hx, m, ⟨hm, by simpa using he⟩, rfl⟩, rfl⟩
theorem caps_lt {rs : List (List Mv)} (h : ∀ r ∈ rs, ∀ m ∈ r, m.t < rs.length) {s : Nat} (hs : s < rs.length) (cs : List Nat) : ∀ x ∈ caps rs s cs, x.2 < rs.length := fun x hx =>
  run_lt h (by simpa using hs) _ ((caps_run cs x.2).mp (List.mem_map.mpr ⟨x, hx, rfl⟩))
theorem caps_word {rs : List (List Mv)} {s : Nat} (cs : List Nat) : ∀ x ∈ caps rs s cs, x.1.length = cs.length := by
  induction cs using snoc_ind with
  | nil => intro x hx; simp [caps] at hx; subst hx; rfl
  | snoc cs c ih =>
    intro x hx
    rw [caps_snoc] at hx
    simp only [capsStep, List.mem_map, List.mem_flatMap, List.mem_filter] at hx
    obtain ⟨y, hy, m, _, rfl⟩ := hx
    simp [ih y hy]
/-- drawn rules -/
structure Wor (top : Nat) (tot : Bool) (hs ws : List Nat) (rs : List (List Mv)) : Prop where
  val : RulV hs ws rs
  n : rs.length ≤ top
  hs3 : hs.length ≤ 3
  ws3 : ws.length ≤ 3
  row : ∀ r ∈ rs, r.length ≤ 9
  full : tot = true → ∀ r ∈ rs, ∀ h ∈ hs, ∃ m ∈ r, m.h = h
/-- a row as far as its first letters -/
structure RowP (hs ws : List Nat) (n : Nat) (tot : Bool) (j : Nat) (row : List Mv) : Prop where
  mv : ∀ m ∈ row, mvB hs ws n m = true
  lt : row.Pairwise fun a b => mvLt a b = true
  le : ∀ m ∈ row, m.h ∈ hs.take j
  len : row.length ≤ 3 * j
  full : tot = true → ∀ h ∈ hs.take j, ∃ m ∈ row, m.h = h
theorem RowP.start {hs ws : List Nat} {n : Nat} {tot : Bool} : RowP hs ws n tot 0 [] := ⟨by simp, by simp, by simp, by simp, by simp⟩
theorem letters_lt {cs : List Nat} (h : lettersB cs = true) : cs.Pairwise (· < ·) := by
  unfold lettersB at h
  simp only [Bool.and_eq_true] at h
  exact (nbr_pair (r := fun a b => decide (a < b)) (fun a b c h1 h2 => by simp at h1 h2 ⊢; omega) cs h.2).imp fun h => by simpa using h
theorem letters_small {cs : List Nat} (h : lettersB cs = true) : ∀ c ∈ cs, c < 1114112 := fun c hc => by
  unfold lettersB at h
  simp only [Bool.and_eq_true, List.all_eq_true, decide_eq_true_eq] at h
  have := h.1.2 c hc
  simp only [abc, List.mem_cons, List.not_mem_nil, or_false] at this
  omega
theorem letters_pos {cs : List Nat} (h : lettersB cs = true) : 1 ≤ cs.length := by
  cases cs with
  | nil => simp [lettersB] at h
  | cons a l => simp
theorem take_lt {hs : List Nat} (h : hs.Pairwise (· < ·)) {j : Nat} {c : Nat} (hc : hs[j]? = some c) : ∀ x ∈ hs.take j, x < c := by
  intro x hx
  obtain ⟨h1, h2⟩ := List.getElem?_eq_some_iff.mp hc
  obtain ⟨i, hi, e⟩ := List.mem_iff_getElem.mp hx
  rw [List.length_take] at hi
  rw [List.getElem_take] at e
  rw [← e, ← h2]
  exact List.pairwise_iff_getElem.mp h i j (by omega) h1 (by omega)
theorem RowP.step {hs ws : List Nat} {n : Nat} {tot : Bool} {j : Nat} {row ts : List Mv} {cs : List Nat} {h : Nat} (rp : RowP hs ws n tot j row) (lh : hs.Pairwise (· < ·)) (lw : ws.Pairwise (· < ·)) (w3 : ws.length ≤ 3) (hh : hs[j]? = some h) (sl : cs.Sublist ws) (ne : tot = true → cs ≠ []) (ec : ts.map (·.c) = cs)
    (ht : ∀ t ∈ ts, t.h = h ∧ t.t < n) : RowP hs ws n tot (j + 1) (row ++ ts) where
  mv := fun m hm => by
    rcases List.mem_append.mp hm with hm | hm
    · exact rp.mv m hm
    · obtain ⟨h1, h2⟩ := ht m hm
      have h3 : m.c ∈ ws := sl.subset (by rw [← ec]; exact List.mem_map.mpr ⟨m, hm, rfl⟩)
      have h4 := List.mem_of_getElem? hh
      simp [mvB, h1, h2, h3, h4]
  lt := by
    rw [List.pairwise_append]
    refine ⟨rp.lt, ?_, fun a ha b hb => ?_⟩
    · have h1 : (ts.map (·.c)).Pairwise (· < ·) := by rw [ec]; exact lw.sublist sl
      rw [List.pairwise_map] at h1
      refine h1.imp_of_mem fun {a b} ha hb hab => ?_
      have := (ht a ha).1; have := (ht b hb).1
      simp only [mvLt, decide_eq_true_eq]
      right
      omega
    · have h1 := take_lt lh hh a.h (rp.le a ha)
      have h2 := (ht b hb).1
      simp only [mvLt, decide_eq_true_eq]
      left
      omega
  le := fun m hm => by
    rw [take_snoc hh]
    rcases List.mem_append.mp hm with hm | hm
    · exact List.mem_append_left _ (rp.le m hm)
    · rw [(ht m hm).1]; simp
  len := by
    have h1 := rp.len
    have h2 : ts.length = cs.length := by rw [← ec, List.length_map]
    have h3 := sl.length_le
    rw [List.length_append]
    omega
  full := fun ht0 x hx => by
    rw [take_snoc hh] at hx
    rcases List.mem_append.mp hx with hx | hx
    · obtain ⟨m, hm, e⟩ := rp.full ht0 x hx
      exact ⟨m, List.mem_append_left _ hm, e⟩
    · rw [List.mem_singleton] at hx
      subst hx
      have := ne ht0
      cases ts with
      | nil => rw [← ec] at this; simp at this
      | cons t l => exact ⟨t, by simp, (ht t (by simp)).1⟩
theorem RowP.row {hs ws : List Nat} {n : Nat} {tot : Bool} {row : List Mv} (rp : RowP hs ws n tot hs.length row) : rowB hs ws n row = true := by
  unfold rowB
  rw [Bool.and_eq_true, List.all_eq_true]
  exact ⟨rp.mv, nbr_of_pair rp.lt⟩
theorem Wor.few {top : Nat} {tot : Bool} {hs ws : List Nat} {rs : List (List Mv)} (w : Wor top tot hs ws rs) (h5 : top ≤ 5 := by decide) : Few rs := ⟨9, w.row, by have := w.n; omega⟩
theorem row_hits {hs ws : List Nat} {n : Nat} {r : List Mv} (h : rowB hs ws n r = true) (c : Nat) : (r.filter fun m => m.h == c).length ≤ ws.length := by
  unfold rowB at h
  rw [Bool.and_eq_true, List.all_eq_true] at h
  have pw := nbr_pair (r := mvLt) mvLt_tr r h.2
  have nd : ((r.filter fun m => m.h == c).map (·.c)).Nodup := by
    rw [List.Nodup, List.pairwise_map]
    refine (pw.sublist List.filter_sublist).imp_of_mem fun {a b} ha hb hab => ?_
    have h1 := (List.mem_filter.mp ha).2
    have h2 := (List.mem_filter.mp hb).2
    simp only [beq_iff_eq] at h1 h2
    simp only [mvLt, decide_eq_true_eq] at hab
    omega
  have := List.Nodup.length_le_of_subset (l₂ := ws) nd fun x hx => by
    obtain ⟨m, hm, rfl⟩ := List.mem_map.mp hx
    have := h.1 m (List.mem_filter.mp hm).1
    simp only [mvB, Bool.and_eq_true, decide_eq_true_eq] at this
    exact this.1.2
  simpa using this
theorem caps_len {hs ws : List Nat} {rs : List (List Mv)} (v : RulV hs ws rs) (w3 : ws.length ≤ 3) (s : Nat) (cs : List Nat) : (caps rs s cs).length ≤ 3 ^ cs.length := by
  induction cs using snoc_ind with
  | nil => simp [caps]
  | snoc cs c ih =>
    rw [caps_snoc, List.length_append, List.length_singleton, Nat.pow_succ]
    refine Nat.le_trans (flat_len _ 3 _ fun x _ => ?_) (Nat.mul_le_mul_right 3 ih)
    rw [List.length_map]
    cases e : rs[x.2]? with
    | none => simp [List.getD, e]
    | some r =>
      have := row_hits (v.row r (List.mem_of_getElem? e)).1 c
      simp only [List.getD, e, Option.getD_some]
      omega
theorem rowB_sub {hs ws : List Nat} {n : Nat} {r r' : List Mv} (h : rowB hs ws n r = true) (sb : r'.Sublist r) : rowB hs ws n r' = true := by
  unfold rowB at h ⊢
  rw [Bool.and_eq_true, List.all_eq_true] at h ⊢
  exact ⟨fun m hm => h.1 m (sb.subset hm), nbr_of_pair ((nbr_pair (r := mvLt) mvLt_tr r h.2).sublist sb)⟩
theorem Wor.less {top : Nat} {tot : Bool} {hs ws : List Nat} {rs : List (List Mv)} (w : Wor top tot hs ws rs) {s a : Nat} {r : List Mv} (h : rs[s]? = some r) : Wor top false hs ws (rs.take s ++ [r.take a ++ r.drop (a + 1)] ++ rs.drop (s + 1)) := by
  have hs1 := (List.getElem?_eq_some_iff.mp h).1
  have el : (rs.take s ++ [r.take a ++ r.drop (a + 1)] ++ rs.drop (s + 1)).length = rs.length := by
    simp only [List.length_append, List.length_take, List.length_drop, List.length_singleton]
    omega
  have sub : (r.take a ++ r.drop (a + 1)).Sublist r := by
    have e : r.drop (a + 1) = (r.drop a).drop 1 := by rw [List.drop_drop, Nat.add_comm]
    calc (r.take a ++ r.drop (a + 1)).Sublist (r.take a ++ r.drop a) := by rw [e]; exact (List.Sublist.refl _).append (List.drop_sublist _ _)
      _ = r := List.take_append_drop a r
  have mem : ∀ r' ∈ rs.take s ++ [r.take a ++ r.drop (a + 1)] ++ rs.drop (s + 1), ∃ r0 ∈ rs, r'.Sublist r0 := fun r' hr => by
    rcases List.mem_append.mp hr with hr | hr
    · rcases List.mem_append.mp hr with hr | hr
      · exact ⟨r', List.mem_of_mem_take hr, List.Sublist.refl _⟩
      · rw [List.mem_singleton.mp hr]
        exact ⟨r, List.mem_of_getElem? h, sub⟩
    · exact ⟨r', List.mem_of_mem_drop hr, List.Sublist.refl _⟩
  refine ⟨⟨w.val.lh, w.val.lw, w.val.sh, w.val.sw, by rw [el]; exact w.val.n1, by rw [el]; exact w.val.n2, fun r' hr => ?_⟩, by rw [el]; exact w.n, w.hs3, w.ws3, fun r' hr => ?_, fun z => by cases z⟩
  · obtain ⟨r0, h0, sb⟩ := mem r' hr
    obtain ⟨h1, h2⟩ := w.val.row r0 h0
    rw [el]
    exact ⟨rowB_sub h1 sb, Nat.le_trans sb.length_le h2⟩
  · obtain ⟨r0, h0, sb⟩ := mem r' hr
    exact Nat.le_trans sb.length_le (w.row r0 h0)
end Pace
end
section
set_option Elab.async false
set_option linter.all false
set_option maxRecDepth 100000
set_option maxHeartbeats 4000000
namespace Pace
open PySem PySem.Spec PyProof.Rows L2 DL
def sl (p q : List Nat) : Prop := p.length < q.length ∨ (p.length = q.length ∧ p < q)
def sle (p q : List Nat) : Prop := p = q ∨ sl p q
theorem lt_app : ∀ {p q : List Nat} (x y : List Nat), p.length = q.length → p < q → p ++ x < q ++ y
  | [], [], x, y, _, h => absurd h (List.not_lt_nil _)
  | [], _ :: _, x, y, h, _ => by simp at h
  | _ :: _, [], x, y, h, _ => by simp at h
  | a :: p, b :: q, x, y, h, hl => by
    rw [List.cons_append, List.cons_append, List.cons_lt_cons_iff]
    rw [List.cons_lt_cons_iff] at hl
    rcases hl with hl | ⟨e, hl⟩
    · exact .inl hl
    · exact .inr ⟨e, lt_app x y (by simpa using h) hl⟩
theorem sl.snoc {p q : List Nat} (c d : Nat) (h : sl p q) : sl (p ++ [c]) (q ++ [d]) := by
  rcases h with h | ⟨h, hl⟩
  · left; simpa using h
  · right; exact ⟨by simpa using h, lt_app _ _ h hl⟩
theorem sl.last {p : List Nat} {c d : Nat} (h : c < d) : sl (p ++ [c]) (p ++ [d]) := by
  right
  refine ⟨by simp, ?_⟩
  induction p with
  | nil => simpa [List.cons_lt_cons_iff] using h
  | cons a p ih => rw [List.cons_append, List.cons_append, List.cons_lt_cons_iff]; exact .inr ⟨rfl, ih⟩
theorem sl.trans {p q r : List Nat} (h1 : sl p q) (h2 : sl q r) : sl p r := by
  rcases h1 with h1 | ⟨e1, h1⟩ <;> rcases h2 with h2 | ⟨e2, h2⟩
  · left; omega
  · left; omega
  · left; omega
  · right; exact ⟨by omega, List.lt_trans h1 h2⟩
theorem sl.irrefl {p : List Nat} (h : sl p p) : False := by
  rcases h with h | ⟨_, h⟩
  · omega
  · exact List.lt_irrefl p h
theorem sle.trans {p q r : List Nat} (h1 : sle p q) (h2 : sle q r) : sle p r := by
  rcases h1 with rfl | h1
  · exact h2
  · rcases h2 with rfl | h2
    · exact .inr h1
    · exact .inr (h1.trans h2)
theorem sle.sl {p q r : List Nat} (h1 : sle p q) (h2 : sl q r) : Pace.sl p r := by
  rcases h1 with rfl | h1
  · exact h2
  · exact h1.trans h2
theorem sle.snoc {p q : List Nat} (c : Nat) (h : sle p q) : sle (p ++ [c]) (q ++ [c]) := by
  rcases h with rfl | h
  · exact .inl rfl
  · exact .inr (h.snoc c c)
theorem sl_snoc (p : List Nat) (c : Nat) : sl p (p ++ [c]) := by left; simp
def Done (rs : List (List Mv)) (ord : Ord) (y : List Nat × List Nat) (c : Nat) : Prop := behind rs y.1 c ≠ [] ∧ ∃ z ∈ ord, z.1 = behind rs y.1 c ∧ sle z.2 (y.2 ++ [c])
theorem Done.mono {rs : List (List Mv)} {ord more : Ord} {y : List Nat × List Nat} {c : Nat} (h : Done rs ord y c) : Done rs (ord ++ more) y c := by
  obtain ⟨h1, z, hz, h2⟩ := h
  exact ⟨h1, z, List.mem_append_left _ hz, h2⟩
theorem found {rs : List (List Mv)} {hs : List Nat} {ord : Ord} (st : ([0], []) ∈ ord) (p : List Nat) : (∀ c ∈ p, c ∈ hs) → (∀ y ∈ ord, ∀ c ∈ hs, sle (y.2 ++ [c]) p → Done rs ord y c) → ∃ z ∈ ord, z.1 = run rs [0] p ∧ sle z.2 p := by
  induction p using snoc_ind with
  | nil => intro _ _; exact ⟨_, st, rfl, .inl rfl⟩
  | snoc u c ih =>
    intro hp hd
    obtain ⟨y, hy, e1, e2⟩ := ih (fun x hx => hp x (by simp [hx])) fun y hy x hx hle => hd y hy x hx (hle.trans (.inr (sl_snoc u c)))
    obtain ⟨_, z, hz, e3, e4⟩ := hd y hy c (hp c (by simp)) (e2.snoc c)
    refine ⟨z, hz, ?_, e4.trans (e2.snoc c)⟩
    rw [e3, e1, run_snoc]
/-- what holds ahead of the entry at i -/
structure BI (rs : List (List Mv)) (hs : List Nat) (i : Nat) (pre : List Nat) (ord : Ord) : Prop where
  ok : OrdOk rs hs ord
  st : ([0], []) ∈ ord
  inc : (ord.map (·.2)).Pairwise sl
  frm : ∀ x ∈ ord, x.2 = [] ∨ ∃ (j : Nat) (y : List Nat × List Nat) (c : Nat), ord[j]? = some y ∧ x.2 = y.2 ++ [c] ∧ (j < i ∨ (j = i ∧ c ∈ pre))
  dn : ∀ (j : Nat) (y : List Nat × List Nat), j < i → ord[j]? = some y → ∀ c ∈ hs, Done rs ord y c
  dh : ∀ (y : List Nat × List Nat), ord[i]? = some y → ∀ c ∈ pre, Done rs ord y c
theorem inc_at {ord : Ord} (h : (ord.map (·.2)).Pairwise sl) {i j : Nat} {x y : List Nat × List Nat} (hi : ord[i]? = some x) (hj : ord[j]? = some y) (hij : i < j) : sl x.2 y.2 := by
  obtain ⟨h1, h2⟩ := List.getElem?_eq_some_iff.mp hi
  obtain ⟨h3, h4⟩ := List.getElem?_eq_some_iff.mp hj
  have := List.pairwise_iff_getElem.mp h i j (by simpa using h1) (by simpa using h3) hij
  simpa [h2, h4] using this
theorem BI.next {rs : List (List Mv)} {hs : List Nat} {i : Nat} {ord : Ord} (h : BI rs hs i hs ord) : BI rs hs (i + 1) [] ord where
  ok := h.ok
  st := h.st
  inc := h.inc
  frm := fun x hx => by
    rcases h.frm x hx with e | ⟨j, y, c, h1, h2, h3⟩
    · exact .inl e
    · exact .inr ⟨j, y, c, h1, h2, .inl (by omega)⟩
  dn := fun j y hj hy c hc => by
    by_cases e : j < i
    · exact h.dn j y e hy c hc
    · have : j = i := by omega
      subst this
      exact h.dh y hy c hc
  dh := fun _ _ _ hc => by cases hc
/-- all that is less than what stops is done -/
def StopAt (rs : List (List Mv)) (hs : List Nat) (d : List Nat) : Prop := ∃ ord : Ord, OrdOk rs hs ord ∧ ([0], []) ∈ ord ∧ ∀ y ∈ ord, ∀ c ∈ hs, sl (y.2 ++ [c]) d → Done rs ord y c
theorem stepL_bi {rs : List (List Mv)} {hs : List Nat} (tl : ∀ r ∈ rs, ∀ m ∈ r, m.t < rs.length) (so : hs.Pairwise (· < ·)) {i : Nat} {here : List Nat × List Nat} : ∀ (cs pre : List Nat) (ord : Ord), hs = pre ++ cs → BI rs hs i pre ord → ord[i]? = some here →
    (∀ d, stepL rs here ord cs = .inl d → StopAt rs hs d) ∧ (∀ ord', stepL rs here ord cs = .inr ord' → BI rs hs i hs ord' ∧ ord'[i]? = some here)
  | [], pre, ord, e, b, hh => by
    rw [List.append_nil] at e
    subst e
    refine ⟨fun d h => (by rw [stepL_nil] at h; cases h), fun ord' h => ?_⟩
    rw [stepL_nil] at h
    cases h
    exact ⟨b, hh⟩
  | c :: cs, pre, ord, e, b, hh => by
    have hc : c ∈ hs := by rw [e]; simp
    have pre_lt : ∀ x ∈ pre, x < c := fun x hx => by
      rw [e, List.pairwise_append] at so
      exact so.2.2 x hx c (by simp)
    have post : ∀ x ∈ hs, x < c → x ∈ pre := fun x hx hlt => by
      rw [e] at hx so
      rcases List.mem_append.mp hx with hx | hx
      · exact hx
      · exfalso
        rcases List.mem_cons.mp hx with rfl | hx
        · omega
        · have := (List.pairwise_cons.mp (List.pairwise_append.mp so).2.1).1 x hx
          omega
    rw [stepL_cons]
    by_cases h1 : behind rs here.1 c = []
    · rw [if_pos h1]
      refine ⟨fun d h => ?_, fun ord' h => by cases h⟩
      cases h
      refine ⟨ord, b.ok, b.st, fun y hy x hx hlt => ?_⟩
      obtain ⟨j, hj⟩ := List.getElem?_of_mem hy
      rcases Nat.lt_trichotomy j i with hji | rfl | hji
      · exact b.dn j y hji hj x hx
      · have ey : y = here := Option.some.inj (hj.symm.trans hh)
        subst ey
        refine b.dh y hj x (post x hx ?_)
        rcases Nat.lt_trichotomy x c with z | rfl | z
        · exact z
        · exact (sl.irrefl hlt).elim
        · exact (sl.irrefl (hlt.trans (sl.last z))).elim
      · exact (sl.irrefl (hlt.trans ((inc_at b.inc hh hj hji).snoc c x))).elim
    · rw [if_neg h1]
      by_cases h2 : behind rs here.1 c ∈ ord.map (·.1)
      · rw [if_pos h2]
        refine stepL_bi tl so cs (pre ++ [c]) ord (by simp [e]) ⟨b.ok, b.st, b.inc, fun x hx => ?_, b.dn, fun y hy x hx => ?_⟩ hh
        · rcases b.frm x hx with z | ⟨j, y, d, z1, z2, z3⟩
          · exact .inl z
          · refine .inr ⟨j, y, d, z1, z2, ?_⟩
            rcases z3 with z3 | ⟨z3, z4⟩
            · exact .inl z3
            · exact .inr ⟨z3, by simp [z4]⟩
        · rcases List.mem_append.mp hx with hx | hx
          · exact b.dh y hy x hx
          · rw [List.mem_singleton] at hx
            subst hx
            rw [hy] at hh
            cases hh
            obtain ⟨z, hz, ez⟩ := List.mem_map.mp h2
            refine ⟨h1, z, hz, ez, ?_⟩
            rcases b.frm z hz with w | ⟨j, y2, d, w1, w2, w3⟩
            · rw [w]; right; left; simp
            · right
              rw [w2]
              rcases w3 with w3 | ⟨rfl, w4⟩
              · exact (inc_at b.inc w1 hy w3).snoc d x
              · rw [hy] at w1
                cases w1
                exact sl.last (pre_lt d w4)
      · rw [if_neg h2]
        have hlt := (List.getElem?_eq_some_iff.mp hh).1
        have hh' : (ord ++ [(behind rs here.1 c, here.2 ++ [c])])[i]? = some here := by rw [List.getElem?_append_left hlt]; exact hh
        have up : ∀ {j : Nat} {y : List Nat × List Nat}, ord[j]? = some y → (ord ++ [(behind rs here.1 c, here.2 ++ [c])])[j]? = some y := fun {j y} z => by
          rw [List.getElem?_append_left (List.getElem?_eq_some_iff.mp z).1]; exact z
        refine stepL_bi tl so cs (pre ++ [c]) _ (by simp [e]) ⟨b.ok.add tl hh hc h1 h2, List.mem_append_left _ b.st, ?_, fun x hx => ?_, fun j y hj hy x hx => ?_, fun y hy x hx => ?_⟩ hh'
        · rw [List.map_append, List.pairwise_append]
          refine ⟨b.inc, by simp, fun w hw v hv => ?_⟩
          simp only [List.map_cons, List.map_nil, List.mem_singleton] at hv
          subst hv
          obtain ⟨x, hx, rfl⟩ := List.mem_map.mp hw
          rcases b.frm x hx with z | ⟨j, y2, d, w1, w2, w3⟩
          · rw [z]; left; simp
          · rw [w2]
            rcases w3 with w3 | ⟨rfl, w4⟩
            · exact (inc_at b.inc w1 hh w3).snoc d c
            · rw [hh] at w1
              cases w1
              exact sl.last (pre_lt d w4)
        · rcases List.mem_append.mp hx with hx | hx
          · rcases b.frm x hx with z | ⟨j, y, d, z1, z2, z3⟩
            · exact .inl z
            · refine .inr ⟨j, y, d, up z1, z2, ?_⟩
              rcases z3 with z3 | ⟨z3, z4⟩
              · exact .inl z3
              · exact .inr ⟨z3, by simp [z4]⟩
          · rw [List.mem_singleton] at hx
            subst hx
            exact .inr ⟨i, here, c, hh', rfl, .inr ⟨rfl, by simp⟩⟩
        · have hj2 : j < ord.length := by omega
          rw [List.getElem?_append_left hj2] at hy
          exact (b.dn j y hj hy x hx).mono
        · rw [hh'] at hy
          cases hy
          rcases List.mem_append.mp hx with hx | hx
          · exact (b.dh here hh x hx).mono
          · rw [List.mem_singleton] at hx
            subst hx
            exact ⟨h1, (behind rs here.1 x, here.2 ++ [x]), List.mem_append_right _ (by simp), rfl, .inl rfl⟩
theorem bfs_bi {rs : List (List Mv)} {hs : List Nat} (tl : ∀ r ∈ rs, ∀ m ∈ r, m.t < rs.length) (so : hs.Pairwise (· < ·)) : ∀ (f i : Nat) (ord : Ord), i + f = 2 ^ rs.length → BI rs hs i [] ord →
    (∀ d, bfs rs hs f i ord = some d → StopAt rs hs d) ∧ (bfs rs hs f i ord = none → ∃ ord : Ord, OrdOk rs hs ord ∧ ([0], []) ∈ ord ∧ ∀ y ∈ ord, ∀ c ∈ hs, Done rs ord y c)
  | 0, i, ord, e, b => by
    refine ⟨fun d h => (by cases h), fun _ => ⟨ord, b.ok, b.st, fun y hy c hc => ?_⟩⟩
    obtain ⟨j, hj⟩ := List.getElem?_of_mem hy
    have h1 := (List.getElem?_eq_some_iff.mp hj).1
    have h2 := b.ok.len
    exact b.dn j y (by omega) hj c hc
  | f + 1, i, ord, e, b => by
    unfold bfs
    cases hh : ord[i]? with
    | none =>
      simp only
      refine ⟨fun d h => (by cases h), fun _ => ⟨ord, b.ok, b.st, fun y hy c hc => ?_⟩⟩
      obtain ⟨j, hj⟩ := List.getElem?_of_mem hy
      have h1 := (List.getElem?_eq_some_iff.mp hj).1
      have h2 := List.getElem?_eq_none_iff.mp hh
      exact b.dn j y (by omega) hj c hc
    | some here =>
      simp only
      obtain ⟨s1, s2⟩ := stepL_bi tl so hs [] ord rfl b hh
      cases hst : stepL rs here ord hs with
      | inl d =>
        simp only
        exact ⟨fun d' h => (by cases h; exact s1 d hst), fun h => (by cases h)⟩
      | inr ord' =>
        simp only
        exact bfs_bi tl so f (i + 1) ord' (by omega) (s2 ord' hst).1.next
theorem mute_first {rs : List (List Mv)} {hs : List Nat} (tl : ∀ r ∈ rs, ∀ m ∈ r, m.t < rs.length) (so : hs.Pairwise (· < ·)) (h0 : 0 < rs.length) (p : List Nat) (hp : ∀ c ∈ p, c ∈ hs) (h : ∀ d, muteOf rs hs = some d → sl p d) : run rs [0] p ≠ [] := by
  have b0 : BI rs hs 0 [] [([0], [])] := ⟨.start h0, by simp, by simp, fun x hx => by simp at hx; subst hx; exact .inl rfl, fun _ _ z => by omega, fun _ _ _ z => by cases z⟩
  obtain ⟨b1, b2⟩ := bfs_bi tl so (2 ^ rs.length) 0 [([0], [])] (by omega) b0
  have key : ∃ ord : Ord, OrdOk rs hs ord ∧ ([0], []) ∈ ord ∧ ∀ y ∈ ord, ∀ c ∈ hs, sle (y.2 ++ [c]) p → Done rs ord y c := by
    cases e : muteOf rs hs with
    | none =>
      obtain ⟨ord, o1, o2, o3⟩ := b2 e
      exact ⟨ord, o1, o2, fun y hy c hc _ => o3 y hy c hc⟩
    | some d =>
      obtain ⟨ord, o1, o2, o3⟩ := b1 d e
      exact ⟨ord, o1, o2, fun y hy c hc hle => o3 y hy c hc (hle.sl (h d e))⟩
  obtain ⟨ord, o1, o2, o3⟩ := key
  obtain ⟨z, hz, e1, _⟩ := found o2 p hp o3
  rw [← e1]
  exact (o1.rn z hz).2.1
theorem sl_of_lt {p q : List Nat} (h : D.lt (.tup [.int (p.length : Nat), .str (strOf p)]) (.tup [.int (q.length : Nat), .str (strOf q)]) = true) : sl p q := by
  have e : D.lt (.tup [.int (p.length : Nat), .str (strOf p)]) (.tup [.int (q.length : Nat), .str (strOf q)]) = PySem.W.dataLt (.tuple [.int (p.length : Nat), .str (strOf p)]) (.tuple [.int (q.length : Nat), .str (strOf q)]) := rfl
  rw [e, PySem.W.dataLt_pair rfl rfl] at h
  have e1 : PyData.eqv (.int (p.length : Nat)) (.int (q.length : Nat)) = ((p.length : Int) == (q.length : Int)) := eqv_int _ _
  have e2 : PySem.W.dataLt (.int (p.length : Nat)) (.int (q.length : Nat)) = decide ((p.length : Int) < (q.length : Int)) := DL.lt_int _ _
  have e3 : PySem.W.dataLt (.str (strOf p)) (.str (strOf q)) = decide (p < q) := by
    have := DL.lt_str (strOf p) (strOf q)
    exact this
  have e4 : PyData.eqv (.str (strOf p)) (.str (strOf q)) = (strOf p == strOf q) := eqv_str _ _
  rw [e1, e2, e3, e4] at h
  by_cases hl : p.length = q.length
  · rw [if_pos (by simp [hl])] at h
    by_cases h2 : p = q
    · rw [if_pos (by simp [h2])] at h; cases h
    · rw [if_neg (by simpa using fun z => h2 (strOf_inj z))] at h
      right
      exact ⟨hl, by simpa using h⟩
  · rw [if_neg (by simp; omega)] at h
    left
    simpa using h
end Pace
end
section
set_option Elab.async false
set_option linter.all false
set_option maxRecDepth 100000
set_option maxHeartbeats 4000000
namespace Pace
open PySem PySem.Spec PyProof.Rows L2 DL
def step1 (rs : List (List Mv)) (s h c : Nat) : Option Nat := ((rs.getD s []).find? fun m => m.h == h && m.c == c).map (·.t)
def ledN (rs : List (List Mv)) (s : Nat) (ks : List (Nat × Nat)) : Option Nat := ks.foldl (fun o k => o.bind fun s => step1 rs s k.1 k.2) (some s)
def natO : Option Nat → D
  | none => .non
  | some n => .int (n : Int)
theorem ledN_snoc {rs : List (List Mv)} {s : Nat} {ks : List (Nat × Nat)} {k : Nat × Nat} : ledN rs s (ks ++ [k]) = (ledN rs s ks).bind fun s => step1 rs s k.1 k.2 := by simp [ledN]
theorem foldl_none {rs : List (List Mv)} : ∀ ks : List (Nat × Nat), ks.foldl (fun o k => o.bind fun s => step1 rs s k.1 k.2) none = none
  | [] => rfl
  | _ :: ks => foldl_none ks
theorem step1_lt {rs : List (List Mv)} (tl : ∀ r ∈ rs, ∀ m ∈ r, m.t < rs.length) {s h c t : Nat} (e : step1 rs s h c = some t) : t < rs.length := by
  unfold step1 at e
  obtain ⟨m, hm, rfl⟩ := Option.map_eq_some_iff.mp e
  have h1 := List.mem_of_find?_eq_some hm
  cases er : rs[s]? with
  | none => simp [List.getD, er] at h1
  | some r =>
    simp only [List.getD, er, Option.getD_some] at h1
    exact tl r (List.mem_of_getElem? er) m h1
theorem ledN_lt {rs : List (List Mv)} (tl : ∀ r ∈ rs, ∀ m ∈ r, m.t < rs.length) {s : Nat} (hs : s < rs.length) (ks : List (Nat × Nat)) : ∀ {t : Nat}, ledN rs s ks = some t → t < rs.length := by
  induction ks using snoc_ind with
  | nil => intro t h; simp [ledN] at h; omega
  | snoc ks k ih =>
    intro t h
    rw [ledN_snoc] at h
    obtain ⟨u, hu, h⟩ := Option.bind_eq_some_iff.mp h
    exact step1_lt tl h
theorem val_mvK (h c : Nat) : ∀ r : List Mv, valD (r.map mvK) [.inr (sgn h), .inr (sgn c)] = (r.find? fun m => m.h == h && m.c == c).map fun m => D.int (m.t : Int)
  | [] => rfl
  | m :: r => by
    have ih := val_mvK h c r
    by_cases e : m.h = h ∧ m.c = c
    · obtain ⟨rfl, rfl⟩ := e
      simp [valD, mvK]
    · have hne : (mvK m).1 ≠ [.inr (sgn h), .inr (sgn c)] := fun z => by
        simp only [mvK, List.cons.injEq, Sum.inr.injEq, and_true] at z
        exact e ⟨sgn_inj z.1, sgn_inj z.2⟩
      have hb : (m.h == h && m.c == c) = false := by
        rw [Bool.eq_false_iff]
        intro z
        simp only [Bool.and_eq_true, beq_iff_eq] at z
        exact e z
      rw [List.find?_cons, hb]
      rw [← ih]
      simp only [valD, List.map_cons, List.find?_cons]
      rw [decide_eq_false hne]
theorem zipS_eq (p q : List Nat) : List.zipWith (fun a b => D.tup [.str (sgn a), .str (sgn b)]) (strOf p).cps.toList (strOf q).cps.toList = (p.zip q).map fun k => .tup [.str (sgn k.1), .str (sgn k.2)] := by
  rw [zip_map]
  rfl
theorem natO_non (o : Option Nat) : (natO o).isNon = o.isNone := by cases o <;> rfl
theorem mv_in {hs ws : List Nat} {rs : List (List Mv)} (v : RulV hs ws rs) {r : List Mv} (hr : r ∈ rs) {m : Mv} (hm : m ∈ r) : m.h ∈ hs ∧ m.c ∈ ws ∧ m.t < rs.length := by
  have h := (v.row r hr).1
  unfold rowB at h
  rw [Bool.and_eq_true, List.all_eq_true] at h
  have := h.1 m hm
  simp only [mvB, Bool.and_eq_true, decide_eq_true_eq] at this
  exact ⟨this.1.1, this.1.2, this.2⟩
theorem ledN_in {hs ws : List Nat} {rs : List (List Mv)} (v : RulV hs ws rs) {s : Nat} (ks : List (Nat × Nat)) : ∀ {t : Nat}, ledN rs s ks = some t → ∀ k ∈ ks, k.1 ∈ hs ∧ k.2 ∈ ws := by
  induction ks using snoc_ind with
  | nil => intro t _ k hk; cases hk
  | snoc ks k0 ih =>
    intro t h k hk
    rw [ledN_snoc] at h
    obtain ⟨u, hu, h⟩ := Option.bind_eq_some_iff.mp h
    rcases List.mem_append.mp hk with hk | hk
    · exact ih hu k hk
    · rw [List.mem_singleton] at hk
      subst hk
      unfold step1 at h
      obtain ⟨m, hm, _⟩ := Option.map_eq_some_iff.mp h
      have h1 := List.mem_of_find?_eq_some hm
      have h2 := List.find?_some hm
      simp only [Bool.and_eq_true, beq_iff_eq] at h2
      cases er : rs[u]? with
      | none => simp [List.getD, er] at h1
      | some r =>
        simp only [List.getD, er, Option.getD_some] at h1
        obtain ⟨a, b, _⟩ := mv_in v (List.mem_of_getElem? er) h1
        rw [← h2.1, ← h2.2]
        exact ⟨a, b⟩
theorem rows_len_ (rs : List (List Mv)) : rLenD [rowsD rs] = fun G Q => Q (.int (rs.length : Nat)) G := by
  funext G Q
  show Q (.int ((rs.map rowD).length : Nat)) G = _
  rw [List.length_map]
end Pace
end
section
set_option Elab.async false
set_option linter.all false
set_option maxRecDepth 100000
set_option maxHeartbeats 4000000
namespace DL
open PySem PySem.Spec PyProof.Rows L2
def revS (x : Str) : Str := ⟨x.cps.toList.reverse.toArray⟩
theorem rev_txt (x : Str) (u : Tok) : Txt.sliceBy x none none (-1, u) = revS x := by
  have h := step_rev_list x u
  have e : (Txt.sliceBy x none none (-1, u)).cps.toList = x.cps.toList.reverse := by
    rw [h]
    refine List.ext_getElem (by simp [Str.length]) fun i h1 h2 => ?_
    simp only [List.length_map, List.length_range] at h1
    have hx : i < x.cps.size := h1
    simp only [List.getElem_map, List.getElem_range, List.getElem_reverse, Array.getElem_toList, Array.length_toList]
    have : x.length - 1 - i < x.cps.size := by show x.cps.size - 1 - i < _; omega
    simp [Array.getD, this]
    rfl
  have e2 : (Txt.sliceBy x none none (-1, u)).cps = x.cps.toList.reverse.toArray := by rw [← e]
  cases hh : Txt.sliceBy x none none (-1, u) with
  | mk c => rw [hh] at e2; simp only at e2; rw [e2]; rfl
section
variable {X : Cx} {pos : Pos}
def tRevS (te : TE) : TE := fun σ H Q => te σ H fun x H1 => ∃ z, x = .str z ∧ z.length ≤ sizeLine ∧ Q (.str (revS z)) H1
theorem pe_revS {e : Expr} {te : TE} {k : Nat} {p1 p2 p3 pos : Pos} (he : PE X e te) (ht : ∀ (z : Str) (t : Tok) r, letTemporaryGo e (.str z t) r = pure () := by intro _ _ _; with_unfolding_all rfl) : PE X (.Subscript e (.Slice none none (some (.UnaryOp .USub (.Constant (.int 1) k p1) p2)) p3) pos) (tRevS te) := by
  refine ⟨fun pins s σ H Q I h => ?_⟩
  refine Subscript_ (thn (he.run pins s σ H _ I h) fun v s1 ⟨x, H1, I1, r1, q1⟩ => ?_)
  obtain ⟨z, ex, hz, q⟩ := q1
  subst ex
  obtain ⟨t, rfl⟩ := r1
  have hst : PO X (some (.UnaryOp .USub (.Constant (.int 1) k p1) p2)) (tPart (tUn (rU fun i => .int (-i)) (tC (.int 1)))) := po_some (pe_un un_neg pe_int)
  refine wpAny_Slice (thn (po_none.run pins s1 σ H1 (fun o H2 => o = none ∧ H2 = H1) I1 ⟨rfl, rfl⟩) fun vl s2 ⟨l, H2, I2, pl, el, e2⟩ => ?_)
  subst el e2
  refine thn (po_none.run pins s2 σ H2 (fun o H3 => o = none ∧ H3 = H2) I2 ⟨rfl, rfl⟩) fun vu s3 ⟨u, H3, I3, pu, eu, e3⟩ => ?_
  subst eu e3
  refine thn (hst.run pins s3 σ H3 (fun o H4 => o = some (-1) ∧ H4 = H3) I3 ⟨1, rfl, -1, rfl, rfl, rfl⟩) fun vs s4 ⟨o, H4, I4, ps, eo, e4⟩ => ?_
  subst eo e4
  have I5 : Inv X pins σ H4 { s4 with heap := s4.heap.push { cls := .type "slice", data := .fields #[vl, vu, vs] } } := I4.kept (t' := s4.toks) fun b ob q => Heap.get?_push_of_some _ q
  show wpAny (model X.prog X.w) X.A (subscriptTail e (.Slice none none (some (.UnaryOp .USub (.Constant (.int 1) k p1) p2)) p3) (.str z t) (.ref s4.heap.objs.size)) (EP X pins σ Q) X.xe { s4 with heap := s4.heap.push { cls := .type "slice", data := .fields #[vl, vu, vs] } }
  cases pl
  cases pu
  cases ps with
  | int _ uk =>
    refine tail_of_ItemOn ⟨"str", _, F.slot_str_getitem.lookup, typeIs_str _ _ _, wpAny_getItem_str_slice (l := none) (u := none) (st := some (-1, uk)) ⟨_, Heap.get?_push_size _ rfl, rfl, rfl⟩ (by rfl)
      (post_val_or_str ⟨Nat.le_trans (Txt.sliceBy_le z _ _ (-1, uk) (show (-1 : Int) ≠ 0 by decide)) hz, fun t' c => ?_⟩)⟩ (by with_unfolding_all rfl) (ht z t)
    have er := rev_txt z uk
    unfold Txt.sliceBy at er
    rw [er]
    exact ⟨.str _, H4, I5.tok _, ⟨_, rfl⟩, q⟩
def dRevS (te : DTE) : DTE := fun S G Q => te S G fun d G1 => match d with
  | .str z => z.length ≤ sizeLine ∧ Q (.str (revS z)) G1
  | _ => False
theorem de_revS {e : Expr} {te : DTE} {k : Nat} {p1 p2 p3 : Pos} (he : DE X e te) (ht : ∀ (z : Str) (t : Tok) r, letTemporaryGo e (.str z t) r = pure () := by intro _ _ _; with_unfolding_all rfl) : DE X (.Subscript e (.Slice none none (some (.UnaryOp .USub (.Constant (.int 1) k p1) p2)) p3) pos) (dRevS te) := by
  obtain ⟨t, p, r⟩ := he.ex
  refine ⟨_, pe_revS p ht, fun F H σ S G o Q' h Q kk => ?_⟩
  refine r F H σ S G o _ h _ fun F1 H1 v d G1 e1 g1 q1 h1 => ?_
  dsimp only at h1
  split at h1
  · cases q1
    exact ⟨_, rfl, h1.1, kk F1 H1 _ _ G1 e1 g1 (.str _) h1.2⟩
  · exact h1.elim
end
def iEnumS (ta : TA) : TI := fun σ H R => ta σ H fun vs H1 => ∃ x : Str, vs = [.str x] ∧ R (ItE (x.cps.toList.map fun c => V.str (sgn c)) fun _ => True) H1
theorem pi_enumS {X : Cx} {e : Expr} {ta : TA} {p pos tpos : Pos} {elts : List Expr} {kk : Nat} (hg : Gl X "enumerate") (hm : X.mg "enumerate" = none) (ha : PA X [e] ta) (hs : starEach [e] X.env = [(false, eval e X.env)] := by rfl) :
    PI X (.Tuple elts kk tpos) (.Call (.Name "enumerate" p) [e] [] pos) (iEnumS ta) := by
  constructor
  intro pins s σ H R I h
  refine Call_ (ld_blt I hg hm boot_enumerate (PyProof.Rows.callWith_type1 (thn (ha.run pos pins s σ H _ I h) ?_) hs rfl))
  rintro us s1 ⟨vs, H1, I1, r1, x, rfl, q⟩
  cases r1 with
  | cons r rr =>
    cases rr
    obtain ⟨t, rfl⟩ := r
    refine call_enumB (begins_text x t) trivial ?_
    intro h' he hit hsz hk
    refine wpAny_pyIter_enum he ?_
    have J : Inv X pins σ H1 { s1 with heap := h' } := I1.kept (t' := s1.toks) hk
    refine ⟨s1.heap.objs.size + 1, [s1.heap.objs.size + 1, s1.heap.objs.size], _, _, H1, rfl, J, turn_enumOf (Si := fun i h => h.IsStrIter s1.heap.objs.size (strIterType x) x t i) ?_ ?_ ?_, ⟨⟨.none, he⟩, ⟨_, hit, rfl, rfl⟩, Nat.succ_ne_self _⟩, ?_, q⟩
    · rintro i h ⟨o, z, c, d⟩
      exact ⟨o, z, fun v y => by rw [d] at y; cases y⟩
    · rintro i h h' ⟨o, z, c⟩ k
      exact ⟨o, k o z, c⟩
    · intro X2 pins2 σ2 H2 s2 hP hw hK hh I2 hok
      refine ⟨[s1.heap.objs.size], fun i v => ∃ c k, x.cps[i]? = some c ∧ v = .str (sgn c) k, fun i h => h.IsStrIter s1.heap.objs.size (strIterType x) x t i, by simp, fun b hb hb2 => absurd (by simpa using hb) hb2, ?_, fun i z => z, fun i h z => z, fun i u y pu hx => ?_⟩
      · have := Draws.text (prog := X.prog) (w := X.w) (A := X2.A.in1) hh s1.heap.objs.size x t
        have ez : x.cps.size = (x.cps.toList.map fun c => V.str (sgn c)).length := by simp
        rw [← ez]
        exact this
      · obtain ⟨c, k, hc, rfl⟩ := pu
        rw [List.getElem?_map] at hx
        have : x.cps.toList[i]? = some c := by rw [← hc]; simp
        rw [this] at hx
        cases hx
        exact ⟨k, rfl⟩
    · refine fresh_fp I1 fun b hb => ?_
      have q : b = s1.heap.objs.size + 1 ∨ b = s1.heap.objs.size := by simpa using hb
      rcases q with q | q
      · rw [q]; exact Nat.le_add_right _ _
      · rw [q]; exact Nat.le_refl _
section
variable {X : Cx} {pos : Pos}
def diEnumS (ta : DTA) : DTI := fun S G R => ta S G fun ds G1 => match ds with
  | [.str x] => R ((signs x).mapIdx fun i d => .tup [.int (i : Nat), d]) dNoGuard G1
  | _ => False
theorem di_enumS {e : Expr} {ta : DTA} {p tpos : Pos} {elts : List Expr} {kk : Nat} (hg : Gl X "enumerate") (hm : X.mg "enumerate" = none) (ha : DA X [e] ta) (hs : starEach [e] X.env = [(false, eval e X.env)] := by rfl) :
    DI X (.Tuple elts kk tpos) (.Call (.Name "enumerate" p) [e] [] pos) (diEnumS ta) := by
  obtain ⟨t, p1, r⟩ := ha.ex
  refine ⟨_, pi_enumS hg hm p1 hs, fun F H σ S G o R' h R k => ?_⟩
  refine r F H σ S G o _ h _ fun F1 H1 vs ds G1 e1 g1 q1 h1 => ?_
  dsimp only at h1
  split at h1
  · rename_i x
    cases q1 with
    | cons q rest =>
      cases rest
      cases q
      refine ⟨x, rfl, k F1 H1 G1 _ _ _ e1 g1 ⟨fun F2 H2 G2 i d e2 g2 _ hd => ?_, fun F2 H2 G2 e2 g2 _ => ?_⟩ h1⟩
      · rw [List.getElem?_mapIdx] at hd
        have es : signs x = x.cps.toList.map fun c => .str (sgn c) := rfl
        rw [es, List.getElem?_map] at hd
        cases ex : x.cps.toList[i]? with
        | none => rw [ex] at hd; cases hd
        | some c =>
          rw [ex] at hd
          cases hd
          have hi := (List.getElem?_eq_some_iff.mp ex).1
          refine ⟨⟨trivial, by rw [List.length_map]; exact hi⟩, fun y H3 hy => ?_⟩
          obtain ⟨T, z, rfl, hT, rfl, hz⟩ := hy
          rw [List.getElem?_map, ex] at hz
          cases hz
          have gr := Gr.new (u := .tup [.int (i : Nat), .str (sgn c)]) g2.ex hT
          exact ⟨_, gr.go, g2.grow gr, .tup upd_same (.cons (.int _) (.cons (.str _) .nil))⟩
      · refine ⟨trivial, ?_⟩
        rw [List.length_mapIdx]
        simp [signs]
  · exact h1.elim
end
end DL
end
section
set_option Elab.async false
set_option linter.all false
set_option maxRecDepth 100000
set_option maxHeartbeats 4000000
namespace Pace
open PySem PySem.Spec PyProof.Rows L2 DL
theorem rev_strOf (cs : List Nat) : revS (strOf cs) = strOf cs.reverse := by
  unfold revS strOf
  simp
theorem atI_last {α : Type} (l : List α) (x : α) : atI (l ++ [x]) (-1) = some x := by
  unfold atI ixN
  have e : (-1 + ((l.length : Int) + 1)).toNat = l.length := by omega
  have e2 : (1 : Int) ≤ (l.length : Int) + 1 := by omega
  simp [e, e2]
end Pace
end
section
set_option Elab.async false
set_option linter.all false
set_option maxRecDepth 100000
set_option maxHeartbeats 4000000
namespace Pace
open PySem PySem.Spec PyProof.Rows L2 DL
def movesAt (rs : List (List Mv)) (s c : Nat) : List Mv := (rs.getD s []).filter fun m => m.h == c
theorem caps_from (rs : List (List Mv)) : ∀ (cs : List Nat) (l : List (List Nat × Nat)), cs.foldl (capsStep rs) l = l.flatMap fun x => (caps rs x.2 cs).map fun y => (x.1 ++ y.1, y.2)
  | [], l => by
    simp only [caps, List.foldl_nil, List.map_cons, List.map_nil, List.append_nil]
    induction l with
    | nil => rfl
    | cons a l ih => rw [List.flatMap_cons, ← ih]; rfl
  | c :: cs, l => by
    have h0 : ∀ s, caps rs s (c :: cs) = (capsStep rs [([], s)] c).flatMap fun x => (caps rs x.2 cs).map fun y => (x.1 ++ y.1, y.2) := fun s => caps_from rs cs _
    rw [List.foldl_cons, caps_from rs cs]
    simp only [h0]
    unfold capsStep
    simp only [List.flatMap_cons, List.flatMap_nil, List.append_nil, List.nil_append]
    rw [List.flatMap_assoc]
    congr 1
    funext x
    rw [List.map_flatMap, List.flatMap_map, List.flatMap_map]
    congr 1
    funext m
    rw [List.map_map]
    congr 1
    funext y
    simp
theorem caps_cons (rs : List (List Mv)) (s c : Nat) (cs : List Nat) : caps rs s (c :: cs) = (movesAt rs s c).flatMap fun m => (caps rs m.t cs).map fun y => (m.c :: y.1, y.2) := by
  have h := caps_from rs cs (capsStep rs [([], s)] c)
  have e : caps rs s (c :: cs) = cs.foldl (capsStep rs) (capsStep rs [([], s)] c) := rfl
  rw [e, h]
  unfold capsStep movesAt
  simp only [List.flatMap_cons, List.flatMap_nil, List.append_nil, List.nil_append]
  rw [List.flatMap_map]
  rfl
/-- rows whose moves stand in order -/
def Ordered (rs : List (List Mv)) : Prop := ∀ r ∈ rs, r.Pairwise fun a b => mvLt a b = true
theorem RulV.ordered {hs ws : List Nat} {rs : List (List Mv)} (v : RulV hs ws rs) : Ordered rs := fun r hr => by
  have := (v.row r hr).1
  unfold rowB at this
  rw [Bool.and_eq_true] at this
  exact nbr_pair (r := mvLt) mvLt_tr r this.2
theorem moves_ordered {rs : List (List Mv)} (o : Ordered rs) (s c : Nat) : (movesAt rs s c).Pairwise fun a b => a.c < b.c := by
  unfold movesAt
  cases e : rs[s]? with
  | none => simp [List.getD, e]
  | some r =>
    have er : rs.getD s [] = r := by simp [List.getD, e]
    rw [er]
    have := (o r (List.mem_of_getElem? e)).sublist (List.filter_sublist (p := fun m => m.h == c))
    refine List.Pairwise.imp_of_mem ?_ this
    intro a b ha hb hab
    have h1 := (List.mem_filter.mp ha).2
    have h2 := (List.mem_filter.mp hb).2
    simp only [beq_iff_eq] at h1 h2
    simp only [mvLt, decide_eq_true_eq] at hab
    omega
theorem caps_ordered {rs : List (List Mv)} (o : Ordered rs) : ∀ (cs : List Nat) (s : Nat), (caps rs s cs).Pairwise fun x y => x.1 < y.1
  | [], s => by simp [caps]
  | c :: cs, s => by
    rw [caps_cons]
    rw [List.pairwise_flatMap]
    refine ⟨fun m hm => ?_, ?_⟩
    · rw [List.pairwise_map]
      refine (caps_ordered o cs m.t).imp fun {a b} h => ?_
      exact List.cons_lt_cons_iff.mpr (.inr ⟨rfl, h⟩)
    · refine (moves_ordered o s c).imp fun {a b} h x hx y hy => ?_
      obtain ⟨x', _, rfl⟩ := List.mem_map.mp hx
      obtain ⟨y', _, rfl⟩ := List.mem_map.mp hy
      exact List.cons_lt_cons_iff.mpr (.inl h)
theorem sorted_ext : ∀ {a b : List Nat}, a.Pairwise (· < ·) → b.Pairwise (· < ·) → (∀ k, k ∈ a ↔ k ∈ b) → a = b
  | [], [], _, _, _ => rfl
  | [], y :: b, _, _, h => absurd ((h y).mpr (by simp)) (by simp)
  | x :: a, [], _, _, h => absurd ((h x).mp (by simp)) (by simp)
  | x :: a, y :: b, ha, hb, h => by
    rw [List.pairwise_cons] at ha hb
    have e : x = y := by
      rcases List.mem_cons.mp ((h x).mp (by simp)) with e | e
      · exact e
      · rcases List.mem_cons.mp ((h y).mpr (by simp)) with e2 | e2
        · exact e2.symm
        · have := ha.1 y e2
          have := hb.1 x e
          omega
    subst e
    rw [sorted_ext ha.2 hb.2 fun k => ?_]
    constructor
    · intro hk
      rcases List.mem_cons.mp ((h k).mp (List.mem_cons_of_mem _ hk)) with e | e
      · have := ha.1 k hk; omega
      · exact e
    · intro hk
      rcases List.mem_cons.mp ((h k).mpr (List.mem_cons_of_mem _ hk)) with e | e
      · have := hb.1 k hk; omega
      · exact e
theorem run_sorted {rs : List (List Mv)} {s : Nat} (cs : List Nat) : (run rs [s] cs).Pairwise (· < ·) := by
  induction cs using snoc_ind with
  | nil => simp [run]
  | snoc cs c ih => rw [run_snoc]; exact behind_sorted
theorem step_of {rs : List (List Mv)} (o : Ordered rs) {s c : Nat} {m : Mv} (h : m ∈ movesAt rs s c) : step1 rs s c m.c = some m.t := by
  have h0 := h
  have ho := moves_ordered o s c
  unfold movesAt at h
  obtain ⟨h1, h2⟩ := List.mem_filter.mp h
  simp only [beq_iff_eq] at h2
  unfold step1
  cases e : (rs.getD s []).find? fun x => x.h == c && x.c == m.c with
  | none =>
    have := List.find?_eq_none.mp e m h1
    simp [h2] at this
  | some x =>
    have hx := List.mem_of_find?_eq_some e
    have hp := List.find?_some e
    simp only [Bool.and_eq_true, beq_iff_eq] at hp
    have hxm : x ∈ movesAt rs s c := List.mem_filter.mpr ⟨hx, by simp [hp.1]⟩
    have : x = m := by
      obtain ⟨i, hi, rfl⟩ := List.getElem_of_mem hxm
      obtain ⟨j, hj, rfl⟩ := List.getElem_of_mem h0
      rcases Nat.lt_trichotomy i j with hij | hij | hij
      · have := List.pairwise_iff_getElem.mp ho i j hi hj hij
        omega
      · subst hij; rfl
      · have := List.pairwise_iff_getElem.mp ho j i hj hi hij
        omega
    rw [this]
    rfl
theorem ledN_cons {rs : List (List Mv)} {s : Nat} {k : Nat × Nat} {ks : List (Nat × Nat)} {t : Nat} (h : step1 rs s k.1 k.2 = some t) : ledN rs s (k :: ks) = ledN rs t ks := by
  unfold ledN
  rw [List.foldl_cons]
  show List.foldl _ (step1 rs s k.1 k.2) ks = _
  rw [h]
theorem caps_ledN {rs : List (List Mv)} (o : Ordered rs) : ∀ (cs : List Nat) (s : Nat), ∀ x ∈ caps rs s cs, ledN rs s (cs.zip x.1) = some x.2
  | [], s, x, hx => by
    simp [caps] at hx
    subst hx
    rfl
  | c :: cs, s, x, hx => by
    rw [caps_cons] at hx
    obtain ⟨m, hm, hx⟩ := List.mem_flatMap.mp hx
    obtain ⟨y, hy, rfl⟩ := List.mem_map.mp hx
    show ledN rs s ((c, m.c) :: cs.zip y.1) = some y.2
    rw [ledN_cons (step_of o hm)]
    exact caps_ledN o cs m.t y hy
end Pace
end
section
set_option Elab.async false
set_option linter.all false
set_option maxRecDepth 100000
set_option maxHeartbeats 4000000
namespace Pace
open PySem PySem.Spec PyProof.Rows L2 DL
/-- the states of a set, each by itself -/
theorem run_app {rs : List (List Mv)} {ss : List Nat} (a b : List Nat) : run rs ss (a ++ b) = run rs (run rs ss a) b := by simp [run]
end Pace
end
section
set_option Elab.async false
set_option linter.all false
set_option maxRecDepth 100000
set_option maxHeartbeats 4000000
namespace Pace
open PySem PySem.Spec PyProof.Rows L2 DL
mutual
def leafD (m : Nat) : D → Bool
  | .int i => decide (i.natAbs ≤ 10 ^ 39 + m)
  | .str x => x.cps.toList.all fun c => decide (c < 128)
  | .tup xs | .lst xs => leafsD m xs
  | _ => true
def leafsD (m : Nat) : List D → Bool
  | [] => true
  | x :: xs => leafD m x && leafsD m xs
end
def bkD (x : D) : Nat := x.pyR.bulk
structure One (m n : Nat) (d : D) : Prop where
  pl : d.plR = true
  lf : leafD m d = true
  dp : d.pyR.depth ≤ n
structure Odd (m n w : Nat) (d : D) : Prop where
  one : One m n d
  bk : bkD d ≤ w
theorem One.mono {m n m' n' : Nat} {d : D} (h : One m n d) (h1 : m ≤ m') (h2 : n ≤ n') : One m' n' d := by
  have aux : ∀ k : Nat, (∀ d : D, sizeOf d ≤ k → leafD m d = true → leafD m' d = true) ∧ (∀ ds : List D, sizeOf ds ≤ k → leafsD m ds = true → leafsD m' ds = true) := by
    intro k
    induction k with
    | zero =>
      refine ⟨fun d hd => ?_, fun ds hd => ?_⟩
      · cases d <;> simp at hd
      · cases ds <;> simp at hd
    | succ k ih =>
      refine ⟨fun d hd hl => ?_, fun ds hd hl => ?_⟩
      · cases d with
        | int i => simp only [leafD, decide_eq_true_eq] at hl ⊢; omega
        | tup xs => exact ih.2 xs (by simp at hd; omega) hl
        | lst xs => exact ih.2 xs (by simp at hd; omega) hl
        | str x => exact hl
        | _ => rfl
      · cases ds with
        | nil => rfl
        | cons x xs =>
          have l' : leafD m x = true ∧ leafsD m xs = true := by simpa [leafsD] using hl
          show (leafD m' x && leafsD m' xs) = true
          rw [ih.1 x (by simp at hd; omega) l'.1, ih.2 xs (by simp at hd; omega) l'.2]; rfl
  exact ⟨h.pl, (aux (sizeOf d)).1 d (Nat.le_refl _) h.lf, Nat.le_trans h.dp h2⟩
theorem Odd.mono {m n w m' n' w' : Nat} {d : D} (h : Odd m n w d) (h1 : m ≤ m') (h2 : n ≤ n') (h3 : w ≤ w') : Odd m' n' w' d := ⟨h.one.mono h1 h2, Nat.le_trans h.bk h3⟩
end Pace
end
section
set_option Elab.async false
set_option linter.all false
set_option maxRecDepth 100000
set_option maxHeartbeats 4000000
namespace Pace
open PySem PySem.Spec PyProof.Rows L2 DL
/-- all moves, one behind the other -/
def flatM (rs : List (List Mv)) : List (Nat × Mv) := (List.range rs.length).flatMap fun s => (rs.getD s []).map fun m => (s, m)
/-- rules that can be written -/
structure Wri (hs ws : List Nat) (rs : List (List Mv)) : Prop where
  val : RulV hs ws rs
  few : (flatM rs).length ≤ 5000
theorem flat_mem {rs : List (List Mv)} {x : Nat × Mv} (h : x ∈ flatM rs) : x.1 < rs.length ∧ ∃ r ∈ rs, x.2 ∈ r := by
  obtain ⟨s, hs, hx⟩ := List.mem_flatMap.mp h
  obtain ⟨m, hm, rfl⟩ := List.mem_map.mp hx
  have hs := List.mem_range.mp hs
  refine ⟨hs, rs[s], List.getElem_mem hs, ?_⟩
  rwa [List.getD_eq_getElem?_getD, List.getElem?_eq_getElem hs] at hm
structure MvP (hs ws : List Nat) (n : Nat) (x : Nat × Mv) : Prop where
  s : x.1 < n
  h : x.2.h ∈ hs
  c : x.2.c ∈ ws
  t : x.2.t < n
theorem Wri.mv {hs ws : List Nat} {rs : List (List Mv)} (w : Wri hs ws rs) : ∀ x ∈ flatM rs, MvP hs ws rs.length x := fun x hx => by
  obtain ⟨h1, r, hr, hm⟩ := flat_mem hx
  have := (w.val.row r hr).1
  unfold rowB at this
  simp only [Bool.and_eq_true, List.all_eq_true] at this
  have := this.1 _ hm
  unfold mvB at this
  simp only [Bool.and_eq_true, decide_eq_true_eq] at this
  exact ⟨h1, this.1.1, this.1.2, this.2⟩
end Pace
end
section
set_option Elab.async false
set_option linter.all false
set_option maxRecDepth 100000
set_option maxHeartbeats 4000000
namespace DL
open PySem PySem.Spec PyProof.Rows L2
section
variable {X : Cx} {pos : Pos}
def rMulLM : DR2 := fun x y G Q => match x, y with
  | .lst xs, .int n => 0 ≤ n ∧ n < 1000 ∧ xs.length ≤ 1000 ∧ ∀ p, G p = none → Q (.rf p) (gput G p (.lst (List.replicate n.toNat xs).flatten))
  | _, _ => False
theorem od_mulLM : OpD X (binaryOp .Mult) rMulLM := by
  refine ⟨_, op_rep, fun F H G x y dx dy g rx ry Q' h Q k => ?_⟩
  unfold rMulLM at h
  split at h
  · rename_i xs n
    cases rx with
    | lst ha rs =>
      rename_i a vs
      cases ry
      obtain ⟨h1, h2, h3, h5⟩ := h
      have hl := rs.length
      have hm : vs.length * n.toNat ≤ 1000 * 1000 := Nat.mul_le_mul (by omega) (by omega)
      refine ⟨_, _, vs, rfl, rfl, g.ex _ _ ha, by omega, by omega, by rw [sizeLine_eq]; omega, fun p hp => ?_⟩
      exact k _ _ _ _ _ (Go.alloc hp) (g.alloc (o := .lst (List.replicate n.toNat xs).flatten) hp rfl ⟨_, upd_same, rs.repN _⟩) (.rf p) (h5 p (g.free hp))
  · exact h.elim
end
end DL
end
section
set_option Elab.async false
set_option linter.all false
set_option maxRecDepth 100000
set_option maxHeartbeats 4000000
namespace DL
open PySem PySem.Spec PyProof.Rows L2
abbrev KTup (P : Program) (w : World) (h : Heap) (k : List Key) (b : Addr) : Prop := IsTupleKey (mixKind P w) h k b
abbrev kh (P : Program) (w : World) (k : List Key) : Int := tupleKeyHash (mixKind P w) k
section
variable {P : Program} {w : World} {A : Around} {E : Value → Shared → Prop} {s : Shared}
def krows (P : Program) (w : World) (L : List KB) : List (Int × Value) := L.map fun p => (kh P w p.2, Value.ref p.1)
theorem krows_len (L : List KB) : (krows P w L).length = L.length := by simp [krows]
/-- all but the keys themselves -/
structure KSet0 (P : Program) (w : World) (h : Heap) (a : Addr) (L : List KB) (es : Array (Int × Value)) (ep : Nat) (t : SetTable) : Prop where
  ob : ∃ o, h.get? a = some o ∧ o.ExactSet ∧ o.data = .set es ep t
  rows : es.toList = krows P w L
  tab : TabOk t (L.map fun p => kh P w p.2)
  nd : (L.map (·.2)).Nodup
  led : w.params.followText "set-order" = true ∨ t.led = true
  room : L.length * 5 < t.mask * 3
  few : L.length < 64
structure KSet (P : Program) (w : World) (h : Heap) (a : Addr) (L : List KB) (es : Array (Int × Value)) (ep : Nat) (t : SetTable) : Prop extends KSet0 P w h a L es ep t where
  tup : ∀ p ∈ L, KTup P w h p.2 p.1
variable {a : Addr} {L : List KB} {es : Array (Int × Value)} {ep : Nat} {t : SetTable}
theorem rows_size (h : es.toList = krows P w L) : es.size = L.length := by
  rw [← Array.length_toList, h, krows_len]
theorem fits_of (sz : t.place.size = es.size) (dm : t.dummies = #[]) (hl : es.size ≤ t.mask) : t.fits es.size = true := by
  unfold SetTable.fits SetTable.fill
  rw [dm, Bool.and_eq_true, beq_iff_eq, decide_eq_true_eq]
  show t.place.size = es.size ∧ t.place.size + 0 ≤ t.mask
  omega
theorem KSet0.psize (R : KSet0 P w s.heap a L es ep t) : t.place.size = L.length := by
  have := R.tab.sz
  rwa [List.length_map] at this
theorem KSet0.fits (R : KSet0 P w s.heap a L es ep t) : t.fits es.size = true := by
  have h1 := R.psize
  have h2 := rows_size R.rows
  have h3 := R.room
  exact fits_of (by omega) R.tab.dm (by omega)
theorem KSet.keep {h h' : Heap} (R : KSet P w h a L es ep t) (ha : ∀ o, h.get? a = some o → h'.get? a = some o) (ht : ∀ p ∈ L, KTup P w h' p.2 p.1) : KSet P w h' a L es ep t := by
  obtain ⟨⟨⟨o, ho, r⟩, r1, r2, r3, r4, r5, r6⟩, _⟩ := R
  exact ⟨⟨⟨o, ha o ho, r⟩, r1, r2, r3, r4, r5, r6⟩, ht⟩
end
end DL
end
section
set_option Elab.async false
set_option linter.all false
set_option maxRecDepth 100000
set_option maxHeartbeats 4000000
namespace DL
open PySem PySem.Spec PyProof.Rows L2
end DL
end
section
set_option Elab.async false
set_option linter.all false
set_option maxRecDepth 100000
set_option maxHeartbeats 4000000
namespace DL
open PySem PySem.Spec PyProof.Rows L2
end DL
end
section
set_option Elab.async false
set_option linter.all false
set_option maxRecDepth 100000
set_option maxHeartbeats 4000000
namespace Pace
open PySem PySem.Spec PyProof.Rows L2 DL
/-- the same rows, each in any order -/
structure RP (B A : Rows) : Prop where
  len : B.length = A.length
  pm : ∀ s, (rowS B s).Perm (rowS A s)
theorem RP.refl (A : Rows) : RP A A := ⟨rfl, fun _ => .refl _⟩
theorem RP.lt {B A : Rows} (h : RP B A) {s : Nat} (hs : s < A.length) : s < B.length := by rw [h.len]; exact hs
theorem mv_key_inj {r : List Mv} (pw : r.Pairwise fun a b => mvLt a b = true) {a b : Mv} (ha : a ∈ r) (hb : b ∈ r) (h : a.h = b.h) (c : a.c = b.c) : a = b := by
  have irr : ∀ x y : Mv, x.h = y.h → x.c = y.c → ¬ mvLt x y = true := fun x y e1 e2 z => by
    unfold mvLt at z
    rw [decide_eq_true_eq] at z
    omega
  induction r with
  | nil => cases ha
  | cons x r ih =>
    rw [List.pairwise_cons] at pw
    rcases List.mem_cons.mp ha with e1 | h1
    · rcases List.mem_cons.mp hb with e2 | h2
      · rw [e1, e2]
      · rw [e1] at h c
        exact absurd (pw.1 b h2) (irr _ _ h c)
    · rcases List.mem_cons.mp hb with e2 | h2
      · rw [e2] at h c
        exact absurd (pw.1 a h1) (irr _ _ h.symm c.symm)
      · exact ih pw.2 h1 h2
end Pace
end
section
set_option Elab.async false
set_option linter.all false
set_option maxRecDepth 100000
set_option maxHeartbeats 4000000
namespace Pace
open PySem PySem.Spec PyProof.Rows L2 DL
abbrev Ky := Nat × Nat
def kyK (k : Ky) : List Key := [.inr (sgn k.1), .inr (sgn k.2)]
def kLt (a b : Ky) : Bool := decide (a.1 < b.1 ∨ (a.1 = b.1 ∧ a.2 < b.2))
theorem rowS_le {A : Rows} {n s : Nat} (h : ∀ r ∈ A, r.length ≤ n) : (rowS A s).length ≤ n := by
  unfold rowS
  rw [List.getD_eq_getElem?_getD]
  cases e : A[s]? with
  | none => exact Nat.zero_le _
  | some r => exact h r (List.mem_of_getElem? e)
theorem step1_some {A : Rows} {s : Nat} {k : Ky} : (step1 A s k.1 k.2).isSome = true ↔ k ∈ (rowS A s).map fun m => (m.h, m.c) := by
  show (((rowS A s).find? fun m => m.h == k.1 && m.c == k.2).map (·.t)).isSome = true ↔ _
  rw [Option.isSome_map, List.find?_isSome, List.mem_map]
  simp only [Bool.and_eq_true, beq_iff_eq]
  exact ⟨fun ⟨m, hm, h1, h2⟩ => ⟨m, hm, Prod.ext h1 h2⟩, fun ⟨m, hm, e⟩ => ⟨m, hm, by rw [← e], by rw [← e]⟩⟩
abbrev Trail := (Nat × Nat) × List Ky
structure TrOk (A B : Rows) (L : List Trail) : Prop where
  nd : (L.map (·.1)).Nodup
  zero : ((0, 0), []) ∈ L
  led : ∀ x ∈ L, ledN A 0 x.2 = some x.1.1 ∧ ledN B 0 x.2 = some x.1.2
  cl : ∀ x ∈ L, ∀ (k : Ky) (s t : Nat), step1 A x.1.1 k.1 k.2 = some s → step1 B x.1.2 k.1 k.2 = some t → (s, t) ∈ L.map (·.1)
  ln : ∀ x ∈ L, x.2.length < L.length
/-- as far as the search has come -/
structure TrI (A B : Rows) (L : List Trail) (n : Nat) : Prop where
  nd : (L.map (·.1)).Nodup
  zero : L[0]? = some ((0, 0), [])
  led : ∀ x ∈ L, ledN A 0 x.2 = some x.1.1 ∧ ledN B 0 x.2 = some x.1.2
  cl : ∀ (i : Nat) x, i < n → L[i]? = some x → ∀ (k : Ky) (s t : Nat), step1 A x.1.1 k.1 k.2 = some s → step1 B x.1.2 k.1 k.2 = some t → (s, t) ∈ L.map (·.1)
  le : n ≤ L.length
  ln : ∀ (i : Nat) x, L[i]? = some x → x.2.length ≤ i
theorem TrI.lt {A B : Rows} {L : List Trail} {n : Nat} (h : TrI A B L n) (sa : Steps A) (sb : Steps B) {x : Trail} (hx : x ∈ L) : x.1.1 < A.length ∧ x.1.2 < B.length := by
  obtain ⟨h1, h2⟩ := h.led x hx
  exact ⟨ledN_lt sa.cl.2 sa.cl.1 _ h1, ledN_lt sb.cl.2 sb.cl.1 _ h2⟩
theorem TrI.few {A B : Rows} {L : List Trail} {n : Nat} (h : TrI A B L n) (sa : Steps A) (sb : Steps B) : L.length ≤ A.length * B.length := by
  have := List.Nodup.length_le_of_subset h.nd (l₂ := (List.range A.length).flatMap fun x => (List.range B.length).map fun y => (x, y)) fun p hp => by
    obtain ⟨x, hx, rfl⟩ := List.mem_map.mp hp
    obtain ⟨h1, h2⟩ := h.lt sa sb hx
    exact List.mem_flatMap.mpr ⟨x.1.1, List.mem_range.mpr h1, List.mem_map.mpr ⟨x.1.2, List.mem_range.mpr h2, rfl⟩⟩
  rw [List.length_map, prod_len, List.length_range, List.length_range] at this
  exact this
theorem TrI.done {A B : Rows} {L : List Trail} (h : TrI A B L L.length) : TrOk A B L where
  nd := h.nd
  zero := List.mem_of_getElem? h.zero
  led := h.led
  cl := fun x hx => by
    obtain ⟨i, hi⟩ := List.mem_iff_getElem?.mp hx
    exact h.cl i x (List.getElem?_eq_some_iff.mp hi).1 hi
  ln := fun x hx => by
    obtain ⟨i, hi⟩ := List.mem_iff_getElem?.mp hx
    have := h.ln i x hi
    have := (List.getElem?_eq_some_iff.mp hi).1
    omega
theorem TrI.add {A B : Rows} {L : List Trail} {n : Nat} (h : TrI A B L n) {i : Nat} {x : Trail} (hx : L[i]? = some x) {k : Ky} {s t : Nat} (hs : step1 A x.1.1 k.1 k.2 = some s) (ht : step1 B x.1.2 k.1 k.2 = some t) (hn : (s, t) ∉ L.map (·.1)) :
    TrI A B (L ++ [((s, t), x.2 ++ [k])]) n where
  nd := by
    rw [List.map_append, List.nodup_append]
    refine ⟨h.nd, by simp, fun a h1 b h2 e => hn ?_⟩
    rw [List.map_cons, List.map_nil, List.mem_singleton] at h2
    rw [e, h2] at h1
    exact h1
  zero := by rw [List.getElem?_append_left (List.getElem?_eq_some_iff.mp h.zero).1]; exact h.zero
  led := fun y hy => by
    rcases List.mem_append.mp hy with hy | hy
    · exact h.led y hy
    · rw [List.mem_singleton.mp hy]
      obtain ⟨h1, h2⟩ := h.led x (List.mem_of_getElem? hx)
      exact ⟨by rw [ledN_snoc, h1]; exact hs, by rw [ledN_snoc, h2]; exact ht⟩
  cl := fun j y hj hy k s t h1 h2 => by
    rw [List.getElem?_append_left (by have := h.le; omega)] at hy
    rw [List.map_append]
    exact List.mem_append_left _ (h.cl j y hj hy k s t h1 h2)
  le := by have := h.le; simp; omega
  ln := fun j y hy => by
    by_cases hj : j < L.length
    · rw [List.getElem?_append_left hj] at hy
      exact h.ln j y hy
    · have hj2 := (List.getElem?_eq_some_iff.mp hy).1
      rw [List.length_append] at hj2
      have ej : j = L.length := by simp at hj2; omega
      subst ej
      rw [List.getElem?_append_right (Nat.le_refl _), Nat.sub_self] at hy
      cases hy
      have := h.ln i x hx
      have := (List.getElem?_eq_some_iff.mp hx).1
      rw [List.length_append, List.length_singleton]
      omega
end Pace
end
section
set_option Elab.async false
set_option linter.all false
set_option maxRecDepth 100000
set_option maxHeartbeats 4000000
namespace DL
open PySem PySem.Spec PyProof.Rows L2
end DL
end
section
set_option Elab.async false
set_option linter.all false
set_option maxRecDepth 100000
set_option maxHeartbeats 4000000
namespace Pace
open PySem PySem.Spec PyProof.Rows L2 DL
theorem keys_nd {r : List Mv} (pw : r.Pairwise fun a b => mvLt a b = true) : (r.map fun m => (m.h, m.c)).Nodup := by
  refine List.pairwise_map.mpr (pw.imp fun {a b} h e => ?_)
  unfold mvLt at h
  rw [decide_eq_true_eq] at h
  have e1 := congrArg Prod.fst e
  have e2 := congrArg Prod.snd e
  simp only at e1 e2
  omega
/-- a move, by its letters -/
theorem step1_iff {A : Rows} (st : Steps A) {s h c t : Nat} : step1 A s h c = some t ↔ ⟨h, c, t⟩ ∈ rowS A s := by
  show ((rowS A s).find? fun m => m.h == h && m.c == c).map (·.t) = some t ↔ _
  have pw := (st.row s).1
  constructor
  · intro e
    obtain ⟨m, hm, rfl⟩ := Option.map_eq_some_iff.mp e
    have h1 := List.find?_some hm
    have h2 := List.mem_of_find?_eq_some hm
    simp only [Bool.and_eq_true, beq_iff_eq] at h1
    obtain ⟨rfl, rfl⟩ := h1
    exact h2
  · intro hm
    cases e : (rowS A s).find? fun m => m.h == h && m.c == c with
    | none =>
      have := List.find?_eq_none.mp e _ hm
      simp at this
    | some m =>
      have h1 := List.find?_some e
      have h2 := List.mem_of_find?_eq_some e
      simp only [Bool.and_eq_true, beq_iff_eq] at h1
      have := mv_key_inj pw h2 hm h1.1 h1.2
      subst this
      rfl
/-- words, letter by letter -/
theorem ledN_step {A : Rows} {s : Nat} (k : Ky) (w : List Ky) : ledN A s (k :: w) = (step1 A s k.1 k.2).bind fun x => ledN A x w := by
  show List.foldl _ ((some s).bind fun s => step1 A s k.1 k.2) w = _
  rw [Option.bind_some]
  cases step1 A s k.1 k.2 with
  | none => exact foldl_none w
  | some x => rfl
end Pace
end
section
set_option Elab.async false
set_option linter.all false
set_option maxRecDepth 100000
set_option maxHeartbeats 4000000
namespace Pace
open PySem PySem.Spec PyProof.Rows L2 DL
theorem like_keys {R : Nat → Nat → Prop} : ∀ {r q : List Mv}, r.map (fun m => (m.h, m.c)) = q.map (fun m => (m.h, m.c)) → (∀ m ∈ r, ∀ m' ∈ q, m.h = m'.h → m.c = m'.c → R m.t m'.t) → Like R r q
  | [], [], _, _ => .nil
  | [], _ :: _, e, _ => by cases e
  | _ :: _, [], e, _ => by cases e
  | m :: r, m' :: q, e, h => by
    rw [List.map_cons, List.map_cons] at e
    injection e with e1 e2
    injection e1 with a b
    exact .cons a b (h m (by simp) m' (by simp) a b) (like_keys e2 fun x hx y hy => h x (by simp [hx]) y (by simp [hy]))
theorem bis_words {A B : Rows} (sa : Steps A) (sb : Steps B) {s t : Nat} (h : ∀ w : List Ky, (ledN A s w).isSome = (ledN B t w).isSome) : bis A s B t := by
  refine bis_of (R := fun s t => ∀ w : List Ky, (ledN A s w).isSome = (ledN B t w).isSome) (fun s t h => ?_) h
  have one : ∀ k : Ky, (step1 A s k.1 k.2).isSome = (step1 B t k.1 k.2).isSome := fun k => by
    have := h [k]
    rw [ledN_step, ledN_step] at this
    have e : ∀ o : Option Nat, ∀ C : Rows, (o.bind fun x => ledN C x []).isSome = o.isSome := fun o C => by cases o <;> rfl
    rw [e, e] at this
    exact this
  have pa := (sa.row s).1
  have pb := (sb.row t).1
  have kk : ∀ k : Ky, k ∈ (rowS A s).map (fun m => (m.h, m.c)) ↔ k ∈ (rowS B t).map (fun m => (m.h, m.c)) := fun k => by
    rw [← step1_some, ← step1_some, one k]
  have lt : ∀ {r : List Mv}, (r.Pairwise fun a b => mvLt a b = true) → (r.map fun m => (m.h, m.c)).Pairwise fun a b => kLt a b = true := fun {r} p => List.pairwise_map.mpr (p.imp fun h => h)
  have ke : (rowS A s).map (fun m => (m.h, m.c)) = (rowS B t).map (fun m => (m.h, m.c)) := by
    refine List.Perm.eq_of_pairwise (le := fun a b => kLt a b = true) (fun a b _ _ h1 h2 => ?_) (lt pa) (lt pb) ((List.perm_ext_iff_of_nodup (keys_nd pa) (keys_nd pb)).mpr kk)
    unfold kLt at h1 h2
    rw [decide_eq_true_eq] at h1 h2
    omega
  refine like_keys ke fun m hm m' hm' e1 e2 w => ?_
  have := h ((m.h, m.c) :: w)
  rw [ledN_step, ledN_step] at this
  have s1 : step1 A s m.h m.c = some m.t := (step1_iff sa).mpr hm
  have s2 : step1 B t m.h m.c = some m'.t := by rw [e1, e2]; exact (step1_iff sb).mpr hm'
  simp only [s1, s2, Option.bind_some] at this
  exact this
end Pace
end
section
set_option Elab.async false
set_option linter.all false
set_option maxRecDepth 100000
set_option maxHeartbeats 4000000
namespace DL
open PySem PySem.Spec PyProof.Rows L2
end DL
end
section
set_option Elab.async false
set_option linter.all false
set_option maxRecDepth 100000
set_option maxHeartbeats 4000000
namespace DL
open PySem PySem.Spec PyProof.Rows L2
end DL
end
section
set_option Elab.async false
set_option linter.all false
set_option maxRecDepth 100000
set_option maxHeartbeats 4000000
namespace DL
open PySem PySem.Spec PyProof.Rows L2
section
variable {X : Cx} {pos : Pos}
def rMin2D (ds : List D) (G : GH) (Q : DQ) : Prop := match ds with
  | [.int i, .int j] => Q (.int (if j < i then j else i)) G
  | _ => False
theorem cd_min2 (hc : X.calm = true) : CallD X (.builtin "min") rMin2D := by
  refine ⟨_, call_min2 hc, fun F H G vs ds g rs Q' h Q k => ?_⟩
  unfold rMin2D at h
  split at h
  · cases rs with
    | cons a b =>
      cases b with
      | cons c d =>
        cases d; cases a; cases c
        exact ⟨_, _, rfl, k F H _ _ G Go.refl g (.int _) h⟩
  · exact h.elim
end
end DL
end
section
set_option Elab.async false
set_option linter.all false
set_option maxRecDepth 100000
set_option maxHeartbeats 4000000
namespace Pace
open PySem PySem.Spec PyProof.Rows L2 DL
theorem isN_f {α : Type} {o : Option α} : o.isNone = false ↔ o.isSome = true := by cases o <;> simp
theorem isN_n {α : Type} {o : Option α} : (¬ o.isNone = true) ↔ o.isSome = true := by cases o <;> simp
def ledS (A : Rows) (ss : List Nat) (k : Ky) : List Nat := nsort (firstsF (ss.flatMap fun s => ((rowS A s).filter fun m => m.h == k.1 && m.c == k.2).map (·.t)))
theorem ledS_mem {A : Rows} (st : Steps A) {ss : List Nat} {k : Ky} {t : Nat} : t ∈ ledS A ss k ↔ ∃ s ∈ ss, step1 A s k.1 k.2 = some t := by
  unfold ledS
  rw [(nsort_perm _).mem_iff, firstsF_mem, List.mem_flatMap]
  constructor
  · rintro ⟨s, hs, h⟩
    obtain ⟨m, hm, rfl⟩ := List.mem_map.mp h
    rw [List.mem_filter] at hm
    obtain ⟨h1, h2⟩ := hm
    simp only [Bool.and_eq_true, beq_iff_eq] at h2
    refine ⟨s, hs, (step1_iff st).mpr ?_⟩
    rw [← h2.1, ← h2.2]
    exact h1
  · rintro ⟨s, hs, h⟩
    exact ⟨s, hs, List.mem_map.mpr ⟨_, List.mem_filter.mpr ⟨(step1_iff st).mp h, by simp⟩, rfl⟩⟩
def ledW (A : Rows) (ss : List Nat) (w : List Ky) : List Nat := w.foldl (ledS A) ss
theorem ledW_snoc (A : Rows) (ss : List Nat) (w : List Ky) (k : Ky) : ledW A ss (w ++ [k]) = ledS A (ledW A ss w) k := by simp [ledW]
theorem ledW_mem {A : Rows} (st : Steps A) {ss : List Nat} (w : List Ky) : ∀ {t : Nat}, t ∈ ledW A ss w ↔ ∃ s ∈ ss, ledN A s w = some t := by
  induction w using snoc_ind with
  | nil => intro t; simp [ledW, ledN]
  | snoc w k ih =>
    intro t
    rw [ledW_snoc, ledS_mem st]
    constructor
    · rintro ⟨u, hu, h⟩
      obtain ⟨s, hs, h2⟩ := ih.mp hu
      exact ⟨s, hs, by rw [ledN_snoc, h2]; exact h⟩
    · rintro ⟨s, hs, h⟩
      rw [ledN_snoc] at h
      obtain ⟨u, hu, h⟩ := Option.bind_eq_some_iff.mp h
      exact ⟨u, ih.mpr ⟨s, hs, hu⟩, h⟩
theorem ledW_nil {A : Rows} (st : Steps A) {ss : List Nat} (w : List Ky) : ledW A ss w = [] ↔ ∀ s ∈ ss, ledN A s w = none := by
  rw [List.eq_nil_iff_forall_not_mem]
  constructor
  · intro h s hs
    cases e : ledN A s w with
    | none => rfl
    | some t => exact absurd ((ledW_mem st w).mpr ⟨s, hs, e⟩) (h t)
  · intro h t ht
    obtain ⟨s, hs, e⟩ := (ledW_mem st w).mp ht
    rw [h s hs] at e
    cases e
inductive Reach (A : Rows) : Nat → Prop
  | one {m : Mv} : m ∈ rowS A 0 → Reach A m.t
  | more {s : Nat} {m : Mv} : Reach A s → m ∈ rowS A s → Reach A m.t
structure Inn (A : Rows) (l : List Nat) : Prop where
  so : l.Pairwise (· < ·)
  mem : ∀ t, t ∈ l ↔ Reach A t
theorem Inn.uniq {A : Rows} {a b : List Nat} (ha : Inn A a) (hb : Inn A b) : a = b := by
  refine List.Perm.eq_of_pairwise (le := (· < ·)) (fun x y _ _ h1 h2 => by omega) ha.so hb.so ?_
  refine (List.perm_ext_iff_of_nodup (ha.so.imp fun h => by omega) (hb.so.imp fun h => by omega)).mpr fun t => by rw [ha.mem, hb.mem]
theorem Reach.lt {A : Rows} (st : Steps A) {t : Nat} (h : Reach A t) : t < A.length := by
  cases h with
  | one h => exact st.cl.t h
  | more _ h => exact st.cl.t h
theorem Inn.lt {A : Rows} (st : Steps A) {l : List Nat} (h : Inn A l) : ∀ t ∈ l, t < A.length := fun t ht => ((h.mem t).mp ht).lt st
theorem Inn.nd {A : Rows} {l : List Nat} (h : Inn A l) : l.Nodup := h.so.imp fun h => by omega
/-- the window that ends at k is not led -/
def bad (A : Rows) (inn : List Nat) (n : Nat) (ps : List Ky) (k : Nat) : Bool :=
  if k ≤ n then (ledN A 0 (ps.take k)).isNone else inn.all fun s => (ledN A s ((ps.take k).drop (k - n))).isNone
theorem bad_zero {A : Rows} {inn : List Nat} {n : Nat} {ps : List Ky} : bad A inn n ps 0 = false := by simp [bad, ledN]
theorem led_app {A : Rows} (v w : List Ky) {s : Nat} : ledN A s (v ++ w) = (ledN A s v).bind fun u => ledN A u w := by
  induction w using snoc_ind with
  | nil => simp [ledN]
  | snoc w k ih => rw [← List.append_assoc, ledN_snoc, ih, Option.bind_assoc]; congr 1; funext u; rw [ledN_snoc]
end Pace
end
section
set_option Elab.async false
set_option linter.all false
set_option maxRecDepth 100000
set_option maxHeartbeats 4000000
namespace DL
open PySem PySem.Spec PyProof.Rows L2
end DL
end
section
set_option Elab.async false
set_option linter.all false
set_option maxRecDepth 100000
set_option maxHeartbeats 4000000
namespace Pace
open PySem PySem.Spec PyProof.Rows L2 DL
structure GoOk (hs ws : List Nat) (n : Nat) (lot : Lot) : Prop where
  ok : LotOk n hs ws lot
  lh : lettersB hs = true
  lw : lettersB ws = true
  h3 : hs.length ≤ 3
  w3 : ws.length ≤ 3
  n1 : 1 ≤ n
  n6 : n ≤ 6
theorem GoOk.v {hs ws : List Nat} {n : Nat} {lot : Lot} (g : GoOk hs ws n lot) : RulV hs ws (rowsOf lot n) where
  lh := g.lh
  lw := g.lw
  sh := by have := g.h3; omega
  sw := by have := g.w3; omega
  n1 := by rw [rowsOf_len]; exact g.n1
  n2 := by have := g.n6; rw [rowsOf_len]; omega
  row := fun r hr => by
    obtain ⟨s, _, rfl⟩ := List.mem_map.mp hr
    have h6 := row_few g.ok s
    have h7 : hs.length * ws.length ≤ 3 * 3 := Nat.mul_le_mul g.h3 g.w3
    refine ⟨?_, by omega⟩
    rw [rowsOf_len]
    unfold rowB
    rw [Bool.and_eq_true, List.all_eq_true]
    refine ⟨fun m hm => ?_, nbr_of_pair (rowOf_lt g.ok.nd s)⟩
    obtain ⟨_, a, b, c⟩ := g.ok.at_ _ (rowOf_mem.mp hm)
    unfold mvB
    simp [a, b, c]
theorem GoOk.st {hs ws : List Nat} {n : Nat} {lot : Lot} (g : GoOk hs ws n lot) : Steps (rowsOf lot n) := g.v.steps
theorem GoOk.few {hs ws : List Nat} {n : Nat} {lot : Lot} (g : GoOk hs ws n lot) : lot.length ≤ 54 := by
  have h9 := lot_few g.ok
  have h7 : hs.length * ws.length ≤ 3 * 3 := Nat.mul_le_mul g.h3 g.w3
  have h8 : n * (hs.length * ws.length) ≤ 6 * (3 * 3) := Nat.mul_le_mul g.n6 h7
  omega
def knSets (A : Rows) (inn : List Nat) (n : Nat) (ps : List Ky) : List (List Nat) := (List.range (min ps.length (n - 1))).map fun j => ledW A inn (ps.drop (ps.length - (j + 1)))
def knLots (A : Rows) (inn : List Nat) (n : Nat) (ps : List Ky) : List (List Nat) := (List.range (min ps.length (n - 1) + 1)).map fun j => ledW A inn (ps.drop (ps.length - j))
theorem knLots_eq (A : Rows) (inn : List Nat) (n : Nat) (ps : List Ky) : inn :: knSets A inn n ps = knLots A inn n ps := by
  unfold knLots knSets
  rw [List.range_succ_eq_map, List.map_cons, List.map_map]
  congr 1
  simp [ledW]
theorem knLots_led (A : Rows) (inn : List Nat) (n : Nat) (ps : List Ky) (k : Ky) : ((knLots A inn n ps).map fun l => ledS A l k) = (List.range (min ps.length (n - 1) + 1)).map fun j => ledW A inn ((ps ++ [k]).drop (ps.length - j)) := by
  unfold knLots
  rw [List.map_map]
  refine List.map_congr_left fun j _ => ?_
  simp only [Function.comp]
  rw [← ledW_snoc, List.drop_append_of_le_length (by omega)]
theorem knLots_next {A : Rows} {inn : List Nat} {n : Nat} (ps : List Ky) (k : Ky) : ((knLots A inn n ps).map fun l => ledS A l k).take (n - 1) = knSets A inn n (ps ++ [k]) := by
  rw [knLots_led, ← List.map_take, List.take_range]
  unfold knSets
  have e : min (n - 1) (min ps.length (n - 1) + 1) = min (ps ++ [k]).length (n - 1) := by simp; omega
  rw [e]
  refine List.map_congr_left fun j _ => ?_
  have : (ps ++ [k]).length - (j + 1) = ps.length - j := by simp
  rw [this]
theorem knLots_last {A : Rows} {inn : List Nat} {n : Nat} (hn : 1 ≤ n) (ps : List Ky) (k : Ky) (h : n ≤ ps.length) : ((knLots A inn n ps).map fun l => ledS A l k)[(knLots A inn n ps).length - 1]? = some (ledW A inn ((ps ++ [k]).drop (ps.length + 1 - n))) := by
  have el : (knLots A inn n ps).length - 1 = n - 1 := by unfold knLots; simp; omega
  rw [el, knLots_led, List.getElem?_map, List.getElem?_range (by omega)]
  have : ps.length - (n - 1) = ps.length + 1 - n := by omega
  simp only [Option.map_some, this]
end Pace
end
section
set_option Elab.async false
set_option linter.all false
set_option maxRecDepth 100000
set_option maxHeartbeats 4000000
namespace Pace
open PySem PySem.Spec PyProof.Rows L2 DL
theorem bad_pre {A : Rows} {inn : List Nat} {n k : Nat} {ps : List Ky} (h : k ≤ n) : bad A inn n ps k = (ledN A 0 (ps.take k)).isNone := by
  unfold bad
  rw [if_pos h]
end Pace
end
section
set_option Elab.async false
set_option linter.all false
set_option maxRecDepth 100000
set_option maxHeartbeats 4000000
namespace Pace
open PySem PySem.Spec PyProof.Rows L2 DL
theorem rep_one2 {α : Type} (m : Nat) (x : α) : (List.replicate m [x]).flatten = List.replicate m x := by
  induction m with
  | zero => rfl
  | succ m ih => rw [List.replicate_succ, List.flatten_cons, ih]; rfl
abbrev Cost := Option Nat
def lessO : Cost → Cost → Cost
  | none, b => b
  | some a, none => some a
  | some a, some b => some (min a b)
def b2n (b : Bool) : Nat := if b then 1 else 0
def rowDs (r : List Cost) : List D := r.map natO
def rbMv (h c x : Nat) (f : List Cost) (m : Mv) : List Cost := if m.h = h then f.set m.t (lessO (f.getD m.t none) (some (x + b2n (decide (m.c ≠ c))))) else f
def rbSt (A : Rows) (h c : Nat) (f : List Cost) (s : Nat) : Cost → List Cost
  | none => f
  | some x => (rowS A s).foldl (rbMv h c x) f
def rbAll (A : Rows) (row : List Cost) (h c : Nat) : Nat → List Cost
  | 0 => List.replicate row.length none
  | j + 1 => rbSt A h c (rbAll A row h c j) j (row.getD j none)
def rowNx (A : Rows) (row : List Cost) (k : Ky) : List Cost := rbAll A row k.1 k.2 row.length
def firstR (n : Nat) : List Cost := some 0 :: List.replicate (n - 1) none
def rowAl (A : Rows) (w : List Ky) : List Cost := w.foldl (rowNx A) (firstR A.length)
def leastC (r : List Cost) : Cost := match r.filterMap id with
  | [] => none
  | n :: l => some (l.foldl min n)
theorem rbMv_len (h c x : Nat) (f : List Cost) (m : Mv) : (rbMv h c x f m).length = f.length := by
  unfold rbMv
  split <;> simp
theorem rbFold_len (h c x : Nat) (ms : List Mv) : ∀ f : List Cost, (ms.foldl (rbMv h c x) f).length = f.length := by
  induction ms with
  | nil => intro f; rfl
  | cons m ms ih => intro f; rw [List.foldl_cons, ih, rbMv_len]
theorem rbSt_len (A : Rows) (h c : Nat) (f : List Cost) (s : Nat) (o : Cost) : (rbSt A h c f s o).length = f.length := by
  cases o with
  | none => rfl
  | some x => exact rbFold_len h c x _ f
theorem rbAll_len (A : Rows) (row : List Cost) (h c : Nat) : ∀ j, (rbAll A row h c j).length = row.length
  | 0 => by simp [rbAll]
  | j + 1 => by rw [rbAll, rbSt_len, rbAll_len A row h c j]
theorem rowNx_len (A : Rows) (row : List Cost) (k : Ky) : (rowNx A row k).length = row.length := rbAll_len A row _ _ _
theorem firstR_len {n : Nat} (h : 1 ≤ n) : (firstR n).length = n := by simp [firstR]; omega
theorem rowAl_snoc (A : Rows) (w : List Ky) (k : Ky) : rowAl A (w ++ [k]) = rowNx A (rowAl A w) k := by simp [rowAl]
theorem rowAl_len {A : Rows} (h : 1 ≤ A.length) (w : List Ky) : (rowAl A w).length = A.length := by
  induction w using snoc_ind with
  | nil => exact firstR_len h
  | snoc w k ih => rw [rowAl_snoc, rowNx_len, ih]
/-- the rows along a pair -/
def rowsW (A : Rows) (w : List Ky) : List (List Cost) := (List.range (w.length + 1)).map fun i => rowAl A (w.take i)
theorem rowsW_at {A : Rows} {w : List Ky} {i : Nat} (h : i ≤ w.length) : (rowsW A w)[i]? = some (rowAl A (w.take i)) := by
  unfold rowsW
  rw [List.getElem?_map, List.getElem?_range (by omega)]
  rfl
theorem rowsW_len (A : Rows) (w : List Ky) : (rowsW A w).length = w.length + 1 := by simp [rowsW]
theorem rowsW_take {A : Rows} {w : List Ky} {i : Nat} {k : Ky} (h : w[i]? = some k) : rowsW A (w.take (i + 1)) = rowsW A (w.take i) ++ [rowAl A (w.take (i + 1))] := by
  have il := (List.getElem?_eq_some_iff.mp h).1
  unfold rowsW
  rw [List.length_take, List.length_take, Nat.min_eq_left (by omega), Nat.min_eq_left (by omega), List.range_succ, List.map_append, List.map_singleton]
  congr 1
  · refine List.map_congr_left fun j hj => ?_
    have := List.mem_range.mp hj
    rw [List.take_take, List.take_take, Nat.min_eq_left (by omega), Nat.min_eq_left (by omega)]
  · rw [List.take_take, Nat.min_self]
theorem take_step {α : Type} {l : List α} {i : Nat} {k : α} (h : l[i]? = some k) : l.take (i + 1) = l.take i ++ [k] := by rw [List.take_add_one, h]; rfl
theorem leastC_ints (r : List Cost) : intsD ((r.filter Option.isSome).map natO) = some ((r.filterMap id).map fun n : Nat => (n : Int)) := by
  have e : (r.filter Option.isSome).map natO = ((r.filterMap id).map fun n : Nat => (n : Int)).map D.int := by
    induction r with
    | nil => rfl
    | cons o r ih =>
      cases o with
      | none => simpa using ih
      | some n => simp [natO] at ih ⊢; exact ih
  rw [e, intsD_map]
theorem foldl_min_nat (l : List Nat) : ∀ n : Nat, (l.map fun n : Nat => (n : Int)).foldl min (n : Int) = ((l.foldl min n : Nat) : Int) := by
  induction l with
  | nil => intro n; rfl
  | cons m l ih =>
    intro n
    rw [List.map_cons, List.foldl_cons, List.foldl_cons, show min (n : Int) (m : Int) = ((min n m : Nat) : Int) by omega]
    exact ih _
theorem ixN_nat2 {n k : Nat} (h : k < n) : ixN n (k : Int) = some k := by
  unfold ixN
  rw [if_pos (by omega), if_pos (by omega), Int.toNat_natCast]
theorem rowDs_len (r : List Cost) : (rowDs r).length = r.length := by simp [rowDs]
theorem rowDs_set (r : List Cost) (i : Nat) (o : Cost) : (rowDs r).set i (natO o) = rowDs (r.set i o) := by simp [rowDs, List.map_set]
theorem rowDs_at {r : List Cost} {i : Nat} (h : i < r.length) : D.item (.lst (rowDs r)) (.int (i : Int)) = some (natO (r.getD i none)) := atI_nat (by
  unfold rowDs
  rw [List.getElem?_map, List.getD_eq_getElem?_getD, List.getElem?_eq_getElem h]
  rfl)
theorem rowDs_atT {r : List Cost} {i : Nat} (h : i < r.length) : D.item (.tup (rowDs r)) (.int (i : Int)) = some (natO (r.getD i none)) := atI_nat (by
  unfold rowDs
  rw [List.getElem?_map, List.getD_eq_getElem?_getD, List.getElem?_eq_getElem h]
  rfl)
theorem item_last {l : List D} {n : Nat} {d : D} (h : l.length = n + 1) (e : l[n]? = some d) : D.item (.lst l) (.int (-1)) = some d := by
  rcases List.eq_nil_or_concat l with rfl | ⟨l', x, rfl⟩
  · simp at h
  · rw [List.concat_eq_append] at *
    have hn : n = l'.length := by simpa using h.symm
    subst hn
    rw [List.getElem?_append_right (Nat.le_refl _), Nat.sub_self] at e
    cases e
    exact atI_last _ _
theorem item_neg {l : List D} {m : Nat} (h : m < l.length) : D.item (.tup l) (.int (-1 - (m : Int))) = l[l.length - 1 - m]? := by
  rw [item_tup]
  unfold atI ixN
  rw [if_neg (by omega), if_pos (by omega)]
  have e : (-1 - (m : Int) + (l.length : Int)).toNat = l.length - 1 - m := by omega
  rw [e]
  rfl
theorem natO_eqv (a b : Cost) : D.eqv (natO a) (natO b) = decide (a = b) := by
  have si : ∀ o : Cost, (natO o).si = true := fun o => by cases o <;> rfl
  rw [Bool.eq_iff_iff, eqv_si (si a) (si b), decide_eq_true_eq]
  constructor
  · cases a <;> cases b <;> intro e
    · rfl
    · cases e
    · cases e
    · rename_i x y
      have : (x : Int) = (y : Int) := D.int.inj e
      congr 1
      omega
  · intro e; rw [e]
theorem natO_okE (a b : Cost) : okE (natO a) (natO b) = true := by
  have si : ∀ o : Cost, (natO o).si = true := fun o => by cases o <;> rfl
  exact okE_si (si a) (si b) (by cases a <;> exact Nat.zero_le _)
theorem sgn_eqv (a b : Nat) : D.eqv (.str (sgn a)) (.str (sgn b)) = decide (a = b) := by
  rw [Bool.eq_iff_iff, eqv_si rfl rfl, decide_eq_true_eq]
  exact ⟨fun e => sgn_inj (D.str.inj e), fun e => by rw [e]⟩
theorem sgn_okE (a b : Nat) : okE (.str (sgn a)) (.str (sgn b)) = true := okE_si rfl rfl (Nat.zero_le _)
theorem dseqP {t u : DTS} {D' : DEnds} {S : DS} {G : GH} (P : DS → GH → Prop) (h2 : ∀ S' G', P S' G' → u D' S' G') (h1 : ∀ X : DS → GH → Prop, (∀ S' G', P S' G' → X S' G') → t { D' with nx := X } S G) : dSeq t u D' S G := h1 _ h2
end Pace
end
section
set_option Elab.async false
set_option linter.all false
set_option maxRecDepth 100000
set_option maxHeartbeats 4000000
namespace Pace
open PySem PySem.Spec PyProof.Rows L2 DL
def IsMin (o : Cost) (S : Nat → Prop) : Prop := match o with
  | none => ∀ n, ¬ S n
  | some m => S m ∧ ∀ n, S n → m ≤ n
theorem IsMin.uniq {a b : Cost} {S : Nat → Prop} (h : IsMin a S) (g : IsMin b S) : a = b := by
  cases a with
  | none => cases b with
    | none => rfl
    | some m => exact absurd g.1 (h m)
  | some m => cases b with
    | none => exact absurd h.1 (g m)
    | some n => rw [show m = n from Nat.le_antisymm (h.2 n g.1) (g.2 m h.1)]
theorem IsMin.congr {a : Cost} {S T : Nat → Prop} (h : IsMin a S) (e : ∀ n, S n ↔ T n) : IsMin a T := by
  have : S = T := funext fun n => propext (e n)
  rw [← this]; exact h
theorem IsMin.wide {a : Cost} {S T : Nat → Prop} (h : IsMin a S) (e : ∀ n, S n → T n) (f : ∀ n, T n → ∃ m, m ≤ n ∧ S m) : IsMin a T := by
  cases a with
  | none => exact fun n z => by obtain ⟨m, _, hm⟩ := f n z; exact h m hm
  | some x => exact ⟨e _ h.1, fun n z => by obtain ⟨m, l, hm⟩ := f n z; exact Nat.le_trans (h.2 m hm) l⟩
theorem IsMin.less {a b : Cost} {S T : Nat → Prop} (h : IsMin a S) (g : IsMin b T) : IsMin (lessO a b) fun n => S n ∨ T n := by
  cases a with
  | none => exact g.congr fun n => ⟨.inr, fun z => z.resolve_left (h n)⟩
  | some m => cases b with
    | none => exact h.congr fun n => ⟨.inl, fun z => z.resolve_right (g n)⟩
    | some k =>
      refine ⟨?_, fun n z => ?_⟩
      · show S (min m k) ∨ T (min m k)
        rcases Nat.le_total m k with l | l
        · rw [Nat.min_eq_left l]; exact .inl h.1
        · rw [Nat.min_eq_right l]; exact .inr g.1
      · show min m k ≤ n
        rcases z with z | z
        · exact Nat.le_trans (Nat.min_le_left _ _) (h.2 n z)
        · exact Nat.le_trans (Nat.min_le_right _ _) (g.2 n z)
theorem isMin_none {S : Nat → Prop} (h : ∀ n, ¬ S n) : IsMin none S := h
theorem isMin_one (x : Nat) : IsMin (some x) fun n => n = x := ⟨rfl, fun n e => Nat.le_of_eq e.symm⟩
theorem leastC_min (r : List Cost) : IsMin (leastC r) fun n => some n ∈ r := by
  unfold leastC
  have hm : ∀ n, some n ∈ r ↔ n ∈ r.filterMap id := fun n => by simp
  generalize r.filterMap id = l at hm
  cases l with
  | nil => exact fun n z => by have := (hm n).mp z; cases this
  | cons x l =>
    have key : ∀ (l : List Nat) (x : Nat), (l.foldl min x = x ∨ l.foldl min x ∈ l) ∧ l.foldl min x ≤ x ∧ ∀ y ∈ l, l.foldl min x ≤ y := by
      intro l
      induction l with
      | nil => intro x; exact ⟨.inl rfl, Nat.le_refl _, by simp⟩
      | cons y l ih =>
        intro x
        obtain ⟨h1, h2, h3⟩ := ih (min x y)
        rw [List.foldl_cons]
        refine ⟨?_, Nat.le_trans h2 (Nat.min_le_left _ _), fun z hz => ?_⟩
        · rcases h1 with h1 | h1
          · rcases Nat.le_total x y with l' | l'
            · left; rw [h1, Nat.min_eq_left l']
            · right; rw [h1, Nat.min_eq_right l']; simp
          · right; simp [h1]
        · rcases List.mem_cons.mp hz with rfl | hz
          · exact Nat.le_trans h2 (Nat.min_le_right _ _)
          · exact h3 z hz
    obtain ⟨h1, h2, h3⟩ := key l x
    refine ⟨(hm _).mpr ?_, fun n z => ?_⟩
    · rcases h1 with h1 | h1
      · rw [h1]; simp
      · simp [h1]
    · rcases List.mem_cons.mp ((hm n).mp z) with rfl | z
      · exact h2
      · exact h3 n z
theorem rbMv_at {h c x : Nat} {f : List Cost} {m : Mv} {t : Nat} (ht : t < f.length) {S : Nat → Prop} (hf : IsMin (f.getD t none) S) :
    IsMin ((rbMv h c x f m).getD t none) fun n => S n ∨ (m.h = h ∧ m.t = t ∧ n = x + b2n (decide (m.c ≠ c))) := by
  unfold rbMv
  by_cases e : m.h = h
  · rw [if_pos e]
    by_cases et : m.t = t
    · subst et
      have : (f.set m.t (lessO (f.getD m.t none) (some (x + b2n (decide (m.c ≠ c)))))).getD m.t none = lessO (f.getD m.t none) (some (x + b2n (decide (m.c ≠ c)))) := by
        rw [List.getD_eq_getElem?_getD, List.getElem?_set_self ht]
        rfl
      rw [this]
      exact (hf.less (isMin_one _)).congr fun n => by simp [e]
    · have : (f.set m.t (lessO (f.getD m.t none) (some (x + b2n (decide (m.c ≠ c)))))).getD t none = f.getD t none := by
        rw [List.getD_eq_getElem?_getD, List.getElem?_set_ne et, ← List.getD_eq_getElem?_getD]
      rw [this]
      exact hf.congr fun n => by simp [et]
  · rw [if_neg e]
    exact hf.congr fun n => by simp [e]
theorem rbFold_at {h c x : Nat} {t : Nat} : ∀ (ms : List Mv) (f : List Cost) (S : Nat → Prop), t < f.length → IsMin (f.getD t none) S →
    IsMin ((ms.foldl (rbMv h c x) f).getD t none) fun n => S n ∨ ∃ m ∈ ms, m.h = h ∧ m.t = t ∧ n = x + b2n (decide (m.c ≠ c))
  | [], f, S, _, hf => hf.congr fun n => by simp
  | m :: ms, f, S, ht, hf => by
    rw [List.foldl_cons]
    refine (rbFold_at ms _ _ (by rw [rbMv_len]; exact ht) (rbMv_at ht hf)).congr fun n => ?_
    constructor
    · rintro ((z | z) | ⟨m', hm, z⟩)
      · exact .inl z
      · exact .inr ⟨m, by simp, z⟩
      · exact .inr ⟨m', by simp [hm], z⟩
    · rintro (z | ⟨m', hm, z⟩)
      · exact .inl (.inl z)
      · rcases List.mem_cons.mp hm with rfl | hm
        · exact .inl (.inr z)
        · exact .inr ⟨m', hm, z⟩
/-- what a step may cost -/
def StepC (A : Rows) (row : List Cost) (k : Ky) (t n : Nat) : Prop := ∃ s x m, row.getD s none = some x ∧ s < row.length ∧ m ∈ rowS A s ∧ m.h = k.1 ∧ m.t = t ∧ n = x + b2n (decide (m.c ≠ k.2))
theorem rbAll_at {A : Rows} {row : List Cost} {h c t : Nat} (ht : t < row.length) : ∀ j, j ≤ row.length →
    IsMin ((rbAll A row h c j).getD t none) fun n => ∃ s x m, s < j ∧ row.getD s none = some x ∧ m ∈ rowS A s ∧ m.h = h ∧ m.t = t ∧ n = x + b2n (decide (m.c ≠ c))
  | 0, _ => by
    have : (rbAll A row h c 0).getD t none = none := by
      unfold rbAll
      rw [List.getD_eq_getElem?_getD, List.getElem?_replicate]
      split <;> rfl
    rw [this]
    rintro n ⟨s, x, m, z, _⟩
    omega
  | j + 1, hj => by
    have ih := rbAll_at (A := A) (h := h) (c := c) ht j (by omega)
    rw [rbAll]
    cases e : row.getD j none with
    | none =>
      refine ih.congr fun n => ⟨fun ⟨s, x, m, z1, z⟩ => ⟨s, x, m, by omega, z⟩, fun ⟨s, x, m, z1, z2, z⟩ => ?_⟩
      have : s ≠ j := fun q => by rw [q, e] at z2; cases z2
      exact ⟨s, x, m, by omega, z2, z⟩
    | some x =>
      refine (rbFold_at (rowS A j) _ _ (by rw [rbAll_len]; exact ht) ih).congr fun n => ?_
      constructor
      · rintro (⟨s, y, m, z1, z⟩ | ⟨m, hm, z⟩)
        · exact ⟨s, y, m, by omega, z⟩
        · exact ⟨j, x, m, by omega, e, hm, z⟩
      · rintro ⟨s, y, m, z1, z2, z3, z⟩
        by_cases q : s = j
        · subst q
          rw [e] at z2
          cases z2
          exact .inr ⟨m, z3, z⟩
        · exact .inl ⟨s, y, m, by omega, z2, z3, z⟩
theorem rowNx_min {A : Rows} {row : List Cost} {k : Ky} {t : Nat} (ht : t < row.length) : IsMin ((rowNx A row k).getD t none) (StepC A row k t) :=
  (rbAll_at ht row.length (Nat.le_refl _)).congr fun n => ⟨fun ⟨s, x, m, h1, h2, h⟩ => ⟨s, x, m, h2, h1, h⟩, fun ⟨s, x, m, h2, h1, h⟩ => ⟨s, x, m, h1, h2, h⟩⟩
def distN : List Nat → List Nat → Nat
  | a :: p, b :: q => b2n (decide (a ≠ b)) + distN p q
  | _, _ => 0
theorem dist_snoc : ∀ {p q : List Nat} {a b : Nat}, p.length = q.length → distN (p ++ [a]) (q ++ [b]) = distN p q + b2n (decide (a ≠ b))
  | [], [], a, b, _ => by simp [distN]
  | [], _ :: _, _, _, h => by simp at h
  | _ :: _, [], _, _, h => by simp at h
  | x :: p, y :: q, a, b, h => by
    rw [List.cons_append, List.cons_append, distN, dist_snoc (by simpa using h), distN]
    omega
/-- what it costs to put a right caption of the letters in the place of what is shown, to a state -/
def WayC (A : Rows) (w : List Ky) (t n : Nat) : Prop := ∃ q : List Nat, q.length = w.length ∧ ledN A 0 ((w.map (·.1)).zip q) = some t ∧ distN q (w.map (·.2)) = n
theorem way_snoc {A : Rows} (st : Steps A) {w : List Ky} {k : Ky} {t n : Nat} : WayC A (w ++ [k]) t n ↔ ∃ s x m, WayC A w s x ∧ s < A.length ∧ m ∈ rowS A s ∧ m.h = k.1 ∧ m.t = t ∧ n = x + b2n (decide (m.c ≠ k.2)) := by
  constructor
  · rintro ⟨q, hl, hled, hd⟩
    rw [List.length_append, List.length_singleton] at hl
    obtain ⟨q', c, rfl⟩ : ∃ q' c, q = q' ++ [c] := by
      have : q ≠ [] := fun z => by rw [z] at hl; simp at hl
      exact ⟨q.dropLast, q.getLast this, (List.dropLast_concat_getLast this).symm⟩
    rw [List.length_append, List.length_singleton] at hl
    have hl' : q'.length = w.length := by omega
    rw [List.map_append, List.map_singleton, List.zip_append (by rw [List.length_map, hl']), List.zip_cons_cons, List.zip_nil_right, ledN_snoc] at hled
    obtain ⟨s, hs, h1⟩ := Option.bind_eq_some_iff.mp hled
    have hm := (step1_iff st).mp h1
    rw [List.map_append, List.map_singleton, dist_snoc (by rw [List.length_map, hl'])] at hd
    exact ⟨s, _, _, ⟨q', hl', hs, rfl⟩, ledN_lt st.cl.2 st.cl.1 _ hs, hm, rfl, rfl, hd.symm⟩
  · rintro ⟨s, x, m, ⟨q', hl, hled, hd⟩, hs, hm, hh, ht, rfl⟩
    refine ⟨q' ++ [m.c], by simp [hl], ?_, ?_⟩
    · rw [List.map_append, List.map_singleton, List.zip_append (by rw [List.length_map, hl]), List.zip_cons_cons, List.zip_nil_right, ledN_snoc, hled]
      exact (step1_iff st).mpr (by rw [← hh, ← ht]; exact hm)
    · rw [List.map_append, List.map_singleton, dist_snoc (by rw [List.length_map, hl]), hd]
theorem rowAl_min {A : Rows} (st : Steps A) (w : List Ky) : ∀ t, t < A.length → IsMin ((rowAl A w).getD t none) (WayC A w t) := by
  induction w using snoc_ind with
  | nil =>
    intro t ht
    have : (rowAl A []).getD t none = if t = 0 then some 0 else none := by
      show (firstR A.length).getD t none = _
      unfold firstR
      cases t with
      | zero => rfl
      | succ t =>
        rw [List.getD_cons_succ, List.getD_eq_getElem?_getD, List.getElem?_replicate]
        simp only [Nat.add_eq_zero_iff, Nat.succ_ne_self, and_false, if_false]
        split <;> rfl
    rw [this]
    by_cases e : t = 0
    · subst e
      rw [if_pos rfl]
      refine ⟨⟨[], rfl, rfl, rfl⟩, fun n _ => Nat.zero_le _⟩
    · rw [if_neg e]
      rintro n ⟨q, hl, hled, _⟩
      have : q = [] := List.length_eq_zero_iff.mp hl
      subst this
      cases hled
      exact e rfl
  | snoc w k ih =>
    intro t ht
    have rl := rowAl_len st.cl.1 w
    rw [rowAl_snoc]
    refine (rowNx_min (by rw [rl]; exact ht)).wide (fun n => ?_) fun n => ?_
    · rw [way_snoc st]
      rintro ⟨s, x, m, hx, hs, hm, hh, hmt, rfl⟩
      rw [rl] at hs
      have := ih s hs
      rw [hx] at this
      exact ⟨s, x, m, this.1, hs, hm, hh, hmt, rfl⟩
    · rw [way_snoc st]
      rintro ⟨s, x, m, hx, hs, hm, hh, hmt, rfl⟩
      have := ih s hs
      cases e : (rowAl A w).getD s none with
      | none => rw [e] at this; exact absurd hx (this x)
      | some y =>
        rw [e] at this
        exact ⟨y + b2n (decide (m.c ≠ k.2)), Nat.add_le_add_right (this.2 x hx) _, s, y, m, e, by rw [rl]; exact hs, hm, hh, hmt, rfl⟩
/-- a right caption's distance -/
def RightC (A : Rows) (w : List Ky) (s n : Nat) : Prop := ∃ q : List Nat, q.length = w.length ∧ (ledN A s ((w.map (·.1)).zip q)).isSome = true ∧ distN q (w.map (·.2)) = n
theorem need_min {A : Rows} (st : Steps A) (w : List Ky) : IsMin (leastC (rowAl A w)) (RightC A w 0) := by
  have rl := rowAl_len st.cl.1 w
  refine (leastC_min (rowAl A w)).wide (fun n h => ?_) fun n h => ?_
  · obtain ⟨t, ht⟩ := List.mem_iff_getElem?.mp h
    have tl : t < A.length := by have := (List.getElem?_eq_some_iff.mp ht).1; omega
    have m := rowAl_min st w t tl
    rw [show (rowAl A w).getD t none = some n by rw [List.getD_eq_getElem?_getD, ht]; rfl] at m
    obtain ⟨q, h1, h2, h3⟩ := m.1
    exact ⟨q, h1, by rw [h2]; rfl, h3⟩
  · obtain ⟨q, h1, h2, h3⟩ := h
    obtain ⟨t, ht⟩ := Option.isSome_iff_exists.mp h2
    have tl := ledN_lt st.cl.2 st.cl.1 _ ht
    have m := rowAl_min st w t tl
    cases e : (rowAl A w).getD t none with
    | none => rw [e] at m; exact absurd ⟨q, h1, ht, h3⟩ (m n)
    | some y =>
      rw [e] at m
      refine ⟨y, m.2 n ⟨q, h1, ht, h3⟩, ?_⟩
      rw [← e, List.getD_eq_getElem?_getD, List.getElem?_eq_getElem (by omega)]
      exact List.getElem_mem _
def restM (rest : List Cost) (k : Ky) (ms : List Mv) : Cost := ms.foldl (fun least m => if m.h = k.1 then (match rest.getD m.t none with
  | some x => lessO least (some (x + b2n (decide (m.c ≠ k.2))))
  | none => least) else least) none
def restNx (A : Rows) (rest : List Cost) (k : Ky) : List Cost := A.map (restM rest k)
def restAl (A : Rows) : List Ky → List Cost
  | [] => List.replicate A.length (some 0)
  | k :: w => restNx A (restAl A w) k
theorem restAl_len (A : Rows) : ∀ w, (restAl A w).length = A.length
  | [] => by simp [restAl]
  | k :: w => by simp [restAl, restNx]
theorem restNx_at {A : Rows} {rest : List Cost} {k : Ky} {s : Nat} (hs : s < A.length) : (restNx A rest k).getD s none = restM rest k (rowS A s) := by
  unfold restNx rowS
  rw [List.getD_eq_getElem?_getD, List.getD_eq_getElem?_getD, List.getElem?_map, List.getElem?_eq_getElem hs]
  rfl
theorem restM_min (rest : List Cost) (k : Ky) (ms : List Mv) : IsMin (restM rest k ms) fun n => ∃ x m, m ∈ ms ∧ m.h = k.1 ∧ rest.getD m.t none = some x ∧ n = x + b2n (decide (m.c ≠ k.2)) := by
  have key : ∀ (ms : List Mv) (o : Cost) (S : Nat → Prop), IsMin o S → IsMin (ms.foldl (fun least m => if m.h = k.1 then (match rest.getD m.t none with
      | some x => lessO least (some (x + b2n (decide (m.c ≠ k.2))))
      | none => least) else least) o) fun n => S n ∨ ∃ x m, m ∈ ms ∧ m.h = k.1 ∧ rest.getD m.t none = some x ∧ n = x + b2n (decide (m.c ≠ k.2)) := by
    intro ms
    induction ms with
    | nil => intro o S h; exact h.congr fun n => by simp
    | cons m ms ih =>
      intro o S h
      rw [List.foldl_cons]
      have step : IsMin (if m.h = k.1 then (match rest.getD m.t none with
          | some x => lessO o (some (x + b2n (decide (m.c ≠ k.2))))
          | none => o) else o) fun n => S n ∨ ∃ x, m.h = k.1 ∧ rest.getD m.t none = some x ∧ n = x + b2n (decide (m.c ≠ k.2)) := by
        by_cases e : m.h = k.1
        · rw [if_pos e]
          cases er : rest.getD m.t none with
          | none => exact h.congr fun n => by simp
          | some x => exact (h.less (isMin_one _)).congr fun n => by simp [e]
        · rw [if_neg e]
          exact h.congr fun n => by simp [e]
      refine (ih _ _ step).congr fun n => ?_
      constructor
      · rintro ((z | ⟨x, z⟩) | ⟨x, m', hm, z⟩)
        · exact .inl z
        · exact .inr ⟨x, m, by simp, z⟩
        · exact .inr ⟨x, m', by simp [hm], z⟩
      · rintro (z | ⟨x, m', hm, z⟩)
        · exact .inl (.inl z)
        · rcases List.mem_cons.mp hm with rfl | hm
          · exact .inl (.inr ⟨x, z⟩)
          · exact .inr ⟨x, m', hm, z⟩
  exact (key ms none (fun _ => False) (isMin_none fun _ z => z)).congr fun n => by simp
theorem restM_snoc (rest : List Cost) (k : Ky) (ms : List Mv) (m : Mv) : restM rest k (ms ++ [m]) = if m.h = k.1 then (match rest.getD m.t none with
  | some x => lessO (restM rest k ms) (some (x + b2n (decide (m.c ≠ k.2))))
  | none => restM rest k ms) else restM rest k ms := by
  unfold restM
  rw [List.foldl_append]
  rfl
theorem right_cons {A : Rows} (st : Steps A) {w : List Ky} {k : Ky} {s n : Nat} : RightC A (k :: w) s n ↔ ∃ x m, m ∈ rowS A s ∧ m.h = k.1 ∧ RightC A w m.t x ∧ n = x + b2n (decide (m.c ≠ k.2)) := by
  constructor
  · rintro ⟨q, hl, hled, hd⟩
    cases q with
    | nil => simp at hl
    | cons c q =>
      rw [List.map_cons, List.zip_cons_cons, ledN_step] at hled
      obtain ⟨t, ht⟩ := Option.isSome_iff_exists.mp hled
      obtain ⟨u, hu, h2⟩ := Option.bind_eq_some_iff.mp ht
      have hm := (step1_iff st).mp hu
      rw [List.map_cons, distN] at hd
      exact ⟨_, _, hm, rfl, ⟨q, by simpa using hl, by rw [h2]; rfl, rfl⟩, by rw [← hd]; exact Nat.add_comm _ _⟩
  · rintro ⟨x, m, hm, hh, ⟨q, hl, hled, hd⟩, rfl⟩
    refine ⟨m.c :: q, by simp [hl], ?_, ?_⟩
    · rw [List.map_cons, List.zip_cons_cons, ledN_step]
      have : step1 A s k.1 m.c = some m.t := (step1_iff st).mpr (by rw [← hh]; exact hm)
      rw [this]
      exact hled
    · rw [List.map_cons, distN, hd]
      omega
theorem restAl_min {A : Rows} (st : Steps A) : ∀ (w : List Ky) (s : Nat), s < A.length → IsMin ((restAl A w).getD s none) (RightC A w s)
  | [], s, hs => by
    have : (restAl A []).getD s none = some 0 := by
      unfold restAl
      rw [List.getD_eq_getElem?_getD, List.getElem?_replicate, if_pos hs]
      rfl
    rw [this]
    exact ⟨⟨[], rfl, rfl, rfl⟩, fun n _ => Nat.zero_le _⟩
  | k :: w, s, hs => by
    rw [show restAl A (k :: w) = restNx A (restAl A w) k from rfl, restNx_at hs]
    have tl : ∀ m ∈ rowS A s, m.t < A.length := fun m hm => st.cl.t hm
    refine (restM_min _ _ _).wide (fun n => ?_) fun n => ?_
    · rw [right_cons st]
      rintro ⟨x, m, hm, hh, hx, rfl⟩
      have := restAl_min st w m.t (tl m hm)
      rw [hx] at this
      exact ⟨x, m, hm, hh, this.1, rfl⟩
    · rw [right_cons st]
      rintro ⟨x, m, hm, hh, hx, rfl⟩
      have := restAl_min st w m.t (tl m hm)
      cases e : (restAl A w).getD m.t none with
      | none => rw [e] at this; exact absurd hx (this x)
      | some y =>
        rw [e] at this
        exact ⟨y + b2n (decide (m.c ≠ k.2)), Nat.add_le_add_right (this.2 x hx) _, y, m, hm, hh, e, rfl⟩
theorem need_rest {A : Rows} (st : Steps A) (w : List Ky) : leastC (rowAl A w) = (restAl A w).getD 0 none := (need_min st w).uniq (restAl_min st w 0 st.cl.1)
/-- the rests from all places on -/
def restsW (A : Rows) (w : List Ky) : List (List Cost) := (List.range (w.length + 1)).map fun i => restAl A (w.drop i)
theorem restsW_at {A : Rows} {w : List Ky} {i : Nat} (h : i ≤ w.length) : (restsW A w)[i]? = some (restAl A (w.drop i)) := by
  unfold restsW
  rw [List.getElem?_map, List.getElem?_range (by omega)]
  rfl
theorem zip_rev : ∀ {p q : List Nat}, p.length = q.length → p.reverse.zip q.reverse = (p.zip q).reverse
  | [], [], _ => rfl
  | [], _ :: _, h => by simp at h
  | _ :: _, [], h => by simp at h
  | a :: p, b :: q, h => by
    have h' : p.length = q.length := by simpa using h
    rw [List.reverse_cons, List.reverse_cons, List.zip_append (by simpa using h'), zip_rev h']
    simp
theorem restsW_len (A : Rows) (w : List Ky) : (restsW A w).length = w.length + 1 := by simp [restsW]
theorem drop_revK {w : List Ky} {i : Nat} {c : Ky} (h : w.reverse[i]? = some c) : w.drop (w.length - (i + 1)) = c :: w.drop (w.length - i) := by
  have hi := (List.getElem?_eq_some_iff.mp h).1
  rw [List.length_reverse] at hi
  rw [List.getElem?_reverse hi] at h
  have e : w.length - 1 - i = w.length - (i + 1) := by omega
  rw [e] at h
  have hl := (List.getElem?_eq_some_iff.mp h).1
  rw [List.drop_eq_getElem_cons hl, (List.getElem?_eq_some_iff.mp h).2]
  congr 2
  omega
def backW (A : Rows) (w : List Ky) (j : Nat) : List (List Cost) := (List.range (j + 1)).map fun i => restAl A (w.drop (w.length - i))
theorem backW_len (A : Rows) (w : List Ky) (j : Nat) : (backW A w j).length = j + 1 := by simp [backW]
theorem backW_succ {A : Rows} {w : List Ky} {j : Nat} {k : Ky} (h : w.reverse[j]? = some k) : backW A w (j + 1) = backW A w j ++ [restNx A (restAl A (w.drop (w.length - j))) k] := by
  unfold backW
  rw [List.range_succ, List.map_append, List.map_singleton, drop_revK h]
  rfl
theorem backW_last (A : Rows) (w : List Ky) (j : Nat) : (backW A w j)[j]? = some (restAl A (w.drop (w.length - j))) := by
  unfold backW
  rw [List.getElem?_map, List.getElem?_range (by omega)]
  rfl
theorem backW_rev (A : Rows) (w : List Ky) : (backW A w w.length).reverse = restsW A w := by
  refine List.ext_getElem? fun i => ?_
  by_cases h : i < w.length + 1
  · rw [List.getElem?_reverse (by rw [backW_len]; exact h), backW_len, restsW_at (by omega)]
    unfold backW
    rw [List.getElem?_map, List.getElem?_range (by omega)]
    show some (restAl A (w.drop (w.length - (w.length + 1 - 1 - i)))) = _
    congr 3
    omega
  · rw [List.getElem?_eq_none (by rw [List.length_reverse, backW_len]; omega), List.getElem?_eq_none (by rw [restsW_len]; omega)]
def fitM (A : Rows) (w : List Ky) (k : Ky) (s : Nat) (m : Mv) : Bool := decide (m.h = k.1) && (match (restAl A w).getD m.t none with
  | some x => decide (some (x + b2n (decide (m.c ≠ k.2))) = (restAl A (k :: w)).getD s none)
  | none => false)
def mendW (A : Rows) : List Ky → Nat → List Nat
  | [], _ => []
  | k :: w, s => match (rowS A s).find? (fitM A w k s) with
    | some m => m.c :: mendW A w m.t
    | none => mendW A w s
theorem fit_some {A : Rows} (st : Steps A) {w : List Ky} {k : Ky} {s : Nat} (hs : s < A.length) {n : Nat} (h : (restAl A (k :: w)).getD s none = some n) :
    ∃ m x, (rowS A s).find? (fitM A w k s) = some m ∧ m ∈ rowS A s ∧ m.h = k.1 ∧ (restAl A w).getD m.t none = some x ∧ n = x + b2n (decide (m.c ≠ k.2)) := by
  have mn := restM_min (restAl A w) k (rowS A s)
  have e : restM (restAl A w) k (rowS A s) = some n := by rw [← restNx_at hs]; exact h
  rw [e] at mn
  obtain ⟨x, m, hm, hh, hx, hn⟩ := mn.1
  have fm : fitM A w k s m = true := by
    unfold fitM
    rw [hx, h]
    simp [hh, hn]
  obtain ⟨m', hf⟩ := Option.isSome_iff_exists.mp (List.find?_isSome.mpr ⟨m, hm, fm⟩)
  have f' := List.find?_some hf
  unfold fitM at f'
  rw [Bool.and_eq_true, decide_eq_true_eq] at f'
  obtain ⟨h1, h2⟩ := f'
  cases ex : (restAl A w).getD m'.t none with
  | none => rw [ex] at h2; cases h2
  | some y =>
    rw [ex, decide_eq_true_eq, h] at h2
    exact ⟨m', y, hf, List.mem_of_find?_eq_some hf, h1, ex, (Option.some.inj h2).symm⟩
end Pace
end
section
set_option Elab.async false
set_option linter.all false
set_option maxRecDepth 100000
set_option maxHeartbeats 4000000
namespace DL
open PySem PySem.Spec PyProof.Rows L2
end DL
end
section
set_option Elab.async false
set_option linter.all false
set_option maxRecDepth 100000
set_option maxHeartbeats 4000000
namespace Pace
open PySem PySem.Spec PyProof.Rows L2 DL
structure KS where
  many : Nat
  st : Option Nat
  sets : List (List Nat)
  deriving DecidableEq
def ksOf (A : Rows) (inn : List Nat) (n : Nat) (ps : List Ky) : KS := ⟨min ps.length n, if ps.length < n then ledN A 0 ps else none, knSets A inn n ps⟩
/-- no window has been bad -/
def okW (A : Rows) (inn : List Nat) (n : Nat) (w : List Ky) : Prop := ∀ j, j ≤ w.length → bad A inn n w j = false
theorem bad_cut {A : Rows} {inn : List Nat} {n j : Nat} {w v : List Ky} (h : j ≤ w.length) : bad A inn n (w ++ v) j = bad A inn n w j := by
  unfold bad
  rw [List.take_append_of_le_length h]
theorem okW_snoc {A : Rows} {inn : List Nat} {n : Nat} {w : List Ky} {k : Ky} : okW A inn n (w ++ [k]) ↔ okW A inn n w ∧ bad A inn n (w ++ [k]) (w.length + 1) = false := by
  constructor
  · intro h
    exact ⟨fun j hj => by rw [← bad_cut (v := [k]) hj]; exact h j (by simp; omega), h _ (by simp)⟩
  · rintro ⟨h1, h2⟩ j hj
    simp only [List.length_append, List.length_cons, List.length_nil] at hj
    by_cases e : j ≤ w.length
    · rw [bad_cut e]; exact h1 j e
    · have : j = w.length + 1 := by omega
      rw [this]; exact h2
theorem okW_nil {A : Rows} {inn : List Nat} {n : Nat} : okW A inn n [] := fun j hj => by rw [Nat.le_zero.mp hj]; exact bad_zero
def nextK (A : Rows) (inn : List Nat) (n : Nat) (x : KS) (k : Ky) : Option KS :=
  if x.many < n then (x.st.bind fun s => step1 A s k.1 k.2).map fun t => ⟨x.many + 1, if x.many + 1 < n then some t else none, ((inn :: x.sets).map fun l => ledS A l k).take (n - 1)⟩
  else if (((inn :: x.sets).map fun l => ledS A l k)[(inn :: x.sets).length - 1]?).getD [] = [] then none else some ⟨x.many, none, ((inn :: x.sets).map fun l => ledS A l k).take (n - 1)⟩
theorem next_eq {A : Rows} (st : Steps A) {inn : List Nat} {n : Nat} (hn : 1 ≤ n) {w : List Ky} (k : Ky) (hw : okW A inn n w) : nextK A inn n (ksOf A inn n w) k = if bad A inn n (w ++ [k]) (w.length + 1) = true then none else some (ksOf A inn n (w ++ [k])) := by
  have epl : (w ++ [k]).take (w.length + 1) = w ++ [k] := List.take_of_length_le (by simp)
  have es : inn :: (ksOf A inn n w).sets = knLots A inn n w := knLots_eq A inn n w
  unfold nextK
  rw [es, knLots_next]
  have el : (w ++ [k]).length = w.length + 1 := by simp
  by_cases h : w.length < n
  · have em : (ksOf A inn n w).many = w.length := by show min _ _ = _; omega
    have e2 : (ksOf A inn n w).st = ledN A 0 w := by show (if _ then _ else _) = _; rw [if_pos h]
    have eb : bad A inn n (w ++ [k]) (w.length + 1) = (ledN A 0 (w ++ [k])).isNone := by rw [bad_pre (by omega), epl]
    rw [em, if_pos h, e2, eb, ledN_snoc]
    cases e : (ledN A 0 w).bind fun s => step1 A s k.1 k.2 with
    | none => rfl
    | some t =>
      rw [if_neg (by simp)]
      simp only [Option.map_some, Option.some.injEq]
      unfold ksOf
      rw [el, ledN_snoc, e]
      have : min (w.length + 1) n = w.length + 1 := by omega
      rw [this]
  · have em : (ksOf A inn n w).many = n := by show min _ _ = _; omega
    rw [em, if_neg (by omega), knLots_last hn w k (by omega)]
    have eb : bad A inn n (w ++ [k]) (w.length + 1) = decide (ledW A inn ((w ++ [k]).drop (w.length + 1 - n)) = []) := by
      unfold bad
      rw [if_neg (by omega), epl, Bool.eq_iff_iff, List.all_eq_true, decide_eq_true_eq, ledW_nil st]
      simp only [Option.isNone_iff_eq_none]
    rw [eb]
    simp only [Option.getD_some, decide_eq_true_eq]
    split
    · rfl
    · unfold ksOf
      rw [el]
      have : min (w.length + 1) n = n := by omega
      rw [this, if_neg (by omega)]
theorem next_some {A : Rows} (st : Steps A) {inn : List Nat} {n : Nat} (hn : 1 ≤ n) {w v : List Ky} (k : Ky) (hw : okW A inn n w) (hv : okW A inn n v) (e : ksOf A inn n w = ksOf A inn n v) : (okW A inn n (w ++ [k]) ↔ okW A inn n (v ++ [k])) ∧ (okW A inn n (w ++ [k]) → ksOf A inn n (w ++ [k]) = ksOf A inn n (v ++ [k])) := by
  have h1 := next_eq st hn k hw
  have h2 := next_eq st hn k hv
  rw [e, h2] at h1
  rw [okW_snoc, okW_snoc]
  generalize bad A inn n (w ++ [k]) (w.length + 1) = bw at h1 ⊢
  generalize bad A inn n (v ++ [k]) (v.length + 1) = bv at h1 ⊢
  cases bw with
  | true =>
    cases bv with
    | true => exact ⟨⟨fun z => (nomatch z.2), fun z => (nomatch z.2)⟩, fun z => nomatch z.2⟩
    | false => simp at h1
  | false =>
    cases bv with
    | true => simp at h1
    | false =>
      simp only [Bool.false_eq_true, if_false, Option.some.injEq] at h1
      exact ⟨⟨fun z => ⟨hv, rfl⟩, fun z => ⟨hw, rfl⟩⟩, fun _ => h1.symm⟩
def wordsN (K : List Ky) : Nat → List (List Ky)
  | 0 => [[]]
  | m + 1 => (wordsN K m).flatMap fun w => K.map fun k => k :: w
theorem wordsN_mem {K : List Ky} : ∀ {m : Nat} {w : List Ky}, w.length = m → (∀ k ∈ w, k ∈ K) → w ∈ wordsN K m
  | 0, w, h, _ => by
    have : w = [] := List.length_eq_zero_iff.mp h
    subst this
    simp [wordsN]
  | m + 1, [], h, _ => by simp at h
  | m + 1, k :: w, h, hk => by
    unfold wordsN
    refine List.mem_flatMap.mpr ⟨w, wordsN_mem (by simpa using h) fun x hx => hk x (by simp [hx]), List.mem_map.mpr ⟨k, hk k (by simp), rfl⟩⟩
theorem wordsN_len (K : List Ky) : ∀ m, (wordsN K m).length = K.length ^ m
  | 0 => rfl
  | m + 1 => by
    have ih := wordsN_len K m
    unfold wordsN
    rw [List.length_flatMap]
    simp only [List.length_map]
    have : ∀ l : List (List Ky), (l.map fun _ => K.length).sum = l.length * K.length := fun l => by
      induction l with
      | nil => simp
      | cons a l ih => rw [List.map_cons, List.sum_cons, ih, List.length_cons, Nat.add_mul]; omega
    rw [this, ih, Nat.pow_succ]
/-- what a state is told by -/
def canon (n : Nat) (w : List Ky) : Bool × List Ky := if w.length < n then (false, w) else (true, w.drop (w.length - (n - 1)))
theorem canon_ks {A : Rows} {inn : List Nat} {n : Nat} (hn : 1 ≤ n) {v w : List Ky} (h : canon n v = canon n w) : ksOf A inn n v = ksOf A inn n w := by
  unfold canon at h
  by_cases h1 : v.length < n
  · rw [if_pos h1] at h
    by_cases h2 : w.length < n
    · rw [if_pos h2] at h
      have : v = w := (Prod.mk.inj h).2
      rw [this]
    · rw [if_neg h2] at h
      exact absurd (Prod.mk.inj h).1 (by simp)
  · rw [if_neg h1] at h
    by_cases h2 : w.length < n
    · rw [if_pos h2] at h
      exact absurd (Prod.mk.inj h).1 (by simp)
    · rw [if_neg h2] at h
      have e := (Prod.mk.inj h).2
      unfold ksOf
      have m1 : min v.length n = n := by omega
      have m2 : min w.length n = n := by omega
      rw [m1, m2, if_neg h1, if_neg h2]
      congr 1
      unfold knSets
      have r1 : min v.length (n - 1) = n - 1 := by omega
      have r2 : min w.length (n - 1) = n - 1 := by omega
      rw [r1, r2]
      refine List.map_congr_left fun j hj => ?_
      have hj := List.mem_range.mp hj
      have dd : ∀ u : List Ky, ¬ u.length < n → u.drop (u.length - (j + 1)) = (u.drop (u.length - (n - 1))).drop (n - 1 - (j + 1)) := fun u hu => by
        rw [List.drop_drop]
        congr 1
        omega
      rw [dd v h1, dd w h2, e]
def many (m n : Nat) : Nat := ((List.range n).map fun k => m ^ k).sum + m ^ (n - 1)
theorem few_states {A : Rows} {inn : List Nat} {n : Nat} (hn : 1 ≤ n) {K : List Ky} {ws : List (List Ky)} (hk : ∀ w ∈ ws, ∀ k ∈ w, k ∈ K) (nd : (ws.map (ksOf A inn n)).Nodup) : ws.length ≤ many K.length n := by
  have nd2 : (ws.map (canon n)).Nodup := by
    rw [List.nodup_iff_pairwise_ne, List.pairwise_map] at nd ⊢
    exact nd.imp fun h e => h (canon_ks hn e)
  have sub := List.Nodup.length_le_of_subset nd2 (l₂ := (((List.range n).flatMap (wordsN K)).map fun w => (false, w)) ++ (wordsN K (n - 1)).map fun w => (true, w)) fun p hp => by
    obtain ⟨w, hw, rfl⟩ := List.mem_map.mp hp
    unfold canon
    by_cases h : w.length < n
    · rw [if_pos h]
      exact List.mem_append_left _ (List.mem_map.mpr ⟨w, List.mem_flatMap.mpr ⟨w.length, List.mem_range.mpr h, wordsN_mem rfl (hk w hw)⟩, rfl⟩)
    · rw [if_neg h]
      refine List.mem_append_right _ (List.mem_map.mpr ⟨_, wordsN_mem (by simp; omega) fun k hk' => hk w hw k (List.mem_of_mem_drop hk'), rfl⟩)
  rw [List.length_map, List.length_append, List.length_map, List.length_map, wordsN_len, List.length_flatMap] at sub
  unfold many
  have e : ((List.range n).map fun k => (wordsN K k).length) = (List.range n).map fun k => K.length ^ k := List.map_congr_left fun k _ => wordsN_len K k
  rw [e] at sub
  exact sub
end Pace
end
section
set_option Elab.async false
set_option linter.all false
set_option maxRecDepth 100000
set_option maxHeartbeats 4000000
namespace Pace
open PySem PySem.Spec PyProof.Rows L2 DL
def keysL (hs ws : List Nat) : List Ky := hs.flatMap fun h => ws.map fun c => (h, c)
theorem keysL_mem {hs ws : List Nat} {k : Ky} : k ∈ keysL hs ws ↔ k.1 ∈ hs ∧ k.2 ∈ ws := by
  unfold keysL
  rw [List.mem_flatMap]
  constructor
  · rintro ⟨h, hh, hk⟩
    obtain ⟨c, hc, rfl⟩ := List.mem_map.mp hk
    exact ⟨hh, hc⟩
  · rintro ⟨h1, h2⟩
    exact ⟨k.1, h1, List.mem_map.mpr ⟨k.2, h2, rfl⟩⟩
theorem keysL_len (hs ws : List Nat) : (keysL hs ws).length = hs.length * ws.length := by
  unfold keysL
  induction hs with
  | nil => simp
  | cons a hs ih => rw [List.flatMap_cons, List.length_append, ih, List.length_map, List.length_cons, Nat.add_mul]; omega
def kyLt (a b : Ky) : Prop := a.1 < b.1 ∨ (a.1 = b.1 ∧ a.2 < b.2)
theorem keysL_lt {hs ws : List Nat} (lh : hs.Pairwise (· < ·)) (lw : ws.Pairwise (· < ·)) : (keysL hs ws).Pairwise kyLt := by
  unfold keysL
  induction hs with
  | nil => simp
  | cons a hs ih =>
    rw [List.pairwise_cons] at lh
    rw [List.flatMap_cons, List.pairwise_append]
    refine ⟨?_, ih lh.2, fun x hx y hy => ?_⟩
    · rw [List.pairwise_map]
      exact lw.imp fun h => .inr ⟨rfl, h⟩
    · obtain ⟨c, _, rfl⟩ := List.mem_map.mp hx
      obtain ⟨h, hh, hy⟩ := List.mem_flatMap.mp hy
      obtain ⟨d, _, rfl⟩ := List.mem_map.mp hy
      exact .inl (lh.1 h hh)
def mkey (m : Mv) : Ky := (m.h, m.c)
theorem row_sub {hs ws : List Nat} (lh : hs.Pairwise (· < ·)) (lw : ws.Pairwise (· < ·)) {r : List Mv} (h : (r.map mkey).Sublist (keysL hs ws)) : r.Pairwise fun a b => mvLt a b = true := by
  have := (keysL_lt lh lw).sublist h
  rw [List.pairwise_map] at this
  refine this.imp fun {a b} h => ?_
  unfold mvLt
  rw [decide_eq_true_eq]
  unfold kyLt mkey at h
  simp only at h
  omega
/-- a state that stands there -/
def At (A : Rows) (inn : List Nat) (n : Nat) (ws : List (List Ky)) (t : Nat) (w : List Ky) : Prop := ∃ w', ws[t]? = some w' ∧ ksOf A inn n w' = ksOf A inn n w
structure RowAt (A : Rows) (inn : List Nat) (n : Nat) (ws : List (List Ky)) (K : List Ky) (w : List Ky) (r : List Mv) : Prop where
  sub : (r.map mkey).Sublist K
  at_ : ∀ m ∈ r, okW A inn n (w ++ [mkey m]) ∧ At A inn n ws m.t (w ++ [mkey m])
  all : ∀ k ∈ K, okW A inn n (w ++ [k]) → ∃ m ∈ r, mkey m = k
structure Sts (A : Rows) (inn : List Nat) (n : Nat) (K : List Ky) (ws : List (List Ky)) : Prop where
  zero : ws[0]? = some []
  ok : ∀ w ∈ ws, okW A inn n w
  nd : (ws.map (ksOf A inn n)).Nodup
  ky : ∀ w ∈ ws, ∀ k ∈ w, k ∈ K
theorem At.grow {A : Rows} {inn : List Nat} {n : Nat} {ws : List (List Ky)} {t : Nat} {w : List Ky} (h : At A inn n ws t w) (ext : List (List Ky)) : At A inn n (ws ++ ext) t w := by
  obtain ⟨w', h1, h2⟩ := h
  exact ⟨w', by rw [List.getElem?_append_left (List.getElem?_eq_some_iff.mp h1).1]; exact h1, h2⟩
theorem At.lt {A : Rows} {inn : List Nat} {n : Nat} {ws : List (List Ky)} {t : Nat} {w : List Ky} (h : At A inn n ws t w) : t < ws.length := by
  obtain ⟨w', h1, _⟩ := h
  exact (List.getElem?_eq_some_iff.mp h1).1
theorem RowAt.grow {A : Rows} {inn : List Nat} {n : Nat} {ws : List (List Ky)} {K : List Ky} {w : List Ky} {r : List Mv} (h : RowAt A inn n ws K w r) (ext : List (List Ky)) : RowAt A inn n (ws ++ ext) K w r :=
  ⟨h.sub, fun m hm => ⟨(h.at_ m hm).1, (h.at_ m hm).2.grow ext⟩, h.all⟩
/-- the whole -/
structure Aut (A : Rows) (inn : List Nat) (n : Nat) (hs ws : List Nat) (L : List (List Ky)) (rs : Rows) : Prop where
  sts : Sts A inn n (keysL hs ws) L
  len : rs.length = L.length
  row : ∀ (j : Nat) (r : List Mv) (w : List Ky), rs[j]? = some r → L[j]? = some w → RowAt A inn n L (keysL hs ws) w r
theorem Aut.val {A : Rows} {inn : List Nat} {n : Nat} {hs ws : List Nat} {L : List (List Ky)} {rs : Rows} (a : Aut A inn n hs ws L rs) (lh : lettersB hs = true) (lw : lettersB ws = true) (h3 : hs.length ≤ 3) (w3 : ws.length ≤ 3) (l9 : L.length ≤ 999) : RulV hs ws rs where
  lh := lh
  lw := lw
  sh := by omega
  sw := by omega
  n1 := by rw [a.len]; have := (List.getElem?_eq_some_iff.mp a.sts.zero).1; omega
  n2 := by rw [a.len]; exact l9
  row := fun r hr => by
    obtain ⟨j, hj⟩ := List.mem_iff_getElem?.mp hr
    obtain ⟨w, hw⟩ : ∃ w, L[j]? = some w := ⟨_, List.getElem?_eq_getElem (by rw [← a.len]; exact (List.getElem?_eq_some_iff.mp hj).1)⟩
    have ra := a.row j r w hj hw
    have hl := ra.sub.length_le
    rw [List.length_map, keysL_len] at hl
    have h9 : hs.length * ws.length ≤ 3 * 3 := Nat.mul_le_mul h3 w3
    refine ⟨?_, by omega⟩
    unfold rowB
    rw [Bool.and_eq_true, List.all_eq_true]
    refine ⟨fun m hm => ?_, nbr_of_pair (row_sub (letters_lt lh) (letters_lt lw) ra.sub)⟩
    have mk := keysL_mem.mp (ra.sub.subset (List.mem_map.mpr ⟨m, hm, rfl⟩))
    have mt := (ra.at_ m hm).2.lt
    rw [← a.len] at mt
    unfold mvB
    have m1 : m.h ∈ hs := mk.1
    have m2 : m.c ∈ ws := mk.2
    simp [m1, m2, mt]
theorem Aut.few {A : Rows} {inn : List Nat} {n : Nat} {hs ws : List Nat} {L : List (List Ky)} {rs : Rows} (a : Aut A inn n hs ws L rs) (hn : 1 ≤ n) : L.length ≤ many (hs.length * ws.length) n := by
  have := few_states hn (K := keysL hs ws) a.sts.ky a.sts.nd
  rwa [keysL_len] at this
theorem Aut.led {A : Rows} (st : Steps A) {inn : List Nat} {n : Nat} (hn : 1 ≤ n) {hs ws : List Nat} {L : List (List Ky)} {rs : Rows} (a : Aut A inn n hs ws L rs) (sr : Steps rs) (hK : ∀ s (k : Ky) t, step1 A s k.1 k.2 = some t → k ∈ keysL hs ws) (w : List Ky) :
    (∀ j, ledN rs 0 w = some j → okW A inn n w ∧ At A inn n L j w) ∧ (okW A inn n w → (ledN rs 0 w).isSome = true) := by
  induction w using snoc_ind with
  | nil =>
    refine ⟨fun j hj => ?_, fun _ => rfl⟩
    simp [ledN] at hj
    subst hj
    exact ⟨okW_nil, [], a.sts.zero, rfl⟩
  | snoc w k ih =>
    obtain ⟨ih1, ih2⟩ := ih
    have stepJ : ∀ j, ledN rs 0 w = some j → ∃ r w', rs[j]? = some r ∧ L[j]? = some w' ∧ ksOf A inn n w' = ksOf A inn n w ∧ okW A inn n w' ∧ okW A inn n w ∧ RowAt A inn n L (keysL hs ws) w' r ∧ rowS rs j = r := fun j hj => by
      obtain ⟨o1, w', h1, h2⟩ := ih1 j hj
      obtain ⟨r, hr⟩ : ∃ r, rs[j]? = some r := ⟨_, List.getElem?_eq_getElem (by rw [a.len]; exact (List.getElem?_eq_some_iff.mp h1).1)⟩
      exact ⟨r, w', hr, h1, h2, a.sts.ok w' (List.mem_of_getElem? h1), o1, a.row j r w' hr h1, by simp [rowS, List.getD, hr]⟩
    constructor
    · intro t ht
      rw [ledN_snoc] at ht
      obtain ⟨j, hj, ht⟩ := Option.bind_eq_some_iff.mp ht
      obtain ⟨r, w', hr, h1, h2, o', o, ra, er⟩ := stepJ j hj
      have hm := (step1_iff sr).mp ht
      rw [er] at hm
      obtain ⟨q1, w2, q2, q3⟩ := ra.at_ _ hm
      have ns := next_some st hn k o' o h2
      have q1 : okW A inn n (w' ++ [k]) := q1
      have q3 : ksOf A inn n w2 = ksOf A inn n (w' ++ [k]) := q3
      exact ⟨ns.1.mp q1, w2, q2, q3.trans (ns.2 q1)⟩
    · intro ho
      have ow := (okW_snoc.mp ho).1
      obtain ⟨j, hj⟩ := Option.isSome_iff_exists.mp (ih2 ow)
      obtain ⟨r, w', hr, h1, h2, o', o, ra, er⟩ := stepJ j hj
      have ns := next_some st hn k o' o h2
      have kk : k ∈ keysL hs ws := by
        have hb := (okW_snoc.mp ho).2
        have epl : (w ++ [k]).take (w.length + 1) = w ++ [k] := List.take_of_length_le (by simp)
        unfold bad at hb
        split at hb
        · rw [epl] at hb
          obtain ⟨t, ht⟩ := Option.isSome_iff_exists.mp (isN_f.mp hb)
          rw [ledN_snoc] at ht
          obtain ⟨s, _, ht⟩ := Option.bind_eq_some_iff.mp ht
          exact hK s k t ht
        · rename_i hl
          rw [List.all_eq_false] at hb
          obtain ⟨s, _, hb⟩ := hb
          rw [epl] at hb
          have hd : (w ++ [k]).drop (w.length + 1 - n) = w.drop (w.length + 1 - n) ++ [k] := List.drop_append_of_le_length (by omega)
          rw [hd] at hb
          obtain ⟨t, ht⟩ := Option.isSome_iff_exists.mp (isN_n.mp hb)
          rw [ledN_snoc] at ht
          obtain ⟨s, _, ht⟩ := Option.bind_eq_some_iff.mp ht
          exact hK s k t ht
      obtain ⟨m, hm, rfl⟩ := ra.all k kk (ns.1.mpr ho)
      rw [ledN_snoc, hj]
      have : step1 rs j (mkey m).1 (mkey m).2 = some m.t := (step1_iff sr).mpr (by rw [er]; exact hm)
      show (step1 rs j (mkey m).1 (mkey m).2).isSome = true
      rw [this]
      rfl
end Pace
end
section
set_option Elab.async false
set_option linter.all false
set_option maxRecDepth 100000
set_option maxHeartbeats 4000000
namespace DL
open PySem PySem.Spec PyProof.Rows L2
end DL
end
section
set_option Elab.async false
set_option linter.all false
set_option maxRecDepth 100000
set_option maxHeartbeats 4000000
namespace Pace
open PySem PySem.Spec PyProof.Rows L2 DL
structure UnI (A : Rows) (n : Nat) (K : List (Nat × Nat)) : Prop where
  nd : K.Nodup
  lt : ∀ x ∈ K, x.1 < n ∧ x.2 < n
  un : ∀ x ∈ K, ¬ bis A x.1 A x.2
theorem UnI.nil (A : Rows) (n : Nat) : UnI A n [] := ⟨List.nodup_nil, by simp, by simp⟩
theorem UnI.add {A : Rows} {n : Nat} {K : List (Nat × Nat)} (h : UnI A n K) {x : Nat × Nat} (h1 : x.1 < n) (h2 : x.2 < n) (h3 : ¬ bis A x.1 A x.2) : UnI A n (addF K x) := by
  unfold addF
  split
  · exact h
  · rename_i hx
    refine ⟨?_, fun y hy => ?_, fun y hy => ?_⟩
    · rw [List.nodup_append]
      exact ⟨h.nd, by simp, fun a ha b hb e => by rw [List.mem_singleton] at hb; subst hb; exact hx (e ▸ ha)⟩
    · rcases List.mem_append.mp hy with hy | hy
      · exact h.lt y hy
      · rw [List.mem_singleton] at hy; subst hy; exact ⟨h1, h2⟩
    · rcases List.mem_append.mp hy with hy | hy
      · exact h.un y hy
      · rw [List.mem_singleton] at hy; subst hy; exact h3
theorem UnI.few {A : Rows} {n : Nat} {K : List (Nat × Nat)} (h : UnI A n K) : K.length ≤ n * n := by
  have := List.Nodup.length_le_of_subset h.nd (l₂ := (List.range n).flatMap fun x => (List.range n).map fun y => (x, y)) fun p hp => by
    obtain ⟨h1, h2⟩ := h.lt p hp
    exact List.mem_flatMap.mpr ⟨p.1, List.mem_range.mpr h1, List.mem_map.mpr ⟨p.2, List.mem_range.mpr h2, rfl⟩⟩
  rwa [prod_len, List.length_range] at this
end Pace
end
section
set_option Elab.async false
set_option linter.all false
set_option maxRecDepth 100000
set_option maxHeartbeats 4000000
namespace DL
open PySem PySem.Spec PyProof.Rows L2
end DL
end
section
set_option Elab.async false
set_option linter.all false
set_option maxRecDepth 100000
set_option maxHeartbeats 4000000
namespace DL
open PySem PySem.Spec PyProof.Rows L2
section
variable {prog : Program} {w : World} {A : Around} {R : Result → Shared → Prop} {I : Addr} {fp wr : List Addr} {n : Nat} {P : Nat → Value → Prop} {St : Nat → Heap → Prop}
/-- two of the things are compared while the first heap stands -/
def CmpAt (prog : Program) (w : World) (A : Around) (h0 : Heap) (P : Nat → Value → Prop) (bt : Nat → Nat → Bool) : Prop :=
  ∀ i j x y (t : Shared) (Q E : Value → Shared → Prop), (∀ b o, h0.get? b = some o → t.heap.get? b = some o) → P i x → P j y → Q (.bool (bt i j)) t → wpAny (model prog w) A (richCompare .Lt x y) Q E t
theorem nm_min : (toString "min" ++ toString ".loop" : String) = "min.loop" := by decide
theorem min_turns {h0 : Heap} (W : Walks prog w A.in1 I fp wr n P St) (bt : Nat → Nat → Bool) (cmp : CmpAt prog w A.in1 h0 P bt) (B : Addr) (fresh : B ∉ fp) (new0 : ∀ b, b ∈ wr ∨ b = B → h0.get? b = none) :
    ∀ (k j : Nat) (t : Shared) (best : Value) (c : Nat), n - (j + 1) = k → j + 1 ≤ n → St (j + 1) t.heap → P (argBest bt j) best → (∀ b o, h0.get? b = some o → t.heap.get? b = some o) →
    t.heap.get? B = some { cls := .type "list", dict := none, data := .seq #[best, best] c, slots := #[] } →
    (∀ x h' tk, P (argBest bt (n - 1)) x → (∀ b o, b ∉ wr → b ≠ B → t.heap.get? b = some o → h'.get? b = some o) → R (.ok (.ret x)) { t with heap := h', toks := tk }) →
    codeAny (model prog w) A (.builtin "min.loop" ⟨[.ref I, .none, .ref B], []⟩) R t := by
  have notw : B ∉ wr := fun z => fresh (W.sub _ z)
  have b0 : ∀ b o, h0.get? b = some o → b ∉ wr ∧ b ≠ B := fun b o e => ⟨fun z => (by rw [new0 b (.inl z)] at e; cases e), fun z => (by rw [new0 b (.inr z)] at e; cases e)⟩
  intro k
  induction k with
  | zero =>
    intro j t best c ek hj st pb keep hB out
    have en : j + 1 = n := by omega
    refine codeAny_builtin F.entry_min_loop ?_
    rw [Around.under_plainId F.plain_min_loop _]
    show wpAny _ A.in1 (seqItems? (.ref B) >>= _) _ _ t
    refine wpAny_bind (wpAny_seqItems hB rfl ?_)
    show wpAny _ A.in1 (tryCatch (pyNext (.ref I)) _ >>= _) _ _ t
    refine wpAny_bind (wpAny_tryCatch (W.done t _ _ (en ▸ st) fun h' tk old => ?_))
    have hB' := old B _ notw hB
    show wpAny _ A.in1 (updateSeq B (fun _ => #[]) >>= _) _ _ _
    refine wpAny_bind ?_
    refine wpAny_updateSeq hB' rfl (wpAny_bind (wpAny_letGo (wpAny_pure ?_)))
    exact out best _ tk (by rw [← en]; exact pb) fun b o nw nB e => (Heap.get?_update_other _ _ (Ne.symm nB)).trans (old b o nw e)
  | succ k ih =>
    intro j t best c ek hj st pb keep hB out
    have jn : j + 1 < n := by omega
    refine codeAny_builtin F.entry_min_loop ?_
    rw [Around.under_plainId F.plain_min_loop _]
    show wpAny _ A.in1 (seqItems? (.ref B) >>= _) _ _ t
    refine wpAny_bind (wpAny_seqItems hB rfl ?_)
    show wpAny _ A.in1 (tryCatch (pyNext (.ref I)) _ >>= _) _ _ t
    refine wpAny_bind (wpAny_tryCatch (W.item (j + 1) t _ _ jn st fun x h' tk px st' old => ?_))
    have hB' := old B _ notw hB
    have keep' : ∀ b o, h0.get? b = some o → h'.get? b = some o := fun b o e => old b o (b0 b o e).1 (keep b o e)
    show wpAny _ A.in1 (tryCatch (holding [x, x] (richCompare .Lt x best >>= _)) _ >>= _) _ _ _
    refine wpAny_bind (wpAny_tryCatch (wpAny_holding (wpAny_bind (cmp (j + 1) (argBest bt j) x best _ _ _ keep' px pb ?_))))
    refine wpAny_bind (wpAny_holding (wpAny_truthy_bool ?_))
    refine wpAny_bind (wpAny_letGo (wpAny_pure ?_))
    cases eb : bt (j + 1) (argBest bt j) with
    | true =>
      simp only [if_true]
      refine wpAny_bind ?_
      refine wpAny_updateSeq hB' rfl (wpAny_bind (wpAny_letGo ?_))
      rw [nm_min]
      refine wpAny_pure ⟨plainId_quiet F.plain_min_loop _, ih (j + 1) _ x _ (by omega) jn (W.frame _ _ _ st' fun b hb o e => ?_) (by simp only [argBest, eb, if_true]; exact px) (fun b o e => ?_) (Heap.get?_update_self _ hB' rfl) fun x' h2 tk2 px' old2 => ?_⟩
      · exact (Heap.get?_update_other _ _ (fun z : B = b => fresh (by rw [z]; exact hb))).trans e
      · exact (Heap.get?_update_other _ _ (Ne.symm (b0 b o e).2)).trans (keep' b o e)
      · exact out x' h2 tk2 px' fun b o nw nB e => old2 b o nw nB ((Heap.get?_update_other _ _ (Ne.symm nB)).trans (old b o nw e))
    | false =>
      simp only [Bool.false_eq_true, if_false]
      refine wpAny_bind (wpAny_letGo ?_)
      rw [nm_min]
      refine wpAny_pure ⟨plainId_quiet F.plain_min_loop _, ih (j + 1) _ best c (by omega) jn st' (by simp only [argBest, eb, Bool.false_eq_true, if_false]; exact pb) keep' hB' fun x' h2 tk2 px' old2 => ?_⟩
      exact out x' h2 tk2 px' fun b o nw nB e => old2 b o nw nB (old b o nw e)
theorem min_turn1 {h0 : Heap} (W : Walks prog w A.in1 I fp wr n P St) (bt : Nat → Nat → Bool) (cmp : CmpAt prog w A.in1 h0 P bt) (B : Addr) (fresh : B ∉ fp) (new0 : ∀ b, b ∈ wr ∨ b = B → h0.get? b = none) (n0 : 0 < n) {t : Shared} {c : Nat} (st : St 0 t.heap)
    (keep : ∀ b o, h0.get? b = some o → t.heap.get? b = some o) (hB : t.heap.get? B = some { cls := .type "list", dict := none, data := .seq #[] c, slots := #[] })
    (out : ∀ x h' tk, P (argBest bt (n - 1)) x → (∀ b o, b ∉ wr → b ≠ B → t.heap.get? b = some o → h'.get? b = some o) → R (.ok (.ret x)) { t with heap := h', toks := tk }) :
    codeAny (model prog w) A (.builtin "min.loop" ⟨[.ref I, .none, .ref B], []⟩) R t := by
  have notw : B ∉ wr := fun z => fresh (W.sub _ z)
  have b0 : ∀ b o, h0.get? b = some o → b ∉ wr ∧ b ≠ B := fun b o e => ⟨fun z => (by rw [new0 b (.inl z)] at e; cases e), fun z => (by rw [new0 b (.inr z)] at e; cases e)⟩
  refine codeAny_builtin F.entry_min_loop ?_
  rw [Around.under_plainId F.plain_min_loop _]
  show wpAny _ A.in1 (seqItems? (.ref B) >>= _) _ _ t
  refine wpAny_bind (wpAny_seqItems hB rfl ?_)
  show wpAny _ A.in1 (tryCatch (pyNext (.ref I)) _ >>= _) _ _ t
  refine wpAny_bind (wpAny_tryCatch (W.item 0 t _ _ n0 st fun x h' tk px st' old => ?_))
  have hB' := old B _ notw hB
  show wpAny _ A.in1 (updateSeq B (fun _ => #[x, x]) >>= _) _ _ _
  refine wpAny_bind ?_
  refine wpAny_updateSeq hB' rfl ?_
  rw [nm_min]
  refine wpAny_pure ⟨plainId_quiet F.plain_min_loop _, min_turns W bt cmp B fresh new0 _ 0 _ x _ rfl n0 (W.frame _ _ _ st' fun b hb o e => ?_) px (fun b o e => ?_) (Heap.get?_update_self _ hB' rfl) fun x' h2 tk2 px' old2 => ?_⟩
  · exact (Heap.get?_update_other _ _ (fun z : B = b => fresh (by rw [z]; exact hb))).trans e
  · exact (Heap.get?_update_other _ _ (Ne.symm (b0 b o e).2)).trans (old b o (b0 b o e).1 (keep b o e))
  · exact out x' h2 tk2 px' fun b o nw nB e => old2 b o nw nB ((Heap.get?_update_other _ _ (Ne.symm nB)).trans (old b o nw e))
end
section
variable {prog : Program} {w : World} {A : Around} {E : Value → Shared → Prop} {s : Shared}
abbrev itO (l : Addr) : Obj := { cls := .type "list_iterator", data := .fields #[.ref l, .int 0 0] }
theorem call_minL {l : Addr} {items : Array Value} {bt : Nat → Nat → Bool} {Q : Value → Shared → Prop} (hh : A.handled = none) (hl : s.heap.IsList l items) (n0 : 0 < items.size) (cmp : CmpAt prog w A.in1 s.heap (fun i v => items[i]? = some v) bt)
    (out : ∀ x h' tk, items[argBest bt (items.size - 1)]? = some x → (∀ b o, s.heap.get? b = some o → h'.get? b = some o) → Q x { s with heap := h', toks := tk }) :
    wpAny (model prog w) A (call (.builtin "min") [.ref l]) Q E s := by
  refine call_function_tree F.kind_min F.plain_min F.entry_min (F.args_min1 _) ?_
  show wpAny _ A.in1 (Builtin.Builtins.bindParams "min" ["key", "default"] 0 ⟨[], []⟩ >>= _) _ _ s
  refine wpAny_bind (wpAny_of_eq (show Builtin.Builtins.bindParams "min" ["key", "default"] 0 ⟨[], []⟩ = pure [none, none] from rfl) ?_)
  refine wpAny_bind (wpAny_pure ?_)
  have llt : l < s.heap.objs.size := by obtain ⟨_, e, _⟩ := hl; exact Heap.lt_size e
  have nw : ∀ (u : Addr), s.heap.objs.size ≤ u → s.heap.get? u = none := fun u hu => by
    cases e : s.heap.get? u with
    | none => rfl
    | some o => exact absurd (Heap.lt_size e) (Nat.not_lt.mpr hu)
  refine wpAny_bind (wpAny_pyIter_list hl ?_)
  refine wpAny_bind (wpAny_newObj_type ?_)
  rw [nm_min]
  have sz1 : (s.heap.push (itO l)).objs.size = s.heap.objs.size + 1 := Heap.size_push ..
  have keep : ∀ (x : Obj) b o, s.heap.get? b = some o → ((s.heap.push (itO l)).push x).get? b = some o := fun x b o e => Heap.get?_push_of_some _ (Heap.get?_push_of_some _ e)
  refine wpAny_pure ⟨plainId_quiet F.plain_min_loop _, min_turn1 (Walks.list (A := A.in1) hh s.heap.objs.size l (Nat.ne_of_lt llt) items) bt cmp (s.heap.push (itO l)).objs.size ?_ ?_ n0 ⟨⟨_, Heap.get?_push_of_some _ (Heap.get?_push_size _ rfl), rfl, rfl⟩, (hl.push _).push _⟩ (keep _) (Heap.get?_push_size _ rfl) fun x h' tk px old => ?_⟩
  · intro hm
    rw [sz1] at hm
    rcases List.mem_cons.mp hm with z | z
    · exact absurd z (Nat.succ_ne_self _)
    · rw [List.mem_singleton] at z
      rw [← z] at llt
      exact absurd llt (Nat.not_lt.mpr (Nat.le_succ _))
  · intro b hb
    rcases hb with hb | hb
    · simp at hb; subst hb; exact nw _ (Nat.le_refl _)
    · subst hb; exact nw _ (by rw [sz1]; omega)
  · refine out x h' tk px fun b o e => old b o (fun z => ?_) (fun z => ?_) (keep _ b o e)
    · simp at z; subst z; rw [nw _ (Nat.le_refl _)] at e; cases e
    · subst z; rw [nw _ (by rw [sz1]; omega)] at e; cases e
end
def D.best (xs : List D) : D := xs.getD (argBest (fun i j => D.lt (xs.getD i .non) (xs.getD j .non)) (xs.length - 1)) .non
def okM (xs : List D) : Bool := xs.all fun x => xs.all fun y => okL x y
def rMinDD (ds : List D) (G : GH) (Q : DQ) : Prop := match ds with
  | [d] => (match d.cur G with
    | .lst xs => xs ≠ [] ∧ okM xs = true ∧ Q (D.best xs) G
    | _ => False)
  | _ => False
theorem argBest_le (bt : Nat → Nat → Bool) : ∀ k, argBest bt k ≤ k
  | 0 => Nat.le_refl _
  | k + 1 => by
    unfold argBest
    split
    · exact Nat.le_refl _
    · exact Nat.le_succ_of_le (argBest_le bt k)
theorem Vals.at {vs : List V} {us : List Value} (r : Vals vs us) : ∀ {i : Nat} {u : Value}, us[i]? = some u → ∃ v, vs[i]? = some v ∧ RelV v u := by
  induction r with
  | nil => intro i u h; simp at h
  | cons a _ ih =>
    intro i u h
    cases i with
    | zero => simp at h; subst h; exact ⟨_, rfl, a⟩
    | succ i => simpa using ih (by simpa using h)
theorem Vals.lenE {vs : List V} {us : List Value} (r : Vals vs us) : vs.length = us.length := by
  induction r with
  | nil => rfl
  | cons _ _ ih => simp [ih]
section
variable {X : Cx}
def rMinA (K : PySem.W.Frag) : List V → Hp → VK → Prop := fun vs H Q => ∃ (a : Addr) (ws : List V) (xs : List D), vs = [.ref a] ∧ SqL K H a ws ∧ ws.length = xs.length ∧ xs ≠ [] ∧ (∀ (i : Nat) v d, ws[i]? = some v → xs[i]? = some d → Dp K H v d.py) ∧ okM xs = true ∧
  ∀ v, ws[argBest (fun i j => D.lt (xs.getD i .non) (xs.getD j .non)) (xs.length - 1)]? = some v → Q v H
theorem cr_minA (hu : X.A.units + 100 < cLine) (hc : X.calm = true) : CallR X (.builtin "min") (rMinA X.K) := by
  intro pins s σ H vs us Q I r h
  obtain ⟨a, ws, xs, rfl, hs, hl, ne, hd, ok, q⟩ := h
  obtain ⟨its, rv, hl2, _⟩ := I.list hs
  rw [Vals.ref1 r]
  have len1 : its.length = xs.length := by rw [← hl]; exact (Vals.lenE rv).symm
  have pos : 0 < xs.length := List.length_pos_iff.mpr ne
  have okL2 : ∀ x ∈ xs, ∀ y ∈ xs, okL x y = true := fun x hx y hy => List.all_eq_true.mp (List.all_eq_true.mp ok x hx) y hy
  refine call_minL (bt := fun i j => D.lt (xs.getD i .non) (xs.getD j .non)) (I.ok.hd hc) hl2.isList (by simpa [len1] using pos) (fun i j x y t Q' E' keep px py q' => ?_) fun x h' tk px old => ?_
  · have get : ∀ (i : Nat) (u : Value), its.toArray[i]? = some u → ∃ d as, xs.getD i .non = d ∧ d ∈ xs ∧ Reads s.heap u d.py as := fun i u e => by
      have e : its[i]? = some u := by simpa using e
      obtain ⟨v, hv, rr⟩ := Vals.at rv e
      have hi : i < xs.length := by rw [← hl]; exact (List.getElem?_eq_some_iff.mp hv).1
      obtain ⟨as, rd⟩ := Dp.reads I _ _ _ (hd i v _ hv (List.getElem?_eq_getElem hi)) rr
      exact ⟨xs[i], as, by simp [List.getD, hi], List.getElem_mem hi, rd⟩
    obtain ⟨d, as, e1, m1, r1⟩ := get i x px
    obtain ⟨e, bs, e2, m2, r2⟩ := get j y py
    obtain ⟨_, _, dp, al⟩ := okL_of (okL2 d m1 e m2)
    rw [Bool.and_eq_true] at al
    simp only [e1, e2] at q'
    exact PySem.W.lt_data (PyProof.Rows.Reads.keeps keep r1) (PyProof.Rows.Reads.keeps keep r2) al.1 (notNone_ne al.2) (by simp [Around.in1]; omega) q'
  · have px : its[argBest (fun i j => D.lt (xs.getD i .non) (xs.getD j .non)) (its.toArray.size - 1)]? = some x := by simpa using px
    rw [show its.toArray.size = xs.length by simpa using len1] at px
    obtain ⟨v, hv, rr⟩ := Vals.at rv px
    exact ⟨v, H, I.kept old, rr, q v hv⟩
theorem cd_minD (hu : X.A.units + 100 < cLine) (hc : X.calm = true) : CallD X (.builtin "min") rMinDD := by
  refine ⟨_, cr_minA hu hc, fun F H G vs ds g rs Q' h Q k => ?_⟩
  unfold rMinDD at h
  split at h
  · rename_i d
    split at h
    · rename_i xs ex
      obtain ⟨ne, ok, h⟩ := h
      cases rs with
      | cons a b =>
        cases b
        obtain ⟨p, us, rfl, hp, ru⟩ := cur_list g a ex
        have okL2 : ∀ x ∈ xs, x.pl = true := fun x hx => (okL_of (List.all_eq_true.mp (List.all_eq_true.mp ok x hx) x hx)).1
        have pos : 0 < xs.length := List.length_pos_iff.mpr ne
        refine ⟨p, us, xs, rfl, .inl (.inl hp), ru.length, ne, fun i v d hv hd => ?_, ok, fun v hv => ?_⟩
        · obtain ⟨v', hv', rv⟩ := ru.get hd
          rw [hv] at hv'
          cases hv'
          exact Dp.mono' g.ex _ (Rep.dp _ rv (okL2 d (List.mem_of_getElem? hd)))
        · obtain ⟨d', hd', rv⟩ := ru.get' hv
          have e : D.best xs = d' := by
            unfold D.best
            rw [List.getD_eq_getElem?_getD, hd']
            rfl
          rw [e] at h
          exact k F H _ _ G Go.refl g rv h
    · exact h.elim
  · exact h.elim
end
/-- the best one, by an order that is one -/
theorem best_map {α : Type} {l : List α} {g : α → D} {lt : α → α → Bool} (ne : l ≠ []) (hlt : ∀ a ∈ l, ∀ b ∈ l, D.lt (g a) (g b) = lt a b) (irr : ∀ a, lt a a = false) (tr : ∀ a b c, lt a b = true → lt b c = true → lt a c = true) :
    ∃ m ∈ l, D.best (l.map g) = g m ∧ ∀ a ∈ l, lt a m = false := by
  have pos : 0 < l.length := List.length_pos_iff.mpr ne
  have gd : ∀ i, (h : i < l.length) → (l.map g).getD i .non = g l[i] := fun i h => by simp [List.getD, h]
  have key : ∀ k, (hk : k < l.length) → ∀ j, (hj : j ≤ k) → D.lt ((l.map g).getD j .non) ((l.map g).getD (argBest (fun i j => D.lt ((l.map g).getD i .non) ((l.map g).getD j .non)) k) .non) = false := by
    intro k
    induction k with
    | zero =>
      intro hk j hj
      have : j = 0 := by omega
      subst this
      show D.lt ((l.map g).getD 0 .non) ((l.map g).getD 0 .non) = false
      rw [gd 0 hk, hlt _ (List.getElem_mem _) _ (List.getElem_mem _)]
      exact irr _
    | succ k ih =>
      intro hk j hj
      have bl := argBest_le (fun i j => D.lt ((l.map g).getD i .non) ((l.map g).getD j .non)) k
      have hb : argBest (fun i j => D.lt ((l.map g).getD i .non) ((l.map g).getD j .non)) k < l.length := by omega
      have hj2 : j < l.length := by omega
      unfold argBest
      split
      · rename_i hbt
        rw [gd (k + 1) hk, gd _ hb, hlt _ (List.getElem_mem _) _ (List.getElem_mem _)] at hbt
        rw [gd j hj2, gd (k + 1) hk, hlt _ (List.getElem_mem _) _ (List.getElem_mem _)]
        by_cases e : j = k + 1
        · subst e; exact irr _
        · have i1 := ih (by omega) j (by omega)
          rw [gd j hj2, gd _ hb, hlt _ (List.getElem_mem _) _ (List.getElem_mem _)] at i1
          rw [Bool.eq_false_iff]
          intro z
          rw [tr _ _ _ z hbt] at i1
          cases i1
      · rename_i hbt
        by_cases e : j = k + 1
        · subst e
          exact Bool.eq_false_iff.mpr hbt
        · exact ih (by omega) j (by omega)
  have bl := argBest_le (fun i j => D.lt ((l.map g).getD i .non) ((l.map g).getD j .non)) (l.length - 1)
  have hb : argBest (fun i j => D.lt ((l.map g).getD i .non) ((l.map g).getD j .non)) (l.length - 1) < l.length := by omega
  refine ⟨l[argBest (fun i j => D.lt ((l.map g).getD i .non) ((l.map g).getD j .non)) (l.length - 1)], List.getElem_mem _, ?_, fun a ha => ?_⟩
  · unfold D.best
    rw [List.length_map, gd _ hb]
  · obtain ⟨j, hj, rfl⟩ := List.getElem_of_mem ha
    have := key (l.length - 1) (by omega) j (by omega)
    rw [gd j hj, gd _ hb, hlt _ (List.getElem_mem _) _ (List.getElem_mem _)] at this
    exact this
end DL
end
section
set_option Elab.async false
set_option linter.all false
set_option maxRecDepth 100000
set_option maxHeartbeats 4000000
namespace DL
open PySem PySem.Spec PyProof.Rows L2
end DL
end
section
set_option Elab.async false
set_option linter.all false
set_option maxRecDepth 100000
set_option maxHeartbeats 4000000
namespace DL
open PySem PySem.Spec PyProof.Rows L2
end DL
end
section
set_option Elab.async false
set_option linter.all false
set_option maxRecDepth 100000
set_option maxHeartbeats 4000000
namespace DL
open PySem PySem.Spec PyProof.Rows L2
end DL
end
section
set_option Elab.async false
set_option linter.all false
set_option maxRecDepth 100000
set_option maxHeartbeats 4000000
namespace Pace
open PySem PySem.Spec PyProof.Rows L2 DL
def lexB : List Ky → List Ky → Bool
  | [], [] => false
  | [], _ :: _ => true
  | _ :: _, [] => false
  | a :: as, b :: bs => kLt a b || (decide (a = b) && lexB as bs)
theorem kLt_irr (a : Ky) : kLt a a = false := by unfold kLt; simp
theorem kLt_tr {a b c : Ky} (h : kLt a b = true) (g : kLt b c = true) : kLt a c = true := by
  unfold kLt at *
  rw [decide_eq_true_eq] at *
  omega
theorem kLt_tot {a b : Ky} (h : a ≠ b) : kLt a b = true ∨ kLt b a = true := by
  unfold kLt
  rw [decide_eq_true_eq, decide_eq_true_eq]
  by_cases e : a.1 = b.1
  · have : a.2 ≠ b.2 := fun z => h (Prod.ext e z)
    omega
  · omega
theorem lexB_irr : ∀ a : List Ky, lexB a a = false
  | [] => rfl
  | x :: a => by simp [lexB, kLt_irr, lexB_irr a]
theorem lexB_tr : ∀ {a b c : List Ky}, lexB a b = true → lexB b c = true → lexB a c = true
  | [], [], _, h, _ => by simp [lexB] at h
  | [], _ :: _, [], _, g => by simp [lexB] at g
  | [], _ :: _, _ :: _, _, _ => rfl
  | _ :: _, [], _, h, _ => by simp [lexB] at h
  | _ :: _, _ :: _, [], _, g => by simp [lexB] at g
  | x :: a, y :: b, z :: c, h, g => by
    simp only [lexB, Bool.or_eq_true, Bool.and_eq_true, decide_eq_true_eq] at h g ⊢
    rcases h with h | ⟨rfl, h⟩
    · rcases g with g | ⟨rfl, g⟩
      · exact .inl (kLt_tr h g)
      · exact .inl h
    · rcases g with g | ⟨rfl, g⟩
      · exact .inl g
      · exact .inr ⟨rfl, lexB_tr h g⟩
theorem lexB_tot : ∀ {a b : List Ky}, a.length = b.length → a ≠ b → lexB a b = true ∨ lexB b a = true
  | [], [], _, h => absurd rfl h
  | [], _ :: _, l, _ => by simp at l
  | _ :: _, [], l, _ => by simp at l
  | x :: a, y :: b, l, h => by
    simp only [lexB, Bool.or_eq_true, Bool.and_eq_true, decide_eq_true_eq]
    by_cases e : x = y
    · subst e
      have := lexB_tot (a := a) (b := b) (by simpa using l) fun z => h (by rw [z])
      rcases this with z | z
      · exact .inl (.inr ⟨rfl, z⟩)
      · exact .inr (.inr ⟨rfl, z⟩)
    · rcases kLt_tot e with z | z
      · exact .inl (.inl z)
      · exact .inr (.inl z)
theorem lexB_app : ∀ {a b : List Ky} (x y : List Ky), a.length = b.length → lexB a b = true → lexB (a ++ x) (b ++ y) = true
  | [], [], _, _, _, h => by simp [lexB] at h
  | [], _ :: _, _, _, l, _ => by simp at l
  | _ :: _, [], _, _, l, _ => by simp at l
  | p :: a, q :: b, x, y, l, h => by
    simp only [List.cons_append, lexB, Bool.or_eq_true, Bool.and_eq_true, decide_eq_true_eq] at h ⊢
    rcases h with h | ⟨rfl, h⟩
    · exact .inl h
    · exact .inr ⟨rfl, lexB_app x y (by simpa using l) h⟩
theorem lexB_end : ∀ (a : List Ky) {x y : List Ky}, lexB x y = true → lexB (a ++ x) (a ++ y) = true
  | [], _, _, h => h
  | p :: a, x, y, h => by
    simp only [List.cons_append, lexB, Bool.or_eq_true, Bool.and_eq_true, decide_eq_true_eq]
    exact .inr ⟨trivial, lexB_end a h⟩
/-- not behind: shorter, or as long and not behind by its signs -/
def sLe (a b : List Ky) : Prop := a.length < b.length ∨ (a.length = b.length ∧ lexB b a = false)
theorem sLe_refl (a : List Ky) : sLe a a := .inr ⟨rfl, lexB_irr a⟩
theorem lex_le_tr {a b c : List Ky} (l1 : a.length = b.length) (l2 : b.length = c.length) (h : lexB b a = false) (g : lexB c b = false) : lexB c a = false := by
  rw [Bool.eq_false_iff]
  intro z
  by_cases e : a = b
  · subst e; rw [z] at g; cases g
  · rcases lexB_tot l1 e with q | q
    · rw [lexB_tr z q] at g; cases g
    · rw [q] at h; cases h
theorem sLe_tr {a b c : List Ky} (h : sLe a b) (g : sLe b c) : sLe a c := by
  rcases h with h | ⟨l1, h⟩
  · rcases g with g | ⟨l2, _⟩
    · exact .inl (by omega)
    · exact .inl (by omega)
  · rcases g with g | ⟨l2, g⟩
    · exact .inl (by omega)
    · exact .inr ⟨by omega, lex_le_tr l1 l2 h g⟩
theorem lex_snoc {a b : List Ky} (k : Ky) (l : a.length = b.length) (h : lexB b a = false) : lexB (b ++ [k]) (a ++ [k]) = false := by
  rw [Bool.eq_false_iff]
  intro z
  by_cases e : a = b
  · subst e; rw [lexB_irr] at z; cases z
  · rcases lexB_tot l e with q | q
    · have := lexB_tr z (lexB_app [k] [k] l q)
      rw [lexB_irr] at this; cases this
    · rw [q] at h; cases h
end Pace
end
section
set_option Elab.async false
set_option linter.all false
set_option maxRecDepth 100000
set_option maxHeartbeats 4000000
namespace Pace
open PySem PySem.Spec PyProof.Rows L2 DL
theorem bis_pair {A : Rows} (w : List Ky) : ∀ {p q p' : Nat}, bis A p A q → ledN A p w = some p' → ∃ q', ledN A q w = some q' ∧ bis A p' A q' := by
  have find : ∀ {R : Nat → Nat → Prop} {r q : List Mv}, Like R r q → ∀ k : Ky, ((r.find? fun m => m.h == k.1 && m.c == k.2) = none ∧ (q.find? fun m => m.h == k.1 && m.c == k.2) = none) ∨ ∃ m m', (r.find? fun m => m.h == k.1 && m.c == k.2) = some m ∧ (q.find? fun m => m.h == k.1 && m.c == k.2) = some m' ∧ R m.t m'.t := by
    intro R r q l k
    induction l with
    | nil => exact .inl ⟨rfl, rfl⟩
    | @cons m m' r r' e1 e2 e3 _ ih =>
      rw [List.find?_cons, List.find?_cons]
      rw [← e1, ← e2]
      cases hb : (m.h == k.1 && m.c == k.2) with
      | true => exact .inr ⟨m, m', rfl, rfl, e3⟩
      | false => exact ih
  induction w using snoc_ind with
  | nil => intro p q p' b h; simp [ledN] at h; subst h; exact ⟨q, rfl, b⟩
  | snoc w k ih =>
    intro p q p' b h
    rw [ledN_snoc] at h
    cases e : ledN A p w with
    | none => rw [e] at h; cases h
    | some s =>
      rw [e] at h
      have h : step1 A s k.1 k.2 = some p' := h
      obtain ⟨s', h1, b1⟩ := ih b e
      rcases find b1.row k with ⟨z1, z2⟩ | ⟨m, m', z1, z2, z3⟩
      · unfold step1 at h
        have z1' : (A.getD s []).find? (fun m => m.h == k.1 && m.c == k.2) = none := z1
        simp only [rowS] at z1
        rw [show ((A.getD s []).find? fun m => m.h == k.1 && m.c == k.2) = none from z1] at h
        cases h
      · unfold step1 at h
        have hp : m.t = p' := by
          have z1' : ((A.getD s []).find? fun m => m.h == k.1 && m.c == k.2) = some m := z1
          rw [z1'] at h
          simpa using h
        refine ⟨m'.t, ?_, hp ▸ z3⟩
        rw [ledN_snoc, h1]
        show step1 A s' k.1 k.2 = some m'.t
        unfold step1
        have z2' : ((A.getD s' []).find? fun m => m.h == k.1 && m.c == k.2) = some m' := z2
        rw [z2']
        rfl
/-- both are led so far, to unlike states -/
def Far (A : Rows) (n p q : Nat) : Prop := ∃ v : List Ky, v.length = n ∧ ∃ p' q', ledN A p v = some p' ∧ ledN A q v = some q' ∧ ¬ bis A p' A q'
theorem Far.symm {A : Rows} {n p q : Nat} (h : Far A n p q) : Far A n q p := by
  obtain ⟨v, hv, p', q', h1, h2, h3⟩ := h
  exact ⟨v, hv, q', p', h2, h1, fun b => h3 b.symm⟩
theorem far_zero {A : Rows} {p q : Nat} : Far A 0 p q ↔ ¬ bis A p A q := by
  constructor
  · rintro ⟨v, hv, p', q', h1, h2, h3⟩
    have : v = [] := List.length_eq_zero_iff.mp hv
    subst this
    simp [ledN] at h1 h2
    subst h1 h2
    exact h3
  · intro h
    exact ⟨[], rfl, p, q, rfl, rfl, h⟩
theorem far_step {A : Rows} {n p q : Nat} : Far A (n + 1) p q ↔ ∃ (k : Ky) (t t' : Nat), step1 A p k.1 k.2 = some t ∧ step1 A q k.1 k.2 = some t' ∧ Far A n t t' := by
  constructor
  · rintro ⟨v, hv, p', q', h1, h2, h3⟩
    cases v with
    | nil => simp at hv
    | cons k v =>
      rw [ledN_step] at h1 h2
      cases e1 : step1 A p k.1 k.2 with
      | none => rw [e1] at h1; cases h1
      | some t =>
        cases e2 : step1 A q k.1 k.2 with
        | none => rw [e2] at h2; cases h2
        | some t' =>
          rw [e1] at h1
          rw [e2] at h2
          exact ⟨k, t, t', e1, e2, v, by simpa using hv, p', q', h1, h2, h3⟩
  · rintro ⟨k, t, t', e1, e2, v, hv, p', q', h1, h2, h3⟩
    refine ⟨k :: v, by simp [hv], p', q', ?_, ?_, h3⟩
    · rw [ledN_step, e1]; exact h1
    · rw [ledN_step, e2]; exact h2
theorem far_unlike {A : Rows} {n p q : Nat} (h : Far A n p q) : ¬ bis A p A q := fun b => by
  obtain ⟨v, _, p', q', h1, h2, h3⟩ := h
  obtain ⟨q2, h4, b2⟩ := bis_pair v b h1
  rw [h2] at h4
  cases h4
  exact h3 b2
theorem far_down {A : Rows} : ∀ {n p q : Nat}, Far A (n + 1) p q → Far A n p q
  | 0, p, q, h => far_zero.mpr (far_unlike h)
  | n + 1, p, q, h => by
    obtain ⟨k, t, t', e1, e2, h2⟩ := far_step.mp h
    exact far_step.mpr ⟨k, t, t', e1, e2, far_down h2⟩
theorem far_le {A : Rows} {m n p q : Nat} (hm : m ≤ n) (h : Far A n p q) : Far A m p q := by
  induction n with
  | zero => rw [Nat.le_zero.mp hm]; exact h
  | succ n ih =>
    by_cases e : m = n + 1
    · rw [e]; exact h
    · exact ih (by omega) (far_down h)
def HasR (A : Rows) (p q r : Nat) : Prop := Far A r p q ∧ ¬ Far A (r + 1) p q
theorem HasR.uniq {A : Rows} {p q r s : Nat} (h : HasR A p q r) (g : HasR A p q s) : r = s := by
  have h1 : ¬ r < s := fun z => h.2 (far_le z g.1)
  have h2 : ¬ s < r := fun z => g.2 (far_le z h.1)
  omega
theorem HasR.symm {A : Rows} {p q r : Nat} (h : HasR A p q r) : HasR A q p r := ⟨h.1.symm, fun z => h.2 z.symm⟩
abbrev Pr := Nat × Nat
def lkL (A : Rows) (f : Nat → Nat) (x : Pr) : List (Ky × Pr) := (rowS A x.1).filterMap fun m => (step1 A x.2 m.h m.c).bind fun t => if f m.t ≠ f t then some ((m.h, m.c), (m.t, t)) else none
theorem lkL_mem {A : Rows} (st : Steps A) {f : Nat → Nat} {x : Pr} {z : Ky × Pr} : z ∈ lkL A f x ↔ step1 A x.1 z.1.1 z.1.2 = some z.2.1 ∧ step1 A x.2 z.1.1 z.1.2 = some z.2.2 ∧ f z.2.1 ≠ f z.2.2 := by
  unfold lkL
  rw [List.mem_filterMap]
  constructor
  · rintro ⟨m, hm, e⟩
    cases e2 : step1 A x.2 m.h m.c with
    | none => rw [e2] at e; cases e
    | some t =>
      rw [e2] at e
      simp only [Option.bind_some] at e
      split at e
      · rename_i hf
        cases e
        exact ⟨(step1_iff st).mpr hm, e2, hf⟩
      · cases e
  · rintro ⟨h1, h2, h3⟩
    refine ⟨⟨z.1.1, z.1.2, z.2.1⟩, (step1_iff st).mp h1, ?_⟩
    simp only [h2, Option.bind_some]
    rw [if_pos h3]
def ascP (x : Pr) : Pr := (min x.1 x.2, max x.1 x.2)
abbrev Rk := Pr × Nat
structure RkI (A : Rows) (P : List Pr) (K : List Rk) : Prop where
  nd : (K.map (·.1)).Nodup
  at_ : ∀ z ∈ K, z.1 ∈ P ∧ HasR A z.1.1 z.1.2 z.2
theorem RkI.nil (A : Rows) (P : List Pr) : RkI A P [] := ⟨by simp, by simp⟩
theorem RkI.add {A : Rows} {P : List Pr} {K : List Rk} (h : RkI A P K) {x : Pr} {r : Nat} (hx : x ∈ P) (hn : x ∉ K.map (·.1)) (hr : HasR A x.1 x.2 r) : RkI A P (K ++ [(x, r)]) where
  nd := by
    rw [List.map_append, List.nodup_append]
    exact ⟨h.nd, by simp, fun a ha b hb e => by simp at hb; subst hb; exact hn (e ▸ ha)⟩
  at_ := fun z hz => by
    rcases List.mem_append.mp hz with hz | hz
    · exact h.at_ z hz
    · rw [List.mem_singleton] at hz
      subst hz
      exact ⟨hx, hr⟩
end Pace
end
section
set_option Elab.async false
set_option linter.all false
set_option maxRecDepth 100000
set_option maxHeartbeats 4000000
namespace Pace
open PySem PySem.Spec PyProof.Rows L2 DL
abbrev Wk := Nat × KS
def wk (A : Rows) (inn : List Nat) (n : Nat) (w : List Ky) : Wk := ((ledN A 0 w).getD 0, ksOf A inn n w)
def Led (A : Rows) (w : List Ky) : Prop := (ledN A 0 w).isSome = true
def Wr (A : Rows) (inn : List Nat) (n : Nat) (w : List Ky) : Prop := okW A inn n w ∧ ledN A 0 w = none
section
variable {A : Rows} {inn : List Nat} {n : Nat}
/-- as far as the search has come -/
structure Lv (A : Rows) (inn : List Nat) (n L : Nat) (sw lv : List (List Ky)) : Prop where
  led : ∀ w ∈ lv, w.length = L ∧ Led A w
  nd : ((sw ++ lv).map (wk A inn n)).Nodup
  all : ∀ u, u.length = L → Led A u → wk A inn n u ∈ sw.map (wk A inn n) ∨ ∃ w ∈ lv, wk A inn n w = wk A inn n u ∧ lexB u w = false
  sn : ∀ w ∈ sw, w.length < L ∧ Led A w
  al : ∀ u, u.length < L → Led A u → wk A inn n u ∈ sw.map (wk A inn n)
  nw : ∀ u k, u.length < L → Led A u → ¬ Wr A inn n (u ++ [k])
theorem Lv.zero (A : Rows) (inn : List Nat) (n : Nat) : Lv A inn n 0 [] [[]] where
  led := fun w hw => by rw [List.mem_singleton] at hw; subst hw; exact ⟨rfl, rfl⟩
  nd := by simp
  all := fun u hu _ => by
    have : u = [] := List.length_eq_zero_iff.mp hu
    subst this
    exact .inr ⟨[], by simp, rfl, rfl⟩
  sn := by simp
  al := fun u hu => by omega
  nw := fun u k hu => by omega
theorem Lv.at_ {L : Nat} {sw lv : List (List Ky)} (h : Lv A inn n L sw lv) {u : List Ky} (hu : u.length = L) (hl : Led A u) (hn : wk A inn n u ∉ sw.map (wk A inn n)) : ∃ w ∈ lv, wk A inn n w = wk A inn n u ∧ lexB u w = false := (h.all u hu hl).resolve_left hn
end
/-- a word put in its key's place -/
def setW (A : Rows) (inn : List Nat) (n : Nat) (ws : List (List Ky)) (w : List Ky) : List (List Ky) := if ws.any (fun v => decide (wk A inn n v = wk A inn n w)) then ws.map (fun v => if wk A inn n v = wk A inn n w then w else v) else ws ++ [w]
theorem setW_keys {A : Rows} {inn : List Nat} {n : Nat} {ws : List (List Ky)} {w : List Ky} (nd : (ws.map (wk A inn n)).Nodup) : ((setW A inn n ws w).map (wk A inn n)).Nodup := by
  unfold setW
  split
  · have : (ws.map fun v => if wk A inn n v = wk A inn n w then w else v).map (wk A inn n) = ws.map (wk A inn n) := by
      rw [List.map_map]
      refine List.map_congr_left fun v _ => ?_
      simp only [Function.comp]
      split
      · rename_i z; exact z.symm
      · rfl
    rw [this]; exact nd
  · rename_i h
    rw [List.map_append, List.nodup_append]
    refine ⟨nd, by simp, fun a ha b hb e => ?_⟩
    simp at hb
    subst hb
    obtain ⟨v, hv, e2⟩ := List.mem_map.mp ha
    exact h (List.any_eq_true.mpr ⟨v, hv, decide_eq_true (e2.trans e)⟩)
theorem setW_mem {A : Rows} {inn : List Nat} {n : Nat} {ws : List (List Ky)} {w x : List Ky} (h : x ∈ setW A inn n ws w) : x = w ∨ (x ∈ ws ∧ wk A inn n x ≠ wk A inn n w) := by
  unfold setW at h
  split at h
  · obtain ⟨v, hv, rfl⟩ := List.mem_map.mp h
    by_cases e : wk A inn n v = wk A inn n w
    · rw [if_pos e]; exact .inl rfl
    · rw [if_neg e]; exact .inr ⟨hv, e⟩
  · rename_i hno
    rcases List.mem_append.mp h with h | h
    · exact .inr ⟨h, fun e => hno (List.any_eq_true.mpr ⟨x, h, decide_eq_true e⟩)⟩
    · rw [List.mem_singleton] at h
      exact .inl h
theorem setW_in {A : Rows} {inn : List Nat} {n : Nat} {ws : List (List Ky)} {w : List Ky} : w ∈ setW A inn n ws w ∧ ∀ v ∈ ws, wk A inn n v ≠ wk A inn n w → v ∈ setW A inn n ws w := by
  unfold setW
  split
  · rename_i h
    obtain ⟨v, hv, e⟩ := List.any_eq_true.mp h
    refine ⟨List.mem_map.mpr ⟨v, hv, by rw [if_pos (of_decide_eq_true e)]⟩, fun v hv e => List.mem_map.mpr ⟨v, hv, by rw [if_neg e]⟩⟩
  · exact ⟨by simp, fun v hv _ => List.mem_append_left _ hv⟩
end Pace
end
section
set_option Elab.async false
set_option linter.all false
set_option maxRecDepth 100000
set_option maxHeartbeats 4000000
namespace Pace
open PySem PySem.Spec PyProof.Rows L2 DL
def sLt (a b : List Ky) : Prop := sLe a b ∧ a ≠ b
theorem sLe_snoc {a b : List Ky} (k : Ky) (h : sLe a b) : sLe (a ++ [k]) (b ++ [k]) := by
  rcases h with h | ⟨l, h⟩
  · exact .inl (by simp; omega)
  · exact .inr ⟨by simp; omega, lex_snoc k l h⟩
theorem sLt_snoc {a b : List Ky} (x y : Ky) (h : sLt a b) : sLt (a ++ [x]) (b ++ [y]) := by
  obtain ⟨h, ne⟩ := h
  have ne2 : a ++ [x] ≠ b ++ [y] := fun e => ne (by
    have := congrArg List.dropLast e
    simpa using this)
  refine ⟨?_, ne2⟩
  rcases h with h | ⟨l, h⟩
  · exact .inl (by simp; omega)
  · refine .inr ⟨by simp; omega, ?_⟩
    rcases lexB_tot l ne with q | q
    · rw [Bool.eq_false_iff]
      intro z
      have := lexB_tr z (lexB_app [x] [y] l q)
      rw [lexB_irr] at this; cases this
    · rw [q] at h; cases h
theorem sLt_key {a : List Ky} {x y : Ky} (h : kLt x y = true) : sLt (a ++ [x]) (a ++ [y]) := by
  have h1 : lexB [x] [y] = true := by simp [lexB, h]
  have h2 := lexB_end a h1
  refine ⟨.inr ⟨by simp, ?_⟩, fun e => ?_⟩
  · rw [Bool.eq_false_iff]
    intro z
    have := lexB_tr z h2
    rw [lexB_irr] at this; cases this
  · rw [e, lexB_irr] at h2; cases h2
theorem sLt_nil {a : List Ky} {k : Ky} : sLt [] (a ++ [k]) := ⟨.inl (by simp), fun e => by simp at e⟩
/-- the order of the search -/
structure TrO (A B : Rows) (L : List Trail) (n : Nat) : Prop where
  so : L.Pairwise fun x y => sLt x.2 y.2
  par : ∀ y ∈ L, y.2 = [] ∨ ∃ (i : Nat) (x : Trail) (k : Ky), i < n ∧ L[i]? = some x ∧ y.2 = x.2 ++ [k]
  cl : ∀ (i : Nat) x, i < n → L[i]? = some x → ∀ (k : Ky) (s t : Nat), step1 A x.1.1 k.1 k.2 = some s → step1 B x.1.2 k.1 k.2 = some t → ∃ y ∈ L, y.1 = (s, t) ∧ sLe y.2 (x.2 ++ [k])
theorem TrO.zero (A B : Rows) : TrO A B [((0, 0), [])] 0 := ⟨by simp, fun y hy => by simp at hy; subst hy; exact .inl rfl, fun i x hi => by omega⟩
/-- within a turn: x is at n, its keys ls have been looked at -/
structure TrJ (A B : Rows) (L : List Trail) (n : Nat) (x : Trail) (ls : List Ky) : Prop where
  so : L.Pairwise fun x y => sLt x.2 y.2
  at_ : L[n]? = some x
  par : ∀ y ∈ L, y.2 = [] ∨ (∃ (i : Nat) (z : Trail) (k : Ky), i < n ∧ L[i]? = some z ∧ y.2 = z.2 ++ [k]) ∨ ∃ k ∈ ls, y.2 = x.2 ++ [k]
  cl : ∀ (i : Nat) z, i < n → L[i]? = some z → ∀ (k : Ky) (s t : Nat), step1 A z.1.1 k.1 k.2 = some s → step1 B z.1.2 k.1 k.2 = some t → ∃ y ∈ L, y.1 = (s, t) ∧ sLe y.2 (z.2 ++ [k])
  here : ∀ k ∈ ls, ∀ (s t : Nat), step1 A x.1.1 k.1 k.2 = some s → step1 B x.1.2 k.1 k.2 = some t → ∃ y ∈ L, y.1 = (s, t) ∧ sLe y.2 (x.2 ++ [k])
theorem TrO.turn {A B : Rows} {L : List Trail} {n : Nat} (h : TrO A B L n) {x : Trail} (hx : L[n]? = some x) : TrJ A B L n x [] :=
  ⟨h.so, hx, fun y hy => (h.par y hy).imp id .inl, h.cl, by simp⟩
theorem TrJ.done {A B : Rows} {L : List Trail} {n : Nat} {x : Trail} {ls : List Ky} (h : TrJ A B L n x ls) (all : ∀ (k : Ky), (step1 A x.1.1 k.1 k.2).isSome = true → k ∈ ls) : TrO A B L (n + 1) := by
  refine ⟨h.so, fun y hy => ?_, fun i z hi hz k s t h1 h2 => ?_⟩
  · rcases h.par y hy with e | ⟨i, z, k, h1, h2, h3⟩ | ⟨k, _, e⟩
    · exact .inl e
    · exact .inr ⟨i, z, k, by omega, h2, h3⟩
    · exact .inr ⟨n, x, k, by omega, h.at_, e⟩
  · by_cases e : i = n
    · subst e
      rw [h.at_] at hz
      cases hz
      exact h.here k (all k (by rw [h1]; rfl)) s t h1 h2
    · exact h.cl i z (by omega) hz k s t h1 h2
theorem TrJ.behind {A B : Rows} {L : List Trail} {n : Nat} {x : Trail} {ls : List Ky} (h : TrJ A B L n x ls) {k : Ky} (hk : ∀ l ∈ ls, kLt l k = true) : ∀ y ∈ L, sLt y.2 (x.2 ++ [k]) := by
  intro y hy
  rcases h.par y hy with e | ⟨i, z, k', h1, h2, h3⟩ | ⟨k', hk', e⟩
  · rw [e]; exact sLt_nil
  · rw [h3]
    refine sLt_snoc _ _ ?_
    have hi := (List.getElem?_eq_some_iff.mp h2)
    have hn := (List.getElem?_eq_some_iff.mp h.at_)
    obtain ⟨hi1, hi2⟩ := hi
    obtain ⟨hn1, hn2⟩ := hn
    have := List.pairwise_iff_getElem.mp h.so i n hi1 hn1 h1
    rw [hi2, hn2] at this
    exact this
  · rw [e]; exact sLt_key (hk k' hk')
theorem TrJ.add {A B : Rows} {L : List Trail} {n : Nat} {x : Trail} {ls : List Ky} (h : TrJ A B L n x ls) {k : Ky} (hk : ∀ l ∈ ls, kLt l k = true) {s t : Nat} (hs : step1 A x.1.1 k.1 k.2 = some s) (ht : step1 B x.1.2 k.1 k.2 = some t) : TrJ A B (L ++ [((s, t), x.2 ++ [k])]) n x (ls ++ [k]) := by
  have lift : ∀ {i : Nat} {z : Trail}, L[i]? = some z → (L ++ [((s, t), x.2 ++ [k])])[i]? = some z := fun {i z} e => by
    rw [List.getElem?_append_left (List.getElem?_eq_some_iff.mp e).1]; exact e
  have nl := (List.getElem?_eq_some_iff.mp h.at_).1
  refine ⟨?_, lift h.at_, fun y hy => ?_, fun i z hi hz l s' t' h1 h2 => ?_, fun l hl s' t' h1 h2 => ?_⟩
  · rw [List.pairwise_append]
    exact ⟨h.so, by simp, fun a ha b hb => by rw [List.mem_singleton] at hb; subst hb; exact h.behind hk a ha⟩
  · rcases List.mem_append.mp hy with hy | hy
    · rcases h.par y hy with e | ⟨i, z, l, h1, h2, h3⟩ | ⟨l, hl, e⟩
      · exact .inl e
      · exact .inr (.inl ⟨i, z, l, h1, lift h2, h3⟩)
      · exact .inr (.inr ⟨l, List.mem_append_left _ hl, e⟩)
    · rw [List.mem_singleton] at hy
      subst hy
      exact .inr (.inr ⟨k, by simp, rfl⟩)
  · rw [List.getElem?_append_left (by omega)] at hz
    obtain ⟨y, hy, e⟩ := h.cl i z hi hz l s' t' h1 h2
    exact ⟨y, List.mem_append_left _ hy, e⟩
  · rcases List.mem_append.mp hl with hl | hl
    · obtain ⟨y, hy, e⟩ := h.here l hl s' t' h1 h2
      exact ⟨y, List.mem_append_left _ hy, e⟩
    · rw [List.mem_singleton] at hl
      subst hl
      rw [hs] at h1
      rw [ht] at h2
      cases h1; cases h2
      exact ⟨((s, t), x.2 ++ [l]), by simp, rfl, sLe_refl _⟩
structure TrF (A B : Rows) (L : List Trail) : Prop where
  so : L.Pairwise fun x y => sLt x.2 y.2
  low : ∀ (w : List Ky) (s t : Nat), ledN A 0 w = some s → ledN B 0 w = some t → ∃ y ∈ L, y.1 = (s, t) ∧ sLe y.2 w
theorem TrO.done {A B : Rows} {L : List Trail} (h : TrO A B L L.length) (ok : TrOk A B L) : TrF A B L := by
  refine ⟨h.so, fun w => ?_⟩
  induction w using snoc_ind with
  | nil =>
    intro s t h1 h2
    simp [ledN] at h1 h2
    subst h1 h2
    exact ⟨_, ok.zero, rfl, sLe_refl _⟩
  | snoc u k ih =>
    intro s t h1 h2
    rw [ledN_snoc] at h1 h2
    cases ea : ledN A 0 u with
    | none => rw [ea] at h1; cases h1
    | some s' =>
      cases eb : ledN B 0 u with
      | none => rw [eb] at h2; cases h2
      | some t' =>
        rw [ea] at h1
        rw [eb] at h2
        obtain ⟨y, hy, e, le⟩ := ih s' t' ea eb
        obtain ⟨i, hi⟩ := List.mem_iff_getElem?.mp hy
        have h1 : step1 A y.1.1 k.1 k.2 = some s := by rw [e]; exact h1
        have h2 : step1 B y.1.2 k.1 k.2 = some t := by rw [e]; exact h2
        obtain ⟨z, hz, ez, lz⟩ := h.cl i y (List.getElem?_eq_some_iff.mp hi).1 hi k s t h1 h2
        exact ⟨z, hz, ez, sLe_tr lz (sLe_snoc k le)⟩
end Pace
end
section
set_option Elab.async false
set_option linter.all false
set_option maxRecDepth 100000
set_option maxHeartbeats 4000000
namespace Pace
open PySem PySem.Spec PyProof.Rows L2 DL
/-- as far as a turn has come: D tells which words and signs were looked at -/
structure FwT (A : Rows) (inn : List Nat) (n L : Nat) (sw lv wr lt : List (List Ky)) (D : List Ky → Ky → Prop) : Prop where
  w1 : ∀ x ∈ wr, ∃ w ∈ lv, ∃ k, x = w ++ [k] ∧ Wr A inn n x
  w2 : ∀ w k, D w k → Wr A inn n (w ++ [k]) → w ++ [k] ∈ wr
  l1 : ∀ x ∈ lt, ∃ w ∈ lv, ∃ k, x = w ++ [k] ∧ Led A x ∧ wk A inn n x ∉ (sw ++ lv).map (wk A inn n)
  nd : (lt.map (wk A inn n)).Nodup
  l2 : ∀ w k, D w k → Led A (w ++ [k]) → wk A inn n (w ++ [k]) ∈ (sw ++ lv).map (wk A inn n) ∨ ∃ y ∈ lt, wk A inn n y = wk A inn n (w ++ [k]) ∧ lexB (w ++ [k]) y = false
section
variable {A : Rows} {inn : List Nat} {n L : Nat} {sw lv wr lt : List (List Ky)} {D D' : List Ky → Ky → Prop}
theorem FwT.zero : FwT A inn n L sw lv [] [] fun _ _ => False := ⟨by simp, fun _ _ h => h.elim, by simp, by simp, fun _ _ h => h.elim⟩
theorem FwT.put (h : FwT A inn n L sw lv wr lt D) (hL : ∀ w ∈ lv, w.length = L) {w : List Ky} {k : Ky} (hw : w ∈ lv) (hl : Led A (w ++ [k])) (hm : wk A inn n (w ++ [k]) ∉ (sw ++ lv).map (wk A inn n)) (hD : ∀ w k, D w k → w ∈ lv) {m : List Ky}
    (h1 : m = w ++ [k] ∨ (m ∈ lt ∧ wk A inn n m = wk A inn n (w ++ [k]))) (h2 : lexB (w ++ [k]) m = false) (h3 : ∀ y ∈ lt, wk A inn n y = wk A inn n (w ++ [k]) → lexB y m = false) : FwT A inn n L sw lv wr (setW A inn n lt m) fun w' k' => D w' k' ∨ (w' = w ∧ k' = k) where
  w1 := h.w1
  w2 := fun w' k' d hx => by
    rcases d with d | ⟨rfl, rfl⟩
    · exact h.w2 w' k' d hx
    · unfold Led at hl
      rw [hx.2] at hl; cases hl
  l1 := fun x hx => by
    rcases setW_mem hx with rfl | ⟨hx, _⟩
    · rcases h1 with rfl | ⟨h1, _⟩
      · exact ⟨w, hw, k, rfl, hl, hm⟩
      · exact h.l1 _ h1
    · exact h.l1 x hx
  nd := setW_keys h.nd
  l2 := fun w' k' d hx => by
    have ek : wk A inn n m = wk A inn n (w ++ [k]) := by
      rcases h1 with rfl | ⟨_, h1⟩
      · rfl
      · exact h1
    have len : ∀ y ∈ lt, y.length = L + 1 := fun y hy => by
      obtain ⟨v, hv, l, rfl, _⟩ := h.l1 y hy
      simp [hL v hv]
    have lm : m.length = L + 1 := by
      rcases h1 with rfl | ⟨h1, _⟩
      · simp [hL w hw]
      · exact len m h1
    rcases d with d | ⟨rfl, rfl⟩
    · rcases h.l2 w' k' d hx with z | ⟨y, hy, e, le⟩
      · exact .inl z
      · by_cases e2 : wk A inn n y = wk A inn n m
        · refine .inr ⟨m, setW_in.1, e2.symm.trans e, ?_⟩
          exact lex_le_tr (by rw [lm, len y hy]) (by rw [len y hy]; simp [hL w' (hD _ _ d)]) (h3 y hy (e2.trans ek)) le
        · exact .inr ⟨y, setW_in.2 y hy e2, e, le⟩
    · exact .inr ⟨m, setW_in.1, ek, h2⟩
end
end Pace
end
section
set_option Elab.async false
set_option linter.all false
set_option maxRecDepth 100000
set_option maxHeartbeats 4000000
namespace Pace
open PySem PySem.Spec PyProof.Rows L2 DL
section
variable {A : Rows} {inn : List Nat} {n : Nat} {β : Type} {κ : List Ky → β}
/-- as far as the search has come -/
structure LvK {β : Type} (κ : List Ky → β) (A : Rows) (inn : List Nat) (n L : Nat) (sw lv : List (List Ky)) : Prop where
  led : ∀ w ∈ lv, w.length = L ∧ Led A w
  nd : ((sw ++ lv).map κ).Nodup
  all : ∀ u, u.length = L → Led A u → κ u ∈ sw.map κ ∨ ∃ w ∈ lv, κ w = κ u ∧ lexB u w = false
  sn : ∀ w ∈ sw, w.length < L ∧ Led A w
  al : ∀ u, u.length < L → Led A u → κ u ∈ sw.map κ
  nw : ∀ u k, u.length < L → Led A u → ¬ Wr A inn n (u ++ [k])
theorem LvK.zero (A : Rows) (inn : List Nat) (n : Nat) : LvK κ A inn n 0 [] [[]] where
  led := fun w hw => by rw [List.mem_singleton] at hw; subst hw; exact ⟨rfl, rfl⟩
  nd := by simp
  all := fun u hu _ => by
    have : u = [] := List.length_eq_zero_iff.mp hu
    subst this
    exact .inr ⟨[], by simp, rfl, rfl⟩
  sn := by simp
  al := fun u hu => by omega
  nw := fun u k hu => by omega
theorem LvK.at_ {L : Nat} {sw lv : List (List Ky)} (h : LvK κ A inn n L sw lv) {u : List Ky} (hu : u.length = L) (hl : Led A u) (hn : κ u ∉ sw.map κ) : ∃ w ∈ lv, κ w = κ u ∧ lexB u w = false := (h.all u hu hl).resolve_left hn
end
end Pace
end
section
set_option Elab.async false
set_option linter.all false
set_option maxRecDepth 100000
set_option maxHeartbeats 4000000
namespace Pace
open PySem PySem.Spec PyProof.Rows L2 DL
def SoL (lv : List (List Ky)) : Prop := lv.Pairwise fun a b => lexB a b = true
section
variable {A : Rows} {inn : List Nat} {n : Nat} {β : Type} {κ : List Ky → β}
/-- how far it has come within a layer: P was looked at -/
structure Srch {β : Type} (κ : List Ky → β) (A : Rows) (inn : List Nat) (n : Nat) (bs P lt : List (List Ky)) : Prop where
  on : ∀ x ∈ lt, x ∈ P ∧ Led A x ∧ κ x ∉ bs.map κ
  nd : (lt.map κ).Nodup
  so : SoL lt
  ok : ∀ x ∈ P, ¬ Wr A inn n x ∧ (Led A x → κ x ∈ bs.map κ ∨ ∃ y ∈ lt, κ y = κ x ∧ lexB x y = false)
theorem Srch.nil (κ : List Ky → β) (A : Rows) (inn : List Nat) (n : Nat) (bs : List (List Ky)) : Srch κ A inn n bs [] [] := ⟨by simp, by simp, by simp [SoL], by simp⟩
theorem Srch.keep {bs P lt : List (List Ky)} (h : Srch κ A inn n bs P lt) {x : List Ky} (hp : ∀ p ∈ P, lexB p x = true) (hw : ¬ Wr A inn n x) (hx : Led A x → κ x ∈ (bs ++ lt).map κ) : Srch κ A inn n bs (P ++ [x]) lt := by
  refine ⟨fun y hy => ⟨List.mem_append_left _ (h.on y hy).1, (h.on y hy).2⟩, h.nd, h.so, fun y hy => ?_⟩
  rcases List.mem_append.mp hy with hy | hy
  · exact h.ok y hy
  · rw [List.mem_singleton] at hy
    subst hy
    refine ⟨hw, fun l => ?_⟩
    have := hx l
    rw [List.map_append, List.mem_append] at this
    rcases this with z | z
    · exact .inl z
    · obtain ⟨v, hv, e⟩ := List.mem_map.mp z
      refine .inr ⟨v, hv, e, ?_⟩
      rw [Bool.eq_false_iff]
      intro q
      have := lexB_tr q (hp v (h.on v hv).1)
      rw [lexB_irr] at this; cases this
theorem Srch.add {bs P lt : List (List Ky)} (h : Srch κ A inn n bs P lt) {x : List Ky} (hp : ∀ p ∈ P, lexB p x = true) (hw : ¬ Wr A inn n x) (hl : Led A x) (hx : κ x ∉ (bs ++ lt).map κ) : Srch κ A inn n bs (P ++ [x]) (lt ++ [x]) := by
  rw [List.map_append, List.mem_append, not_or] at hx
  refine ⟨fun y hy => ?_, ?_, ?_, fun y hy => ?_⟩
  · rcases List.mem_append.mp hy with hy | hy
    · exact ⟨List.mem_append_left _ (h.on y hy).1, (h.on y hy).2⟩
    · rw [List.mem_singleton] at hy
      subst hy
      exact ⟨by simp, hl, hx.1⟩
  · rw [List.map_append, List.nodup_append]
    refine ⟨h.nd, by simp, fun a ha b hb e => ?_⟩
    simp at hb
    subst hb
    exact hx.2 (e ▸ ha)
  · unfold SoL
    rw [List.pairwise_append]
    refine ⟨h.so, by simp, fun a ha b hb => ?_⟩
    rw [List.mem_singleton] at hb
    subst hb
    exact hp a (h.on a ha).1
  · rcases List.mem_append.mp hy with hy | hy
    · refine ⟨(h.ok y hy).1, fun l => ((h.ok y hy).2 l).imp id ?_⟩
      rintro ⟨z, hz, e⟩
      exact ⟨z, List.mem_append_left _ hz, e⟩
    · rw [List.mem_singleton] at hy
      subst hy
      exact ⟨hw, fun _ => .inr ⟨y, by simp, rfl, lexB_irr _⟩⟩
end
end Pace
end
section
set_option Elab.async false
set_option linter.all false
set_option maxRecDepth 100000
set_option maxHeartbeats 4000000
namespace Pace
open PySem PySem.Spec PyProof.Rows L2 DL
/-- pairs that are not ranked -/
structure NoRk (A : Rows) (inn : List Nat) (f : Nat → Nat) (K : List Rk) (x : Pr) : Prop where
  a : x.1 ∈ inn
  b : x.2 ∈ inn
  ne : f x.1 ≠ f x.2
  no : ascP x ∉ K.map (·.1)
theorem nork_next {A : Rows} (st : Steps A) {inn : List Nat} (hi : Inn A inn) {f : Nat → Nat} {K : List Rk} {x : Pr} (h : NoRk A inn f K x) {z : Ky × Pr} (hz : z ∈ lkL A f x) (hn : ascP z.2 ∉ K.map (·.1)) : NoRk A inn f K z.2 := by
  obtain ⟨e1, e2, e3⟩ := (lkL_mem st).mp hz
  exact ⟨(hi.mem _).mpr (.more ((hi.mem _).mp h.a) ((step1_iff st).mp e1)), (hi.mem _).mpr (.more ((hi.mem _).mp h.b) ((step1_iff st).mp e2)), e3, hn⟩
structure WR (A : Rows) (inn : List Nat) (f : Nat → Nat) (K : List Rk) (ps : List Pr) (w : List Ky) (x : Pr) : Prop where
  nd : ps.Nodup
  on : ∀ p ∈ ps, NoRk A inn f K p
  len : ps.length = w.length + 1
  last : ps[w.length]? = some x
  led : ∀ i p, ps[i]? = some p → ledN A p.1 (w.drop i) = some x.1 ∧ ledN A p.2 (w.drop i) = some x.2
theorem WR.zero {A : Rows} {inn : List Nat} {f : Nat → Nat} {K : List Rk} {x : Pr} (h : NoRk A inn f K x) : WR A inn f K [x] [] x where
  nd := by simp
  on := fun p hp => by rw [List.mem_singleton] at hp; subst hp; exact h
  len := rfl
  last := rfl
  led := fun i p hp => by
    cases i with
    | zero => cases hp; exact ⟨rfl, rfl⟩
    | succ i => simp at hp
theorem WR.step {A : Rows} (st : Steps A) {inn : List Nat} (hi : Inn A inn) {f : Nat → Nat} {K : List Rk} {ps : List Pr} {w : List Ky} {x : Pr} (h : WR A inn f K ps w x) {k : Ky} {y : Pr} (hz : (k, y) ∈ lkL A f x) (hn : ascP y ∉ K.map (·.1)) :
    NoRk A inn f K y ∧ (∀ i p, ps[i]? = some p → ledN A p.1 ((w ++ [k]).drop i) = some y.1 ∧ ledN A p.2 ((w ++ [k]).drop i) = some y.2) ∧ (y ∉ ps → WR A inn f K (ps ++ [y]) (w ++ [k]) y) := by
  have hx := h.on x (List.mem_of_getElem? h.last)
  have ny := nork_next st hi hx hz hn
  obtain ⟨e1, e2, _⟩ := (lkL_mem st).mp hz
  have ld : ∀ i p, ps[i]? = some p → ledN A p.1 ((w ++ [k]).drop i) = some y.1 ∧ ledN A p.2 ((w ++ [k]).drop i) = some y.2 := fun i p hp => by
    have il := (List.getElem?_eq_some_iff.mp hp).1
    have hl := h.len
    obtain ⟨l1, l2⟩ := h.led i p hp
    rw [List.drop_append_of_le_length (by omega), ledN_snoc, ledN_snoc, l1, l2]
    exact ⟨e1, e2⟩
  refine ⟨ny, ld, fun hy => ⟨?_, fun p hp => ?_, ?_, ?_, fun i p hp => ?_⟩⟩
  · rw [List.nodup_append]
    exact ⟨h.nd, by simp, fun a ha b hb e => by rw [List.mem_singleton] at hb; subst hb; exact hy (e ▸ ha)⟩
  · rcases List.mem_append.mp hp with hp | hp
    · exact h.on p hp
    · rw [List.mem_singleton] at hp
      subst hp
      exact ny
  · simp [h.len]
  · have hl := h.len
    rw [List.getElem?_append_right (by simp; omega)]
    simp [hl]
  · by_cases il : i < ps.length
    · rw [List.getElem?_append_left il] at hp
      exact ld i p hp
    · have hl := h.len
      have i2 := (List.getElem?_eq_some_iff.mp hp).1
      simp at i2
      have ei : i = ps.length := by omega
      subst ei
      rw [List.getElem?_append_right (Nat.le_refl _), Nat.sub_self] at hp
      cases hp
      rw [List.drop_of_length_le (by simp; omega)]
      exact ⟨rfl, rfl⟩
theorem WR.few {A : Rows} {inn : List Nat} {f : Nat → Nat} {K : List Rk} {ps : List Pr} {w : List Ky} {x : Pr} (h : WR A inn f K ps w x) : ps.length ≤ inn.length * inn.length := by
  have := List.Nodup.length_le_of_subset h.nd (l₂ := inn.flatMap fun x => inn.map fun y => (x, y)) fun p hp => by
    have := h.on p hp
    exact List.mem_flatMap.mpr ⟨p.1, this.a, List.mem_map.mpr ⟨p.2, this.b, rfl⟩⟩
  rwa [prod_len] at this
structure TB (A : Rows) (x : Pr) (L : List Trail) (n : Nat) : Prop where
  nd : (L.map (·.1)).Nodup
  zero : L[0]? = some (x, [])
  led : ∀ y ∈ L, ledN A x.1 y.2 = some y.1.1 ∧ ledN A x.2 y.2 = some y.1.2
  cl : ∀ (i : Nat) y, i < n → L[i]? = some y → ∀ k : Ky, (step1 A y.1.1 k.1 k.2).isSome = (step1 A y.1.2 k.1 k.2).isSome ∧ ∀ s t, step1 A y.1.1 k.1 k.2 = some s → step1 A y.1.2 k.1 k.2 = some t → (s, t) ∈ L.map (·.1)
  le : n ≤ L.length
  ln : ∀ (i : Nat) y, L[i]? = some y → y.2.length ≤ i
theorem TB.start (A : Rows) (x : Pr) : TB A x [(x, [])] 0 where
  nd := by simp
  zero := rfl
  led := fun y hy => by rw [List.mem_singleton] at hy; subst hy; exact ⟨rfl, rfl⟩
  cl := fun i y h => by omega
  le := by simp
  ln := fun i y h => by
    cases i with
    | zero => cases h; simp
    | succ i => simp at h
theorem TB.few {A : Rows} (st : Steps A) {x : Pr} (h1 : x.1 < A.length) (h2 : x.2 < A.length) {L : List Trail} {n : Nat} (h : TB A x L n) : L.length ≤ A.length * A.length ∧ ∀ y ∈ L, y.1.1 < A.length ∧ y.1.2 < A.length := by
  have lt : ∀ y ∈ L, y.1.1 < A.length ∧ y.1.2 < A.length := fun y hy => by
    obtain ⟨e1, e2⟩ := h.led y hy
    exact ⟨ledN_lt st.cl.2 h1 _ e1, ledN_lt st.cl.2 h2 _ e2⟩
  have := List.Nodup.length_le_of_subset h.nd (l₂ := (List.range A.length).flatMap fun x => (List.range A.length).map fun y => (x, y)) fun p hp => by
    obtain ⟨y, hy, rfl⟩ := List.mem_map.mp hp
    obtain ⟨h1, h2⟩ := lt y hy
    exact List.mem_flatMap.mpr ⟨y.1.1, List.mem_range.mpr h1, List.mem_map.mpr ⟨y.1.2, List.mem_range.mpr h2, rfl⟩⟩
  rw [prod_len] at this
  exact ⟨by simpa using this, lt⟩
theorem TB.more {A : Rows} (st : Steps A) {x : Pr} (hb : ¬ bis A x.1 A x.2) {L : List Trail} {n : Nat} (h : TB A x L n) : n < L.length := by
  refine Classical.byContradiction fun hn => hb (bis_words st st fun w => ?_)
  have e : n = L.length := by have := h.le; omega
  subst e
  have key : ∀ w : List Ky, (ledN A x.1 w = none ∧ ledN A x.2 w = none) ∨ ∃ s t, ledN A x.1 w = some s ∧ ledN A x.2 w = some t ∧ (s, t) ∈ L.map (·.1) := fun w => by
    induction w using snoc_ind with
    | nil => exact .inr ⟨x.1, x.2, rfl, rfl, List.mem_map.mpr ⟨_, List.mem_of_getElem? h.zero, rfl⟩⟩
    | snoc w k ih =>
      rw [ledN_snoc, ledN_snoc]
      rcases ih with ⟨e1, e2⟩ | ⟨s, t, e1, e2, hm⟩
      · rw [e1, e2]; exact .inl ⟨rfl, rfl⟩
      · rw [e1, e2]
        obtain ⟨y, hy, e⟩ := List.mem_map.mp hm
        obtain ⟨i, hi⟩ := List.mem_iff_getElem?.mp hy
        obtain ⟨c1, c2⟩ := h.cl i y (List.getElem?_eq_some_iff.mp hi).1 hi k
        rw [e] at c1 c2
        simp only at c1 c2
        show (step1 A s k.1 k.2 = none ∧ step1 A t k.1 k.2 = none) ∨ _
        cases ea : step1 A s k.1 k.2 with
        | none =>
          cases eb : step1 A t k.1 k.2 with
          | none => exact .inl ⟨rfl, rfl⟩
          | some v => rw [ea, eb] at c1; cases c1
        | some u =>
          cases eb : step1 A t k.1 k.2 with
          | none => rw [ea, eb] at c1; cases c1
          | some v => exact .inr ⟨u, v, ea, eb, c2 u v ea eb⟩
  rcases key w with ⟨e1, e2⟩ | ⟨s, t, e1, e2, _⟩
  · rw [e1, e2]
  · rw [e1, e2]; rfl
abbrev Way := Nat × List Ky
structure WT (A : Rows) (L : List Way) (n : Nat) : Prop where
  nd : (L.map (·.1)).Nodup
  led : ∀ y ∈ L, y.2 ≠ [] ∧ ledN A 0 y.2 = some y.1
  c0 : ∀ m ∈ rowS A 0, m.t ∈ L.map (·.1)
  cl : ∀ (i : Nat) y, i < n → L[i]? = some y → ∀ m ∈ rowS A y.1, m.t ∈ L.map (·.1)
  le : n ≤ L.length
  ln : ∀ (i : Nat) y, L[i]? = some y → y.2.length ≤ i + 1
theorem WT.few {A : Rows} (st : Steps A) {L : List Way} {n : Nat} (h : WT A L n) : L.length ≤ A.length ∧ ∀ y ∈ L, y.1 < A.length := by
  have lt : ∀ y ∈ L, y.1 < A.length := fun y hy => ledN_lt st.cl.2 st.cl.1 _ (h.led y hy).2
  have := nodup_lt_len h.nd (n := A.length) fun p hp => by
    obtain ⟨y, hy, rfl⟩ := List.mem_map.mp hp
    exact lt y hy
  exact ⟨by simpa using this, lt⟩
theorem WT.more {A : Rows} {L : List Way} {n : Nat} (h : WT A L n) {g : Nat} (hg : Reach A g) (hn : g ∉ L.map (·.1)) : n < L.length := by
  refine Classical.byContradiction fun hl => hn ?_
  have e : n = L.length := by have := h.le; omega
  subst e
  induction hg with
  | one hm => exact h.c0 _ hm
  | @more s m _ hm ih =>
    have hs : s ∈ L.map (·.1) := Classical.byContradiction fun hs => hs (ih hs)
    obtain ⟨y, hy, rfl⟩ := List.mem_map.mp hs
    obtain ⟨i, hi⟩ := List.mem_iff_getElem?.mp hy
    exact h.cl i y (List.getElem?_eq_some_iff.mp hi).1 hi m hm
end Pace
end
section
set_option Elab.async false
set_option linter.all false
set_option maxRecDepth 100000
set_option maxHeartbeats 4000000
namespace Pace
open PySem PySem.Spec PyProof.Rows L2 DL
structure WB (A : Rows) (L : List Way) : Prop where
  nd : (L.map (·.1)).Nodup
  led : ∀ y ∈ L, y.2 ≠ [] ∧ ledN A 0 y.2 = some y.1
  ln : ∀ (i : Nat) y, L[i]? = some y → y.2.length ≤ i + 1
theorem WB.nil (A : Rows) : WB A [] := ⟨by simp, by simp, by simp⟩
theorem WB.add {A : Rows} {L : List Way} (h : WB A L) {t : Nat} {w : List Ky} (hn : t ∉ L.map (·.1)) (w0 : w ≠ []) (hl : ledN A 0 w = some t) (hw : w.length ≤ L.length + 1) : WB A (L ++ [(t, w)]) where
  nd := by
    rw [List.map_append, List.nodup_append]
    exact ⟨h.nd, by simp, fun a ha b hb e => by simp at hb; subst hb; exact hn (e ▸ ha)⟩
  led := fun y hy => by
    rcases List.mem_append.mp hy with hy | hy
    · exact h.led y hy
    · rw [List.mem_singleton] at hy
      subst hy
      exact ⟨w0, hl⟩
  ln := fun i y hy => by
    by_cases il : i < L.length
    · rw [List.getElem?_append_left il] at hy
      exact h.ln i y hy
    · rw [List.getElem?_append_right (by omega)] at hy
      have : i - L.length = 0 := by
        have := (List.getElem?_eq_some_iff.mp hy).1
        simp at this
        omega
      rw [this] at hy
      cases hy
      simp only
      omega
theorem WB.few {A : Rows} (st : Steps A) {L : List Way} (h : WB A L) : L.length ≤ A.length := by
  have := nodup_lt_len h.nd (n := A.length) fun p hp => by
    obtain ⟨y, hy, rfl⟩ := List.mem_map.mp hp
    exact ledN_lt st.cl.2 st.cl.1 _ (h.led y hy).2
  simpa using this
structure TBj (A : Rows) (x : Pr) (L : List Trail) (n : Nat) (y : Trail) (ks : List Ky) : Prop where
  nd : (L.map (·.1)).Nodup
  zero : L[0]? = some (x, [])
  led : ∀ y ∈ L, ledN A x.1 y.2 = some y.1.1 ∧ ledN A x.2 y.2 = some y.1.2
  cl : ∀ (i : Nat) y, i < n → L[i]? = some y → ∀ k : Ky, (step1 A y.1.1 k.1 k.2).isSome = (step1 A y.1.2 k.1 k.2).isSome ∧ ∀ s t, step1 A y.1.1 k.1 k.2 = some s → step1 A y.1.2 k.1 k.2 = some t → (s, t) ∈ L.map (·.1)
  at_ : L[n]? = some y
  ln : ∀ (i : Nat) y, L[i]? = some y → y.2.length ≤ i
  here : ∀ k ∈ ks, (step1 A y.1.1 k.1 k.2).isSome = (step1 A y.1.2 k.1 k.2).isSome ∧ ∀ s t, step1 A y.1.1 k.1 k.2 = some s → step1 A y.1.2 k.1 k.2 = some t → (s, t) ∈ L.map (·.1)
theorem TB.turn {A : Rows} {x : Pr} {L : List Trail} {n : Nat} (h : TB A x L n) {y : Trail} (hy : L[n]? = some y) : TBj A x L n y [] := ⟨h.nd, h.zero, h.led, h.cl, hy, h.ln, by simp⟩
theorem TBj.done {A : Rows} {x : Pr} {L : List Trail} {n : Nat} {y : Trail} {ks : List Ky} (h : TBj A x L n y ks) (all : ∀ k : Ky, (step1 A y.1.1 k.1 k.2).isSome = true ∨ (step1 A y.1.2 k.1 k.2).isSome = true → k ∈ ks) : TB A x L (n + 1) where
  nd := h.nd
  zero := h.zero
  led := h.led
  le := (List.getElem?_eq_some_iff.mp h.at_).1
  ln := h.ln
  cl := fun i z hi hz k => by
    by_cases e : i = n
    · subst e
      rw [h.at_] at hz
      cases hz
      by_cases hk : k ∈ ks
      · exact h.here k hk
      · have h1 : (step1 A y.1.1 k.1 k.2).isSome = false := by
          rw [Bool.eq_false_iff]; exact fun z => hk (all k (.inl z))
        have h2 : (step1 A y.1.2 k.1 k.2).isSome = false := by
          rw [Bool.eq_false_iff]; exact fun z => hk (all k (.inr z))
        refine ⟨by rw [h1, h2], fun s t e1 _ => ?_⟩
        rw [e1] at h1; cases h1
    · exact h.cl i z (by omega) hz k
theorem TBj.add {A : Rows} {x : Pr} {L : List Trail} {n : Nat} {y : Trail} {ks : List Ky} (h : TBj A x L n y ks) {k : Ky} {s t : Nat} (e1 : step1 A y.1.1 k.1 k.2 = some s) (e2 : step1 A y.1.2 k.1 k.2 = some t) (hm : (s, t) ∉ L.map (·.1)) : TBj A x (L ++ [((s, t), y.2 ++ [k])]) n y (ks ++ [k]) := by
  have nl := (List.getElem?_eq_some_iff.mp h.at_).1
  have z0 := (List.getElem?_eq_some_iff.mp h.zero).1
  have hl := h.led y (List.mem_of_getElem? h.at_)
  have up : ∀ p, p ∈ L.map (·.1) → p ∈ (L ++ [((s, t), y.2 ++ [k])]).map (·.1) := fun p hp => by rw [List.map_append]; exact List.mem_append_left _ hp
  refine ⟨?_, by rw [List.getElem?_append_left z0]; exact h.zero, fun z hz => ?_, fun i z hi hz l => ?_, by rw [List.getElem?_append_left nl]; exact h.at_, fun i z hz => ?_, fun l hl => ?_⟩
  · rw [List.map_append, List.nodup_append]
    exact ⟨h.nd, by simp, fun a ha b hb e => by simp at hb; subst hb; exact hm (e ▸ ha)⟩
  · rcases List.mem_append.mp hz with hz | hz
    · exact h.led z hz
    · rw [List.mem_singleton] at hz
      subst hz
      exact ⟨by rw [ledN_snoc, hl.1]; exact e1, by rw [ledN_snoc, hl.2]; exact e2⟩
  · rw [List.getElem?_append_left (by omega)] at hz
    obtain ⟨c1, c2⟩ := h.cl i z hi hz l
    exact ⟨c1, fun s' t' f1 f2 => up _ (c2 s' t' f1 f2)⟩
  · by_cases il : i < L.length
    · rw [List.getElem?_append_left il] at hz
      exact h.ln i z hz
    · rw [List.getElem?_append_right (by omega)] at hz
      have e0 : i - L.length = 0 := by
        have := (List.getElem?_eq_some_iff.mp hz).1
        simp at this
        omega
      rw [e0] at hz
      cases hz
      have := h.ln n y h.at_
      simp only [List.length_append, List.length_singleton]
      omega
  · rcases List.mem_append.mp hl with hl | hl
    · obtain ⟨c1, c2⟩ := h.here l hl
      exact ⟨c1, fun s' t' f1 f2 => up _ (c2 s' t' f1 f2)⟩
    · rw [List.mem_singleton] at hl
      subst hl
      refine ⟨by rw [e1, e2]; rfl, fun s' t' f1 f2 => ?_⟩
      rw [e1] at f1
      rw [e2] at f2
      cases f1; cases f2
      simp
end Pace
end
section
set_option Elab.async false
set_option linter.all false
set_option maxRecDepth 100000
set_option maxHeartbeats 4000000
namespace Pace
open PySem PySem.Spec PyProof.Rows L2 DL
def stI : Option Nat → Int
  | none => -1
  | some n => (n : Int)
def stepZ (A : Rows) (s : Int) (k : Ky) : Int := if s = -1 then -1 else stI (step1 A s.toNat k.1 k.2)
def InZ (A : Rows) (s : Int) : Prop := s = -1 ∨ ∃ n : Nat, s = (n : Int) ∧ n < A.length
def ledZ (A : Rows) (w : List Ky) : Int := stI (ledN A 0 w)
theorem stepZ_stI (A : Rows) (o : Option Nat) (k : Ky) : stepZ A (stI o) k = stI (o.bind fun s => step1 A s k.1 k.2) := by
  cases o with
  | none => rfl
  | some s =>
    unfold stepZ
    rw [if_neg (by simp only [stI]; omega)]
    rfl
theorem ledZ_snoc (A : Rows) (w : List Ky) (k : Ky) : ledZ A (w ++ [k]) = stepZ A (ledZ A w) k := by
  unfold ledZ
  rw [stepZ_stI, ledN_snoc]
theorem stI_some (o : Option Nat) : stI o ≠ -1 ↔ o.isSome = true := by
  cases o with
  | none => simp [stI]
  | some n => simp only [stI, Option.isSome_some, iff_true]; omega
theorem stepZ_in {A : Rows} (st : Steps A) (s : Int) (k : Ky) : InZ A (stepZ A s k) := by
  unfold stepZ
  split
  · exact .inl rfl
  · cases e : step1 A s.toNat k.1 k.2 with
    | none => exact .inl rfl
    | some t => exact .inr ⟨t, rfl, step1_lt st.cl.2 e⟩
structure KeysW (A B : Rows) (s t : Int) (ks : List Ky) : Prop where
  pw : ks.Pairwise fun a b => kLt a b = true
  mem : ∀ k, k ∈ ks ↔ stepZ A s k ≠ -1 ∨ stepZ B t k ≠ -1
  len : ks.length ≤ 62
abbrev ZP := Int × Int
def Live (e : Bool) (p : ZP) : Prop := p ≠ (-1, -1) ∧ (e = true ∨ (p.1 ≠ -1 ∧ p.2 ≠ -1))
instance (e : Bool) (p : ZP) : Decidable (Live e p) := by unfold Live; infer_instance
def toZ (A B : Rows) (p : ZP) (k : Ky) : ZP := (stepZ A p.1 k, stepZ B p.2 k)
structure RowJ (A B : Rows) (e : Bool) (L : List ZP) (p : ZP) (P : Ky → Prop) (r : List Mv) : Prop where
  pw : r.Pairwise fun a b => mvLt a b = true
  to : ∀ m ∈ r, P (m.h, m.c) ∧ Live e (toZ A B p (m.h, m.c)) ∧ L[m.t]? = some (toZ A B p (m.h, m.c))
  all : ∀ k, P k → Live e (toZ A B p k) → ∃ m ∈ r, m.h = k.1 ∧ m.c = k.2
  len : r.length ≤ 62
structure JoinI (A B : Rows) (e : Bool) (L : List ZP) (F : Rows) : Prop where
  nd : L.Nodup
  zero : L[0]? = some (0, 0)
  rng : ∀ p ∈ L, InZ A p.1 ∧ InZ B p.2 ∧ Live e p
  le : F.length ≤ L.length
  row : ∀ (i : Nat) p r, L[i]? = some p → F[i]? = some r → RowJ A B e L p (fun _ => True) r
theorem RowJ.mono {A B : Rows} {e : Bool} {L : List ZP} {p : ZP} {P : Ky → Prop} {r : List Mv} (h : RowJ A B e L p P r) (q : ZP) : RowJ A B e (L ++ [q]) p P r :=
  ⟨h.pw, fun m hm => by
    obtain ⟨h1, h2, h3⟩ := h.to m hm
    exact ⟨h1, h2, by rw [List.getElem?_append_left (List.getElem?_eq_some_iff.mp h3).1]; exact h3⟩, h.all, h.len⟩
theorem JoinI.grow {A B : Rows} {e : Bool} {L : List ZP} {F : Rows} (h : JoinI A B e L F) (sa : Steps A) (sb : Steps B) {p : ZP} {k : Ky} (hl : Live e (toZ A B p k)) (hn : toZ A B p k ∉ L) : JoinI A B e (L ++ [toZ A B p k]) F where
  nd := by rw [List.nodup_append]; exact ⟨h.nd, by simp, fun a h1 b h2 e => hn (by rw [List.mem_singleton.mp h2] at e; exact e ▸ h1)⟩
  zero := by rw [List.getElem?_append_left (List.getElem?_eq_some_iff.mp h.zero).1]; exact h.zero
  rng := fun q hq => by
    rcases List.mem_append.mp hq with hq | hq
    · exact h.rng q hq
    · rw [List.mem_singleton.mp hq]
      exact ⟨stepZ_in sa _ _, stepZ_in sb _ _, hl⟩
  le := by rw [List.length_append]; exact Nat.le_trans h.le (Nat.le_add_right _ _)
  row := fun i q r hq hr => by
    have := h.le
    have hi := (List.getElem?_eq_some_iff.mp hr).1
    rw [List.getElem?_append_left (by omega)] at hq
    exact (h.row i q r hq hr).mono _
theorem JoinI.few {A B : Rows} {e : Bool} {L : List ZP} {F : Rows} (h : JoinI A B e L F) : L.length ≤ (A.length + 1) * (B.length + 1) := by
  have sub : L ⊆ (List.range (A.length + 1)).flatMap fun i : Nat => (List.range (B.length + 1)).map fun j : Nat => (((i : Int) - 1, (j : Int) - 1) : ZP) := fun p hp => by
    obtain ⟨h1, h2, _⟩ := h.rng p hp
    have one : ∀ (A : Rows) (s : Int), InZ A s → ∃ i, i ∈ List.range (A.length + 1) ∧ (i : Int) - 1 = s := fun A s hs => by
      rcases hs with rfl | ⟨n, rfl, hn⟩
      · exact ⟨0, by simp, rfl⟩
      · exact ⟨n + 1, by rw [List.mem_range]; omega, by omega⟩
    obtain ⟨i, hi, ei⟩ := one A p.1 h1
    obtain ⟨j, hj, ej⟩ := one B p.2 h2
    exact List.mem_flatMap.mpr ⟨i, hi, List.mem_map.mpr ⟨j, hj, Prod.ext ei ej⟩⟩
  have := List.Nodup.length_le_of_subset h.nd sub
  have e2 : ((List.range (A.length + 1)).flatMap fun i : Nat => (List.range (B.length + 1)).map fun j : Nat => (((i : Int) - 1, (j : Int) - 1) : ZP)).length = (A.length + 1) * (B.length + 1) := by
    have g : ∀ l : List Nat, (l.map fun _ => B.length + 1).sum = l.length * (B.length + 1) := fun l => by
      induction l with
      | nil => simp
      | cons a l ih => rw [List.map_cons, List.sum_cons, ih, List.length_cons, Nat.succ_mul, Nat.add_comm]
    rw [List.length_flatMap]
    simp only [List.length_map, List.length_range]
    rw [g, List.length_range]
  omega
theorem JoinI.push {A B : Rows} {e : Bool} {L : List ZP} {F : Rows} (h : JoinI A B e L F) {p : ZP} (hp : L[F.length]? = some p) {r : List Mv} (hr : RowJ A B e L p (fun _ => True) r) : JoinI A B e L (F ++ [r]) where
  nd := h.nd
  zero := h.zero
  rng := h.rng
  le := by rw [List.length_append]; exact (List.getElem?_eq_some_iff.mp hp).1
  row := fun i q r' hq hr' => by
    by_cases hi : i < F.length
    · rw [List.getElem?_append_left hi] at hr'
      exact h.row i q r' hq hr'
    · have hl := (List.getElem?_eq_some_iff.mp hr').1
      rw [List.length_append, List.length_singleton] at hl
      have : i = F.length := by omega
      subst this
      rw [hp] at hq
      rw [List.getElem?_append_right (Nat.le_refl _), Nat.sub_self] at hr'
      cases hq; cases hr'
      exact hr
theorem RowJ.nil {A B : Rows} {e : Bool} {L : List ZP} {p : ZP} {P : Ky → Prop} (hP : ∀ k, ¬ P k) : RowJ A B e L p P [] :=
  ⟨.nil, fun m hm => (by cases hm), fun k hk => absurd hk (hP k), Nat.zero_le _⟩
theorem RowJ.put {A B : Rows} {e : Bool} {L : List ZP} {p : ZP} {ls : List Ky} {r : List Mv} (h : RowJ A B e L p (· ∈ ls) r) {k : Ky} (hk : ∀ l ∈ ls, kLt l k = true) (hl : Live e (toZ A B p k)) {j : Nat} (hj : L[j]? = some (toZ A B p k)) (hr : r.length ≤ ls.length) (hls : ls.length < 62) :
    RowJ A B e L p (· ∈ ls ++ [k]) (r ++ [⟨k.1, k.2, j⟩]) where
  pw := by
    rw [List.pairwise_append]
    refine ⟨h.pw, List.pairwise_singleton _ _, fun a ha b hb => ?_⟩
    rw [List.mem_singleton.mp hb]
    have := hk _ (h.to a ha).1
    unfold kLt at this
    unfold mvLt
    exact this
  to := fun m hm => by
    rcases List.mem_append.mp hm with hm | hm
    · exact ⟨List.mem_append_left _ (h.to m hm).1, (h.to m hm).2⟩
    · rw [List.mem_singleton.mp hm]
      exact ⟨by simp, hl, hj⟩
  all := fun k' hk' z => by
    rcases List.mem_append.mp hk' with hk' | hk'
    · obtain ⟨m, hm, h1⟩ := h.all k' hk' z
      exact ⟨m, List.mem_append_left _ hm, h1⟩
    · rw [List.mem_singleton.mp hk']
      exact ⟨⟨k.1, k.2, j⟩, by simp, rfl, rfl⟩
  len := by rw [List.length_append, List.length_singleton]; omega
theorem RowJ.full {A B : Rows} {e : Bool} {L : List ZP} {p : ZP} {ks : List Ky} {r : List Mv} (h : RowJ A B e L p (· ∈ ks) r) (ku : KeysW A B p.1 p.2 ks) : RowJ A B e L p (fun _ => True) r :=
  ⟨h.pw, fun m hm => ⟨trivial, (h.to m hm).2⟩, fun k _ z => by
    refine h.all k ((ku.mem k).mpr ?_) z
    by_cases h1 : stepZ A p.1 k = -1
    · by_cases h2 : stepZ B p.2 k = -1
      · exact absurd (Prod.ext h1 h2) z.1
      · exact .inr h2
    · exact .inl h1, h.len⟩
theorem row_step {A B : Rows} {e : Bool} {L : List ZP} {F : Rows} (h : JoinI A B e L F) {i : Nat} {p : ZP} (hp : L[i]? = some p) (hi : i < F.length) (k : Ky) :
    (∀ j, step1 F i k.1 k.2 = some j → Live e (toZ A B p k) ∧ L[j]? = some (toZ A B p k)) ∧ (step1 F i k.1 k.2 = none → ¬ Live e (toZ A B p k)) := by
  have rj := h.row i p _ hp (List.getElem?_eq_getElem hi)
  have er : rowS F i = F[i] := by
    unfold rowS
    rw [List.getD_eq_getElem?_getD, List.getElem?_eq_getElem hi]
    rfl
  refine ⟨fun j hj => ?_, fun hn hl => ?_⟩
  · change ((rowS F i).find? fun m => m.h == k.1 && m.c == k.2).map (·.t) = some j at hj
    rw [er, Option.map_eq_some_iff] at hj
    obtain ⟨m, hm, rfl⟩ := hj
    have h1 := List.find?_some hm
    simp only [Bool.and_eq_true, beq_iff_eq] at h1
    have h2 := rj.to m (List.mem_of_find?_eq_some hm)
    rw [show ((m.h, m.c) : Ky) = k from Prod.ext h1.1 h1.2] at h2
    exact h2.2
  · obtain ⟨m, hm, h1, h2⟩ := rj.all k trivial hl
    have : (step1 F i k.1 k.2).isSome = true := step1_some.mpr (by rw [er]; exact List.mem_map.mpr ⟨m, hm, Prod.ext h1 h2⟩)
    rw [hn] at this
    cases this
theorem JoinI.led {A B : Rows} {e : Bool} {L : List ZP} {F : Rows} (h : JoinI A B e L F) (done : F.length = L.length) (w : List Ky) :
    (∀ j, ledN F 0 w = some j → L[j]? = some (ledZ A w, ledZ B w)) ∧ (ledN F 0 w = none → ¬ Live e (ledZ A w, ledZ B w)) := by
  induction w using snoc_ind with
  | nil =>
    refine ⟨fun j hj => ?_, fun hn => by cases hn⟩
    cases hj
    exact h.zero
  | snoc w k ih =>
    have e1 : (ledZ A (w ++ [k]), ledZ B (w ++ [k])) = toZ A B (ledZ A w, ledZ B w) k := by rw [ledZ_snoc, ledZ_snoc]; rfl
    rw [e1, ledN_snoc]
    cases hw : ledN F 0 w with
    | some i =>
      have hp := ih.1 i hw
      have hi := (List.getElem?_eq_some_iff.mp hp).1
      obtain ⟨g1, g2⟩ := row_step h hp (by omega) k
      exact ⟨fun j hj => (g1 j hj).2, fun hn => g2 hn⟩
    | none =>
      refine ⟨fun j hj => (by cases hj), fun _ z => ih.2 hw ?_⟩
      have s1 : ∀ (A : Rows) (s : Int), stepZ A s k ≠ -1 → s ≠ -1 := fun A s h e => h (by unfold stepZ; rw [if_pos e])
      refine ⟨fun e2 => z.1 ?_, ?_⟩
      · have e3 : ledZ A w = -1 ∧ ledZ B w = -1 := ⟨congrArg Prod.fst e2, congrArg Prod.snd e2⟩
        unfold toZ
        rw [e3.1, e3.2]
        rfl
      · rcases z.2 with z | z
        · exact .inl z
        · exact .inr ⟨s1 _ _ z.1, s1 _ _ z.2⟩
/-- what the rules of both, or of either, are -/
structure JoinP (A B : Rows) (e : Bool) (J : Rows) : Prop where
  st : Steps J
  ks : ∀ r ∈ J, ∀ m ∈ r, (∃ s, (step1 A s m.h m.c).isSome = true) ∨ ∃ s, (step1 B s m.h m.c).isSome = true
  lang : ∀ w, (ledN J 0 w).isSome = if e then (ledN A 0 w).isSome || (ledN B 0 w).isSome else (ledN A 0 w).isSome && (ledN B 0 w).isSome
  len : J.length ≤ (A.length + 1) * (B.length + 1)
  rl : ∀ r ∈ J, r.length ≤ 62
theorem live_led {A B : Rows} {e : Bool} {w : List Ky} : Live e (ledZ A w, ledZ B w) ↔ (if e then (ledN A 0 w).isSome || (ledN B 0 w).isSome else (ledN A 0 w).isSome && (ledN B 0 w).isSome) = true := by
  have h1 := stI_some (ledN A 0 w)
  have h2 := stI_some (ledN B 0 w)
  unfold Live ledZ
  simp only [ne_eq, Prod.mk.injEq] at h1 h2 ⊢
  cases e
  · simp only [Bool.false_eq_true, if_false, Bool.and_eq_true, false_or]
    rw [← h1, ← h2]
    exact ⟨fun h => h.2, fun h => ⟨fun z => h.1 z.1, h⟩⟩
  · simp only [if_true, Bool.or_eq_true, true_or, and_true]
    rw [← h1, ← h2, Classical.not_and_iff_not_or_not]
theorem JoinI.done {A B : Rows} {e : Bool} {L : List ZP} {F : Rows} (h : JoinI A B e L F) (done : F.length = L.length) (n : (A.length + 1) * (B.length + 1) ≤ 999) : JoinP A B e F := by
  have fw := h.few
  have at_ : ∀ r ∈ F, ∃ (i : Nat) (p : ZP), L[i]? = some p ∧ RowJ A B e L p (fun _ => True) r := fun r hr => by
    obtain ⟨i, hi⟩ := List.mem_iff_getElem?.mp hr
    have hl := (List.getElem?_eq_some_iff.mp hi).1
    obtain ⟨p, hp⟩ : ∃ p, L[i]? = some p := ⟨_, List.getElem?_eq_getElem (by omega)⟩
    exact ⟨i, p, hp, h.row i p r hp hi⟩
  have l0 := (List.getElem?_eq_some_iff.mp h.zero).1
  refine ⟨⟨⟨by omega, fun r hr m hm => ?_⟩, by omega, fun r hr => ?_, fun r hr => ?_⟩, fun r hr m hm => ?_, fun w => ?_, by omega, fun r hr => ?_⟩
  · obtain ⟨i, p, hp, rj⟩ := at_ r hr
    have := (List.getElem?_eq_some_iff.mp (rj.to m hm).2.2).1
    omega
  · obtain ⟨i, p, hp, rj⟩ := at_ r hr
    exact rj.pw
  · obtain ⟨i, p, hp, rj⟩ := at_ r hr
    exact Nat.le_trans rj.len (by decide)
  · obtain ⟨i, p, hp, rj⟩ := at_ r hr
    have hl := (rj.to m hm).2.1
    have one : ∀ (A : Rows) (s : Int), stepZ A s (m.h, m.c) ≠ -1 → ∃ s, (step1 A s m.h m.c).isSome = true := fun A s z => by
      unfold stepZ at z
      split at z
      · exact absurd rfl z
      · exact ⟨_, (stI_some _).mp z⟩
    by_cases h1 : stepZ A p.1 (m.h, m.c) = -1
    · exact .inr (one B p.2 fun h2 => hl.1 (Prod.ext h1 h2))
    · exact .inl (one A p.1 h1)
  · obtain ⟨g1, g2⟩ := h.led done w
    rw [Bool.eq_iff_iff, ← live_led]
    cases hw : ledN F 0 w with
    | none => simp only [Option.isSome_none, Bool.false_eq_true, false_iff]; exact g2 hw
    | some j =>
      simp only [Option.isSome_some, true_iff]
      exact (h.rng _ (List.mem_of_getElem? (g1 j hw))).2.2
  · obtain ⟨i, p, hp, rj⟩ := at_ r hr
    exact rj.len
end Pace
namespace Pace
open PySem PySem.Spec PyProof.Rows L2 DL
theorem RowJ.new {A B : Rows} {e : Bool} {L : List ZP} {p : ZP} {ls : List Ky} {r : List Mv} (h : RowJ A B e L p (· ∈ ls) r) {k : Ky} (hk : ∀ l ∈ ls, kLt l k = true) (j : Nat) :
    putD (r.map mvK) (kyK k) (.int (j : Int)) = (r ++ [(⟨k.1, k.2, j⟩ : Mv)]).map mvK := by
  have : valD (r.map mvK) (kyK k) = none := by
    show valD (r.map mvK) [.inr (sgn k.1), .inr (sgn k.2)] = none
    rw [val_mvK, Option.map_eq_none_iff, List.find?_eq_none]
    intro m hm e
    simp only [Bool.and_eq_true, beq_iff_eq] at e
    have h1 := (h.to m hm).1
    have e3 : ((m.h, m.c) : Ky) = k := Prod.ext e.1 e.2
    rw [e3] at h1
    have := hk k h1
    unfold kLt at this
    rw [decide_eq_true_eq] at this
    omega
  rw [put_new this, List.map_append]
  rfl
theorem sub_del {G G' : GH} (s : Sub G G') {f : Addr} (h : G f = none) : Sub G (gdel G' f) :=
  ⟨fun x o z => by rw [gdel_ne (fun e => by rw [e, h] at z; cases z)]; exact s.le x o z, fun c z => s.dc c (by
    by_cases e : c = f
    · rw [e, gdel_same] at z; cases z
    · rw [gdel_ne e] at z; exact z)⟩
end Pace
namespace Pace
open PySem PySem.Spec PyProof.Rows L2 DL
theorem JoinP.val {hs ws : List Nat} {rs rs' : Rows} (v : RulV hs ws rs) (v' : RulV hs ws rs') {e : Bool} {J : Rows} (j : JoinP rs rs' e J) : RulV hs ws J := by
  have key : ∀ {A : Rows} (v : RulV hs ws A) {s h c : Nat}, (step1 A s h c).isSome = true → h ∈ hs ∧ c ∈ ws := fun {A} v {s h c} z => by
    obtain ⟨t, ht⟩ := Option.isSome_iff_exists.mp z
    have := (step1_iff v.steps).mp ht
    unfold rowS at this
    rw [List.getD_eq_getElem?_getD] at this
    cases er : A[s]? with
    | none => rw [er] at this; cases this
    | some r =>
      rw [er] at this
      have := mv_in v (List.mem_of_getElem? er) this
      exact ⟨this.1, this.2.1⟩
  refine ⟨v.lh, v.lw, v.sh, v.sw, j.st.cl.1, j.st.n, fun r hr => ⟨?_, j.st.l r hr⟩⟩
  unfold rowB
  rw [Bool.and_eq_true, List.all_eq_true]
  refine ⟨fun m hm => ?_, nbr_of_pair (j.st.pw r hr)⟩
  have hk : m.h ∈ hs ∧ m.c ∈ ws := by
    rcases j.ks r hr m hm with ⟨s, z⟩ | ⟨s, z⟩
    · exact key v z
    · exact key v' z
  unfold mvB
  rw [Bool.and_eq_true, Bool.and_eq_true, decide_eq_true_eq, decide_eq_true_eq, decide_eq_true_eq]
  exact ⟨hk, j.st.cl.2 r hr m hm⟩
end Pace
end
section
set_option Elab.async false
set_option linter.all false
set_option maxRecDepth 100000
set_option maxHeartbeats 4000000
namespace Pace
open PySem PySem.Spec PyProof.Rows L2 DL
abbrev Wd := List Nat
def wd (x : Wd) : D := .str (strOf x)
theorem wd_le (a b : Wd) : D.le (wd a) (wd b) = !decide (b < a) := by
  show (!PySem.W.dataLt (.str (strOf b)) (.str (strOf a))) = _
  rw [PySem.W.dataLt_str]
  congr 1
theorem okS_wd (l : List Wd) : okS (l.map wd) = true := by
  unfold okS
  simp only [Bool.and_eq_true, Bool.or_eq_true, List.all_map, List.all_eq_true, Function.comp]
  refine ⟨⟨⟨?_, fun x _ y _ => rfl⟩, fun x _ => rfl⟩, .inr fun x _ => rfl⟩
  rw [D.pls_all]
  simp only [List.all_map, List.all_eq_true, Function.comp]
  exact fun x _ => rfl
theorem sort_wd_asc {l : List Wd} (h : l.Pairwise (· < ·)) : sortD (l.map wd) = l.map wd := by
  unfold sortD
  refine List.mergeSort_of_pairwise ?_
  rw [List.pairwise_map]
  refine h.imp fun {a b} h => ?_
  rw [wd_le]
  simp only [Bool.not_eq_true', decide_eq_false_iff_not]
  exact fun z => absurd (List.lt_trans h z) (List.lt_irrefl _)
def putsC (rs : Rows) (cs : Wd) : List Wd := (caps rs 0 cs).map (·.1)
theorem putsC_lt {rs : Rows} (o : Ordered rs) (cs : Wd) : (putsC rs cs).Pairwise (· < ·) := by
  unfold putsC
  rw [List.pairwise_map]
  exact caps_ordered o cs 0
theorem caps_all {rs : Rows} (st : Steps rs) : ∀ (cs q : Wd) (s t : Nat), q.length = cs.length → ledN rs s (cs.zip q) = some t → (q, t) ∈ caps rs s cs
  | [], [], s, t, _, h => by
    cases h
    simp [caps]
  | c :: cs, k :: q, s, t, hl, h => by
    rw [List.zip_cons_cons, ledN_step] at h
    obtain ⟨u, hu, h⟩ := Option.bind_eq_some_iff.mp h
    rw [caps_cons]
    have hm := (step1_iff st).mp hu
    refine List.mem_flatMap.mpr ⟨⟨c, k, u⟩, List.mem_filter.mpr ⟨hm, by simp⟩, List.mem_map.mpr ⟨(q, t), caps_all st cs q u t (by simpa using hl) h, rfl⟩⟩
theorem putsC_mem {rs : Rows} (st : Steps rs) {cs q : Wd} : q ∈ putsC rs cs ↔ q.length = cs.length ∧ (ledN rs 0 (cs.zip q)).isSome = true := by
  unfold putsC
  rw [List.mem_map]
  constructor
  · rintro ⟨x, hx, rfl⟩
    exact ⟨caps_word cs x hx, by rw [caps_ledN (fun r hr => st.pw r hr) cs 0 x hx]; rfl⟩
  · rintro ⟨h1, h2⟩
    obtain ⟨t, ht⟩ := Option.isSome_iff_exists.mp h2
    exact ⟨(q, t), caps_all st cs q 0 t h1 ht, rfl⟩
theorem putsC_nil {rs : Rows} {cs : Wd} : putsC rs cs = [] ↔ run rs [0] cs = [] := by
  unfold putsC
  rw [List.map_eq_nil_iff]
  constructor
  · intro h
    rw [List.eq_nil_iff_forall_not_mem]
    intro k hk
    have := (caps_run cs k).mpr hk
    rw [h] at this
    cases this
  · intro h
    rw [List.eq_nil_iff_forall_not_mem]
    intro x hx
    have := (caps_run cs x.2).mp (List.mem_map.mpr ⟨x, hx, rfl⟩)
    rw [h] at this
    cases this
end Pace
end
section
set_option Elab.async false
set_option linter.all false
set_option maxRecDepth 100000
set_option maxHeartbeats 4000000
namespace Pace
open PySem PySem.Spec PyProof.Rows L2 DL
theorem dist_app : ∀ {p q p' q' : List Nat}, p.length = q.length → distN (p ++ p') (q ++ q') = distN p q + distN p' q'
  | [], [], _, _, _ => by simp [distN]
  | [], _ :: _, _, _, h => by simp at h
  | _ :: _, [], _, _, h => by simp at h
  | x :: p, y :: q, p', q', h => by
    rw [List.cons_append, List.cons_append, distN, dist_app (by simpa using h), distN]
    omega
/-- a nearest right caption -/
def Best (A : Rows) (w : List Ky) (q : List Nat) : Prop := q.length = w.length ∧ (ledN A 0 ((w.map (·.1)).zip q)).isSome = true ∧ some (distN q (w.map (·.2))) = (restAl A w).getD 0 none
def FewS (A : Rows) (w : List Ky) (i c : Nat) : Prop := ∃ s m k x y, w[i]? = some k ∧ s < A.length ∧ m ∈ rowS A s ∧ m.h = k.1 ∧ m.c = c ∧ (rowAl A (w.take i)).getD s none = some x ∧ (restAl A (w.drop (i + 1))).getD m.t none = some y ∧ (restAl A w).getD 0 none = some (x + b2n (decide (m.c ≠ k.2)) + y)
theorem min_ex {o : Cost} {S : Nat → Prop} (h : IsMin o S) {n : Nat} (hn : S n) : ∃ m, o = some m ∧ S m ∧ m ≤ n := by
  cases o with
  | none => exact absurd hn (h n)
  | some m => exact ⟨m, rfl, h.1, h.2 n hn⟩
theorem cut_at {w : List Ky} {i : Nat} {k : Ky} (h : w[i]? = some k) : w = w.take i ++ k :: w.drop (i + 1) := by
  obtain ⟨hi, e⟩ := List.getElem?_eq_some_iff.mp h
  rw [← e]
  simp
theorem cut_atN {w : List Nat} {i : Nat} {k : Nat} (h : w[i]? = some k) : w = w.take i ++ k :: w.drop (i + 1) := by
  obtain ⟨hi, e⟩ := List.getElem?_eq_some_iff.mp h
  rw [← e]
  simp
/-- a way through a state and a move, put together -/
theorem way_join {A : Rows} (st : Steps A) {u v : List Ky} {k : Ky} {s x y : Nat} {m : Mv} (h1 : WayC A u s x) (hm : m ∈ rowS A s) (hh : m.h = k.1) (h2 : RightC A v m.t y) :
    ∃ q1 q2 : List Nat, q1.length = u.length ∧ q2.length = v.length ∧ (ledN A 0 (((u ++ k :: v).map (·.1)).zip (q1 ++ m.c :: q2))).isSome = true ∧ distN (q1 ++ m.c :: q2) ((u ++ k :: v).map (·.2)) = x + b2n (decide (m.c ≠ k.2)) + y := by
  obtain ⟨q1, l1, e1, d1⟩ := h1
  obtain ⟨q2, l2, e2, d2⟩ := h2
  refine ⟨q1, q2, l1, l2, ?_, ?_⟩
  · rw [List.map_append, List.zip_append (by rw [List.length_map, l1]), led_app, e1, Option.bind_some, List.map_cons, List.zip_cons_cons, ledN_step]
    have : step1 A s k.1 m.c = some m.t := (step1_iff st).mpr (by rw [← hh]; exact hm)
    rw [this]
    exact e2
  · rw [List.map_append, dist_app (by rw [List.length_map, l1]), List.map_cons, distN, d1, d2]
    omega
theorem few_best {A : Rows} (st : Steps A) {w : List Ky} {i c : Nat} (hi : i < w.length) : FewS A w i c ↔ ∃ q, Best A w q ∧ q[i]? = some c := by
  constructor
  · rintro ⟨s, m, k, x, y, hk, hs, hm, hh, rfl, hx, hy, hn⟩
    have a1 := rowAl_min st (w.take i) s hs
    rw [hx] at a1
    have a2 := restAl_min st (w.drop (i + 1)) m.t (st.cl.t hm)
    rw [hy] at a2
    obtain ⟨q1, q2, l1, l2, e, d⟩ := way_join st (k := k) a1.1 hm hh a2.1
    rw [← cut_at hk] at e d
    refine ⟨q1 ++ m.c :: q2, ⟨?_, e, by rw [hn, d]⟩, ?_⟩
    · rw [List.length_append, List.length_cons, l1, l2, List.length_take, List.length_drop]
      omega
    · have e1 : q1.length = i := by rw [l1, List.length_take]; omega
      rw [List.getElem?_append_right (by omega), e1, Nat.sub_self]
      rfl
  · rintro ⟨q, ⟨l, e, d⟩, hc⟩
    obtain ⟨k, hk⟩ : ∃ k, w[i]? = some k := ⟨_, List.getElem?_eq_getElem hi⟩
    have ew := cut_at hk
    have eq := cut_atN hc
    have l1 : (q.take i).length = (w.take i).length := by rw [List.length_take, List.length_take, l]
    have e' := e
    rw [ew, eq, List.map_append, List.zip_append (by rw [List.length_map, l1]), led_app, List.map_cons, List.zip_cons_cons] at e'
    cases hs : ledN A 0 (((w.take i).map (·.1)).zip (q.take i)) with
    | none => rw [hs] at e'; cases e'
    | some s =>
      rw [hs, Option.bind_some, ledN_step] at e'
      cases ht : step1 A s k.1 c with
      | none => rw [ht] at e'; cases e'
      | some t =>
        rw [ht, Option.bind_some] at e'
        have hm : (⟨k.1, c, t⟩ : Mv) ∈ rowS A s := (step1_iff st).mp ht
        have hsl : s < A.length := ledN_lt st.cl.2 st.cl.1 _ hs
        have w1 : WayC A (w.take i) s (distN (q.take i) ((w.take i).map (·.2))) := ⟨q.take i, l1, hs, rfl⟩
        have w2 : RightC A (w.drop (i + 1)) t (distN (q.drop (i + 1)) ((w.drop (i + 1)).map (·.2))) := ⟨q.drop (i + 1), by rw [List.length_drop, List.length_drop, l], e', rfl⟩
        obtain ⟨x, hx, hxs, hxl⟩ := min_ex (rowAl_min st (w.take i) s hsl) w1
        obtain ⟨y, hy, hys, hyl⟩ := min_ex (restAl_min st (w.drop (i + 1)) t (st.cl.t hm)) w2
        obtain ⟨q1, q2, m1, m2, f, g⟩ := way_join st (k := k) (m := ⟨k.1, c, t⟩) hxs hm rfl hys
        rw [← ew] at f g
        have dq : distN q (w.map (·.2)) = distN (q.take i) ((w.take i).map (·.2)) + (b2n (decide (c ≠ k.2)) + distN (q.drop (i + 1)) ((w.drop (i + 1)).map (·.2))) := by
          conv => lhs; rw [ew, eq, List.map_append, dist_app (by rw [List.length_map, l1]), List.map_cons, distN]
        have hmin := restAl_min st w 0 st.cl.1
        rw [← d] at hmin
        have low := hmin.2 _ ⟨q1 ++ c :: q2, by rw [List.length_append, List.length_cons, m1, m2, List.length_take, List.length_drop]; omega, f, g⟩
        refine ⟨s, ⟨k.1, c, t⟩, k, x, y, hk, hsl, hm, rfl, rfl, hx, hy, ?_⟩
        rw [← d]
        congr 1
        show _ = x + b2n (decide (c ≠ k.2)) + y
        have low' : distN q (w.map (·.2)) ≤ x + b2n (decide (c ≠ k.2)) + y := low
        omega
theorem best_mem {A : Rows} (st : Steps A) {p q v : List Nat} (pq : p.length = q.length) {n : Nat} (hn : (restAl A (p.zip q)).getD 0 none = some n) : (v ∈ putsC A p ∧ distN v q = n) ↔ Best A (p.zip q) v := by
  have e1 : (p.zip q).map (·.1) = p := List.map_fst_zip (by omega)
  have e2 : (p.zip q).map (·.2) = q := List.map_snd_zip (by omega)
  unfold Best
  rw [putsC_mem st, e1, e2, hn, List.length_zip]
  constructor
  · rintro ⟨⟨a, b⟩, c⟩
    exact ⟨by omega, b, by rw [c]⟩
  · rintro ⟨a, b, c⟩
    exact ⟨⟨by omega, b⟩, by cases c; rfl⟩
/-- the least of the distances -/
theorem dist_min {A : Rows} (st : Steps A) {p q : List Nat} (pq : p.length = q.length) {n : Nat} (hn : (restAl A (p.zip q)).getD 0 none = some n) : (∃ v ∈ putsC A p, distN v q = n) ∧ ∀ v ∈ putsC A p, n ≤ distN v q := by
  have e1 : (p.zip q).map (·.1) = p := List.map_fst_zip (by omega)
  have e2 : (p.zip q).map (·.2) = q := List.map_snd_zip (by omega)
  have h := restAl_min st (p.zip q) 0 st.cl.1
  rw [hn] at h
  obtain ⟨⟨v, h1, h2, h3⟩, h4⟩ := h
  rw [e1] at h2
  rw [e2] at h3
  rw [List.length_zip] at h1
  refine ⟨⟨v, (putsC_mem st).mpr ⟨by omega, h2⟩, h3⟩, fun u hu => ?_⟩
  obtain ⟨u1, u2⟩ := (putsC_mem st).mp hu
  exact h4 _ ⟨u, by rw [List.length_zip]; omega, by rw [e1]; exact u2, by rw [e2]⟩
theorem find_flat {α β : Type} (f : α → List β) (g : β → Bool) : ∀ l : List α, (l.flatMap f).find? g = l.findSome? fun x => (f x).find? g
  | [] => rfl
  | x :: l => by
    rw [List.flatMap_cons, List.find?_append, List.findSome?_cons, find_flat f g l]
    cases (f x).find? g <;> rfl
theorem findSome_filter {α β : Type} (r : α → Bool) (f : α → Option β) (q : α → Bool) (v : α → β) : ∀ l : List α, (∀ x ∈ l, q x = true → r x = true ∧ f x = some (v x)) → (∀ x ∈ l, r x = true → q x = false → f x = none) → (l.filter r).findSome? f = (l.find? q).map v
  | [], _, _ => rfl
  | x :: l, h1, h2 => by
    have ih := findSome_filter r f q v l (fun y hy => h1 y (List.mem_cons_of_mem _ hy)) (fun y hy => h2 y (List.mem_cons_of_mem _ hy))
    rw [List.find?_cons]
    cases e : q x with
    | true =>
      obtain ⟨a, b⟩ := h1 x (by simp) e
      rw [List.filter_cons_of_pos a, List.findSome?_cons, b]
      rfl
    | false =>
      cases er : r x with
      | true =>
        rw [List.filter_cons_of_pos er, List.findSome?_cons, h2 x (by simp) er e]
        exact ih
      | false =>
        rw [List.filter_cons_of_neg (by simp [er])]
        exact ih
theorem mend_first {A : Rows} (st : Steps A) : ∀ (p q : List Nat) (s n : Nat), p.length = q.length → s < A.length → (restAl A (p.zip q)).getD s none = some n →
    ((caps A s p).find? fun x => decide (distN x.1 q = n)).map (·.1) = some (mendW A (p.zip q) s)
  | [], [], s, n, _, hs, h => by
    have : (restAl A []).getD s none = some 0 := by
      unfold restAl
      rw [List.getD_eq_getElem?_getD, List.getElem?_replicate, if_pos hs]
      rfl
    rw [List.zip_nil_left, this] at h
    cases h
    rfl
  | c :: p, d :: q, s, n, pq, hs, h => by
    have pq' : p.length = q.length := by simpa using pq
    have e1 : (p.zip q).map (·.1) = p := List.map_fst_zip (by omega)
    have e2 : (p.zip q).map (·.2) = q := List.map_snd_zip (by omega)
    rw [List.zip_cons_cons] at h
    obtain ⟨m, x, hf, hm, hh, hx, hn⟩ := fit_some st hs h
    have em : mendW A ((c :: p).zip (d :: q)) s = m.c :: mendW A (p.zip q) m.t := by
      rw [List.zip_cons_cons, mendW, hf]
    rw [em, caps_cons, find_flat]
    have min_ := restM_min (restAl A (p.zip q)) (c, d) (rowS A s)
    have hr : restM (restAl A (p.zip q)) (c, d) (rowS A s) = some n := by rw [← restNx_at hs]; exact h
    rw [hr] at min_
    have inner : ∀ (m : Mv) (y : Nat), m ∈ rowS A s → m.h = c → (restAl A (p.zip q)).getD m.t none = some y → n = y + b2n (decide (m.c ≠ d)) →
        (((caps A m.t p).map fun y => (m.c :: y.1, y.2)).find? fun x => decide (distN x.1 (d :: q) = n)).map (·.1) = some (m.c :: mendW A (p.zip q) m.t) := fun m y hm hh hy hn => by
      have ih := mend_first st p q m.t y pq' (st.cl.t hm) hy
      rw [List.find?_map, Option.map_map]
      have ef : ((fun x : List Nat × Nat => decide (distN x.1 (d :: q) = n)) ∘ fun y : List Nat × Nat => (m.c :: y.1, y.2)) = fun x => decide (distN x.1 q = y) := by
        funext z
        show decide (distN (m.c :: z.1) (d :: q) = n) = _
        rw [distN, hn, Bool.eq_iff_iff, decide_eq_true_eq, decide_eq_true_eq]
        omega
      rw [ef]
      cases e : (caps A m.t p).find? fun x => decide (distN x.1 q = y) with
      | none => rw [e] at ih; cases ih
      | some z =>
        rw [e] at ih
        have : z.1 = mendW A (p.zip q) m.t := Option.some.inj ih
        show some (m.c :: z.1) = _
        rw [this]
    have out : ∀ (m : Mv), m ∈ rowS A s → m.h = c → fitM A (p.zip q) (c, d) s m = false → (((caps A m.t p).map fun y => (m.c :: y.1, y.2)).find? fun x => decide (distN x.1 (d :: q) = n)) = none := fun m hm hh hfit => by
      rw [List.find?_eq_none]
      intro z hz hdz
      obtain ⟨y, hy, rfl⟩ := List.mem_map.mp hz
      rw [decide_eq_true_eq, distN] at hdz
      have hy2 := caps_ledN (fun r hr => st.pw r hr) p m.t y hy
      have hyl := caps_word p y hy
      obtain ⟨x', hx', _, hxl⟩ := min_ex (restAl_min st (p.zip q) m.t (st.cl.t hm)) (n := distN y.1 q) ⟨y.1, by rw [List.length_zip]; omega, by rw [e1, hy2]; rfl, by rw [e2]⟩
      have low := min_.2 _ ⟨x', m, hm, hh, hx', rfl⟩
      have low' : n ≤ x' + b2n (decide (m.c ≠ d)) := low
      have : fitM A (p.zip q) (c, d) s m = true := by
        unfold fitM
        rw [hx', h]
        simp only [hh, decide_true, Bool.true_and, decide_eq_true_eq]
        congr 1
        show x' + b2n (decide (m.c ≠ d)) = n
        omega
      rw [this] at hfit
      cases hfit
    have key : ((movesAt A s c).findSome? fun m => ((caps A m.t p).map fun y => (m.c :: y.1, y.2)).find? fun x => decide (distN x.1 (d :: q) = n)) = ((rowS A s).find? (fitM A (p.zip q) (c, d) s)).bind fun m => ((caps A m.t p).map fun y => (m.c :: y.1, y.2)).find? fun x => decide (distN x.1 (d :: q) = n) := by
      rw [hf, Option.bind_some]
      obtain ⟨v, hv⟩ : ∃ v, (((caps A m.t p).map fun y => (m.c :: y.1, y.2)).find? fun x => decide (distN x.1 (d :: q) = n)) = some v := by
        have := inner m x hm hh hx hn
        cases e : ((caps A m.t p).map fun y => (m.c :: y.1, y.2)).find? fun x => decide (distN x.1 (d :: q) = n) with
        | none => rw [e] at this; cases this
        | some v => exact ⟨v, rfl⟩
      have := findSome_filter (fun m => m.h == c) (fun m => ((caps A m.t p).map fun y => (m.c :: y.1, y.2)).find? fun x => decide (distN x.1 (d :: q) = n)) (fitM A (p.zip q) (c, d) s)
        (fun m' => (((caps A m'.t p).map fun y => (m'.c :: y.1, y.2)).find? fun x => decide (distN x.1 (d :: q) = n)).getD v) (rowS A s) (fun m' hm' hq => ?_) (fun m' hm' hr hq => out m' hm' (by simpa using hr) hq)
      · rw [hf] at this
        exact this.trans (by rw [Option.map_some, hv]; rfl)
      · unfold fitM at hq
        rw [Bool.and_eq_true, decide_eq_true_eq] at hq
        obtain ⟨h1, h2⟩ := hq
        cases ey : (restAl A (p.zip q)).getD m'.t none with
        | none => rw [ey] at h2; cases h2
        | some y =>
          rw [ey, decide_eq_true_eq, h] at h2
          have hn' : n = y + b2n (decide (m'.c ≠ d)) := (Option.some.inj h2).symm
          have := inner m' y hm' h1 ey hn'
          refine ⟨by simpa using h1, ?_⟩
          cases e : ((caps A m'.t p).map fun y => (m'.c :: y.1, y.2)).find? fun x => decide (distN x.1 (d :: q) = n) with
          | none => rw [e] at this; cases this
          | some z => rfl
    rw [key, hf, Option.bind_some]
    exact inner m x hm hh hx hn
/-- the first of the nearest ones is what mended tells -/
theorem best_first {A : Rows} (st : Steps A) {p q : List Nat} (pq : p.length = q.length) {n : Nat} (hn : (restAl A (p.zip q)).getD 0 none = some n) : ∃ l, (putsC A p).filter (fun v => decide (distN v q = n)) = mendW A (p.zip q) 0 :: l := by
  have h := mend_first st p q 0 n pq st.cl.1 hn
  have e : ((putsC A p).filter fun v => decide (distN v q = n)).head? = some (mendW A (p.zip q) 0) := by
    rw [List.head?_filter]
    unfold putsC
    rw [List.find?_map]
    exact h
  cases el : (putsC A p).filter fun v => decide (distN v q = n) with
  | nil => rw [el] at e; cases e
  | cons a l =>
    rw [el] at e
    cases e
    exact ⟨l, rfl⟩
theorem mute_least {rs : Rows} {hs : List Nat} (tl : ∀ r ∈ rs, ∀ m ∈ r, m.t < rs.length) (so : hs.Pairwise (· < ·)) (h0 : 0 < rs.length) {p : List Nat} (hp : ∀ c ∈ p, c ∈ hs) (hm : run rs [0] p = []) : ∃ d, muteOf rs hs = some d ∧ (∀ c ∈ d, c ∈ hs) ∧ run rs [0] d = [] ∧ (d.length < p.length ∨ (d.length = p.length ∧ ¬ p < d)) := by
  cases e : muteOf rs hs with
  | none => exact absurd hm (mute_first tl so h0 p hp fun d hd => by rw [e] at hd; cases hd)
  | some d =>
    obtain ⟨q', c', eq', hc', hq', _, hr', _⟩ := muteOf_some tl h0 e
    refine ⟨d, rfl, fun c hc => ?_, hr', ?_⟩
    · rw [eq'] at hc
      rcases List.mem_append.mp hc with hc | hc
      · exact hq' c hc
      · rw [List.mem_singleton.mp hc]; exact hc'
    by_cases c1 : d.length < p.length
    · exact .inl c1
    · by_cases c2 : sl p d
      · exact absurd hm (mute_first tl so h0 p hp fun d' hd => by rw [e] at hd; cases hd; exact c2)
      · right
        unfold sl at c2
        refine ⟨?_, fun z => c2 (.inr ⟨?_, z⟩)⟩
        · by_cases c3 : p.length < d.length
          · exact absurd (.inl c3) c2
          · omega
        · by_cases c3 : p.length < d.length
          · exact absurd (.inl c3) c2
          · omega
end Pace
end
section
set_option Elab.async false
set_option linter.all false
set_option maxRecDepth 100000
set_option maxHeartbeats 4000000
namespace Pace
open PySem PySem.Spec PyProof.Rows L2 DL
theorem sl_app : ∀ (v : List Nat) {u w : List Nat}, sl u w → sl (u ++ v) (w ++ v)
  | [], u, w, h => by simpa using h
  | a :: v, u, w, h => by
    have := sl_app v (h.snoc a a)
    simpa using this
/-- what is kept: the lots seen, the rest of a layer, the later layer -/
structure MuI (rs : Rows) (hs : List Nat) (seen : List (List Nat)) (A B : List (List Nat × List Nat)) : Prop where
  rn : ∀ x ∈ A ++ B, x.2 = run rs [0] x.1 ∧ ∀ c ∈ x.1, c ∈ hs
  asc : (A ++ B).Pairwise fun x y => sl x.1 y.1
  par : ∀ y ∈ B, ∃ u h, y.1 = u ++ [h] ∧ ∀ x ∈ A, sl u x.1
  len : ∃ n, (∀ x ∈ A, x.1.length = n) ∧ ∀ y ∈ B, y.1.length = n + 1
  sn : ∀ l ∈ seen, ∃ u, l = run rs [0] u ∧ (∀ c ∈ u, c ∈ hs) ∧ ∀ x ∈ A ++ B, sl u x.1
  nd : seen.Nodup
  ll : ∀ x ∈ A ++ B, x.1.length ≤ seen.length
  bl : B.length ≤ hs.length * seen.length
  pre : ∀ p, muteOf rs hs = some p → ∃ x ∈ A ++ B, ∃ v, p = x.1 ++ v
theorem MuI.start {rs : Rows} {hs : List Nat} : MuI rs hs [] [([], [0])] [] where
  rn := fun x hx => by simp at hx; subst hx; exact ⟨rfl, by simp⟩
  asc := by simp
  par := fun y hy => by simp at hy
  len := ⟨0, fun x hx => by simp at hx; subst hx; rfl, fun y hy => by simp at hy⟩
  sn := fun l hl => by simp at hl
  nd := .nil
  ll := fun x hx => by simp at hx; subst hx; simp
  bl := by simp
  pre := fun p _ => ⟨([], [0]), by simp, p, rfl⟩
theorem MuI.turn {rs : Rows} {hs : List Nat} {seen : List (List Nat)} {B : List (List Nat × List Nat)} (h : MuI rs hs seen [] B) : MuI rs hs seen B [] := by
  obtain ⟨rn, asc, par, ⟨n, _, l2⟩, sn, nd, ll, bl, pre⟩ := h
  rw [List.nil_append] at rn asc ll
  refine ⟨by rw [List.append_nil]; exact rn, by rw [List.append_nil]; exact asc, fun y hy => (by simp at hy), ⟨n + 1, l2, fun y hy => (by simp at hy)⟩, fun l hl => ?_, nd, by rw [List.append_nil]; exact ll, by simp, fun p hp => ?_⟩
  · rw [List.append_nil]; exact sn l hl
  · rw [List.append_nil]; exact pre p hp
/-- the least mute speech -/
structure Leas (rs : Rows) (hs p : List Nat) : Prop where
  mem : ∀ c ∈ p, c ∈ hs
  mute : run rs [0] p = []
  least : ∀ q, (∀ c ∈ q, c ∈ hs) → run rs [0] q = [] → ¬ sl q p
theorem mute_leas {rs : Rows} {hs : List Nat} (tl : ∀ r ∈ rs, ∀ m ∈ r, m.t < rs.length) (so : hs.Pairwise (· < ·)) (h0 : 0 < rs.length) {p : List Nat} (h : muteOf rs hs = some p) : Leas rs hs p := by
  obtain ⟨q', c', eq', hc', hq', _, hr', _⟩ := muteOf_some tl h0 h
  refine ⟨fun c hc => ?_, hr', fun q hq hm hs' => ?_⟩
  · rw [eq'] at hc
    rcases List.mem_append.mp hc with hc | hc
    · exact hq' c hc
    · rw [List.mem_singleton.mp hc]; exact hc'
  · exact absurd hm (mute_first tl so h0 q hq fun d hd => by rw [h] at hd; cases hd; exact hs')
theorem MuI.found {rs : Rows} {hs : List Nat} {seen : List (List Nat)} {A B : List (List Nat × List Nat)} {u : List Nat} (tl : ∀ r ∈ rs, ∀ m ∈ r, m.t < rs.length) (so : hs.Pairwise (· < ·)) (h0 : 0 < rs.length) (h : MuI rs hs seen ((u, []) :: A) B) : muteOf rs hs = some u := by
  obtain ⟨r1, r2⟩ := h.rn (u, []) (by simp)
  obtain ⟨d, hd, hd2⟩ := mute_least tl so h0 r2 r1.symm
  obtain ⟨l1, l2, l3⟩ := mute_leas tl so h0 hd
  have nl := l3 u r2 r1.symm
  obtain ⟨x, hx, v, rfl⟩ := h.pre d hd
  rcases List.mem_cons.mp (by simpa using hx : x ∈ (u, []) :: (A ++ B)) with rfl | hx'
  · have : v = [] := by
      cases v with
      | nil => rfl
      | cons a v => exact absurd (.inl (by simp)) nl
    subst this
    simpa using hd
  · have a := h.asc
    rw [List.cons_append, List.pairwise_cons] at a
    have := a.1 x hx'
    exfalso
    apply nl
    by_cases hv : v = []
    · subst hv; simpa using this
    · left
      have : u.length ≤ x.1.length := by
        rcases this with h | h
        · have h' : u.length < x.1.length := h
          omega
        · exact Nat.le_of_eq h.1
      have : 0 < v.length := List.length_pos_iff.mpr hv
      rw [List.length_append]; omega
theorem MuI.none {rs : Rows} {hs : List Nat} {seen : List (List Nat)} (h : MuI rs hs seen [] []) : muteOf rs hs = none := by
  cases e : muteOf rs hs with
  | none => rfl
  | some p =>
    obtain ⟨x, hx, _⟩ := h.pre p e
    simp at hx
theorem MuI.again {rs : Rows} {hs : List Nat} {seen : List (List Nat)} {A B : List (List Nat × List Nat)} {u l : List Nat} (tl : ∀ r ∈ rs, ∀ m ∈ r, m.t < rs.length) (so : hs.Pairwise (· < ·)) (h0 : 0 < rs.length) (hl : l ∈ seen) (h : MuI rs hs seen ((u, l) :: A) B) : MuI rs hs seen A B := by
  obtain ⟨rn, asc, par, ⟨n, l1, l2⟩, sn, nd, ll, bl, pre⟩ := h
  rw [List.cons_append] at rn asc sn ll pre
  refine ⟨fun x hx => rn x (List.mem_cons_of_mem _ hx), (List.pairwise_cons.mp asc).2, fun y hy => ?_, ⟨n, fun x hx => l1 x (List.mem_cons_of_mem _ hx), l2⟩, fun l' hl' => ?_, nd, fun x hx => ll x (List.mem_cons_of_mem _ hx), bl, fun p hp => ?_⟩
  · obtain ⟨w, c, e, z⟩ := par y hy
    exact ⟨w, c, e, fun x hx => z x (List.mem_cons_of_mem _ hx)⟩
  · obtain ⟨w, e, m, z⟩ := sn l' hl'
    exact ⟨w, e, m, fun x hx => z x (List.mem_cons_of_mem _ hx)⟩
  · obtain ⟨x, hx, v, rfl⟩ := pre p hp
    rcases List.mem_cons.mp hx with rfl | hx
    · exfalso
      obtain ⟨m1, m2, m3⟩ := mute_leas tl so h0 hp
      obtain ⟨w, e, m, z⟩ := sn l hl
      have e1 := (rn (u, l) (by simp)).1
      have z1 := z (u, l) (by simp)
      refine m3 (w ++ v) (fun c hc => ?_) ?_ (sl_app v z1)
      · rcases List.mem_append.mp hc with hc | hc
        · exact m c hc
        · exact m1 c (by simp [hc])
      · rw [run_app, ← e]
        have e2 : l = run rs [0] u := e1
        rw [e2, ← run_app]
        exact m2
    · exact ⟨x, hx, v, rfl⟩
def kids (rs : Rows) (u l hs : List Nat) : List (List Nat × List Nat) := hs.map fun c => (u ++ [c], behind rs l c)
theorem MuI.fresh {rs : Rows} {hs : List Nat} {seen : List (List Nat)} {A B : List (List Nat × List Nat)} {u l : List Nat} (tl : ∀ r ∈ rs, ∀ m ∈ r, m.t < rs.length) (so : hs.Pairwise (· < ·)) (h0 : 0 < rs.length) (hl : l ∉ seen) (hne : l ≠ []) (h : MuI rs hs seen ((u, l) :: A) B) : MuI rs hs (seen ++ [l]) A (B ++ kids rs u l hs) := by
  obtain ⟨rn, asc, par, ⟨n, l1, l2⟩, sn, nd, ll, bl, pre⟩ := h
  rw [List.cons_append] at rn asc sn ll pre
  obtain ⟨e1, e2⟩ := rn (u, l) (by simp)
  obtain ⟨p1, p2⟩ := List.pairwise_cons.mp asc
  have un : u.length = n := l1 (u, l) (by simp)
  have kid : ∀ y, y ∈ kids rs u l hs → ∃ c ∈ hs, y = (u ++ [c], behind rs l c) := fun y hy => by
    obtain ⟨c, hc, rfl⟩ := List.mem_map.mp hy
    exact ⟨c, hc, rfl⟩
  have memA : ∀ x, x ∈ A ++ (B ++ kids rs u l hs) → x ∈ A ++ B ∨ x ∈ kids rs u l hs := fun x hx => by
    rw [← List.append_assoc] at hx
    exact List.mem_append.mp hx
  refine ⟨fun x hx => ?_, ?_, fun y hy => ?_, ⟨n, fun x hx => l1 x (List.mem_cons_of_mem _ hx), fun y hy => ?_⟩, fun l' hl' => ?_, ?_, fun x hx => ?_, ?_, fun p hp => ?_⟩
  · rcases memA x hx with hx | hx
    · exact rn x (List.mem_cons_of_mem _ hx)
    · obtain ⟨c, hc, rfl⟩ := kid x hx
      refine ⟨?_, fun d hd => ?_⟩
      · show behind rs l c = run rs [0] (u ++ [c])
        rw [run_snoc]
        have e3 : l = run rs [0] u := e1
        rw [← e3]
      · rcases List.mem_append.mp hd with hd | hd
        · exact e2 d hd
        · rw [List.mem_singleton.mp hd]; exact hc
  · rw [← List.append_assoc]
    refine List.pairwise_append.mpr ⟨p2, ?_, fun x hx y hy => ?_⟩
    · unfold kids
      rw [List.pairwise_map]
      exact so.imp fun h => sl.last h
    · obtain ⟨c, hc, rfl⟩ := kid y hy
      rcases List.mem_append.mp hx with hx | hx
      · left
        have := l1 x (List.mem_cons_of_mem _ hx)
        simp only [List.length_append, List.length_cons, List.length_nil]
        omega
      · obtain ⟨w, d, e, z⟩ := par x hx
        rw [e]
        exact (z (u, l) (by simp)).snoc d c
  · rcases List.mem_append.mp hy with hy | hy
    · obtain ⟨w, c, e, z⟩ := par y hy
      exact ⟨w, c, e, fun x hx => z x (List.mem_cons_of_mem _ hx)⟩
    · obtain ⟨c, hc, rfl⟩ := kid y hy
      exact ⟨u, c, rfl, fun x hx => p1 x (List.mem_append_left _ hx)⟩
  · rcases List.mem_append.mp hy with hy | hy
    · exact l2 y hy
    · obtain ⟨c, hc, rfl⟩ := kid y hy
      simp [un]
  · rcases List.mem_append.mp hl' with hl' | hl'
    · obtain ⟨w, e, m, z⟩ := sn l' hl'
      refine ⟨w, e, m, fun x hx => ?_⟩
      rcases memA x hx with hx | hx
      · exact z x (List.mem_cons_of_mem _ hx)
      · obtain ⟨c, hc, rfl⟩ := kid x hx
        exact (z (u, l) (by simp)).trans (sl_snoc u c)
    · rw [List.mem_singleton.mp hl']
      refine ⟨u, e1, e2, fun x hx => ?_⟩
      rcases memA x hx with hx | hx
      · exact p1 x hx
      · obtain ⟨c, hc, rfl⟩ := kid x hx
        exact sl_snoc u c
  · exact List.nodup_append.mpr ⟨nd, by simp, fun a ha b hb e => by rw [List.mem_singleton.mp hb] at e; subst e; exact hl ha⟩
  · rw [List.length_append, List.length_singleton]
    rcases memA x hx with hx | hx
    · have := ll x (List.mem_cons_of_mem _ hx); omega
    · obtain ⟨c, hc, rfl⟩ := kid x hx
      have := ll (u, l) (by simp)
      simp only [List.length_append, List.length_cons, List.length_nil] at this ⊢
      omega
  · rw [List.length_append, List.length_append, List.length_singleton, Nat.mul_add]
    unfold kids
    rw [List.length_map]
    omega
  · obtain ⟨x, hx, v, rfl⟩ := pre p hp
    rcases List.mem_cons.mp hx with rfl | hx
    · obtain ⟨m1, m2, m3⟩ := mute_leas tl so h0 hp
      cases v with
      | nil =>
        exfalso
        have e3 : l = run rs [0] u := e1
        apply hne
        rw [e3]
        simpa using m2
      | cons c v =>
        refine ⟨(u ++ [c], behind rs l c), ?_, v, by simp⟩
        rw [← List.append_assoc]
        exact List.mem_append_right _ (List.mem_map.mpr ⟨c, m1 c (by simp), rfl⟩)
    · refine ⟨x, ?_, v, rfl⟩
      rw [← List.append_assoc]
      exact List.mem_append_left _ hx
theorem MuI.seen_len {rs : Rows} {hs : List Nat} {seen : List (List Nat)} {A B : List (List Nat × List Nat)} (tl : ∀ r ∈ rs, ∀ m ∈ r, m.t < rs.length) (h0 : 0 < rs.length) (h : MuI rs hs seen A B) : seen.length ≤ 2 ^ rs.length :=
  sets_len h.nd fun l hl => by
    obtain ⟨u, rfl, _⟩ := h.sn l hl
    exact ⟨run_sorted u, run_lt tl (by simpa using h0)⟩
theorem MuI.lot {rs : Rows} {hs : List Nat} {seen : List (List Nat)} {A B : List (List Nat × List Nat)} {x : List Nat × List Nat} (tl : ∀ r ∈ rs, ∀ m ∈ r, m.t < rs.length) (h0 : 0 < rs.length) (h : MuI rs hs seen A B) (hx : x ∈ A ++ B) : x.2.Pairwise (· < ·) ∧ ∀ k ∈ x.2, k < rs.length := by
  rw [(h.rn x hx).1]
  exact ⟨run_sorted x.1, run_lt tl (by simpa using h0)⟩
end Pace
end
section
set_option Elab.async false
set_option linter.all false
set_option maxRecDepth 100000
set_option maxHeartbeats 4000000
namespace Pace
open PySem PySem.Spec PyProof.Rows L2 DL
theorem dseq_via {t u : DTS} {D' : DEnds} {S : DS} {G : GH} (P : DS → GH → Prop) (h1 : ∀ X : DS → GH → Prop, (∀ S' G', P S' G' → X S' G') → t { D' with nx := X } S G) (h2 : ∀ S' G', P S' G' → u D' S' G') : dSeq t u D' S G := h1 _ h2
theorem puts_in {hs ws : List Nat} {rs : Rows} (v : RulV hs ws rs) {cs q : Wd} (h : q ∈ putsC rs cs) : ∀ c ∈ q, c ∈ ws := by
  obtain ⟨hl, hs'⟩ := (putsC_mem v.steps).mp h
  obtain ⟨t, ht⟩ := Option.isSome_iff_exists.mp hs'
  intro c hc
  obtain ⟨i, hi, rfl⟩ := List.getElem_of_mem hc
  exact (ledN_in v _ ht (cs[i]'(by omega), q[i]) (by
    rw [List.mem_iff_getElem]
    exact ⟨i, by simp; omega, by simp⟩)).2
structure MuP (A : Rows) (hs : List Nat) (o : Option Wd) : Prop where
  has : ∀ d, o = some d → (∀ c ∈ d, c ∈ hs) ∧ putsC A d = []
  first : ∀ p : Wd, (∀ c ∈ p, c ∈ hs) → putsC A p = [] → ∃ d, o = some d ∧ ¬ sl p d
def muKey : Option Wd → D
  | none => .non
  | some d => .tup [.int (d.length : Nat), wd d]
theorem MuP.le {A B : Rows} {hs : List Nat} {a b : Option Wd} (ma : MuP A hs a) (mb : MuP B hs b) (sub : ∀ p, putsC A p = [] → putsC B p = []) {d : Wd} (h : a = some d) : ∃ e, b = some e ∧ D.lt (muKey a) (muKey b) = false := by
  subst h
  obtain ⟨h1, h2⟩ := ma.has d rfl
  obtain ⟨e, he, hn⟩ := mb.first d h1 (sub d h2)
  subst he
  refine ⟨e, rfl, ?_⟩
  cases z : D.lt (muKey (some d)) (muKey (some e)) with
  | false => rfl
  | true => exact absurd (sl_of_lt z) hn
end Pace
end
section
set_option Elab.async false
set_option linter.all false
set_option maxRecDepth 100000
set_option maxHeartbeats 4000000
namespace DL
open PySem PySem.Spec PyProof.Rows L2
section
variable {X : Cx} {pos : Pos}
theorem cr_sortKeysS (hc : X.calm = true) : CallR X (.builtin "sorted") (fun vs H Q => ∃ (a : Addr) (kvs : List (Key × V)) (xs : List Str), vs = [.ref a] ∧ Rd H a (.dK kvs) ∧ kvs.map (·.1) = xs.map Sum.inr ∧ xs.length < 100000 ∧
    ∀ (ys : List Str) (p : Addr), ys.Perm xs → sortedS ys = true → H p = none → Q (.ref p) (upd H p (.lst (ys.map V.str)))) := by
  intro pins s σ H vs us Q I r h
  obtain ⟨a, kvs, xs, rfl, hd, hk, hz, q⟩ := h
  rw [Vals.ref1 r]
  obtain ⟨z, lo, ws, rel, dd⟩ := dk_rd I.hok hd
  obtain ⟨ep, hat⟩ := dd.dictAt
  have wk : ws.map (·.1) = xs.map Sum.inr := rel.keys.symm.trans hk
  have wl : ws.length = xs.length := by simpa using congrArg List.length wk
  have big : 100000 < sizeLine := by rw [sizeLine_eq]; omega
  refine Calls.call_function_entry PyProof.Rows.kind_sorted PyProof.Rows.plain_sorted PyProof.Rows.entry_sorted (PyProof.Rows.args_sorted1 _) ?_
  unfold Builtin.«sorted»
  refine wpAny_bind (m := checkCount "sorted" 1 1 _) (wpAny_pure ?_)
  refine wpAny_bind (PySem.W.kdu_collect (A := X.A.in1) (PySem.W.kdl_dict (knd := mixKind X.prog X.w) (kvs := ws) (ep := ep) lo) (I.ok.hd hc) hat (by omega) fun h' tk acc hs hacc => ?_)
  have al : acc.toList.length = xs.length := by rw [Array.length_toList, hacc.1, wl]
  have at_ : ∀ (j : Nat) (v : Value), acc.toList[j]? = some v → ∃ x t, xs[j]? = some x ∧ v = .str x t := fun j v e => by
    obtain ⟨k, x, e1, e2⟩ := hacc.2 j v (by rw [← Array.getElem?_toList]; exact e)
    have e3 : (xs.map (Sum.inr (α := Int)))[j]? = some k := by rw [← wk, List.getElem?_map, e1]; rfl
    obtain ⟨n, e4, rfl⟩ : ∃ n, xs[j]? = some n ∧ Sum.inr n = k := by
      rw [List.getElem?_map] at e3
      cases e4 : xs[j]? with
      | none => rw [e4] at e3; cases e3
      | some n => rw [e4] at e3; exact ⟨n, rfl, by simpa using e3⟩
    rcases keyIs_shape (show keyIs (Sum.inr n) v = true from e2) with ⟨i, t, ek, ev⟩ | ⟨y, t, ek, ev⟩
    · cases ek
    · cases ek
      exact ⟨n, t, e4, ev⟩
  have x1 : StrsAre acc.toList xs := by
    have all : ∀ v ∈ acc.toList, ∃ k tk, v = Value.str k tk := fun v hv => by
      obtain ⟨j, hj⟩ := List.mem_iff_getElem?.mp hv
      obtain ⟨x, t, _, rfl⟩ := at_ j v hj
      exact ⟨_, _, rfl⟩
    have s := strs_of acc.toList all
    have e : (acc.toList.map fun v => tkey (0, v)) = xs := by
      refine List.ext_getElem? fun j => ?_
      rw [List.getElem?_map]
      cases ev : acc.toList[j]? with
      | some v =>
        obtain ⟨x, t, hx, rfl⟩ := at_ j v ev
        rw [hx]
        rfl
      | none =>
        have := List.getElem?_eq_none_iff.mp ev
        rw [List.getElem?_eq_none (by omega)]
        rfl
    rw [e] at s
    exact s
  have x3 : acc.toList.length ≤ sizeLine := by rw [al]; omega
  have I1 : Inv X pins σ H { s with heap := h', toks := tk } := I.kept hs
  refine wpAny_bind (wpAny_newList ?_ x3)
  have atL : (h'.push (seqObj "list" acc.toList.toArray 0)).get? h'.objs.size = some (seqObj "list" acc.toList.toArray 0) := Heap.get?_push_size _ rfl
  show wpAny _ _ _ _ _ { s with heap := h'.push (seqObj "list" acc.toList.toArray 0), toks := tk }
  refine wpAny_bind (wpAny_holding (wpAny_call_entry slot_list_sort ⟨_, atL, rfl⟩ entry_list_sort (list_sort_treeKAny (s := { s with heap := h'.push (seqObj "list" acc.toList.toArray 0), toks := tk }) strKind_oneLt atL x1.keysOf (fun v₁ v₂ rest e => keyKind_strs (by rw [← e]; exact x1)) x3 fun st' hp hs => ⟨_, rfl, ?_⟩) (args_list_sort _)))
  obtain ⟨ys, y1, y2, y3⟩ := sorted_out_str x1 hp hs
  obtain ⟨e', he'⟩ := sortedHeap_at (vs := acc.toList) (out := (arrOf st').map (·.2)) atL
  refine wpAny_pure ⟨_, rfl, .ref h'.objs.size, upd H h'.objs.size (.lst (ys.map V.str)), I1.laid (t' := tk) (fun b u e => ?_) (Nat.le_refl _)
    (show ObjOk X.prog X.w _ _ _ (.lst (ys.map V.str)) from ⟨by rw [List.length_map, y2.length_eq]; omega, _, e', vals_of_strs y1, he'⟩), rfl, q ys _ y2 y3 (I1.hok.fresh (Nat.le_refl _))⟩
  have hb : b < h'.objs.size := Heap.lt_size e
  rw [PyProof.Rows.sortedHeap_old (Nat.ne_of_lt hb) (by rw [size_push']; exact Nat.lt_succ_of_lt hb)]
  exact Heap.get?_push_of_some _ e
def strKeys : List (Key × D) → Option (List Str)
  | [] => some []
  | (.inr x, _) :: r => (strKeys r).map (x :: ·)
  | _ => none
theorem strKeys_map : ∀ {kds : List (Key × D)} {xs : List Str}, strKeys kds = some xs → kds.map (·.1) = xs.map Sum.inr
  | [], xs, h => by cases h; rfl
  | (.inr x, d) :: r, xs, h => by
    unfold strKeys at h
    obtain ⟨ys, hy, rfl⟩ := Option.map_eq_some_iff.mp h
    simp [strKeys_map hy]
  | (.inl i, d) :: r, xs, h => by cases h
def rSortY (ds : List D) (G : GH) (Q : DQ) : Prop := match ds with
  | [d] => (match d.cur G with
    | .dK kds => (match strKeys kds with
      | some xs => xs.length < 100000 ∧ ∀ ys : List Str, ys.Perm xs → sortedS ys = true → Q (.lst (ys.map .str)) G
      | none => False)
    | _ => False)
  | _ => False
theorem cd_sortY (hc : X.calm = true) : CallD X (.builtin "sorted") rSortY := by
  refine ⟨_, cr_sortKeysS hc, fun F H G vs ds g rs Q' h Q k => ?_⟩
  unfold rSortY at h
  split at h
  · rename_i d
    cases rs with
    | cons r b =>
      cases b
      split at h
      · rename_i kds ex
        split at h
        · rename_i xs en
          obtain ⟨a, kvs, rfl, ha, kr⟩ := cur_dK g r ex
          refine ⟨a, kvs, xs, rfl, .inl ha, by rw [kr.ks, strKeys_map en], h.1, fun ys p h1 h2 hp => ?_⟩
          have gr := Gr.new (u := .lst (ys.map V.str)) g.ex hp
          exact k _ _ _ _ G gr.go (g.grow gr) (.lst upd_same (Reps.strs _)) (h.2 ys h1 h2)
        · exact h.elim
      · exact h.elim
  · exact h.elim
end
end DL
end
section
set_option Elab.async false
set_option linter.all false
set_option maxRecDepth 100000
set_option maxHeartbeats 4000000
namespace DL
open PySem PySem.Spec PyProof.Rows L2 PySem.W
section
variable {X : Cx}
theorem depth_ints (ns : List Int) : PyData.depthAll (ns.map PyData.int) = 0 := by
  induction ns with
  | nil => rfl
  | cons n ns ih => simp [PyData.depthAll, PyData.depth, ih]
theorem alike_allI (ns : List Int) : AlikeAll (ns.map PyData.int) := by
  refine ⟨fun x hx y hy => ?_, fun x hx e => ?_⟩
  · obtain ⟨a, _, rfl⟩ := List.mem_map.mp hx
    obtain ⟨b, _, rfl⟩ := List.mem_map.mp hy
    rfl
  · obtain ⟨a, _, rfl⟩ := List.mem_map.mp hx
    cases e
def rBestN (K : PySem.W.Frag) (f : Int → Int → Int) : List V → List V → Hp → VK → Prop := fun vs zs H Q => ∃ (a : Addr) (ns : List Int), vs = [V.ref a] ∧ zs = [V.non] ∧ SqL K H a (ns.map V.int) ∧ (ns = [] → Q .non H) ∧ ∀ n r, ns = n :: r → Q (.int (r.foldl f n)) H
theorem crk_minN (hu : X.A.units + 100 < cLine) (hc : X.calm = true) : CallRK X (.builtin "min") [Str.ofString "default"] (rBestN X.K min) := by
  intro pins s σ H xs zs us ws Q I r rz h
  obtain ⟨a, ns, rfl, rfl, hs, q0, q1⟩ := h
  obtain ⟨its, rv, hl2, _⟩ := I.list hs
  rw [Vals.ref1 r]
  cases rz with
  | cons rk rr =>
    cases rr
    obtain rfl : _ = Value.none := rk
    have hi := rv.ints
    show wpAny (model X.prog X.w) X.A (call (.builtin "min") [.ref a] [(Str.ofString "default", Value.none)]) _ _ s
    refine min_list_default (vs := its.toArray) (xs := ns.map PyData.int) (as := []) (I.ok.hd hc) hl2.isList (by simpa using ints_readAll s.heap hi) (alike_allI ns) (by rw [depth_ints]; omega) (fun e h' tk old => ?_) (fun y ys i v h' tk bs e hv rd old => ?_)
    · exact ⟨.non, H, I.kept old, rfl, q0 (List.map_eq_nil_iff.mp e)⟩
    · cases ns with
      | nil => cases e
      | cons n r =>
        simp only [List.map_cons, List.cons.injEq] at e
        obtain ⟨rfl, rfl⟩ := e
        rw [minD_ints] at rd
        cases rd
        exact ⟨.int _, H, I.kept old, ⟨_, rfl⟩, q1 n r rfl⟩
def rBestND (f : Int → Int → Int) (ds : List D) (G : GH) (Q : DQ) : Prop := match ds with
  | [d] => (match d.cur G with
    | .lst xs => (match intsD xs with
      | some [] => Q .non G
      | some (n :: r) => Q (.int (r.foldl f n)) G
      | none => False)
    | _ => False)
  | _ => False
variable {pos : Pos}
theorem de_bestN {id : String} {x : Str} {f : Int → Int → Int} {e : Expr} {ta : DTA} {p kpos cpos : Pos} {jj} (cr : CallRK X (.builtin id) [Str.ofString "default"] (rBestN X.K f)) (hg : Gl X x) (hm : X.mg x = none) (hv : bootBuiltins x = some (.builtin id)) (ha : DA X [e] ta)
    (hn : x ≠ "__name__" := by decide) (hdb : (x == ("__debug__" : Str)) = false := by decide)
    (he : backTo pos (starEach (e :: []) X.env) = (false, eval e X.env) :: backTo pos (starEach [] X.env) := by rfl) (hpl : (backTo pos (starEach (e :: []) X.env)).any (·.1) = false := by rfl) :
    DE X (.Call (.Name x p) [e] [⟨some "default", .Constant .none jj cpos, kpos⟩] pos) (dCB (rBestND f) ta) := by
  obtain ⟨t, p1, r⟩ := ha.ex
  refine ⟨_, pe_callBK cr hg hm hv p1 (pk_cons pe_non pk_nil) hn hdb he hpl, fun F H σ S G o Q' h Q k => ?_⟩
  refine r F H σ S G o _ h _ fun F1 H1 vs ds G1 e1 g1 q1 h1 => ?_
  show rBestN X.K f vs [V.non] H1 Q
  have h1 : rBestND f ds G1 Q' := h1
  unfold rBestND at h1
  split at h1
  · rename_i d
    split at h1
    · rename_i xs ex
      split at h1
      · rename_i en
        cases q1 with
        | cons a b =>
          cases b
          obtain ⟨q, us, rfl, hp, ru⟩ := cur_list g1 a ex
          rw [intsD_rep en ru] at hp
          exact ⟨q, [], rfl, rfl, .inl (.inl hp), fun _ => k F1 H1 .non .non G1 e1 g1 .non h1, fun n r z => by cases z⟩
      · rename_i n r en
        cases q1 with
        | cons a b =>
          cases b
          obtain ⟨q, us, rfl, hp, ru⟩ := cur_list g1 a ex
          rw [intsD_rep en ru] at hp
          refine ⟨q, n :: r, rfl, rfl, .inl (.inl hp), fun z => (by cases z), fun n' r' z => ?_⟩
          cases z
          exact k F1 H1 _ _ G1 e1 g1 (.int _) h1
      · exact h1.elim
    · exact h1.elim
  · exact h1.elim
theorem x_intB (b : Bool) (G : GH) (Q : DQ) : rIntC [.bl b] G Q = Q (.int (if b then 1 else 0)) G := rfl
end
end DL
end
section
set_option Elab.async false
set_option linter.all false
set_option maxRecDepth 100000
set_option maxHeartbeats 4000000
namespace DL
open PySem PySem.Spec PyProof.Rows L2
def hatI (K : PySem.W.Frag) (wi : DTI) : TI := fun σ H R => ∃ F S G R', Ok K F H σ S G ∧ wi S G R' ∧ ∀ F1 H1 G1 J ds gd, Go F H G F1 H1 G1 → Gok K F1 H1 G1 → ItOk K F1 J ds gd → R' ds gd G1 → R J H1
theorem DI.hat {X : Cx} {tg iter : Expr} {wi : DTI} (h : DI X tg iter wi) : PI X tg iter (hatI X.K wi) := by
  obtain ⟨t, p, r⟩ := h.ex
  exact ⟨fun pins s σ H R I ⟨F, S, G, R', o, h1, k⟩ => p.run pins s σ H R I (r F H σ S G o R' h1 R k)⟩
/-- the list under way -/
structure AccL (K : PySem.W.Frag) (F1 H1 : Hp) (G1 : GH) (A : Addr) (F2 H2 : Hp) (G2 : GH) (accV : List V) (acc : List D) : Prop where
  go : Go F1 H1 G1 F2 H2 G2
  ok : Gok K F2 H2 G2
  at_ : H2 A = some (.lst accV)
  rs : Reps K F2 accV acc
  fn : F2 A = none
  gn : G2 A = none
theorem AccL.on {K : PySem.W.Frag} {F1 H1 : Hp} {G1 : GH} {A : Addr} {F2 H2 : Hp} {G2 : GH} {accV : List V} {acc : List D} (a : AccL K F1 H1 G1 A F2 H2 G2 accV acc) {F3 H3 : Hp} {G3 : GH} (e : Go F2 H2 G2 F3 H3 G3) (g : Gok K F3 H3 G3) : AccL K F1 H1 G1 A F3 H3 G3 accV acc :=
  ⟨a.go.trans e, g, (e.fr A _ a.at_ a.gn).1, a.rs.mono e.ex, e.no A _ a.at_ a.gn a.fn (fun _ z => nomatch z), (e.fr A _ a.at_ a.gn).2⟩
theorem AccL.push {K : PySem.W.Frag} {F1 H1 : Hp} {G1 : GH} {A : Addr} {F2 H2 : Hp} {G2 : GH} {accV : List V} {acc : List D} (a : AccL K F1 H1 G1 A F2 H2 G2 accV acc) (hA : H1 A = none) {y : V} {d : D} (r : Rep K F2 y d) : AccL K F1 H1 G1 A F2 (upd H2 A (.lst (accV ++ [y]))) G2 (accV ++ [y]) (acc ++ [d]) := by
  obtain ⟨go, g6, at_, rs, fd6, gn⟩ := a
  refine ⟨⟨go.ex, fun b u hb gb => ?_, go.no, fun b z => go.st b (upd_none z)⟩, ⟨g6.ex.updR fd6, fun c w hc => ?_, g6.one⟩, upd_same, rs.append (.one r), fd6, gn⟩
  · have q : b ≠ A := fun z => by rw [z, hA] at hb; cases hb
    rw [upd_ne q]
    exact go.fr b u hb gb
  · have q : c ≠ A := fun z => by rw [z, gn] at hc; cases hc
    obtain ⟨fa, ma⟩ := g6.at_ c w hc
    refine ⟨fa, ma.move (Ex.refl F2) (fun b u hb hc2 => ?_) fun c z => z⟩
    have q2 : b ≠ A := fun z => by
      rcases hc2 with hc2 | hc2
      · exact q (hc2 ▸ z)
      · rw [z, gn] at hc2; cases hc2
    rw [upd_ne q2]; exact hb
end DL
end
section
set_option Elab.async false
set_option linter.all false
set_option maxRecDepth 100000
set_option maxHeartbeats 4000000
namespace DL
open PySem PySem.Spec PyProof.Rows L2
theorem tup_mul_one (l : Addr) (items : Array Value) (n : Nat) (dd : Option Addr) (sl : Array (Option Value)) (u : Tok) :
    Meets (Builtin.«tuple.__mul__» ⟨[.ref l, .int 1 u], []⟩) (fun _ R s => s.heap.get? l = some { cls := .type "tuple", dict := dd, data := .seq items n, slots := sl } ∧ R (.ok (.ret (Value.ref l))) s) :=
  .of_wp fun prog w A R s h => by
    obtain ⟨hp, g, d, tk, os⟩ := s
    obtain ⟨hl, h⟩ := h
    have f1 := AutoSeq1.idx_int
    have c0 : (decide ((1 : Int) < -(2 ^ 63)) || decide ((1 : Int) ≥ 2 ^ 63)) = false := by decide
    have c1 : (items.isEmpty || (1 : Int) == 1) = true := by simp
    wp_walk using wpAny_loadPart' hl
    repeat (first
      | (refine wpAny_ite_false (decide_eq_false (by rw [c0]; exact Bool.false_ne_true)) ?_; wp_walk using wpAny_loadPart' hl)
      | (refine wpAny_ite_true (decide_eq_true c1) ?_; wp_walk using wpAny_loadPart' hl))
    exact ⟨_, rfl, h⟩
theorem tup_mul_zero (l : Addr) (items : Array Value) (n : Nat) (dd : Option Addr) (sl : Array (Option Value)) (u : Tok) (hne : items.isEmpty = false) :
    Meets (Builtin.«tuple.__mul__» ⟨[.ref l, .int 0 u], []⟩) (fun _ R s => s.heap.get? l = some { cls := .type "tuple", dict := dd, data := .seq items n, slots := sl } ∧ R (.ok (.ret (Value.ref s.heap.objs.size))) { s with heap := s.heap.push { cls := Value.type "tuple", data := Data.seq #[] }, toks := s.toks }) :=
  .of_wp fun prog w A R s h => by
    obtain ⟨hp, g, d, tk, os⟩ := s
    obtain ⟨hl, h⟩ := h
    have f1 := AutoSeq1.idx_int
    have c0 : (decide ((0 : Int) < -(2 ^ 63)) || decide ((0 : Int) ≥ 2 ^ 63)) = false := by decide
    have c1 : (items.isEmpty || (0 : Int) == 1) = false := by rw [hne]; decide
    have c2 : (decide ((0 : Int) ≤ 0) || items.isEmpty) = true := by simp
    wp_walk using wpAny_loadPart' hl
    repeat (first
      | (refine wpAny_ite_false (decide_eq_false (by rw [c0]; exact Bool.false_ne_true)) ?_; wp_walk using wpAny_loadPart' hl)
      | (refine wpAny_ite_false (decide_eq_false (by rw [c1]; exact Bool.false_ne_true)) ?_; wp_walk using wpAny_loadPart' hl)
      | (refine wpAny_ite_true (decide_eq_true c2) ?_; wp_walk using wpAny_loadPart' hl))
    exact ⟨_, rfl, h⟩
section
variable {X : Cx}
def rRepZ (K : PySem.W.Frag) : R2 := fun x y H Q => ∃ l xs, x = .ref l ∧ SqT K H l xs ∧ xs ≠ [] ∧ ((y = .int 1 ∧ Q (.ref l) H) ∨ (y = .int 0 ∧ ∀ p, H p = none → Q (.ref p) (upd H p (.tup []))))
theorem op_repZ : OpR X (binaryOp .Mult) (rRepZ X.K) := by
  intro pins s σ H x y v u Q I rx ry h
  obtain ⟨l, xs, rfl, hT, hne, h⟩ := h
  cases rx
  obtain ⟨its, r, ⟨⟨cls, dd, data, sl⟩, ho, hc, n, hd⟩, hs⟩ := I.tuple hT
  simp only at hc hd
  subst hc hd
  have hle : its.length = xs.length := r.length.symm
  have hi : its.toArray.isEmpty = false := by
    cases its with
    | nil => exact absurd (List.eq_nil_of_length_eq_zero hle.symm) hne
    | cons a b => rfl
  rcases h with ⟨rfl, q⟩ | ⟨rfl, q⟩
  · obtain ⟨t, rfl⟩ := ry
    refine wpAny_binaryOp_repeat_ref (T := "tuple") (U := "int") (by decide) ⟨_, ho, rfl⟩ (fun s' => typeIs_int s' 1 t) noFill_tuple_mul F.fills_int_mul F.slot_int_rmul repeat_tuple F.slot_int_index.lookup
      (call_meets F.slot_int_rmul (typeIs_int s 1 t) F.entry_int_rmul (F.args_int_rmul_2 _ _) (int_rmul_tuple 1 t l its.toArray n dd sl)
        ⟨ho, rfl, ⟨_, ho, rfl⟩, call_meets F.slot_tuple_mul ⟨_, ho, rfl⟩ F.entry_tuple_mul (F.args_tuple_mul_2 _ _) (tup_mul_one l its.toArray n dd sl t) ⟨ho, ?_⟩⟩)
    exact ⟨.ref l, H, I, rfl, q⟩
  · obtain ⟨t, rfl⟩ := ry
    refine wpAny_binaryOp_repeat_ref (T := "tuple") (U := "int") (by decide) ⟨_, ho, rfl⟩ (fun s' => typeIs_int s' 0 t) noFill_tuple_mul F.fills_int_mul F.slot_int_rmul repeat_tuple F.slot_int_index.lookup
      (call_meets F.slot_int_rmul (typeIs_int s 0 t) F.entry_int_rmul (F.args_int_rmul_2 _ _) (int_rmul_tuple 0 t l its.toArray n dd sl)
        ⟨ho, rfl, ⟨_, ho, rfl⟩, call_meets F.slot_tuple_mul ⟨_, ho, rfl⟩ F.entry_tuple_mul (F.args_tuple_mul_2 _ _) (tup_mul_zero l its.toArray n dd sl t hi) ⟨ho, ?_⟩⟩)
    refine ⟨.ref s.heap.objs.size, _, I.laid (t' := s.toks) (o := .tup []) (fun b ob q => Heap.get?_push_of_some _ q) (Nat.le_refl _) ?_, rfl, q _ (I.hok.fresh (Nat.le_refl _))⟩
    exact ⟨Nat.zero_le _, [], .nil, IsTup.new _ _⟩
/-- a tuple times a number from 0 on -/
def rMulT0 : DR2 := fun x y G Q => match x, y with
  | .tup xs, .int n => xs ≠ [] ∧ 0 ≤ n ∧ n ≤ 1000 ∧ xs.length ≤ 1000 ∧ Q (.tup (List.replicate n.toNat xs).flatten) G
  | _, _ => False
theorem od_mulT0 : OpD X (binaryOp .Mult) rMulT0 := by
  refine ⟨fun x y H Q => rRepT X.K x y H Q ∨ rRepZ X.K x y H Q, fun pins s σ H x y v u Q I rx ry h => h.elim (op_repT pins s σ H x y v u Q I rx ry) (op_repZ pins s σ H x y v u Q I rx ry), fun F H G x y dx dy g rx ry Q' h Q k => ?_⟩
  unfold rMulT0 at h
  split at h
  · rename_i xs n
    cases rx with
    | tup ha rs =>
      rename_i a vs
      have ra := ha
      cases ry
      obtain ⟨h1, h2, h3, h4, h5⟩ := h
      have hl := rs.length
      have hne : vs ≠ [] := fun z => h1 (by subst z; cases rs; rfl)
      by_cases n2 : 2 ≤ n
      · refine .inl ⟨_, _, vs, rfl, rfl, .inl (.inl (g.ex _ _ ha)), hne, n2, h3, by omega, fun p hp => ?_⟩
        have gr := Gr.new (u := .tup (List.replicate n.toNat vs).flatten) g.ex hp
        exact k _ _ _ _ G gr.go (g.grow gr) (.tup upd_same ((rs.mono gr.ff).repN _)) h5
      · by_cases n1 : n = 1
        · subst n1
          have e1 : (List.replicate (1 : Int).toNat xs).flatten = xs := by simp
          rw [e1] at h5
          refine .inr ⟨_, vs, rfl, .inl (.inl (g.ex _ _ ha)), hne, .inl ⟨rfl, ?_⟩⟩
          exact k _ _ _ _ G Go.refl g (.tup ra rs) h5
        · obtain rfl : n = 0 := by omega
          refine .inr ⟨_, vs, rfl, .inl (.inl (g.ex _ _ ha)), hne, .inr ⟨rfl, fun p hp => ?_⟩⟩
          have gr := Gr.new (u := .tup []) g.ex hp
          exact k _ _ _ _ G gr.go (g.grow gr) (.tup upd_same .nil) h5
  · exact h.elim
end
end DL
end
section
set_option Elab.async false
set_option linter.all false
set_option maxRecDepth 100000
set_option maxHeartbeats 4000000
namespace DL
open PySem PySem.Spec PyProof.Rows L2
end DL
end
section
set_option Elab.async false
set_option linter.all false
set_option maxRecDepth 100000
set_option maxHeartbeats 4000000
namespace Pace
open PySem PySem.Spec PyProof.Rows L2 DL
section
variable {P : Program} {w : World} {K : PySem.W.Frag} {mg : Str → Option Value} {base : Heap} {C : Addr}
abbrev dk (n : Nat) : MO := .deck "cells" "stirred" "draws" n
def spDraw : SpD := fun ds G Q => ∃ (p : Addr) (n b : Nat), ds = [.rf p, .int (n : Int)] ∧ 1 ≤ n ∧ n ≤ 1000 ∧ G p = some (dk (b + 1)) ∧ ∀ r : Nat, r < n → Q (.int (r : Int)) (gput G p (dk b))
abbrev N__law_draw : List Str := ["_law_deck_here", "_law_below", "_law_turn", "_law_figure", "_law_cell"]
theorem sc__law_draw : FnScope N__law_draw ["_law_deck_here", "_law_below"] (defScope s__law_draw) := ⟨rfl, rfl, rfl, by decide +kernel, rfl, by decide +kernel, by decide +kernel⟩
theorem c__law_draw (T : Txt K mg C) (d : Def K mg "_law_draw" s__law_draw) : Cal P w K mg base "_law_draw" 1 ["_law_deck_here", "_law_below"] (spDraw) := by
  refine cal_mk (N := N__law_draw) d sc__law_draw (fun ds G Q h => ?_) (fun _ _ _ _ _ _ us hl => match us, hl with | [_, _], _ => rfl) (fun f cdv A outer s H E hg hr => ?_)
  · obtain ⟨p, n, b, rfl, _⟩ := h
    rfl
  · have hu := hu100 hr
    have nd := sc__law_draw.nd
    have hA := deeper_guards (env := envOfC "_law_draw" (defScope s__law_draw) s.heap.objs.size f cdv) hg
    refine ⟨_, (dps_out (dps_in (dps_cons (dp_asg (de_op od_add (de_ix hu (de_var 0) de_str) de_int) (dg_sub hu (de_var 0) de_str))
  (dps_cons (dp_par (i := 2) (j := 3) rfl nd (ha := (da_cons (de_ix hu (de_var 0) de_str) (da_cons (de_ix hu (de_var 0) de_str) da_nil))))
  (dps_cons (dp_if (dt_cmp (od_ne hu) (de_ix hu (de_var 0) de_str) (de_lst da_nil) (nomark _))
  (dps_cons (dp_asg (de_bm0 PySem.F.plainAttrs_list PySem.F.slot_list_pop PySem.F.type_list_pop md_pop (de_ix hu (de_var 0) de_str)) (dg_name 4 nd))
  (dps_cons (dp_if (dt_cmp (od_ge hu) (de_var 4) (de_op od_pow de_int de_int) (nomark _))
  (dps_cons (dp_expr (de_bm PySem.F.plainAttrs_list PySem.F.slot_list_append PySem.F.type_list_append md_append (de_ix hu (de_var 0) de_str) (da_cons (de_op od_fdiv (de_var 4) (de_var 1)) da_nil)))
  (dps_one (dp_ret (de_op od_mod (de_callTy cd_int rfl T.f_int (by decide +kernel) (da_cons (de_var 4) da_nil)) (de_var 1)))))
  dps_nil)
  (dps_one (dp_asg (de_op od_add (de_var 3) (de_op od_mod (de_callTy cd_int rfl T.f_int (by decide +kernel) (da_cons (de_var 4) da_nil)) de_int)) (dg_name 3 nd)))))
  dps_nil)
  (dps_cons (dp_asg (de_op od_mod (de_op od_mul (de_callTy cd_int rfl T.f_int (by decide +kernel) (da_cons (de_op od_add (de_op od_add (de_op od_mod (de_callTy cd_int rfl T.f_int (by decide +kernel) (da_cons (de_var 3) da_nil)) de_int) (de_op od_mul (de_op od_mul de_int (de_var 2)) (de_var 2))) de_int) da_nil)) de_int) de_int) (dg_name 3 nd))
  (dps_cons (dp_asg (de_op od_mod (de_callTy cd_int rfl T.f_int (by decide +kernel) (da_cons (de_op od_add (de_op od_add (de_op od_mul (de_var 3) (de_var 3)) (de_op od_mul de_int (de_var 2))) de_int) da_nil)) de_int) (dg_name 3 nd))
  (dps_one (dp_ret (de_op od_mod (de_op od_fdiv (de_op od_mod (de_callTy cd_int rfl T.f_int (by decide +kernel) (da_cons (de_op od_mul (de_var 3) de_int) da_nil)) de_int) de_int) (de_var 1))))))))))), fun ds G Q h => ?_⟩
    obtain ⟨p, n, b, rfl, n1, n2, gp, q⟩ := h
    rw [show dstart N__law_draw [.rf p, .int (n : Int)] = [some (.rf p), some (.int (n : Int)), none, none, none] from rfl]
    simp only [dx2]
    refine ⟨Deck, _, _, deck_open gp, ?_⟩
    rintro x ⟨ok, gc, ne, nd0⟩
    have fin0 : ∀ (r : Int) (x' : Deck) (G' : GH), x'.c = x.c → G' = openG G p "cells" "stirred" "draws" x' → x'.ok b → 0 ≤ r → r < n → (outE (fin Q)).rt (.int r) G' := by
      rintro r x' G' e rfl ok' h0 h1
      refine ⟨_, deck_close gp (by rw [e]; exact gc) (by rw [e]; exact ne) nd0 ok', _, Sub.refl _, ?_⟩
      obtain ⟨k, rfl⟩ := Int.eq_ofNat_of_zero_le h0
      exact q k (by omega)
    obtain ⟨c, g, t, ns⟩ := x
    obtain ⟨o1, o2, o3, o4, o5⟩ := ok
    have hu1 : ∀ G0 o, gput G0 p o c = G0 c := fun _ _ => gput_ne ne
    unfold openG
    simp only at gc ne hu1 o1 o2 o3 o4 o5 ⊢
    have e1 : ∀ u : D, D.item (.dK [(.inr "cells", .rf c), (.inr "stirred", .int g), (.inr "draws", u)]) (.str "cells") = some (.rf c) := fun u => rfl
    have e2 : ∀ u : D, D.item (.dK [(.inr "cells", .rf c), (.inr "stirred", .int g), (.inr "draws", u)]) (.str "draws") = some u := fun u => rfl
    have e3 : ∀ u : D, putD ([(.inr "cells", .rf c), (.inr "stirred", .int g), (.inr "draws", .int t)] : List (Key × D)) (.inr "draws") u = ([(.inr "cells", .rf c), (.inr "stirred", .int g), (.inr "draws", u)] : List (Key × D)) := fun u => rfl
    have e4 : ∀ u : D, D.item (.dK [(.inr "cells", .rf c), (.inr "stirred", .int g), (.inr "draws", u)]) (.str "stirred") = some (.int g) := fun u => rfl
    have hc : G c = some .dcell := gc
    simp only [dxs, dl, e1, e2, e4, hu1, dx3, D.key, e3, gput_gput]
    refine ⟨szl (by decide), Nat.zero_le _, intL_ok ns, ?_⟩
    rw [intL_eqv]
    have cm1 : ∀ i j : Int, (-4294967296 ≤ i ∧ i ≤ 4294967296) ∨ (-4294967296 ≤ j ∧ j ≤ 4294967296) → CMul i j := fun i j h => by
      rcases h with h | h
      · exact .inl (by omega)
      · exact .inr (by omega)
    rcases List.eq_nil_or_concat ns with rfl | ⟨ns', a, rfl⟩
    · rw [if_neg (by simp)]
      refine ⟨by omega, cm1 _ _ (.inl (by omega)), .inr (by omega), cm1 _ _ (.inr (by omega)), by omega, cm1 _ _ (.inl (by omega)), cm1 _ _ (.inl (by omega)), by omega, cm1 _ _ (.inl (by omega)), by omega, ⟨by omega, by omega⟩, by omega, ?_⟩
      refine fin0 _ ⟨c, g, t + 1, []⟩ _ rfl ?_ ⟨by simp only; omega, by simp only; omega, o3, o4, by simp⟩ (Int.emod_nonneg _ (by omega)) (Int.emod_lt_of_pos _ (by omega))
      rfl
    · rw [List.concat_eq_append] at *
      rw [if_pos (by simp)]
      have o6 : ns'.length + 1 ≤ 63 := by simpa using o5
      refine ⟨rfl, ?_⟩
      simp only [rPopD, hu1, dl, pop_last, pop_rest, gput_under ne, dx3, dxs, okL_int, DL.lt_int, true_and, e1, beq_self_eq_true, rAppendD]
      refine ⟨⟨by omega, by omega, by decide⟩, ?_⟩
      by_cases han : a < 10 ^ Int.toNat 18
      · rw [if_neg (by simpa using han)]
        refine ⟨by omega, by omega, cm1 _ _ (.inl (by omega)), .inr (by omega), cm1 _ _ (.inr (by omega)), by omega, cm1 _ _ (.inl (by omega)), cm1 _ _ (.inl (by omega)), by omega, cm1 _ _ (.inl (by omega)), by omega, ⟨by omega, by omega⟩, by omega, ?_⟩
        exact fin0 _ ⟨c, g, t + 1, ns'⟩ _ rfl rfl ⟨by simp only; omega, by simp only; omega, o3, o4, by simp only; omega⟩ (Int.emod_nonneg _ (by omega)) (Int.emod_lt_of_pos _ (by omega))
      · rw [if_pos (by simpa using han)]
        refine ⟨⟨by omega, by omega⟩, szl (by simp; omega), by omega, fin0 _ ⟨c, g, t + 1, ns' ++ [a / (n : Int)]⟩ _ rfl ?_ ⟨by simp only; omega, by simp only; omega, o3, o4, by simp; omega⟩ (Int.emod_nonneg _ (by omega)) (Int.emod_lt_of_pos _ (by omega))⟩
        simp [openG]
end
end Pace
end
section
set_option Elab.async false
set_option linter.all false
set_option maxRecDepth 100000
set_option maxHeartbeats 4000000
namespace Pace
open PySem PySem.Spec PyProof.Rows L2 DL
section
variable {P : Program} {w : World} {K : PySem.W.Frag} {mg : Str → Option Value} {base : Heap} {C : Addr}
def Src (src : D) (xs : List D) : Prop := src = .lst xs ∨ ∃ cs : List Nat, src = .str (strOf cs) ∧ xs = cs.map fun c => .str (sgn c)
def spPick : SpD := fun ds G Q => ∃ (p : Addr) (b : Nat) (src : D) (xs : List D), ds = [.rf p, src] ∧ Src src xs ∧ 1 ≤ xs.length ∧ xs.length ≤ 1000 ∧ G p = some (dk (b + 1)) ∧ ∀ x ∈ xs, Q x (gput G p (dk b))
abbrev N__law_pick : List Str := ["_law_deck_here", "_law_some_here"]
theorem sc__law_pick : FnScope N__law_pick ["_law_deck_here", "_law_some_here"] (defScope s__law_pick) := ⟨rfl, rfl, rfl, by decide +kernel, rfl, by decide +kernel, by decide +kernel⟩
theorem c__law_pick (T : Txt K mg C) (d : Def K mg "_law_pick" s__law_pick) (C__law_draw : Cal P w K mg base "_law_draw" 1 ["_law_deck_here", "_law_below"] (spDraw)) : Cal P w K mg base "_law_pick" 2 ["_law_deck_here", "_law_some_here"] (spPick) := by
  refine cal_mk (N := N__law_pick) d sc__law_pick (fun ds G Q h => ?_) (fun _ _ _ _ _ _ us hl => match us, hl with | [_, _], _ => rfl) (fun f cdv A outer s H E hg hr => ?_)
  · obtain ⟨p, b, src, xs, rfl, _⟩ := h
    rfl
  · have hu := hu100 hr
    have nd := sc__law_pick.nd
    have hA := deeper_guards (env := envOfC "_law_pick" (defScope s__law_pick) s.heap.objs.size f cdv) hg
    refine ⟨_, (dps_one (dp_ret (de_ix hu (de_var 1) (de_cal C__law_draw hA (hr.mono (by decide)) (da_cons (de_var 0) (da_cons (de_callB cd_len rfl T.f_len (by decide +kernel) (da_cons (de_var 1) da_nil)) da_nil)))))), fun ds G Q h => ?_⟩
    obtain ⟨p, b, src, xs, rfl, hs, n1, n2, gp, q⟩ := h
    rcases hs with rfl | ⟨cs, rfl, rfl⟩
    · rw [show dstart N__law_pick [.rf p, .lst xs] = [some (.rf p), some (.lst xs)] from rfl]
      simp only [dxs, dl, dx3]
      refine ⟨p, xs.length, b, rfl, n1, n2, gp, fun r hr => ?_⟩
      obtain ⟨x, hx⟩ : ∃ x, xs[r]? = some x := ⟨_, List.getElem?_eq_getElem hr⟩
      simp only [dxs, dl, item_lst, atI_nat hx]
      exact ⟨_, Sub.refl _, q x (List.mem_of_getElem? hx)⟩
    · rw [show dstart N__law_pick [.rf p, .str (strOf cs)] = [some (.rf p), some (.str (strOf cs))] from rfl]
      have n1' : 1 ≤ cs.length := by simpa using n1
      have n2' : cs.length ≤ 1000 := by simpa using n2
      have hsz : (strOf cs).length ≤ sizeLine := by rw [strOf_len]; exact sz (by omega)
      simp only [dxs, dl, len_str hsz, strOf_len]
      refine ⟨p, cs.length, b, rfl, n1', n2', gp, fun r hr => ?_⟩
      obtain ⟨x, hx⟩ : ∃ x, cs[r]? = some x := ⟨_, List.getElem?_eq_getElem hr⟩
      have e : D.item (.str (strOf cs)) (.int (r : Int)) = some (.str (sgn x)) := by
        show (if (strOf cs).length ≤ sizeLine then _ else _) = _
        rw [if_pos hsz]
        have : atI (strOf cs).cps.toList (r : Int) = some x := atI_nat (by simpa [strOf] using hx)
        rw [this]
        rfl
      simp only [dxs, dl, e]
      exact ⟨_, Sub.refl _, q _ (List.mem_map.mpr ⟨x, List.mem_of_getElem? hx, rfl⟩)⟩
end
section
variable {P : Program} {w : World} {K : PySem.W.Frag} {mg : Str → Option Value} {base : Heap} {C : Addr}
def spDeck : SpD := fun ds G Q => ∃ ns : List Int, ds = [.scr ns] ∧ NoDeck G ∧ ∀ p c, G p = none → G c = none → c ≠ p → Q (.rf p) (shutG G p c "cells" "stirred" "draws" 1000000)
abbrev N__law_deck : List Str := ["_law_script", "_law_cells", "_law_stirred", "_law_cell"]
theorem sc__law_deck : FnScope N__law_deck ["_law_script"] (defScope s__law_deck) := ⟨rfl, rfl, rfl, by decide +kernel, rfl, by decide +kernel, by decide +kernel⟩
theorem c__law_deck (T : Txt K mg C) (d : Def K mg "_law_deck" s__law_deck) : Cal P w K mg base "_law_deck" 1 ["_law_script"] (spDeck) := by
  refine cal_mk (N := N__law_deck) d sc__law_deck (fun ds G Q h => ?_) (fun _ _ _ _ _ _ us hl => match us, hl with | [_], _ => rfl) (fun f cdv A outer s H E hg hr => ?_)
  · obtain ⟨ns, rfl, _⟩ := h
    rfl
  · have hu := hu100 hr
    have nd := sc__law_deck.nd
    have hA := deeper_guards (env := envOfC "_law_deck" (defScope s__law_deck) s.heap.objs.size f cdv) hg
    refine ⟨_, (dps_out (dps_cons (dp_par (i := 1) (j := 2) rfl nd (ha := (da_cons (de_callTy cd_list rfl T.f_list (by decide +kernel) (da_cons (de_slice (de_var 0) do_none (do_some de_int)) da_nil)) (da_cons de_int da_nil))))
  (dps_cons (dp_for PassesOwn.never rfl (di_list (de_var 1)) (dg_name 3 nd)
  (dps_one (dp_asg (de_op od_mod (de_callTy cd_int rfl T.f_int (by decide +kernel) (da_cons (de_op od_add (de_op od_add (de_op od_mul (de_var 2) de_int) (de_op od_mod (de_callTy cd_int rfl T.f_int (by decide +kernel) (da_cons (de_var 3) da_nil)) de_int)) de_int) da_nil)) de_int) (dg_name 2 nd))))
  (dps_one (dp_ret (de_dispM (dpp_cons de_str (de_revLM (de_var 1)) (dpp_cons de_str (de_var 2) (dpp_cons de_str de_int dpp_nil))))))))), fun ds G Q h => ?_⟩
    obtain ⟨ns, rfl, nd0, q⟩ := h
    rw [show dstart N__law_deck [.scr ns] = [some (.scr ns), none, none, none] from rfl]
    have hcut : (DL.cutD ns none (some 63)).length ≤ 63 := by
      unfold DL.cutD
      rw [List.length_take]
      have : HT.sIx ns.length ns.length (some 63) = min 63 ns.length := HT.sIx_nat ns.length ns.length 63
      rw [this]
      omega
    generalize hcs : DL.cutD ns none (some 63) = cells at hcut
    have lst : ∀ (xs : List D) (G : GH) (Q : DQ), rListD [.lst xs] G Q = Q (.lst xs) G := fun _ _ _ => rfl
    simp only [dx2, dxs, dl, dx3, hcs, lst]
    refine ⟨fun i S' G' => ∃ (b : Int) (x2 : Option D), S' = [some (.scr ns), some (.lst (cells.map .int)), some (.int b), x2] ∧ G' = G ∧ 0 ≤ b ∧ b < 2147483587, ⟨_, none, rfl, rfl, by omega, by omega⟩, fun _ _ _ _ => trivial, ?_, ?_⟩
    · rintro i S' G' dd ⟨b, x2, rfl, rfl, h1, h2⟩ hd
      obtain ⟨v, hv, rfl⟩ := map_get hd
      simp only [dxs, dl, dx3]
      refine ⟨.inl (by omega), by omega, by omega, _, _, rfl, trivial, Int.emod_nonneg _ (by omega), Int.emod_lt_of_pos _ (by omega)⟩
    · rintro S' G' ⟨b, x2, rfl, rfl, h1, h2⟩
      simp only [dxs, dl, dx3, hcs]
      intro c hc
      refine ⟨by show (3 : Nat) ≤ 15; decide, fun p hp => ?_⟩
      have hcp : c ≠ p := fun z => by rw [← z, gput_same] at hp; cases hp
      have hp' : G' p = none := by rw [gput_ne (fun z => hcp z.symm)] at hp; exact hp
      have ndG : NoDeck (openG G' p "cells" "stirred" "draws" ⟨c, b, 0, cells.reverse⟩) := open_nodeck fun a _ => nd0 a
      refine ⟨_, deck_shut (x := ⟨c, b, 0, cells.reverse⟩) (n := 1000000) (k1 := "cells") (k2 := "stirred") (k3 := "draws") (p := p) ?_ ?_ ?_ ⟨by simp only; omega, by simp only; omega, h1, by simp only; omega, by simp; omega⟩, _, Sub.refl _, ?_⟩
      · have e : openG G' p "cells" "stirred" "draws" ⟨c, b, 0, cells.reverse⟩ = gput (gput G' c (.lst (cells.map D.int).reverse)) p (.dK [(.inr "cells", .rf c), (.inr "stirred", .int b), (.inr "draws", .int 0)]) := by
          unfold openG
          rw [List.map_reverse]
        rw [e] at ndG
        exact ndG
      · exact gput_same
      · rw [gput_ne hcp, gput_same, List.map_reverse]
      · have e : ∀ o1 o2, shutG (gput (gput G' c o1) p o2) p c "cells" "stirred" "draws" 1000000 = shutG G' p c "cells" "stirred" "draws" 1000000 := fun o1 o2 => by
          funext a
          unfold shutG
          by_cases z1 : a = p
          · subst z1; rw [gput_same, gput_same]
          · rw [gput_ne z1, gput_ne z1]
            by_cases z2 : a = c
            · subst z2; rw [gput_same, gput_same]
            · rw [gput_ne z2, gput_ne z2, gput_ne z1, gput_ne z2]
        show Q _ (shutG (gput (gput G' c _) p _) p c _ _ _ _)
        rw [e]
        exact q p c hp' hc hcp
end
end Pace
end
section
set_option Elab.async false
set_option linter.all false
set_option maxRecDepth 100000
set_option maxHeartbeats 4000000
namespace Pace
open PySem PySem.Spec PyProof.Rows L2 DL
section
variable {P : Program} {w : World} {K : PySem.W.Frag} {mg : Str → Option Value} {base : Heap} {C : Addr}
def wK (hs ws : List Nat) (rs : List (List Mv)) : List (Key × D) := [(.inr "heard", .str (strOf hs)), (.inr "written", .str (strOf ws)), (.inr "rows", rowsD rs)]
def spWorld66 : SpD := fun ds G Q => ∃ (p : Addr) (size n : Nat) (hs ws : List Nat) (tot : Bool), ds = [.rf p, .int (size : Int), .str (strOf hs), .str (strOf ws), .bl tot] ∧ 1 ≤ size ∧ size ≤ 5 ∧ lettersB hs = true ∧ lettersB ws = true ∧ hs.length ≤ 3 ∧ ws.length ≤ 3 ∧ G p = some (dk (n + 200)) ∧
  ∀ (rs : List (List Mv)) (m : Nat) (z : Addr), n ≤ m → rs.length = size → Wor 5 tot hs ws rs → G z = none → Q (.rf z) (gput (gput G p (dk m)) z (.dK (wK hs ws rs)))
abbrev N__law_world : List Str := ["_law_deck_here", "_law_size", "_law_heard_here", "_law_written", "_law_is_total", "_law_rows", "_law_here", "_law_moves", "_law_h", "_law_sure", "_law_c"]
theorem sc__law_world : FnScope N__law_world ["_law_deck_here", "_law_size", "_law_heard_here", "_law_written", "_law_is_total"] (defScope s__law_world) := ⟨rfl, rfl, rfl, by decide +kernel, rfl, by decide +kernel, by decide +kernel⟩
theorem c__law_world (T : Txt K mg C) (d : Def K mg "_law_world" s__law_world) (C__law_pick : Cal P w K mg base "_law_pick" 2 ["_law_deck_here", "_law_some_here"] (spPick)) (C__law_draw : Cal P w K mg base "_law_draw" 1 ["_law_deck_here", "_law_below"] (spDraw)) : Cal P w K mg base "_law_world" 3 ["_law_deck_here", "_law_size", "_law_heard_here", "_law_written", "_law_is_total"] (spWorld66) := by
  refine cal_mk (N := N__law_world) d sc__law_world (fun ds G Q h => ?_) (fun _ _ _ _ _ _ us hl => match us, hl with | [_, _, _, _, _], _ => rfl) (fun f cdv A outer s H E hg hr => ?_)
  · obtain ⟨p, size, n, hs, ws, tot, rfl, _⟩ := h
    rfl
  · have hu := hu100 hr
    have nd := sc__law_world.nd
    have hA := deeper_guards (env := envOfC "_law_world" (defScope s__law_world) s.heap.objs.size f cdv) hg
    refine ⟨_, (dps_cons (dp_asg (de_lstM da_nil) (dg_name 5 nd))
  (dps_cons (dp_for PassesOwn.never rfl (di_range1 rfl T.f_range (da_cons (de_var 1) da_nil)) (dg_name 6 nd)
  (dps_cons (dp_asg (de_lstM da_nil) (dg_name 7 nd))
  (dps_cons (dp_for PassesOwn.never rfl (di_str (de_var 2)) (dg_name 8 nd)
  (dps_cons (dp_asg (de_if (dt_val (de_var 4)) (de_cal C__law_pick hA (hr.mono (by decide)) (da_cons (de_var 0) (da_cons (de_var 3) da_nil))) de_str) (dg_name 9 nd))
  (dps_one (dp_expr (de_bm PySem.F.plainAttrs_list PySem.F.slot_list_extend PySem.F.type_list_extend md_extend (de_var 7) (da_cons (de_lc (own := [("_law_c", 10)]) (p := (.nm 10)) rfl nd (di_str (de_var 3)) (blkOk_by (by show blkC N__law_world (defScope s__law_world) _ _ = true; decide +kernel)) (by decide) (fun _ _ _ _ _ => pg_name (i := 10) nd rfl (Or.inl rfl)) (fun _ _ _ _ _ => (dts_one (DW.dt (dw_or (dt_cmp (od_eq hu) (de_var 10) (de_var 9) (nomark _)) (dw_or1 (dt_cmp (od_eq hu) (de_cal C__law_draw hA (hr.mono (by decide)) (da_cons (de_var 0) (da_cons de_int da_nil))) de_int (nomark _))))))) (fun _ _ _ _ _ => (de_tup (da_cons (de_var 8) (da_cons (de_var 10) (da_cons (de_cal C__law_draw hA (hr.mono (by decide)) (da_cons (de_var 0) (da_cons (de_var 1) da_nil))) da_nil)))))) da_nil))))))
  (dps_one (dp_expr (de_bm PySem.F.plainAttrs_list PySem.F.slot_list_append PySem.F.type_list_append md_append (de_var 5) (da_cons (de_callTy cd_tuple rfl T.f_tuple (by decide +kernel) (da_cons (de_var 7) da_nil)) da_nil)))))))
  (dps_one (dp_ret (de_dispM (dpp_cons de_str (de_var 2) (dpp_cons de_str (de_var 3) (dpp_cons de_str (de_callTy cd_tuple rfl T.f_tuple (by decide +kernel) (da_cons (de_var 5) da_nil)) dpp_nil)))))))), fun ds G Q h => ?_⟩
    obtain ⟨p, size, n, hs, ws, tot, rfl, t1, t5, lh, lw, hs3, ws3, gp, q⟩ := h
    rw [show dstart N__law_world [.rf p, .int (size : Int), .str (strOf hs), .str (strOf ws), .bl tot] = [some (.rf p), some (.int (size : Int)), some (.str (strOf hs)), some (.str (strOf ws)), some (.bl tot), none, none, none, none, none, none] from rfl]
    simp only [dxs, dl]
    refine ⟨Nat.zero_le _, fun z hz => ?_⟩
    have hzp : z ≠ p := fun e => by rw [e, gp] at hz; cases hz
    have hpz : p ≠ z := fun e => hzp e.symm
    have rd : ∀ {m : Nat} {o2 : MO} {G' : GH}, Sub (gput (gput G p (dk m)) z o2) G' → G' p = some (dk m) ∧ G' z = some o2 := fun sb =>
      ⟨sb.le p _ (by rw [gput_ne hpz, gput_same]), sb.le z _ gput_same⟩
    have wr : ∀ {m m' : Nat} {o2 : MO} {G' : GH}, Sub (gput (gput G p (dk m)) z o2) G' → Sub (gput (gput G p (dk m')) z o2) (gput G' p (dk m')) := fun {m m' o2 G'} sb => by
      have := sb.put p (dk m')
      rw [gput_under hpz] at this
      exact this
    have wz : ∀ {m : Nat} {o2 o3 : MO} {G' : GH}, Sub (gput (gput G p (dk m)) z o2) G' → Sub (gput (gput G p (dk m)) z o3) (gput G' z o3) := fun {m o2 o3 G'} sb => by
      have := sb.put z o3
      rw [gput_gput] at this
      exact this
    have e00 : gput (gput G p (dk (n + 200))) z (.lst []) = gput G z (.lst []) := by rw [gput_self gp]
    refine ⟨by omega, by omega, fun i S' G' => ∃ (m : Nat) (rows : List (List Mv)) (x6 x7 x8 x9 x10 : Option D), S' = [some (.rf p), some (.int (size : Int)), some (.str (strOf hs)), some (.str (strOf ws)), some (.bl tot), some (.rf z), x6, x7, x8, x9, x10] ∧
      Sub (gput (gput G p (dk m)) z (.lst (rows.map rowD))) G' ∧ rows.length = i ∧ n + 200 ≤ m + 30 * i ∧ ∀ r1 ∈ rows, Pace.rowB hs ws size r1 = true ∧ r1.length ≤ 9 ∧ (tot = true → ∀ h ∈ hs, ∃ m ∈ r1, m.h = h),
      ⟨n + 200, [], _, _, _, _, _, rfl, by rw [List.map_nil, e00]; exact Sub.refl _, rfl, by omega, by simp⟩, fun _ _ _ _ => trivial, ?_, ?_⟩
    · rintro i S' G' dd ⟨m, rows, x6, x7, x8, x9, x10, rfl, sb, hrl, hm, hrows⟩ hd
      obtain ⟨hi, rfl⟩ := range_get hd
      obtain ⟨gp1, gz1⟩ := rd sb
      simp only [dxs, dl]
      refine ⟨Nat.zero_le _, fun y hy => ?_⟩
      have hyz : z ≠ y := fun e => by rw [← e, gz1] at hy; cases hy
      have hyp : p ≠ y := fun e => by rw [← e, gp1] at hy; cases hy
      refine ⟨fun j S' G2 => ∃ (m' : Nat) (row : List Mv) (G1 : GH) (x8 x9 x10 : Option D), S' = [some (.rf p), some (.int (size : Int)), some (.str (strOf hs)), some (.str (strOf ws)), some (.bl tot), some (.rf z), some (.int (i : Int)), some (.rf y), x8, x9, x10] ∧
        G2 = gput G1 y (.lst (row.map Mv.d)) ∧ G1 y = none ∧ Sub (gput (gput G p (dk m')) z (.lst (rows.map rowD))) G1 ∧ m ≤ m' + 8 * j ∧ j ≤ hs.length ∧ RowP hs ws size tot j row,
        ⟨m, [], G', _, _, _, rfl, rfl, hy, sb, by omega, Nat.zero_le _, RowP.start⟩, fun _ _ _ _ => trivial, ?_, ?_⟩
      · rintro j S' G2 dd ⟨m', row, G1, x8, x9, x10, rfl, rfl, hy1, sb1, hm', hj, rp⟩ hd
        obtain ⟨h, hh, rfl⟩ := signs_get hd
        obtain ⟨gp2, gz2⟩ := rd sb1
        have hj1 := (List.getElem?_eq_some_iff.mp hh).1
        simp only [x_gname, dl]
        refine dseqP (fun S' G' => ∃ (m2 : Nat) (sD : D), S' = [some (.rf p), some (.int (size : Int)), some (.str (strOf hs)), some (.str (strOf ws)), some (.bl tot), some (.rf z), some (.int (i : Int)), some (.rf y), some (.str (sgn h)), some sD, x10] ∧ G' = gput (gput G1 p (dk m2)) y (.lst (row.map Mv.d)) ∧ m' ≤ m2 + 1 ∧ sD.si = true ∧ (∀ (G : GH), D.cur G sD = sD) ∧ (tot = true → ∃ c0 ∈ ws, sD = .str (sgn c0))) ?_ ?_
        · rintro S' G' ⟨m2, sD, rfl, rfl, hm2, sSi, sC, sT⟩
          simp only [dxs, dl]
          refine ⟨rfl, sz (by rw [signs_len]; omega), fun k acc G3 => ∃ (ts : List Mv) (m3 : Nat), acc = ts.map Mv.d ∧ (ts.map (·.c)).Sublist (ws.take k) ∧ k ≤ ws.length ∧ (∀ t ∈ ts, t.h = h ∧ t.t < size) ∧ (∀ c0 ∈ ws.take k, sD = .str (sgn c0) → c0 ∈ ts.map (·.c)) ∧ m2 ≤ m3 + 2 * k ∧ G3 = gput (gput G1 p (dk m3)) y (.lst (row.map Mv.d)),
            ⟨[], m2, rfl, by simp, Nat.zero_le _, by simp, by simp, by omega, rfl⟩, fun _ _ _ _ => trivial, ?_, ?_⟩
          · rintro k acc G3 d ⟨ts, m3, rfl, sl, hk, ht, hc0, hm3, rfl⟩ hd3
            obtain ⟨c, hc, rfl⟩ := signs_get hd3
            have hk1 := (List.getElem?_eq_some_iff.mp hc).1
            have tk := take_snoc hc
            obtain ⟨m4, rfl⟩ : ∃ m4, m3 = m4 + 2 := ⟨m3 - 2, by omega⟩
            have ind : ∀ m5 : Nat, m2 ≤ m5 + 1 + 2 * k + 1 → spDraw [.rf p, .int (size : Int)] (gput (gput G1 p (dk (m5 + 1))) y (.lst (row.map Mv.d))) (fun d G2 => 0 + 1 + 1 + 1 ≤ sizeLine ∧ ∃ (ts2 : List Mv) (m3 : Nat), ts.map Mv.d ++ [.tup [.str (sgn h), .str (sgn c), d]] = ts2.map Mv.d ∧ (ts2.map (·.c)).Sublist (ws.take (k + 1)) ∧ k + 1 ≤ ws.length ∧ (∀ t ∈ ts2, t.h = h ∧ t.t < size) ∧ (∀ c0 ∈ ws.take (k + 1), sD = .str (sgn c0) → c0 ∈ ts2.map (·.c)) ∧ m2 ≤ m3 + 2 * (k + 1) ∧ G2 = gput (gput G1 p (dk m3)) y (.lst (row.map Mv.d))) := fun m5 h5 => by
              refine ⟨p, size, m5, rfl, by omega, by omega, by rw [gput_ne hyp, gput_same], fun r hr => ⟨sz (by decide), ts ++ [⟨h, c, r⟩], m5, by simp [Mv.d], ?_, hk1, fun t ht' => ?_, fun c0 h0 e0 => ?_, by omega, by rw [gput_under hyp]⟩⟩
              · rw [tk, List.map_append]
                exact sl.append (List.Sublist.refl _)
              · rcases List.mem_append.mp ht' with h1 | h1
                · exact ht t h1
                · rw [List.mem_singleton] at h1
                  subst h1
                  exact ⟨rfl, hr⟩
              · rw [tk] at h0
                rw [List.map_append]
                rcases List.mem_append.mp h0 with h1 | h1
                · exact List.mem_append_left _ (hc0 c0 h1 e0)
                · rw [List.mem_singleton] at h1
                  subst h1
                  simp
            refine ⟨_, rfl, ?_⟩
            simp only [dxs, dl, dwipe, List.map_cons, List.map_nil, sC]
            refine ⟨okE_si rfl sSi (Nat.zero_le _), ?_⟩
            cases hb : D.eqv (.str (sgn c)) sD with
            | true =>
              rw [if_pos rfl]
              exact ind (m4 + 1) (by omega)
            | false =>
              rw [if_neg Bool.false_ne_true]
              refine ⟨p, 4, m4 + 1, rfl, by decide, by decide, by rw [gput_ne hyp, gput_same], fun r hr => ?_⟩
              have ei : ∀ (G : GH) (x : Int), D.cur G (.int x) = .int x := fun _ _ => rfl
              rw [gput_under hyp]
              simp only [ei, okE_int, eqv_int, true_and]
              by_cases hr0 : (r : Int) = 0
              · rw [if_pos (by simpa using hr0)]
                exact ind m4 (by omega)
              · rw [if_neg (by simpa using hr0)]
                refine ⟨ts, m4 + 1, rfl, by rw [tk]; exact sl.trans (List.sublist_append_left _ _), hk1, ht, fun c0 h0 e0 => ?_, by omega, rfl⟩
                rw [tk] at h0
                rcases List.mem_append.mp h0 with h1 | h1
                · exact hc0 c0 h1 e0
                · rw [List.mem_singleton] at h1
                  subst h1
                  rw [e0] at hb
                  rw [(eqv_si rfl rfl).mpr rfl] at hb
                  cases hb
          · rintro acc G3 ⟨ts, m3, rfl, sl, hk, ht, hc0, hm3, rfl⟩
            rw [signs_len, List.take_length] at sl hc0
            rw [signs_len] at hm3
            have rl := rp.len
            have tsl : ts.length ≤ 3 := by
              have := sl.length_le
              rw [List.length_map] at this
              omega
            simp only [rExtendD, dxs, dl, gput_gput, ← List.map_append]
            refine ⟨sz (by simp; omega), m3, row ++ ts, gput G1 p (dk m3), _, _, _, rfl, rfl, by rw [gput_ne (fun e => hyp e.symm)]; exact hy1, wr sb1, by omega, hj1, rp.step (letters_lt lh) (letters_lt lw) ws3 hh sl (fun ht0 => ?_) rfl ht⟩
            obtain ⟨c0, h0, e0⟩ := sT ht0
            exact List.ne_nil_of_mem (hc0 c0 h0 e0)
        · intro X hX
          simp only [dxs, dl]
          cases htot : tot with
          | true =>
            rw [if_pos rfl]
            obtain ⟨m4, rfl⟩ : ∃ m4, m' = m4 + 1 := ⟨m' - 1, by omega⟩
            refine ⟨p, m4, _, _, rfl, .inr ⟨ws, rfl, rfl⟩, by rw [List.length_map]; exact letters_pos lw, by rw [List.length_map]; omega, by rw [gput_ne hyp]; exact gp2, fun x hx => ?_⟩
            obtain ⟨c0, h0, rfl⟩ := List.mem_map.mp hx
            rw [htot] at hX
            refine hX _ _ ⟨m4, .str (sgn c0), rfl, ?_, by omega, rfl, fun _ => rfl, fun _ => ⟨c0, h0, rfl⟩⟩
            rw [gput_comm (fun e => hyp e.symm)]
          | false =>
            rw [if_neg Bool.false_ne_true]
            rw [htot] at hX
            refine hX _ _ ⟨m', .str (Str.ofString ""), rfl, ?_, by omega, rfl, fun _ => rfl, fun z => by cases z⟩
            rw [gput_self gp2]
      · rintro S' G2 ⟨m', row, G1, x8, x9, x10, rfl, rfl, hy1, sb1, hm', hj, rp⟩
        rw [signs_len] at rp hm'
        have sb2 : Sub (gput (gput G p (dk m')) z (.lst (rows.map rowD))) (gput G1 y (.lst (row.map Mv.d))) := sb1.trans (sub_new hy1 rfl)
        have rl := rp.len
        obtain ⟨gp2, gz2⟩ := rd sb2
        simp only [dxs, dl, rTupleD, gz2, rAppendD, gput_same, beq_self_eq_true, true_and]
        refine ⟨szl (by simp; omega), m', rows ++ [row], _, _, _, _, _, rfl, ?_, by simp [hrl], by omega, fun r1 hr1 => ?_⟩
        · have := wz (o3 := .lst (rows.map rowD ++ [.tup (row.map Mv.d)])) sb2
          rw [List.map_append]
          exact this
        · rcases List.mem_append.mp hr1 with hr1 | hr1
          · exact hrows r1 hr1
          · rw [List.mem_singleton.mp hr1]
            exact ⟨rp.row, by omega, fun ht x hx => rp.full ht x (by rw [List.take_length]; exact hx)⟩
    · rintro S' G' ⟨m, rows, x6, x7, x8, x9, x10, rfl, sb, hrl, hm, hrows⟩
      rw [range_len] at hrl hm
      obtain ⟨gp1, gz1⟩ := rd sb
      simp only [dxs, dl, rTupleD, gz1]
      refine ⟨by show (3 : Nat) ≤ 15; decide, fun u hu => ?_⟩
      have gu : G u = none := by
        cases e : G u with
        | none => rfl
        | some o =>
          exfalso
          by_cases h1 : u = p
          · subst h1; rw [gp1] at hu; cases hu
          · have := sb.le u o (by rw [gput_ne (fun e2 => by subst e2; rw [hz] at e; cases e), gput_ne h1]; exact e)
            rw [this] at hu; cases hu
      have hup : u ≠ p := fun e => by rw [e, gp1] at hu; cases hu
      refine ⟨gput (gput G p (dk m)) u (.dK (wK hs ws rows)), ?_, ?_⟩
      · refine Sub.put ?_ u _
        exact (sub_new (by rw [gput_ne hzp]; exact hz) rfl).trans sb
      · refine q rows m u (by omega) hrl ⟨⟨lh, lw, by omega, by omega, by omega, by omega, fun r1 hr1 => ?_⟩, by omega, hs3, ws3, fun r1 hr1 => (hrows r1 hr1).2.1, fun ht r1 hr1 => (hrows r1 hr1).2.2 ht⟩ gu
        obtain ⟨a, b, _⟩ := hrows r1 hr1
        rw [hrl]
        exact ⟨a, by omega⟩
end
end Pace
end
section
set_option Elab.async false
set_option linter.all false
set_option maxRecDepth 100000
set_option maxHeartbeats 4000000
namespace Pace
open PySem PySem.Spec PyProof.Rows L2 DL
section
variable {P : Program} {w : World} {K : PySem.W.Frag} {mg : Str → Option Value} {base : Heap} {C : Addr}
def spCaptions42 : SpD := fun ds G Q => ∃ (z : Addr) (hs ws : List Nat) (rs : List (List Mv)) (cs : List Nat), ds = [.rf z, .str (strOf cs)] ∧ G z = some (.dK (wK hs ws rs)) ∧ RulV hs ws rs ∧ ws.length ≤ 3 ∧ cs.length ≤ 4 ∧ (∀ r ∈ rs, r.length ≤ 1000) ∧ Q (.lst ((putsC rs cs).map wd)) G
abbrev N__law_captions : List Str := ["_law_w", "_law_said", "_law_found", "_law_h", "_law_later", "_law_shown", "_law_here", "_law_sign", "_law_c", "_law_there"]
theorem sc__law_captions : FnScope N__law_captions ["_law_w", "_law_said"] (defScope s__law_captions) := ⟨rfl, rfl, rfl, by decide +kernel, rfl, by decide +kernel, by decide +kernel⟩
theorem c__law_captions (T : Txt K mg C) (d : Def K mg "_law_captions" s__law_captions) : Cal P w K mg base "_law_captions" 1 ["_law_w", "_law_said"] (spCaptions42) := by
  refine cal_mk (N := N__law_captions) d sc__law_captions (fun ds G Q h => ?_) (fun _ _ _ _ _ _ us hl => match us, hl with | [_, _], _ => rfl) (fun f cdv A outer s H E hg hr => ?_)
  · obtain ⟨z, hs, ws, rs, cs, rfl, _⟩ := h
    rfl
  · have hu := hu100 hr
    have nd := sc__law_captions.nd
    have hA := deeper_guards (env := envOfC "_law_captions" (defScope s__law_captions) s.heap.objs.size f cdv) hg
    refine ⟨_, (dps_cons (dp_asg (de_lst (da_cons (de_tup (da_cons de_str (da_cons de_int da_nil))) da_nil)) (dg_name 2 nd))
  (dps_cons (dp_for PassesOwn.never rfl (di_str (de_var 1)) (dg_name 3 nd)
  (dps_cons (dp_asg (de_lstM da_nil) (dg_name 4 nd))
  (dps_cons (dp_for PassesOwn.never rfl (di_list (de_var 2)) (dg_tup (n := 2) rfl (dgs_cons (dg_name 5 nd) (dgs_cons (dg_name 6 nd) dgs_nil)))
  (dps_one (dp_expr (de_bm PySem.F.plainAttrs_list PySem.F.slot_list_extend PySem.F.type_list_extend md_extend (de_var 4) (da_cons (de_lc (own := [("_law_sign", 7), ("_law_c", 8), ("_law_there", 9)]) (p := (.tp [7, 8, 9])) rfl nd (di_tup (de_ix hu (de_ix hu (de_var 0) de_str) (de_var 6))) (blkOk_by (by show blkC N__law_captions (defScope s__law_captions) _ _ = true; decide +kernel)) (by decide) (fun _ _ _ _ _ => pg_tup rfl (pgs_cons (pg_name (i := 7) nd rfl (Or.inl rfl)) (pgs_cons (pg_name (i := 8) nd rfl (Or.inl rfl)) (pgs_cons (pg_name (i := 9) nd rfl (Or.inl rfl)) pgs_nil)))) (fun _ _ _ _ _ => (dts_one (dt_cmp (od_eq hu) (de_var 7) (de_var 3) (nomark _)))) (fun _ _ _ _ _ => (de_tup (da_cons (de_op od_add (de_var 5) (de_var 8)) (da_cons (de_var 9) da_nil))))) da_nil)))))
  (dps_one (dp_asg (de_cold (de_var 4)) (dg_name 2 nd))))))
  (dps_one (dp_ret (de_callB (cd_sorted hu rfl) rfl T.f_sorted (by decide +kernel) (da_cons (de_lc (own := [("_law_shown", 5), ("_law_here", 6)]) (p := (.tp [5, 6])) rfl nd (di_list (de_var 2)) (blkOk_by (by show blkC N__law_captions (defScope s__law_captions) _ _ = true; decide +kernel)) (by decide) (fun _ _ _ _ _ => pg_tup rfl (pgs_cons (pg_name (i := 5) nd rfl (Or.inl rfl)) (pgs_cons (pg_name (i := 6) nd rfl (Or.inl rfl)) pgs_nil))) (fun _ _ _ _ _ => dts_nil) (fun _ _ _ _ _ => (de_var 5))) da_nil)))))), fun ds G Q h => ?_⟩
    obtain ⟨z, ha, ws, rs, cs, rfl, gz, v, w3, c4, rl, q⟩ := h
    rw [show dstart N__law_captions [.rf z, .str (strOf cs)] = [some (.rf z), some (.str (strOf cs)), none, none, none, none, none, none, none, none] from rfl]
    have tl : ∀ r ∈ rs, ∀ m ∈ r, m.t < rs.length := fun r hr => (v.ok.at_ r hr).2
    have hs := v.n1
    have hb : ∀ i, (caps rs 0 (cs.take i)).length ≤ 81 := fun i => by
      refine Nat.le_trans (caps_len v w3 0 _) (show 3 ^ _ ≤ 3 ^ 4 from Nat.pow_le_pow_right (by decide) ?_)
      rw [List.length_take]
      omega
    have i2 : D.item (.dK (wK ha ws rs)) (.str (Str.ofString "rows")) = some (rowsD rs) := rfl
    simp only [dxs, dl]
    refine ⟨sz (by simp), sz (by simp), ?_⟩
    refine ⟨fun i S' G' => ∃ x3 x4 x5 x6 x7 x8 x9, S' = [some (.rf z), some (.str (strOf cs)), some (.lst ((caps rs 0 (cs.take i)).map capD)), x3, x4, x5, x6, x7, x8, x9] ∧ G = G',
      ⟨none, none, none, none, none, none, none, by simp [caps, capD, str_nil], rfl⟩, fun _ _ _ _ => trivial, ?_, ?_⟩
    · rintro i S' G' dd ⟨x3, x4, x5, x6, x7, x8, x9, rfl, rfl⟩ hd
      obtain ⟨c, hc, rfl⟩ := signs_get hd
      have hi := (List.getElem?_eq_some_iff.mp hc).1
      have hl1 := hb (i + 1)
      rw [take_snoc hc, caps_snoc] at hl1
      have hw : ∀ x ∈ caps rs 0 (cs.take i), x.1.length ≤ 1000 := fun x hx => by
        rw [caps_word _ x hx, List.length_take]; omega
      have ht := caps_lt tl hs (cs.take i)
      simp only [dxs, dl]
      rw [take_snoc hc, caps_snoc]
      generalize caps rs 0 (cs.take i) = l at hl1 hw ht ⊢
      refine ⟨Nat.zero_le _, fun p hp => ?_⟩
      have hpz : p ≠ z := fun e => by rw [e, gz] at hp; cases hp
      have gz2 : ∀ o, gput G p o z = some (.dK (wK ha ws rs)) := fun o => by rw [gput_ne (Ne.symm hpz)]; exact gz
      refine ⟨fun j S' G' => ∃ x5 x6 x7 x8 x9, S' = [some (.rf z), some (.str (strOf cs)), some (.lst (l.map capD)), some (.str (sgn c)), some (.rf p), x5, x6, x7, x8, x9] ∧
        G' = gput G p (.lst ((capsStep rs (l.take j) c).map capD)), ⟨_, _, _, _, _, rfl, by simp [capsStep]⟩, fun _ _ _ _ => trivial, ?_, ?_⟩
      · rintro j S' G' dd ⟨x5, x6, x7, x8, x9, rfl, rfl⟩ hd
        obtain ⟨x, hx, rfl⟩ := map_get hd
        have hxm := List.mem_of_getElem? hx
        obtain ⟨r, hrr⟩ : ∃ r, rs[x.2]? = some r := ⟨_, List.getElem?_eq_getElem (ht x hxm)⟩
        have hl := rl r (List.mem_of_getElem? hrr)
        have ecr : ∀ G : GH, D.cur G (rowsD rs) = rowsD rs := fun _ => rfl
        simp only [dxs, dl, capD, List.length_cons, List.length_nil, true_and, gz2, i2, ecr, rowsD_at hrr, rowD, beq_self_eq_true]
        refine lc_someA r Mv.d (fun m => m.h == c) (fun m => capD (x.1 ++ [m.c], m.t)) rfl (sz (by omega)) trivial (fun m _ => ⟨_, rfl, fun Q z => ?_, fun _ Q z => ?_⟩) ?_
        · simp only [dxs, dl, dwipe, List.map_cons, List.map_nil, Mv.d, okE_str, eqv_str, sgn_beq, true_and]
          exact z
        · simp only [dxs, dl, dwipe, List.map_cons, List.map_nil, Mv.d, rAddD, strOf_sgn]
          refine ⟨?_, sz (by simp), z⟩
          have := hw x hxm
          rw [strOf_len]; exact sz (by simp [sgn, Str.length]; omega)
        · simp only [dxs, dl, rExtendD, gput_same, gput_gput]
          have e : capsStep rs (l.take (j + 1)) c = capsStep rs (l.take j) c ++ (r.filter fun m => m.h == c).map (fun m => (x.1 ++ [m.c], m.t)) := by
            rw [take_snoc hx]
            simp [capsStep, List.getD, hrr]
          have hln : (capsStep rs (l.take (j + 1)) c).length ≤ (capsStep rs l c).length := by
            have e2 : capsStep rs l c = capsStep rs (l.take (j + 1)) c ++ capsStep rs (l.drop (j + 1)) c := by
              unfold capsStep
              rw [← List.flatMap_append, List.take_append_drop]
            rw [e2, List.length_append]; omega
          rw [e, List.length_append] at hln
          simp only [List.length_map] at hln
          refine ⟨szB (by simp only [List.length_map]; omega), _, _, _, _, _, rfl, ?_⟩
          rw [e, List.map_append, List.map_map]
          rfl
      · rintro S' G' ⟨x5, x6, x7, x8, x9, rfl, rfl⟩
        rw [List.length_map, List.take_length]
        simp only [dxs, dl, MO.cold, gput_same, gdel_gput hp]
        exact ⟨_, _, _, _, _, _, _, rfl, by trivial⟩
    · rintro S' G' ⟨x3, x4, x5, x6, x7, x8, x9, rfl, rfl⟩
      rw [signs_len, List.take_length]
      have hcl := hb cs.length
      rw [List.take_length] at hcl
      simp only [dxs, dl]
      refine lc_mapA (caps rs 0 cs) capD (fun x => wd x.1) rfl (sz (by omega)) trivial (fun x _ => ⟨_, rfl, fun Q z => ?_⟩) ?_
      · simp only [dxs, dl, dwipe, List.map_cons, List.map_nil, capD]
        exact z
      · have e : (caps rs 0 cs).map (fun x => wd x.1) = (putsC rs cs).map wd := by unfold putsC; rw [List.map_map]; rfl
        rw [e]
        simp only [rSortD]
        refine ⟨okS_wd _, ?_⟩
        rw [sort_wd_asc (putsC_lt v.ordered cs)]
        exact ⟨_, Sub.refl _, q⟩
end
section
variable {P : Program} {w : World} {K : PySem.W.Frag} {mg : Str → Option Value} {base : Heap} {C : Addr}
theorem dist_filter : ∀ p q : List Nat, p.length = q.length → ((List.range p.length).filter fun k => decide (p[k]? ≠ q[k]?)).length = distN p q
  | [], [], _ => rfl
  | [], _ :: _, h => by simp at h
  | _ :: _, [], h => by simp at h
  | x :: p, y :: q, h => by
    have ih := dist_filter p q (by simpa using h)
    rw [List.length_cons, List.range_succ_eq_map, List.filter_cons, List.filter_map, distN, ← ih]
    have e : ((fun k => decide ((x :: p)[k]? ≠ (y :: q)[k]?)) ∘ Nat.succ) = fun k => decide (p[k]? ≠ q[k]?) := by
      funext k
      simp
    rw [e]
    by_cases hxy : x = y
    · subst hxy
      simp [b2n]
    · simp [b2n, hxy]
      omega
def spApart42 : SpD := fun ds G Q => ∃ p q : List Nat, ds = [.str (strOf p), .str (strOf q)] ∧ p.length = q.length ∧ p.length ≤ 1000 ∧ Q (.int (distN p q : Nat)) G
abbrev N__law_apart : List Str := ["_law_one", "_law_mark", "_law_k"]
theorem sc__law_apart : FnScope N__law_apart ["_law_one", "_law_mark"] (defScope s__law_apart) := ⟨rfl, rfl, rfl, by decide +kernel, rfl, by decide +kernel, by decide +kernel⟩
theorem c__law_apart (T : Txt K mg C) (d : Def K mg "_law_apart" s__law_apart) : Cal P w K mg base "_law_apart" 1 ["_law_one", "_law_mark"] (spApart42) := by
  refine cal_mk (N := N__law_apart) d sc__law_apart (fun ds G Q h => ?_) (fun _ _ _ _ _ _ us hl => match us, hl with | [_, _], _ => rfl) (fun f cdv A outer s H E hg hr => ?_)
  · obtain ⟨p, q, rfl, _⟩ := h
    rfl
  · have hu := hu100 hr
    have nd := sc__law_apart.nd
    have hA := deeper_guards (env := envOfC "_law_apart" (defScope s__law_apart) s.heap.objs.size f cdv) hg
    refine ⟨_, (dps_one (dp_ret (de_callB cd_len rfl T.f_len (by decide +kernel) (da_cons (de_lc (own := [("_law_k", 2)]) (p := (.nm 2)) rfl nd (di_range1 rfl T.f_range (da_cons (de_callB cd_len rfl T.f_len (by decide +kernel) (da_cons (de_var 0) da_nil)) da_nil)) (blkOk_by (by show blkC N__law_apart (defScope s__law_apart) _ _ = true; decide +kernel)) (by decide) (fun _ _ _ _ _ => pg_name (i := 2) nd rfl (Or.inl rfl)) (fun _ _ _ _ _ => (dts_one (dt_cmp (od_ne hu) (de_ix hu (de_var 0) (de_var 2)) (de_ix hu (de_var 1) (de_var 2)) (nomark _)))) (fun _ _ _ _ _ => (de_var 2))) da_nil)))), fun ds G Q h => ?_⟩
    obtain ⟨p, q, rfl, pq, pl, z⟩ := h
    rw [show dstart N__law_apart [.str (strOf p), .str (strOf q)] = [some (.str (strOf p)), some (.str (strOf q)), none] from rfl]
    have lq : (strOf q).length ≤ sizeLine := by rw [strOf_len]; exact sz (by omega)
    have lp : (strOf p).length ≤ sizeLine := by rw [strOf_len]; exact sz (by omega)
    have at_ : ∀ (p : List Nat) (i : Nat), (strOf p).length ≤ sizeLine → i < p.length → D.item (.str (strOf p)) (.int (i : Int)) = some (.str (sgn (p.getD i 0))) := fun p i hl hi => by
      show (if (strOf p).length ≤ sizeLine then _ else _) = _
      rw [if_pos hl]
      have : atI (strOf p).cps.toList (i : Int) = some (p.getD i 0) := atI_nat (by show p[i]? = _; rw [List.getElem?_eq_getElem hi, List.getD_eq_getElem?_getD, List.getElem?_eq_getElem hi]; rfl)
      rw [this]
      rfl
    simp only [dxs, dl, dx3, len_str lp, strOf_len]
    refine ⟨by omega, by omega, ?_⟩
    rw [Int.toNat_natCast]
    refine lc_someA (List.range p.length) (fun i : Nat => .int (i : Int)) (fun k => decide (p[k]? ≠ q[k]?)) (fun i : Nat => .int (i : Int)) rfl (sz (by simp; omega)) trivial (fun i hi => ⟨_, rfl, fun Q z => ?_, fun _ Q z => ?_⟩) ?_
    · have hi := List.mem_range.mp hi
      have e : (decide (p[i]? ≠ q[i]?)) = !decide (p.getD i 0 = q.getD i 0) := by
        rw [List.getD_eq_getElem?_getD, List.getD_eq_getElem?_getD, List.getElem?_eq_getElem hi, List.getElem?_eq_getElem (by omega : i < q.length)]
        simp
      simp only [dxs, dl, dwipe, List.map_cons, List.map_nil, at_ p i lp hi, at_ q i lq (by omega), D.cur, sgn_okE, sgn_eqv, true_and, ← e]
      exact z
    · simp only [dxs, dl, dwipe, List.map_cons, List.map_nil]
      exact z
    · simp only [rLenD, D.cur, D.len, List.length_map, dist_filter p q pq]
      exact ⟨_, Sub.refl _, z⟩
end
end Pace
end
section
set_option Elab.async false
set_option linter.all false
set_option maxRecDepth 100000
set_option maxHeartbeats 4000000
namespace Pace
open PySem PySem.Spec PyProof.Rows L2 DL
section
variable {P : Program} {w : World} {K : PySem.W.Frag} {mg : Str → Option Value} {base : Heap} {C : Addr}
def spLess : SpD := fun ds G Q => ∃ a b : Cost, ds = [natO a, natO b] ∧ Q (natO (lessO a b)) G
abbrev N_less : List Str := ["one", "other"]
theorem sc_less : FnScope N_less ["one", "other"] (defScope s_less) := ⟨rfl, rfl, rfl, by decide +kernel, rfl, by decide +kernel, by decide +kernel⟩
theorem c_less (T : Txt K mg C) (d : Def K mg "less" s_less) : Cal P w K mg base "less" 1 ["one", "other"] (spLess) := by
  refine cal_mk (N := N_less) d sc_less (fun ds G Q h => ?_) (fun _ _ _ _ _ _ us hl => match us, hl with | [_, _], _ => rfl) (fun f cdv A outer s H E hg hr => ?_)
  · obtain ⟨a, b, rfl, _⟩ := h
    rfl
  · have hu := hu100 hr
    have nd := sc_less.nd
    have hA := deeper_guards (env := envOfC "less" (defScope s_less) s.heap.objs.size f cdv) hg
    refine ⟨_, (dps_cons (dp_if (DW.dt (dw_or (dt_cmp od_isN (de_var 0) de_non (nomark _)) (dw_or1 (dt_cmp od_isN (de_var 1) de_non (nomark _)))))
  (dps_one (dp_ret (de_if (dt_cmp od_isN (de_var 0) de_non (nomark _)) (de_var 1) (de_var 0))))
  dps_nil)
  (dps_one (dp_ret (de_callB (cd_min2 rfl) rfl T.f_min (by decide +kernel) (da_cons (de_var 0) (da_cons (de_var 1) da_nil)))))), fun ds G Q h => ?_⟩
    obtain ⟨a, b, rfl, q⟩ := h
    rw [show dstart N_less [natO a, natO b] = [some (natO a), some (natO b)] from rfl]
    have nn : D.non.isNon = true := rfl
    have ni : ∀ n : Int, (D.int n).isNon = false := fun _ => rfl
    cases a <;> cases b <;> simp only [dxs, dl, dx3, natO, nn, ni, if_true, Bool.false_eq_true, if_false, rMin2D]
    · exact ⟨_, Sub.refl _, q⟩
    · exact ⟨_, Sub.refl _, q⟩
    · exact ⟨_, Sub.refl _, q⟩
    · rename_i a b
      have e : (if ((b : Nat) : Int) < ((a : Nat) : Int) then ((b : Nat) : Int) else ((a : Nat) : Int)) = ((min a b : Nat) : Int) := by split <;> omega
      rw [e]
      exact ⟨_, Sub.refl _, q⟩
end
section
variable {P : Program} {w : World} {K : PySem.W.Frag} {mg : Str → Option Value} {base : Heap} {C : Addr}
def spFirstRow (C : Addr) : SpD := fun ds G Q => ∃ R : Rul, ds = [rulD C R] ∧ 1 ≤ R.rows.length ∧ R.rows.length ≤ 999 ∧ Q (.tup (rowDs (firstR R.rows.length))) G
abbrev N_first_row : List Str := ["rules"]
theorem sc_first_row : FnScope N_first_row ["rules"] (defScope s_first_row) := ⟨rfl, rfl, rfl, by decide +kernel, rfl, by decide +kernel, by decide +kernel⟩
theorem c_first_row (T : Txt K mg C) (d : Def K mg "first_row" s_first_row) : Cal P w K mg base "first_row" 1 ["rules"] (spFirstRow C) := by
  refine cal_mk (N := N_first_row) d sc_first_row (fun ds G Q h => ?_) (fun _ _ _ _ _ _ us hl => match us, hl with | [_], _ => rfl) (fun f cdv A outer s H E hg hr => ?_)
  · obtain ⟨R, rfl, _⟩ := h
    rfl
  · have hu := hu100 hr
    have nd := sc_first_row.nd
    have hA := deeper_guards (env := envOfC "first_row" (defScope s_first_row) s.heap.objs.size f cdv) hg
    refine ⟨_, (dps_one (dp_ret (de_op od_add (de_tup (da_cons de_int da_nil)) (de_op od_mulT0 (de_tup (da_cons de_non da_nil)) (de_op od_sub (de_callB cd_len rfl T.f_len (by decide +kernel) (da_cons (de_fld T.clR T.no_rows (de_var 0)) da_nil)) de_int))))), fun ds G Q h => ?_⟩
    obtain ⟨R, rfl, n1, n2, q⟩ := h
    rw [show dstart N_first_row [rulD C R] = [some (rulD C R)] from rfl]
    have eR : ∀ G : GH, D.cur G (rulD C R) = .obj C (rulF R) := fun _ => rfl
    simp only [dxs, dl, dx3, eR, rulF_rows]
    have e1 : ((R.rows.length : Nat) : Int) - 1 = ((R.rows.length - 1 : Nat) : Int) := by omega
    have eT : ∀ (G : GH) (xs : List D), D.cur G (.tup xs) = .tup xs := fun _ _ => rfl
    have er : rowDs (firstR R.rows.length) = [.int 0] ++ List.replicate (R.rows.length - 1) .non := by simp [rowDs, firstR, natO]
    rw [er] at q
    simp only [rows_len_, rIntD, e1, rMulT0, rAddD, eT, Int.toNat_natCast, rep_one2]
    exact ⟨sz (by decide), sz (by decide), trivial, trivial, by simp, by omega, by omega, by simp, sz (by simp; omega), G, Sub.refl _, q⟩
end
section
variable {P : Program} {w : World} {K : PySem.W.Frag} {mg : Str → Option Value} {base : Heap} {C : Addr}
def spLeastOf : SpD := fun ds G Q => ∃ r : List Cost, ds = [.tup (rowDs r)] ∧ r.length ≤ 1000 ∧ Q (natO (leastC r)) G
abbrev N_least_of : List Str := ["row", "costs"]
theorem sc_least_of : FnScope N_least_of ["row"] (defScope s_least_of) := ⟨rfl, rfl, rfl, by decide +kernel, rfl, by decide +kernel, by decide +kernel⟩
theorem c_least_of (T : Txt K mg C) (d : Def K mg "least_of" s_least_of) : Cal P w K mg base "least_of" 1 ["row"] (spLeastOf) := by
  refine cal_mk (N := N_least_of) d sc_least_of (fun ds G Q h => ?_) (fun _ _ _ _ _ _ us hl => match us, hl with | [_], _ => rfl) (fun f cdv A outer s H E hg hr => ?_)
  · obtain ⟨r, rfl, _⟩ := h
    rfl
  · have hu := hu100 hr
    have nd := sc_least_of.nd
    have hA := deeper_guards (env := envOfC "least_of" (defScope s_least_of) s.heap.objs.size f cdv) hg
    refine ⟨_, (dps_one (dp_ret (de_bestN (crk_minN hu rfl) rfl T.f_min (by decide +kernel) (da_cons (de_lc (own := [("costs", 1)]) (p := (.nm 1)) rfl nd (di_tup (de_var 0)) (blkOk_by (by show blkC N_least_of (defScope s_least_of) _ _ = true; decide +kernel)) (by decide) (fun _ _ _ _ _ => pg_name (i := 1) nd rfl (Or.inl rfl)) (fun _ _ _ _ _ => (dts_one (dt_cmp od_notN (de_var 1) de_non (nomark _)))) (fun _ _ _ _ _ => (de_var 1))) da_nil)))), fun ds G Q h => ?_⟩
    obtain ⟨r, rfl, rl, q⟩ := h
    rw [show dstart N_least_of [.tup (rowDs r)] = [some (.tup (rowDs r)), none] from rfl]
    simp only [dxs, dl]
    refine lc_someA r natO Option.isSome natO rfl (sz (by omega)) trivial (fun o _ => ⟨_, rfl, fun Q zz => ?_, fun hb2 Q zz => ?_⟩) ?_
    · simp only [dxs, dl, dwipe, List.map_cons, List.map_nil, natO_non]
      cases o <;> exact zz
    · simp only [dxs, dl, dwipe, List.map_cons, List.map_nil]
      exact zz
    unfold rBestND
    have eL : ∀ (G : GH) (xs : List D), D.cur G (.lst xs) = .lst xs := fun _ _ => rfl
    simp only [eL, leastC_ints]
    unfold leastC at q
    generalize r.filterMap id = l at *
    cases l with
    | nil => exact ⟨_, Sub.refl _, q⟩
    | cons n l =>
      simp only [List.map_cons, foldl_min_nat]
      exact ⟨_, Sub.refl _, q⟩
end
end Pace
end
section
set_option Elab.async false
set_option linter.all false
set_option maxRecDepth 100000
set_option maxHeartbeats 4000000
namespace Pace
open PySem PySem.Spec PyProof.Rows L2 DL
section
variable {P : Program} {w : World} {K : PySem.W.Frag} {mg : Str → Option Value} {base : Heap} {C : Addr}
def spRestAhead (C : Addr) : SpD := fun ds G Q => ∃ (R : Rul) (rest : List Cost) (h c : Nat), ds = [rulD C R, .tup (rowDs rest), .str (sgn h), .str (sgn c)] ∧ Steps R.rows ∧ rest.length = R.rows.length ∧ Q (.tup (rowDs (restNx R.rows rest (h, c)))) G
abbrev N_rest_ahead : List Str := ["rules", "rest", "letter", "shown", "found", "row", "least", "heard", "sign", "target"]
theorem sc_rest_ahead : FnScope N_rest_ahead ["rules", "rest", "letter", "shown"] (defScope s_rest_ahead) := ⟨rfl, rfl, rfl, by decide +kernel, rfl, by decide +kernel, by decide +kernel⟩
theorem c_rest_ahead (T : Txt K mg C) (d : Def K mg "rest_ahead" s_rest_ahead) (C_less : Cal P w K mg base "less" 1 ["one", "other"] (spLess)) : Cal P w K mg base "rest_ahead" 2 ["rules", "rest", "letter", "shown"] (spRestAhead C) := by
  refine cal_mk (N := N_rest_ahead) d sc_rest_ahead (fun ds G Q h => ?_) (fun _ _ _ _ _ _ us hl => match us, hl with | [_, _, _, _], _ => rfl) (fun f cdv A outer s H E hg hr => ?_)
  · obtain ⟨R, rest, h, c, rfl, _⟩ := h
    rfl
  · have hu := hu100 hr
    have nd := sc_rest_ahead.nd
    have hA := deeper_guards (env := envOfC "rest_ahead" (defScope s_rest_ahead) s.heap.objs.size f cdv) hg
    refine ⟨_, (dps_cons (dp_asg (de_lstM da_nil) (dg_name 4 nd))
  (dps_cons (dp_for PassesOwn.never rfl (di_tup (de_fld T.clR T.no_rows (de_var 0))) (dg_name 5 nd)
  (dps_cons (dp_asg de_non (dg_name 6 nd))
  (dps_cons (dp_for PassesOwn.never rfl (di_tup (de_var 5)) (dg_tup (n := 3) rfl (dgs_cons (dg_name 7 nd) (dgs_cons (dg_name 8 nd) (dgs_cons (dg_name 9 nd) dgs_nil))))
  (dps_one (dp_if (DW.dt (dw_and (dt_cmp (od_eq hu) (de_var 7) (de_var 2) (nomark _)) (dw_and1 (dt_cmp od_notN (de_ix hu (de_var 1) (de_var 9)) de_non (nomark _)))))
  (dps_one (dp_asg (de_cal C_less hA (hr.mono (by decide)) (da_cons (de_var 6) (da_cons (de_op od_add (de_ix hu (de_var 1) (de_var 9)) (de_callTy cd_int rfl T.f_int (by decide +kernel) (da_cons (de_cmp (od_ne hu) (de_var 8) (de_var 3) (nomark _)) da_nil))) da_nil))) (dg_name 6 nd)))
  dps_nil)))
  (dps_one (dp_expr (de_bm PySem.F.plainAttrs_list PySem.F.slot_list_append PySem.F.type_list_append md_append (de_var 4) (da_cons (de_var 6) da_nil)))))))
  (dps_one (dp_ret (de_callTy cd_tuple rfl T.f_tuple (by decide +kernel) (da_cons (de_var 4) da_nil)))))), fun ds G Q h => ?_⟩
    obtain ⟨R, rest, h, c, rfl, st, rl, q⟩ := h
    rw [show dstart N_rest_ahead [rulD C R, .tup (rowDs rest), .str (sgn h), .str (sgn c)] = [some (rulD C R), some (.tup (rowDs rest)), some (.str (sgn h)), some (.str (sgn c)), none, none, none, none, none, none] from rfl]
    have n999 := st.n
    have eR : ∀ G : GH, D.cur G (rulD C R) = .obj C (rulF R) := fun _ => rfl
    simp only [dxs, dl, dx3, eR, rulF_rows]
    refine ⟨sz (by decide), fun p hp => ⟨trivial, ?_⟩⟩
    simp only [rowsD]
    have eS : ∀ (G : GH) (x : Str), D.cur G (.str x) = .str x := fun _ _ => rfl
    refine ⟨fun j S' G' => ∃ (x5 x6 x7 x8 x9 : Option D), S' = [some (rulD C R), some (.tup (rowDs rest)), some (.str (sgn h)), some (.str (sgn c)), some (.rf p), x5, x6, x7, x8, x9] ∧ G' = gput G p (.lst (rowDs ((R.rows.take j).map (restM rest (h, c))))),
      ⟨_, _, _, _, _, rfl, rfl⟩, fun _ _ _ _ => trivial, ?_, ?_⟩
    · rintro j S' G' d ⟨x5, x6, x7, x8, x9, rfl, rfl⟩ hd
      obtain ⟨row, hrow, rfl⟩ := map_get hd
      have hj := (List.getElem?_eq_some_iff.mp hrow).1
      have tl : ∀ m ∈ row, m.t < rest.length := fun m hm => by rw [rl]; exact st.cl.2 row (List.mem_of_getElem? hrow) m hm
      simp only [dxs, dl, dx3, rowD]
      refine ⟨fun i S'' G'' => ∃ (x7 x8 x9 : Option D), S'' = [some (rulD C R), some (.tup (rowDs rest)), some (.str (sgn h)), some (.str (sgn c)), some (.rf p), some (rowD row), some (natO (restM rest (h, c) (row.take i))), x7, x8, x9] ∧ G'' = gput G p (.lst (rowDs ((R.rows.take j).map (restM rest (h, c))))),
        ⟨_, _, _, rfl, rfl⟩, fun _ _ _ _ => trivial, ?_, ?_⟩
      · rintro i S'' G'' d ⟨x7, x8, x9, rfl, rfl⟩ hd
        obtain ⟨m, hm, rfl⟩ := map_get hd
        have mt := tl m (List.mem_of_getElem? hm)
        have fs := restM_snoc rest (h, c) (row.take i) m
        rw [← take_step hm] at fs
        simp only [dxs, dl, Mv.d, eS, sgn_eqv, sgn_okE, true_and]
        rw [fs]
        generalize restM rest (h, c) (row.take i) = o
        by_cases e : m.h = h
        · rw [if_pos (by simpa using e), if_pos e]
          simp only [rowDs_atT mt, natO_non]
          cases er : rest.getD m.t none with
          | none =>
            simp only [Option.isNone_none, Bool.not_true, Bool.false_eq_true, if_false]
            exact ⟨_, _, _, rfl, trivial⟩
          | some x =>
            have cst : ∀ b : Bool, ((x : Nat) : Int) + (if b = true then 1 else 0) = ((x + b2n b : Nat) : Int) := fun b => by
              unfold b2n
              cases b <;> simp
            have eb : (!decide (m.c = c)) = decide (m.c ≠ c) := by by_cases e : m.c = c <;> simp [e]
            simp only [Option.isNone_some, Bool.not_false, if_true, natO, x_intB, dx3, eb, cst]
            refine ⟨o, some (x + b2n (decide (m.c ≠ c))), rfl, ?_⟩
            exact ⟨_, _, _, rfl, rfl⟩
        · rw [if_neg (by simpa using e), if_neg e]
          exact ⟨_, _, _, rfl, trivial⟩
      · rintro S'' G'' ⟨x7, x8, x9, rfl, rfl⟩
        rw [List.length_map, List.take_length]
        simp only [dxs, dl, rAppendD, gput_gput]
        have e3 : R.rows.take (j + 1) = R.rows.take j ++ [row] := take_step hrow
        refine ⟨rfl, szl (by rw [rowDs_len, List.length_map, List.length_take]; omega), _, _, _, _, _, rfl, ?_⟩
        rw [e3, List.map_append]
        simp [rowDs]
    · rintro S' G' ⟨x5, x6, x7, x8, x9, rfl, rfl⟩
      rw [List.length_map, List.take_length]
      simp only [dxs, dl, rTupleD]
      exact ⟨G, sub_new hp rfl, q⟩
end
end Pace
end
section
set_option Elab.async false
set_option linter.all false
set_option maxRecDepth 100000
set_option maxHeartbeats 4000000
namespace Pace
open PySem PySem.Spec PyProof.Rows L2 DL
section
variable {P : Program} {w : World} {K : PySem.W.Frag} {mg : Str → Option Value} {base : Heap} {C : Addr}
def spRestsAlong (C : Addr) : SpD := fun ds G Q => ∃ (R : Rul) (p q : List Nat), ds = [rulD C R, .str (strOf p), .str (strOf q)] ∧ Steps R.rows ∧ p.length = q.length ∧ p.length ≤ 1000 ∧ Q (.tup ((restsW R.rows (p.zip q)).map fun r => .tup (rowDs r))) G
abbrev N_rests_along : List Str := ["rules", "speech", "caption", "rests", "letter", "shown"]
theorem sc_rests_along : FnScope N_rests_along ["rules", "speech", "caption"] (defScope s_rests_along) := ⟨rfl, rfl, rfl, by decide +kernel, rfl, by decide +kernel, by decide +kernel⟩
theorem c_rests_along (T : Txt K mg C) (d : Def K mg "rests_along" s_rests_along) (C_rest_ahead : Cal P w K mg base "rest_ahead" 2 ["rules", "rest", "letter", "shown"] (spRestAhead C)) : Cal P w K mg base "rests_along" 3 ["rules", "speech", "caption"] (spRestsAlong C) := by
  refine cal_mk (N := N_rests_along) d sc_rests_along (fun ds G Q h => ?_) (fun _ _ _ _ _ _ us hl => match us, hl with | [_, _, _], _ => rfl) (fun f cdv A outer s H E hg hr => ?_)
  · obtain ⟨R, p, q, rfl, _⟩ := h
    rfl
  · have hu := hu100 hr
    have nd := sc_rests_along.nd
    have hA := deeper_guards (env := envOfC "rests_along" (defScope s_rests_along) s.heap.objs.size f cdv) hg
    refine ⟨_, (dps_cons (dp_asg (de_lstM (da_cons (de_op od_mulT0 (de_tup (da_cons de_int da_nil)) (de_callB cd_len rfl T.f_len (by decide +kernel) (da_cons (de_fld T.clR T.no_rows (de_var 0)) da_nil))) da_nil)) (dg_name 3 nd))
  (dps_cons (dp_for PassesOwn.never rfl (di_zipS rfl T.f_zip (da_cons (de_revS (de_var 1)) (da_cons (de_revS (de_var 2)) da_nil))) (dg_tup (n := 2) rfl (dgs_cons (dg_name 4 nd) (dgs_cons (dg_name 5 nd) dgs_nil)))
  (dps_one (dp_expr (de_bm PySem.F.plainAttrs_list PySem.F.slot_list_append PySem.F.type_list_append md_append (de_var 3) (da_cons (de_cal C_rest_ahead hA (hr.mono (by decide)) (da_cons (de_var 0) (da_cons (de_ix hu (de_var 3) (de_un ud_neg de_int)) (da_cons (de_var 4) (da_cons (de_var 5) da_nil))))) da_nil)))))
  (dps_one (dp_ret (de_callTy cd_tuple rfl T.f_tuple (by decide +kernel) (da_cons (de_revL (de_var 3)) da_nil)))))), fun ds G Q h => ?_⟩
    obtain ⟨R, p, q, rfl, st, pq, pl, z⟩ := h
    rw [show dstart N_rests_along [rulD C R, .str (strOf p), .str (strOf q)] = [some (rulD C R), some (.str (strOf p)), some (.str (strOf q)), none, none, none] from rfl]
    have eR : ∀ G : GH, D.cur G (rulD C R) = .obj C (rulF R) := fun _ => rfl
    simp only [dxs, dl, dx3, eR, rulF_rows, dRevS, rev_strOf]
    have lp : (strOf p).length ≤ sizeLine := by rw [strOf_len]; exact sz (by omega)
    have lq : (strOf q).length ≤ sizeLine := by rw [strOf_len]; exact sz (by omega)
    have n1 := st.cl.1
    have n999 := st.n
    simp only [rows_len_, zipS_eq, zip_rev pq]
    have rp1 : ∀ m : Nat, (List.replicate m [D.int 0]).flatten = List.replicate m (D.int 0) := fun m => rep_one2 m _
    simp only [rMulT0, Int.toNat_natCast, rp1]
    have e0 : List.replicate R.rows.length (D.int 0) = rowDs (restAl R.rows []) := by simp [rowDs, restAl, natO]
    rw [e0]
    generalize hw : p.zip q = w at z ⊢
    have wl : w.length ≤ 1000 := by rw [← hw, List.length_zip]; omega
    refine ⟨sz (by decide), trivial, by simp, by omega, by omega, by simp, sz (by decide), fun a ha => ⟨lp, lq, ?_⟩⟩
    have e1 : [D.tup (rowDs (restAl R.rows []))] = (backW R.rows w 0).map fun r => D.tup (rowDs r) := by
      unfold backW
      simp
    rw [e1]
    refine ⟨fun j S' G' => ∃ (x4 x5 : Option D), S' = [some (rulD C R), some (.str (strOf p)), some (.str (strOf q)), some (.rf a), x4, x5] ∧ G' = gput G a (.lst ((backW R.rows w j).map fun r => D.tup (rowDs r))) ∧ j ≤ w.length,
      ⟨_, _, rfl, rfl, Nat.zero_le _⟩, fun _ _ _ _ => trivial, ?_, ?_⟩
    · rintro j S' G' d ⟨x4, x5, rfl, rfl, hj⟩ hd
      obtain ⟨k, hk, rfl⟩ := map_get hd
      have jl := (List.getElem?_eq_some_iff.mp hk).1
      rw [List.length_reverse] at jl
      have last : D.item (.lst ((backW R.rows w j).map fun r => D.tup (rowDs r))) (.int (-1)) = some (.tup (rowDs (restAl R.rows (w.drop (w.length - j))))) := by
        refine item_last (n := j) (by rw [List.length_map, backW_len]) ?_
        rw [List.getElem?_map, backW_last]
        rfl
      simp only [dxs, dl, last, rNegD, true_and]
      refine ⟨rfl, R, _, k.1, k.2, rfl, st, restAl_len _ _, ?_⟩
      simp only [rAppendD, dl, gput_gput]
      refine ⟨szl (by rw [List.length_map, backW_len]; omega), _, _, rfl, ?_, by omega⟩
      rw [backW_succ hk, List.map_append]
      rfl
    · rintro S' G' ⟨x4, x5, rfl, rfl, hj⟩
      rw [List.length_map, List.length_reverse]
      simp only [dxs, dl, dx3, rTupleD, ← List.map_reverse, backW_rev]
      exact ⟨G, sub_new ha rfl, z⟩
end
end Pace
end
section
set_option Elab.async false
set_option linter.all false
set_option maxRecDepth 100000
set_option maxHeartbeats 4000000
namespace Pace
open PySem PySem.Spec PyProof.Rows L2 DL
section
variable {P : Program} {w : World} {K : PySem.W.Frag} {mg : Str → Option Value} {base : Heap} {C : Addr}
theorem mend_at {A : Rows} {w : List Ky} {i s : Nat} {k : Ky} (h : w[i]? = some k) : mendW A (w.drop i) s = match (rowS A s).find? (fitM A (w.drop (i + 1)) k s) with
    | some m => m.c :: mendW A (w.drop (i + 1)) m.t
    | none => mendW A (w.drop (i + 1)) s := by
  have hi := (List.getElem?_eq_some_iff.mp h).1
  rw [List.drop_eq_getElem_cons hi, (List.getElem?_eq_some_iff.mp h).2, mendW]
  all_goals rfl
def spMendedBy (C : Addr) : SpD := fun ds G Q => ∃ (R : Rul) (p q : List Nat), ds = [rulD C R, .str (strOf p), .str (strOf q)] ∧ Steps R.rows ∧ p.length = q.length ∧ p.length ≤ 1000 ∧ Q (.str (strOf (mendW R.rows (p.zip q) 0))) G
abbrev N_mended_by : List Str := ["rules", "speech", "caption", "rests", "state", "found", "place", "letter", "heard", "sign", "target", "rest", "costs"]
theorem sc_mended_by : FnScope N_mended_by ["rules", "speech", "caption"] (defScope s_mended_by) := ⟨rfl, rfl, rfl, by decide +kernel, rfl, by decide +kernel, by decide +kernel⟩
theorem c_mended_by (T : Txt K mg C) (d : Def K mg "mended_by" s_mended_by) (C_rests_along : Cal P w K mg base "rests_along" 3 ["rules", "speech", "caption"] (spRestsAlong C)) : Cal P w K mg base "mended_by" 4 ["rules", "speech", "caption"] (spMendedBy C) := by
  refine cal_mk (N := N_mended_by) d sc_mended_by (fun ds G Q h => ?_) (fun _ _ _ _ _ _ us hl => match us, hl with | [_, _, _], _ => rfl) (fun f cdv A outer s H E hg hr => ?_)
  · obtain ⟨R, p, q, rfl, _⟩ := h
    rfl
  · have hu := hu100 hr
    have nd := sc_mended_by.nd
    have hA := deeper_guards (env := envOfC "mended_by" (defScope s_mended_by) s.heap.objs.size f cdv) hg
    refine ⟨_, (dps_cons (dp_par3 (i := 3) (j := 4) (l := 5) rfl nd (ha := (da_cons (de_cal C_rests_along hA (hr.mono (by decide)) (da_cons (de_var 0) (da_cons (de_var 1) (da_cons (de_var 2) da_nil)))) (da_cons de_int (da_cons de_str da_nil)))))
  (dps_cons (dp_for PassesOwn.never rfl (di_enumS rfl T.f_enumerate (da_cons (de_var 1) da_nil)) (dg_tup (n := 2) rfl (dgs_cons (dg_name 6 nd) (dgs_cons (dg_name 7 nd) dgs_nil)))
  (dps_one (dp_for PassesOwn.never rfl (di_tup (de_ix hu (de_fld T.clR T.no_rows (de_var 0)) (de_var 4))) (dg_tup (n := 3) rfl (dgs_cons (dg_name 8 nd) (dgs_cons (dg_name 9 nd) (dgs_cons (dg_name 10 nd) dgs_nil))))
  (dps_cons (dp_asg (de_ix hu (de_ix hu (de_var 3) (de_op od_add (de_var 6) de_int)) (de_var 10)) (dg_name 11 nd))
  (dps_cons (dp_asg (de_if (DW.dt (dw_or (dt_cmp (od_ne hu) (de_var 8) (de_var 7) (nomark _)) (dw_or1 (dt_cmp od_isN (de_var 11) de_non (nomark _))))) de_non (de_op od_add (de_var 11) (de_callTy cd_int rfl T.f_int (by decide +kernel) (da_cons (de_cmp (od_ne hu) (de_var 9) (de_ix hu (de_var 2) (de_var 6)) (nomark _)) da_nil)))) (dg_name 12 nd))
  (dps_one (dp_if (DW.dt (dw_and (dt_cmp od_notN (de_var 12) de_non (nomark _)) (dw_and1 (dt_cmp (od_eq hu) (de_var 12) (de_ix hu (de_ix hu (de_var 3) (de_var 6)) (de_var 4)) (nomark _)))))
  (dps_cons (dp_par (i := 5) (j := 4) rfl nd (ha := (da_cons (de_op od_add (de_var 5) (de_var 9)) (da_cons (de_var 10) da_nil))))
  (dps_one dp_break))
  dps_nil)))))))
  (dps_one (dp_ret (de_var 5))))), fun ds G Q h => ?_⟩
    obtain ⟨R, p, q, rfl, st, pq, pl, z⟩ := h
    rw [show dstart N_mended_by [rulD C R, .str (strOf p), .str (strOf q)] = [some (rulD C R), some (.str (strOf p)), some (.str (strOf q)), none, none, none, none, none, none, none, none, none, none] from rfl]
    have eR : ∀ G : GH, D.cur G (rulD C R) = .obj C (rulF R) := fun _ => rfl
    have ec : ∀ (G : GH), D.cur G (rowsD R.rows) = rowsD R.rows := fun _ => rfl
    have n1 := st.cl.1
    have n999 := st.n
    simp only [dxs, dl, dx3]
    refine ⟨R, p, q, rfl, st, pq, pl, ?_⟩
    have zl : (p.zip q).length = p.length := by rw [List.length_zip]; omega
    generalize hw : p.zip q = w at z zl ⊢
    dsimp only
    simp only [diEnumS, dxs, dl]
    have rat : ∀ s, s < R.rows.length → D.item (rowsD R.rows) (.int (s : Int)) = some (.tup ((rowS R.rows s).map Mv.d)) := fun s hs => by
      refine atI_nat ?_
      rw [List.getElem?_map, List.getElem?_eq_getElem hs]
      unfold rowS rowD
      simp [List.getD, hs]
    have eS : ∀ (G : GH) (x : Str), D.cur G (.str x) = .str x := fun _ _ => rfl
    have ecT : ∀ (G : GH) (xs : List D), D.cur G (.tup xs) = .tup xs := fun _ _ => rfl
    have rest_at : ∀ i, i ≤ w.length → D.item (.tup ((restsW R.rows w).map fun r => D.tup (rowDs r))) (.int (i : Int)) = some (.tup (rowDs (restAl R.rows (w.drop i)))) := fun i hi => by
      refine atI_nat ?_
      rw [List.getElem?_map, restsW_at hi]
      rfl
    have lq : (strOf q).length ≤ sizeLine := by rw [strOf_len]; exact sz (by omega)
    refine ⟨fun i S' G' => ∃ (s : Nat) (pre : List Nat) (x6 x7 x8 x9 x10 x11 x12 : Option D), S' = [some (rulD C R), some (.str (strOf p)), some (.str (strOf q)), some (.tup ((restsW R.rows w).map fun r => D.tup (rowDs r))), some (.int (s : Int)), some (.str (strOf pre)), x6, x7, x8, x9, x10, x11, x12] ∧ G' = G ∧ s < R.rows.length ∧ pre.length ≤ i ∧ pre ++ mendW R.rows (w.drop i) s = mendW R.rows w 0,
      ⟨0, [], _, _, _, _, _, _, _, by rw [← str_nil]; rfl, rfl, n1, Nat.le_refl _, rfl⟩, fun _ _ _ _ => trivial, ?_, ?_⟩
    · rintro i S' G' d ⟨s, pre, x6, x7, x8, x9, x10, x11, x12, rfl, rfl, hs, hpre, em⟩ hd
      obtain ⟨h, hh, rfl⟩ : ∃ h, p[i]? = some h ∧ d = .tup [.int (i : Int), .str (sgn h)] := by
        rw [List.getElem?_mapIdx, signs_map, List.getElem?_map] at hd
        cases e : p[i]? with
        | none => rw [e] at hd; cases hd
        | some h => rw [e] at hd; cases hd; exact ⟨h, rfl, rfl⟩
      have hi := (List.getElem?_eq_some_iff.mp hh).1
      obtain ⟨c, hc⟩ : ∃ c, q[i]? = some c := ⟨_, List.getElem?_eq_getElem (by omega)⟩
      have hk : w[i]? = some (h, c) := by
        rw [← hw]
        exact List.getElem?_zip_eq_some (z := (h, c)) |>.mpr ⟨hh, hc⟩
      have wi : w.drop i = (h, c) :: w.drop (i + 1) := by
        rw [List.drop_eq_getElem_cons (by omega), (List.getElem?_eq_some_iff.mp hk).2]
      have capi : D.item (.str (strOf q)) (.int (i : Int)) = some (.str (sgn c)) := by
        show (if (strOf q).length ≤ sizeLine then _ else _) = _
        rw [if_pos lq]
        have : atI (strOf q).cps.toList (i : Int) = some c := atI_nat hc
        rw [this]
        rfl
      simp only [dxs, dl, dx3, eR, rulF_rows, ec, rat s hs]
      refine ⟨trivial, trivial, ?_⟩
      have ri := restAl_len R.rows (w.drop i)
      have ri1 := restAl_len R.rows (w.drop (i + 1))
      have me := mend_at (A := R.rows) (s := s) hk
      refine ⟨fun j S'' G'' => ∃ (x8 x9 x10 x11 x12 : Option D), S'' = [some (rulD C R), some (.str (strOf p)), some (.str (strOf q)), some (.tup ((restsW R.rows w).map fun r => D.tup (rowDs r))), some (.int (s : Int)), some (.str (strOf pre)), some (.int (i : Int)), some (.str (sgn h)), x8, x9, x10, x11, x12] ∧ G'' = G' ∧ ((rowS R.rows s).take j).find? (fitM R.rows (w.drop (i + 1)) (h, c) s) = none,
        ⟨_, _, _, _, _, rfl, rfl, rfl⟩, fun _ _ _ _ => trivial, ?_, ?_⟩
      · rintro j S'' G'' d ⟨x8, x9, x10, x11, x12, rfl, rfl, nf⟩ hd
        obtain ⟨m, hm, rfl⟩ := map_get hd
        have mmem := List.mem_of_getElem? hm
        have mt : m.t < R.rows.length := st.cl.t mmem
        have nofit : fitM R.rows (w.drop (i + 1)) (h, c) s m = false → ((rowS R.rows s).take (j + 1)).find? (fitM R.rows (w.drop (i + 1)) (h, c) s) = none := fun hf => by
          rw [take_step hm, List.find?_append, nf]
          simp [hf]
        have fit : fitM R.rows (w.drop (i + 1)) (h, c) s m = true → (rowS R.rows s).find? (fitM R.rows (w.drop (i + 1)) (h, c) s) = some m := fun hf => by
          have e : rowS R.rows s = (rowS R.rows s).take (j + 1) ++ (rowS R.rows s).drop (j + 1) := (List.take_append_drop _ _).symm
          rw [e, List.find?_append, take_step hm, List.find?_append, nf]
          simp [hf]
        have e1 : ((i : Int) + 1) = ((i + 1 : Nat) : Int) := by omega
        simp only [dxs, dl, dx3, Mv.d, e1, rest_at (i + 1) (by omega), rest_at i (by omega), ecT, rowDs_atT (show m.t < (restAl R.rows (w.drop (i + 1))).length by omega), rowDs_atT (show s < (restAl R.rows (w.drop i)).length by omega), eS, sgn_eqv, sgn_okE, natO_non, capi, true_and]
        have nn : D.non.isNon = true := rfl
        by_cases e : m.h = h
        · rw [if_neg (by simp [e])]
          cases er : (restAl R.rows (w.drop (i + 1))).getD m.t none with
          | none =>
            simp only [Option.isNone_none, if_true, nn, Bool.not_true, Bool.false_eq_true, if_false]
            exact ⟨_, _, _, _, _, rfl, nofit (by unfold fitM; simp only [er]; simp)⟩
          | some x =>
            have cst : ∀ b : Bool, ((x : Nat) : Int) + (if b = true then 1 else 0) = ((x + b2n b : Nat) : Int) := fun b => by
              unfold b2n
              cases b <;> simp
            have eb : (!decide (m.c = c)) = decide (m.c ≠ c) := by by_cases e : m.c = c <;> simp [e]
            have ecn : ∀ (G : GH) (o : Cost), D.cur G (natO o) = natO o := fun _ o => by cases o <;> rfl
            have ef : fitM R.rows (w.drop (i + 1)) (h, c) s m = decide (some (x + b2n (decide (m.c ≠ c))) = (restAl R.rows (w.drop i)).getD s none) := by
              unfold fitM
              rw [wi]
              simp only [er, e, decide_true, Bool.true_and]
            simp only [Option.isNone_some, Bool.false_eq_true, if_false]
            have enx : natO (some x) = .int (x : Int) := rfl
            have eI : ∀ (G : GH) (n : Int), D.cur G (.int n) = .int n := fun _ _ => rfl
            simp only [x_intB, dx3, enx, rAddD, eI, eb, cst]
            have et : D.int ((x + b2n (decide (m.c ≠ c)) : Nat) : Int) = natO (some (x + b2n (decide (m.c ≠ c)))) := rfl
            have ni : ∀ n : Int, (D.int n).isNon = false := fun _ => rfl
            simp only [ni, Bool.not_false, if_true]
            rw [et]
            simp only [ecn]
            refine ⟨natO_okE _ _, ?_⟩
            rw [natO_eqv]
            by_cases hf : some (x + b2n (decide (m.c ≠ c))) = (restAl R.rows (w.drop i)).getD s none
            · rw [if_pos (by simpa using hf)]
              have ff := fit (by rw [ef]; simpa using hf)
              rw [ff] at me
              have me : mendW R.rows (w.drop i) s = m.c :: mendW R.rows (w.drop (i + 1)) m.t := me
              refine ⟨sz (by rw [strOf_len]; simp [sgn, Str.length]; omega), m.t, pre ++ [m.c], _, _, _, _, _, _, _, by rw [strOf_sgn], trivial, mt, by simp; omega, ?_⟩
              rw [← em, me]
              simp
            · rw [if_neg (by simpa using hf)]
              exact ⟨_, _, _, _, _, rfl, trivial, nofit (by rw [ef]; simpa using hf)⟩
        · rw [if_pos (by simp [e]), if_pos trivial]
          simp only [nn, Bool.not_true, Bool.false_eq_true, if_false]
          exact ⟨_, _, _, _, _, rfl, nofit (by unfold fitM; simp [e])⟩
      · rintro S'' G'' ⟨x8, x9, x10, x11, x12, rfl, rfl, nf⟩
        rw [List.length_map, List.take_length] at nf
        rw [nf] at me
        refine ⟨s, pre, _, _, _, _, _, _, _, rfl, rfl, hs, by omega, ?_⟩
        rw [← em, me]
    · rintro S' G' ⟨s, pre, x6, x7, x8, x9, x10, x11, x12, rfl, rfl, hs, hpre, em⟩
      have el : (List.mapIdx (fun i d => D.tup [D.int ((i : Nat) : Int), d]) (DL.signs (strOf p))).length = w.length := by simp [signs_len, zl]
      rw [el, List.drop_length] at em
      simp only [dxs, dl]
      have : mendW R.rows [] s = [] := rfl
      rw [this, List.append_nil] at em
      rw [em]
      exact ⟨_, Sub.refl _, z⟩
end
end Pace
end
section
set_option Elab.async false
set_option linter.all false
set_option maxRecDepth 100000
set_option maxHeartbeats 4000000
namespace Pace
open PySem PySem.Spec PyProof.Rows L2 DL
section
variable {P : Program} {w : World} {K : PySem.W.Frag} {mg : Str → Option Value} {base : Heap} {C : Addr}
def spRowBehind (C : Addr) : SpD := fun ds G Q => ∃ (R : Rul) (row : List Cost) (h c : Nat), ds = [rulD C R, .tup (rowDs row), .str (sgn h), .str (sgn c)] ∧ Steps R.rows ∧ row.length = R.rows.length ∧ Q (.tup (rowDs (rowNx R.rows row (h, c)))) G
abbrev N_row_behind : List Str := ["rules", "row", "letter", "shown", "found", "state", "costs", "heard", "sign", "target"]
theorem sc_row_behind : FnScope N_row_behind ["rules", "row", "letter", "shown"] (defScope s_row_behind) := ⟨rfl, rfl, rfl, by decide +kernel, rfl, by decide +kernel, by decide +kernel⟩
theorem c_row_behind (T : Txt K mg C) (d : Def K mg "row_behind" s_row_behind) (C_less : Cal P w K mg base "less" 1 ["one", "other"] (spLess)) : Cal P w K mg base "row_behind" 2 ["rules", "row", "letter", "shown"] (spRowBehind C) := by
  refine cal_mk (N := N_row_behind) d sc_row_behind (fun ds G Q h => ?_) (fun _ _ _ _ _ _ us hl => match us, hl with | [_, _, _, _], _ => rfl) (fun f cdv A outer s H E hg hr => ?_)
  · obtain ⟨R, row, h, c, rfl, _⟩ := h
    rfl
  · have hu := hu100 hr
    have nd := sc_row_behind.nd
    have hA := deeper_guards (env := envOfC "row_behind" (defScope s_row_behind) s.heap.objs.size f cdv) hg
    refine ⟨_, (dps_cons (dp_asg (de_op od_mulLM (de_lst (da_cons de_non da_nil)) (de_callB cd_len rfl T.f_len (by decide +kernel) (da_cons (de_var 1) da_nil))) (dg_name 4 nd))
  (dps_cons (dp_for PassesOwn.never rfl (di_enumT rfl T.f_enumerate (da_cons (de_var 1) da_nil)) (dg_tup (n := 2) rfl (dgs_cons (dg_name 5 nd) (dgs_cons (dg_name 6 nd) dgs_nil)))
  (dps_one (dp_if (dt_cmp od_notN (de_var 6) de_non (nomark _))
  (dps_one (dp_for PassesOwn.never rfl (di_tup (de_ix hu (de_fld T.clR T.no_rows (de_var 0)) (de_var 5))) (dg_tup (n := 3) rfl (dgs_cons (dg_name 7 nd) (dgs_cons (dg_name 8 nd) (dgs_cons (dg_name 9 nd) dgs_nil))))
  (dps_one (dp_if (dt_cmp (od_eq hu) (de_var 7) (de_var 2) (nomark _))
  (dps_one (dp_asg (de_cal C_less hA (hr.mono (by decide)) (da_cons (de_ix hu (de_var 4) (de_var 9)) (da_cons (de_op od_add (de_var 6) (de_callTy cd_int rfl T.f_int (by decide +kernel) (da_cons (de_cmp (od_ne hu) (de_var 8) (de_var 3) (nomark _)) da_nil))) da_nil))) (dg_sub hu (de_var 4) (de_var 9))))
  dps_nil))))
  dps_nil)))
  (dps_one (dp_ret (de_callTy cd_tuple rfl T.f_tuple (by decide +kernel) (da_cons (de_var 4) da_nil)))))), fun ds G Q h => ?_⟩
    obtain ⟨R, row, h, c, rfl, st, rl, q⟩ := h
    rw [show dstart N_row_behind [rulD C R, .tup (rowDs row), .str (sgn h), .str (sgn c)] = [some (rulD C R), some (.tup (rowDs row)), some (.str (sgn h)), some (.str (sgn c)), none, none, none, none, none, none] from rfl]
    have n999 := st.n
    have eR : ∀ G : GH, D.cur G (rulD C R) = .obj C (rulF R) := fun _ => rfl
    have ec : ∀ (G : GH), D.cur G (rowsD R.rows) = rowsD R.rows := fun _ => rfl
    have rat : ∀ s, s < R.rows.length → D.item (rowsD R.rows) (.int (s : Int)) = some (.tup ((rowS R.rows s).map Mv.d)) := fun s hs => by
      refine atI_nat ?_
      rw [List.getElem?_map, List.getElem?_eq_getElem hs]
      unfold rowS rowD
      simp [List.getD, hs]
    have eS : ∀ (G : GH) (x : Str), D.cur G (.str x) = .str x := fun _ _ => rfl
    simp only [dxs, dl, dx3, rowDs_len]
    refine ⟨sz (by decide), by omega, by omega, by simp, fun p hp => ?_⟩
    rw [Int.toNat_natCast, rep_one2]
    have e0 : List.replicate row.length D.non = rowDs (rbAll R.rows row h c 0) := by simp [rbAll, rowDs, natO]
    rw [e0]
    refine ⟨fun j S' G' => ∃ (x5 x6 x7 x8 x9 : Option D), S' = [some (rulD C R), some (.tup (rowDs row)), some (.str (sgn h)), some (.str (sgn c)), some (.rf p), x5, x6, x7, x8, x9] ∧ G' = gput G p (.lst (rowDs (rbAll R.rows row h c j))),
      ⟨_, _, _, _, _, rfl, rfl⟩, fun _ _ _ _ => trivial, ?_, ?_⟩
    · rintro j S' G' d ⟨x5, x6, x7, x8, x9, rfl, rfl⟩ hd
      rw [List.getElem?_mapIdx] at hd
      cases eo : row[j]? with
      | none => rw [show (rowDs row)[j]? = none by simp only [rowDs, List.getElem?_map, eo, Option.map_none]] at hd; cases hd
      | some o =>
        rw [show (rowDs row)[j]? = some (natO o) by simp only [rowDs, List.getElem?_map, eo, Option.map_some]] at hd
        cases hd
        have jl : j < R.rows.length := by have := (List.getElem?_eq_some_iff.mp eo).1; omega
        have rb : rbAll R.rows row h c (j + 1) = rbSt R.rows h c (rbAll R.rows row h c j) j o := by
          show rbSt R.rows h c (rbAll R.rows row h c j) j (row.getD j none) = _
          rw [List.getD_eq_getElem?_getD, eo]
          rfl
        have ral := rbAll_len R.rows row h c j
        simp only [dxs, dl, natO_non, true_and]
        cases o with
        | none =>
          rw [if_neg (by simp)]
          exact ⟨_, _, _, _, _, rfl, by rw [rb]; rfl⟩
        | some x =>
          rw [if_pos (by simp)]
          simp only [eR, rulF_rows, ec, rat j jl, true_and]
          refine ⟨fun i S' G' => ∃ (x7 x8 x9 : Option D), S' = [some (rulD C R), some (.tup (rowDs row)), some (.str (sgn h)), some (.str (sgn c)), some (.rf p), some (.int (j : Int)), some (natO (some x)), x7, x8, x9] ∧ G' = gput G p (.lst (rowDs (((rowS R.rows j).take i).foldl (rbMv h c x) (rbAll R.rows row h c j)))),
            ⟨_, _, _, rfl, rfl⟩, fun _ _ _ _ => trivial, ?_, ?_⟩
          · rintro i S' G' d ⟨x7, x8, x9, rfl, rfl⟩ hd
            rw [List.getElem?_map] at hd
            cases em : (rowS R.rows j)[i]? with
            | none => rw [em] at hd; cases hd
            | some m =>
              rw [em] at hd
              cases hd
              have mt : m.t < R.rows.length := st.cl.t (List.mem_of_getElem? em)
              have fs : ((rowS R.rows j).take (i + 1)).foldl (rbMv h c x) (rbAll R.rows row h c j) = rbMv h c x (((rowS R.rows j).take i).foldl (rbMv h c x) (rbAll R.rows row h c j)) m := by
                rw [take_step em, List.foldl_append]
                rfl
              have fl := rbFold_len h c x ((rowS R.rows j).take i) (rbAll R.rows row h c j)
              simp only [dxs, dl, Mv.d, eS, sgn_eqv, sgn_okE, true_and, fs]
              generalize ((rowS R.rows j).take i).foldl (rbMv h c x) (rbAll R.rows row h c j) = f at *
              by_cases hm : m.h = h
              · rw [if_pos (decide_eq_true hm)]
                have cst : ∀ b : Bool, ((x : Nat) : Int) + (if b = true then 1 else 0) = ((x + b2n b : Nat) : Int) := fun b => by
                  unfold b2n
                  cases b <;> simp
                have eb : (!decide (m.c = c)) = decide (m.c ≠ c) := by by_cases e : m.c = c <;> simp [e]
                simp only [rowDs_at (show m.t < f.length by omega), natO, x_intB, dx3, eb, cst]
                refine ⟨f.getD m.t none, some (x + b2n (decide (m.c ≠ c))), rfl, ?_⟩
                simp only [gput_same, rowDs_len, ixN_nat2 (show m.t < f.length by omega), rowDs_set, gput_gput]
                refine ⟨_, _, _, rfl, ?_⟩
                unfold rbMv
                rw [if_pos hm]
              · rw [if_neg (by simp [hm])]
                refine ⟨_, _, _, rfl, ?_⟩
                unfold rbMv
                rw [if_neg hm]
          · rintro S' G' ⟨x7, x8, x9, rfl, rfl⟩
            rw [List.length_map, List.take_length]
            exact ⟨_, _, _, _, _, rfl, by rw [rb]; rfl⟩
    · rintro S' G' ⟨x5, x6, x7, x8, x9, rfl, rfl⟩
      rw [List.length_mapIdx, rowDs_len]
      simp only [dxs, dl, rTupleD]
      exact ⟨G, sub_new hp rfl, q⟩
end
end Pace
end
section
set_option Elab.async false
set_option linter.all false
set_option maxRecDepth 100000
set_option maxHeartbeats 4000000
namespace Pace
open PySem PySem.Spec PyProof.Rows L2 DL
section
variable {P : Program} {w : World} {K : PySem.W.Frag} {mg : Str → Option Value} {base : Heap} {C : Addr}
def spRowsAlong (C : Addr) : SpD := fun ds G Q => ∃ (R : Rul) (p q : List Nat), ds = [rulD C R, .str (strOf p), .str (strOf q)] ∧ Steps R.rows ∧ p.length ≤ 1000 ∧ Q (.tup ((rowsW R.rows (p.zip q)).map fun r => .tup (rowDs r))) G
abbrev N_rows_along : List Str := ["rules", "speech", "caption", "rows", "letter", "shown"]
theorem sc_rows_along : FnScope N_rows_along ["rules", "speech", "caption"] (defScope s_rows_along) := ⟨rfl, rfl, rfl, by decide +kernel, rfl, by decide +kernel, by decide +kernel⟩
theorem c_rows_along (T : Txt K mg C) (d : Def K mg "rows_along" s_rows_along) (C_first_row : Cal P w K mg base "first_row" 1 ["rules"] (spFirstRow C)) (C_row_behind : Cal P w K mg base "row_behind" 2 ["rules", "row", "letter", "shown"] (spRowBehind C)) : Cal P w K mg base "rows_along" 3 ["rules", "speech", "caption"] (spRowsAlong C) := by
  refine cal_mk (N := N_rows_along) d sc_rows_along (fun ds G Q h => ?_) (fun _ _ _ _ _ _ us hl => match us, hl with | [_, _, _], _ => rfl) (fun f cdv A outer s H E hg hr => ?_)
  · obtain ⟨R, p, q, rfl, _⟩ := h
    rfl
  · have hu := hu100 hr
    have nd := sc_rows_along.nd
    have hA := deeper_guards (env := envOfC "rows_along" (defScope s_rows_along) s.heap.objs.size f cdv) hg
    refine ⟨_, (dps_cons (dp_asg (de_lstM (da_cons (de_cal C_first_row hA (hr.mono (by decide)) (da_cons (de_var 0) da_nil)) da_nil)) (dg_name 3 nd))
  (dps_cons (dp_for PassesOwn.never rfl (di_zipS rfl T.f_zip (da_cons (de_var 1) (da_cons (de_var 2) da_nil))) (dg_tup (n := 2) rfl (dgs_cons (dg_name 4 nd) (dgs_cons (dg_name 5 nd) dgs_nil)))
  (dps_one (dp_expr (de_bm PySem.F.plainAttrs_list PySem.F.slot_list_append PySem.F.type_list_append md_append (de_var 3) (da_cons (de_cal C_row_behind hA (hr.mono (by decide)) (da_cons (de_var 0) (da_cons (de_ix hu (de_var 3) (de_un ud_neg de_int)) (da_cons (de_var 4) (da_cons (de_var 5) da_nil))))) da_nil)))))
  (dps_one (dp_ret (de_callTy cd_tuple rfl T.f_tuple (by decide +kernel) (da_cons (de_var 3) da_nil)))))), fun ds G Q h => ?_⟩
    obtain ⟨R, p, q, rfl, st, pl, z⟩ := h
    rw [show dstart N_rows_along [rulD C R, .str (strOf p), .str (strOf q)] = [some (rulD C R), some (.str (strOf p)), some (.str (strOf q)), none, none, none] from rfl]
    have zl : (p.zip q).length ≤ 1000 := by rw [List.length_zip]; omega
    have n1 := st.cl.1
    have n999 := st.n
    have hmap : ∀ (w : List Ky), (rowsW R.rows w).map (fun r => D.tup (rowDs r)) = (rowsW R.rows w).map fun r => D.tup (rowDs r) := fun _ => rfl
    simp only [dxs, dl, dx3, zipS_eq]
    refine ⟨R, rfl, n1, n999, ?_⟩
    refine ⟨sz (by decide), fun a ha => ?_⟩
    have e0 : [D.tup (rowDs (firstR R.rows.length))] = (rowsW R.rows ((p.zip q).take 0)).map fun r => D.tup (rowDs r) := rfl
    rw [e0]
    refine ⟨fun j S' G' => ∃ (x4 x5 : Option D), S' = [some (rulD C R), some (.str (strOf p)), some (.str (strOf q)), some (.rf a), x4, x5] ∧ G' = gput G a (.lst ((rowsW R.rows ((p.zip q).take j)).map fun r => D.tup (rowDs r))),
      ⟨_, _, rfl, rfl⟩, fun _ _ _ _ => trivial, ?_, ?_⟩
    · rintro j S' G' d ⟨x4, x5, rfl, rfl⟩ hd
      rw [List.getElem?_map] at hd
      cases ek : (p.zip q)[j]? with
      | none => rw [ek] at hd; cases hd
      | some k =>
        rw [ek] at hd
        cases hd
        have jl := (List.getElem?_eq_some_iff.mp ek).1
        have sw := rowsW_take (A := R.rows) ek
        have ln : (rowsW R.rows ((p.zip q).take j)).length = j + 1 := by rw [rowsW_len, List.length_take]; omega
        have last : D.item (.lst ((rowsW R.rows ((p.zip q).take j)).map fun r => D.tup (rowDs r))) (.int (-1)) = some (.tup (rowDs (rowAl R.rows ((p.zip q).take j)))) := by
          refine item_last (n := j) (by rw [List.length_map, ln]) ?_
          have h2 := rowsW_at (A := R.rows) (w := (p.zip q).take j) (i := j) (by rw [List.length_take]; omega)
          rw [List.take_take, Nat.min_self] at h2
          rw [List.getElem?_map, h2]
          rfl
        simp only [dxs, dl, last, rNegD, true_and]
        refine ⟨rfl, R, rowAl R.rows ((p.zip q).take j), k.1, k.2, rfl, st, rowAl_len n1 _, ?_⟩
        simp only [rAppendD, dl, gput_gput]
        refine ⟨szl (by rw [List.length_map, ln]; omega), _, _, rfl, ?_⟩
        rw [sw, List.map_append, take_snoc ek, rowAl_snoc]
        rfl
    · rintro S' G' ⟨x4, x5, rfl, rfl⟩
      rw [List.length_map, List.take_length]
      simp only [dxs, dl, rTupleD]
      exact ⟨G, sub_new ha rfl, z⟩
end
end Pace
end
section
set_option Elab.async false
set_option linter.all false
set_option maxRecDepth 100000
set_option maxHeartbeats 4000000
namespace Pace
open PySem PySem.Spec PyProof.Rows L2 DL
section
variable {P : Program} {w : World} {K : PySem.W.Frag} {mg : Str → Option Value} {base : Heap} {C : Addr}
def spBehind (C : Addr) : SpD := fun ds G Q => ∃ (R : Rul) (ss : List Nat) (c : Nat), ds = [rulD C R, .tup (natsD ss), .str (sgn c)] ∧ R.Ok ∧ (∀ s ∈ ss, s < R.rows.length) ∧ R.rows.length < 64 ∧
  Q (.tup (natsD (behind R.rows ss c))) G
abbrev N_states_behind : List Str := ["rules", "states", "letter", "found", "state", "sign", "written", "target"]
theorem sc_states_behind : FnScope N_states_behind ["rules", "states", "letter"] (defScope s_states_behind) := ⟨rfl, rfl, rfl, by decide +kernel, rfl, by decide +kernel, by decide +kernel⟩
theorem c_states_behind (T : Txt K mg C) (d : Def K mg "states_behind" s_states_behind) : Cal P w K mg base "states_behind" 1 ["rules", "states", "letter"] (spBehind C) := by
  refine cal_mk (N := N_states_behind) d sc_states_behind (fun ds G Q h => ?_) (fun _ _ _ _ _ _ us hl => match us, hl with | [_, _, _], _ => rfl) (fun f cdv A outer s H E hg hr => ?_)
  · obtain ⟨R, ss, c, rfl, _⟩ := h
    rfl
  · have hu := hu100 hr
    have nd := sc_states_behind.nd
    have hA := deeper_guards (env := envOfC "states_behind" (defScope s_states_behind) s.heap.objs.size f cdv) hg
    refine ⟨_, (dps_cons (dp_asg de_newK (dg_name 3 nd))
  (dps_cons (dp_for PassesOwn.never rfl (di_tup (de_var 1)) (dg_name 4 nd)
  (dps_one (dp_for PassesOwn.never rfl (di_tup (de_ix hu (de_fld T.clR T.no_rows (de_var 0)) (de_var 4))) (dg_tup (n := 3) rfl (dgs_cons (dg_name 5 nd) (dgs_cons (dg_name 6 nd) (dgs_cons (dg_name 7 nd) dgs_nil))))
  (dps_one (dp_if (dt_cmp (od_eq hu) (de_var 5) (de_var 2) (nomark _))
  (dps_one (dp_asg de_bl (dg_sub hu (de_var 3) (de_var 7))))
  dps_nil)))))
  (dps_one (dp_ret (de_callTy cd_tuple rfl T.f_tuple (by decide +kernel) (da_cons (de_callB (cd_sorted hu rfl) rfl T.f_sorted (by decide +kernel) (da_cons (de_var 3) da_nil)) da_nil)))))), fun ds G Q h => ?_⟩
    obtain ⟨R, ss, c, rfl, ok, hs, h64, q⟩ := h
    intro p hp
    -- for state in states
    refine ⟨fun i S' G' => ∃ st sg wr tg ks, S' = [some (rulD C R), some (.tup (natsD ss)), some (.str (sgn c)), some (.rf p), st, sg, wr, tg] ∧
      G' = gput G p (.dK (kds ks)) ∧ ks = ((ss.take i).flatMap fun s => hits R.rows s c).foldl addF [] ∧ ks.Nodup ∧ ∀ k ∈ ks, k < R.rows.length,
      ⟨none, none, none, none, [], rfl, rfl, rfl, by simp, by simp⟩, fun _ _ _ _ => trivial, ?_, ?_⟩
    · rintro i S' G' dd ⟨st, sg, wr, tg, ks, rfl, rfl, hks, hnd, hlt⟩ hd
      obtain ⟨s0, hs0, rfl⟩ := natsD_get hd
      have hsl : s0 < R.rows.length := hs s0 (List.mem_of_getElem? hs0)
      obtain ⟨row, hrow⟩ : ∃ row, R.rows[s0]? = some row := ⟨_, List.getElem?_eq_getElem hsl⟩
      have hrok := ok.at_ row (List.mem_of_getElem? hrow)
      -- for sign, written, target in rules.rows[state]
      have e1 : D.item (rowsD R.rows) (.int (s0 : Int)) = some (rowD row) := by
        exact atI_nat (by rw [List.getElem?_map, hrow]; rfl)
      have e2 : ∀ G0, D.cur G0 (rowsD R.rows) = rowsD R.rows := fun _ => rfl
      simp only [dxs, dl, rulD, rulF_rows, e2, e1, true_and, rowD]
      refine ⟨fun j S' G' => ∃ sg wr tg ks, S' = [some (rulD C R), some (.tup (natsD ss)), some (.str (sgn c)), some (.rf p), some (.int (s0 : Int)), sg, wr, tg] ∧
        G' = gput G p (.dK (kds ks)) ∧ ks = (((ss.take i).flatMap fun s => hits R.rows s c) ++ ((row.take j).filter fun m => m.h == c).map (·.t)).foldl addF [] ∧ ks.Nodup ∧ ∀ k ∈ ks, k < R.rows.length,
        ⟨sg, wr, tg, ks, rfl, rfl, by rw [hks]; simp, hnd, hlt⟩, fun _ _ _ _ => trivial, ?_, ?_⟩
      · clear hks hnd hlt
        rintro j S' G' dd ⟨sg, wr, tg, ks, rfl, rfl, hks, hnd, hlt⟩ hd2
        rw [List.getElem?_map] at hd2
        cases hm : row[j]? with
        | none => rw [hm] at hd2; cases hd2
        | some m =>
          rw [hm] at hd2
          cases hd2
          have htk : row.take (j + 1) = row.take j ++ [m] := by rw [List.take_add_one, hm]; rfl
          have hmt : m.t < R.rows.length := hrok.2 m (List.mem_of_getElem? hm)
          simp only [Mv.d, dxs, dl, true_and, okE_str, eqv_str, sgn_beq]
          by_cases hc : m.h = c
          · simp only [hc, beq_self_eq_true, if_true, D.key, kds_put, gput_gput]
            refine ⟨?_, _, _, _, addF ks m.t, rfl, rfl, ?_, addF_nodup hnd, addF_lt hlt hmt⟩
            · have := nodup_lt_len hnd hlt
              simp only [kds, List.length_map]
              unfold sizeLine
              omega
            · rw [htk, hks, List.filter_append, List.map_append, ← List.append_assoc, List.foldl_append]
              simp [hc, hks]
          · have hb : (m.h == c) = false := by simp [hc]
            simp only [hb, Bool.false_eq_true, if_false]
            refine ⟨_, _, _, ks, rfl, rfl, ?_, hnd, hlt⟩
            rw [htk, hks, List.filter_append, List.map_append]
            simp [hc]
      · rintro S' G' ⟨sg, wr, tg, ks, rfl, rfl, hks, hnd, hlt⟩
        refine ⟨_, _, _, _, ks, rfl, rfl, ?_, hnd, hlt⟩
        rw [hks, List.length_map, List.take_length]
        have e3 : ss.take (i + 1) = ss.take i ++ [s0] := by rw [List.take_add_one, hs0]; rfl
        rw [e3, List.flatMap_append]
        have e4 : R.rows.getD s0 [] = row := by simp [List.getD, hrow]
        have e6 : hits R.rows s0 c = (row.filter fun m => m.h == c).map (·.t) := by unfold hits; rw [e4]
        simp [e6]
    · rintro S' G' ⟨st, sg, wr, tg, ks, rfl, rfl, hks, hnd, hlt⟩
      simp only [dxs, dl, rSortD, kds_ints]
      refine ⟨?_, ?_⟩
      · have := nodup_lt_len hnd hlt
        simp; omega
      · simp only [dxs, dl, rTupleD]
        rw [isort_nat]
        refine ⟨G, sub_new hp rfl, ?_⟩
        have e5 : nsort ks = behind R.rows ss c := by
          unfold behind firstsF
          rw [hks]
          have : (natsD ss).length = ss.length := by simp [natsD]
          rw [this, List.take_length]
        rw [e5]
        exact q
end
section
variable {P : Program} {w : World} {K : PySem.W.Frag} {mg : Str → Option Value} {base : Heap} {C : Addr}
def spMute (C : Addr) : SpD := fun ds G Q => ∃ (R : Rul) (hs : List Nat), ds = [rulD C R] ∧ R.Ok ∧ R.heard = strOf hs ∧ 0 < R.rows.length ∧ R.rows.length ≤ 10 ∧
  Q (pageD (muteOf R.rows hs)) G
abbrev N_mute : List Str := ["rules", "order", "speeches", "at", "here", "letter", "behind"]
theorem sc_mute : FnScope N_mute ["rules"] (defScope s_mute) := ⟨rfl, rfl, rfl, by decide +kernel, rfl, by decide +kernel, by decide +kernel⟩
theorem c_mute (T : Txt K mg C) (d : Def K mg "mute" s_mute) (C_states_behind : Cal P w K mg base "states_behind" 1 ["rules", "states", "letter"] (spBehind C)) : Cal P w K mg base "mute" 2 ["rules"] (spMute C) := by
  refine cal_mk (N := N_mute) d sc_mute (fun ds G Q h => ?_) (fun _ _ _ _ _ _ us hl => match us, hl with | [_], _ => rfl) (fun f cdv A outer s H E hg hr => ?_)
  · obtain ⟨R, hs, rfl, _⟩ := h
    rfl
  · have hu := hu100 hr
    have nd := sc_mute.nd
    have hA := deeper_guards (env := envOfC "mute" (defScope s_mute) s.heap.objs.size f cdv) hg
    refine ⟨_, (dps_cons (dp_asg (de_lstM (da_cons (de_tup (da_cons de_int da_nil)) da_nil)) (dg_name 1 nd))
  (dps_cons (dp_asg (de_dispT hu (de_tup (da_cons de_int da_nil)) de_str) (dg_name 2 nd))
  (dps_cons (dp_asg de_int (dg_name 3 nd))
  (dps_cons (dp_while PassesOwn.never (dt_cmp (od_lt hu) (de_var 3) (de_callB cd_len rfl T.f_len (by decide +kernel) (da_cons (de_var 1) da_nil)) (nomark _))
  (dps_cons (dp_asg (de_ix hu (de_var 1) (de_var 3)) (dg_name 4 nd))
  (dps_cons (dp_aug (i := 3) nd ip_add de_int)
  (dps_one (dp_for PassesOwn.never rfl (di_str (de_fld T.clR T.no_heard (de_var 0))) (dg_name 5 nd)
  (dps_cons (dp_asg (de_cal C_states_behind hA (hr.mono (by decide)) (da_cons (de_var 0) (da_cons (de_var 4) (da_cons (de_var 5) da_nil)))) (dg_name 6 nd))
  (dps_cons (dp_if (dt_cmp (od_eq hu) (de_var 6) (de_tup da_nil) (nomark _))
  (dps_one (dp_ret (de_op od_add (de_ix hu (de_var 2) (de_var 4)) (de_var 5))))
  dps_nil)
  (dps_one (dp_if (dt_cmp (od_notIn hu) (de_var 6) (de_var 2) (by rfl))
  (dps_cons (dp_asg (de_op od_add (de_ix hu (de_var 2) (de_var 4)) (de_var 5)) (dg_sub hu (de_var 2) (de_var 6)))
  (dps_one (dp_expr (de_bm PySem.F.plainAttrs_list PySem.F.slot_list_append PySem.F.type_list_append md_append (de_var 1) (da_cons (de_var 6) da_nil)))))
  dps_nil)))))))))
  (dps_one (dp_ret de_non)))))), fun ds G Q h => ?_⟩
    obtain ⟨R, hs, rfl, ok, hh, h0, h10, q⟩ := h
    have tl : ∀ r ∈ R.rows, ∀ m ∈ r, m.t < R.rows.length := fun r hr => (ok.at_ r hr).2
    have hB : 2 ^ R.rows.length ≤ 1024 := Nat.pow_le_pow_right (by decide) h10
    rw [show dstart N_mute [rulD C R] = [some (rulD C R), none, none, none, none, none, none] from rfl]
    simp only [dxs, dl, dx2, D.keys, D.key]
    refine ⟨sz (by simp), sz (by simp), fun p hp => ⟨sz (by simp), fun z hz => ?_⟩⟩
    have hzp : z ≠ p := fun e => by rw [e, gput_same] at hz; cases hz
    have hpz : p ≠ z := fun e => hzp e.symm
    have hz' : G z = none := by rw [gput_ne hzp] at hz; exact hz
    have np : ∀ G0 o, gput G0 z o p = G0 p := fun _ _ => gput_ne hpz
    refine ⟨fun m S' G' => ∃ (at_ : Nat) (ord : Ord) (x4 x5 x6 : Option D), m = 2 ^ R.rows.length - at_ ∧ S' = [some (rulD C R), some (.rf p), some (.rf z), some (.int (at_ : Int)), x4, x5, x6] ∧
      G' = gput (gput G p (.lst (ordL ord))) z (.dT (ordT ord)) ∧ OrdOk R.rows hs ord ∧ bfs R.rows hs (2 ^ R.rows.length - at_) at_ ord = muteOf R.rows hs,
      ⟨_, 0, [([0], [])], none, none, none, rfl, rfl, rfl, .start h0, rfl⟩, ?_⟩
    rintro m S' G' ⟨at_, ord, x4, x5, x6, rfl, rfl, rfl, oo, hb⟩
    have ol := oo.len
    simp only [dxs, dl, np, rLenD, D.len, okL_int, DL.lt_int, true_and, ordL_len]
    by_cases hat : at_ < ord.length
    · rw [if_pos (by simpa using hat)]
      obtain ⟨here, hhere⟩ : ∃ x, ord[at_]? = some x := ⟨_, List.getElem?_eq_getElem hat⟩
      obtain ⟨f, hf⟩ : ∃ f, 2 ^ R.rows.length - at_ = f + 1 := ⟨2 ^ R.rows.length - at_ - 1, by omega⟩
      rw [hf] at hb
      unfold bfs at hb
      rw [hhere] at hb
      simp only at hb
      simp only [dxs, dl, np, item_lst, ordL_at hhere, rulD, rulF_heard, true_and, hh]
      refine ⟨fun j S' G' => ∃ (ord' : Ord) (x5 x6 : Option D), S' = [some (rulD C R), some (.rf p), some (.rf z), some (.int ((at_ : Int) + 1)), some (.tup (natsD here.1)), x5, x6] ∧
        G' = gput (gput G p (.lst (ordL ord'))) z (.dT (ordT ord')) ∧ OrdOk R.rows hs ord' ∧ ord'[at_]? = some here ∧ stepL R.rows here ord hs = stepL R.rows here ord' (hs.drop j),
        ⟨ord, x5, x6, rfl, rfl, oo, hhere, by simp⟩, fun _ _ _ _ => trivial, ?_, ?_⟩
      · rintro j S' G' dd ⟨ord', x5, x6, rfl, rfl, oo', hh', hst⟩ hd
        obtain ⟨c, hc, rfl⟩ := signs_get hd
        have hch : c ∈ hs := List.mem_of_getElem? hc
        have hdr : hs.drop j = c :: hs.drop (j + 1) := by
          obtain ⟨h1, h2⟩ := List.getElem?_eq_some_iff.mp hc
          rw [List.drop_eq_getElem_cons h1, h2]
        rw [hdr, stepL_cons] at hst
        have ol' := oo'.len
        have hl2 := oo'.ln at_ here hh'
        simp only [dxs, dl]
        refine ⟨R, here.1, c, rfl, ok, (oo'.st here (List.mem_of_getElem? hh')).2, by omega, ?_⟩
        simp only [dxs, dl, natsD_okE0, natsD_eqv0, Nat.zero_le, true_and]
        by_cases hbe : behind R.rows here.1 c = []
        · rw [if_pos (by simpa using hbe)]
          rw [if_pos hbe] at hst
          rw [hst] at hb
          simp only [dxs, dl, item_dT, natsD_keys, Option.map_some, Option.join_some, ordT_at oo'.nd hh', rAddD]
          refine ⟨by rw [strOf_len]; exact sz (by simp [sgn, Str.length]; omega), G, sub_new2 hp hz' hzp rfl rfl, ?_⟩
          rw [strOf_sgn]
          rw [← hb] at q
          exact q
        · rw [if_neg (by simpa using hbe)]
          rw [if_neg hbe] at hst
          simp only [dxs, dl, inn_dT, natsD_keys, Option.map_some, ordT_is oo'.nd]
          by_cases hin : behind R.rows here.1 c ∈ ord'.map (·.1)
          · rw [if_pos hin] at hst
            rw [if_neg (by simp [hin])]
            exact ⟨ord', _, _, rfl, rfl, oo', hh', hst⟩
          · rw [if_neg hin] at hst
            rw [if_pos (by simp [hin])]
            simp only [dxs, dl, item_dT, natsD_keys, Option.map_some, Option.join_some, ordT_at oo'.nd hh', rAddD, strOf_sgn, ordT_put hin, gput_gput, np, rAppendD, gput_under hpz, ordL_len, ordT_len, beq_self_eq_true, true_and]
            refine ⟨by rw [strOf_len]; exact sz (by simp [sgn, Str.length]; omega), szl (by omega), szl (by omega), ord' ++ [(behind R.rows here.1 c, here.2 ++ [c])], _, _, rfl, ?_, oo'.add tl hh' hch hbe hin, ?_, hst⟩
            · rw [← ordL_put]
            · rw [List.getElem?_append_left (List.getElem?_eq_some_iff.mp hh').1]; exact hh'
      · rintro S' G' ⟨ord', x5, x6, rfl, rfl, oo', hh', hst⟩
        rw [signs_len, List.drop_length, stepL_nil] at hst
        rw [hst] at hb
        refine ⟨2 ^ R.rows.length - (at_ + 1), by omega, at_ + 1, ord', some (.tup (natsD here.1)), x5, x6, rfl, ?_, rfl, oo', ?_⟩
        · simp [rulD]
        · have : 2 ^ R.rows.length - (at_ + 1) = f := by omega
          rw [this]; exact hb
    · rw [if_neg (by simpa using hat)]
      have hn : muteOf R.rows hs = none := by
        rw [← hb]
        cases e : 2 ^ R.rows.length - at_ with
        | zero => rfl
        | succ f =>
          unfold bfs
          have : ord[at_]? = none := List.getElem?_eq_none (by omega)
          rw [this]
      refine ⟨G, sub_new2 hp hz' hzp rfl rfl, ?_⟩
      rw [hn] at q
      exact q
end
section
variable {P : Program} {w : World} {K : PySem.W.Frag} {mg : Str → Option Value} {base : Heap} {C : Addr}
def spFull (C : Addr) : SpD := fun ds G Q => ∃ (R : Rul) (hs : List Nat), ds = [rulD C R] ∧ R.Ok ∧ R.heard = strOf hs ∧ 0 < R.rows.length ∧ R.rows.length ≤ 10 ∧ muteOf R.rows hs = none ∧ Q .non G
abbrev N_check_full : List Str := ["rules", "speech"]
theorem sc_check_full : FnScope N_check_full ["rules"] (defScope s_check_full) := ⟨rfl, rfl, rfl, by decide +kernel, rfl, by decide +kernel, by decide +kernel⟩
theorem c_check_full (T : Txt K mg C) (d : Def K mg "check_full" s_check_full) (C_mute : Cal P w K mg base "mute" 2 ["rules"] (spMute C)) : Cal P w K mg base "check_full" 3 ["rules"] (spFull C) := by
  refine cal_mk (N := N_check_full) d sc_check_full (fun ds G Q h => ?_) (fun _ _ _ _ _ _ us hl => match us, hl with | [_], _ => rfl) (fun f cdv A outer s H E hg hr => ?_)
  · obtain ⟨R, hs, rfl, _⟩ := h
    rfl
  · have hu := hu100 hr
    have nd := sc_check_full.nd
    have hA := deeper_guards (env := envOfC "check_full" (defScope s_check_full) s.heap.objs.size f cdv) hg
    refine ⟨_, (dps_cons (dp_asg (de_cal C_mute hA (hr.mono (by decide)) (da_cons (de_var 0) da_nil)) (dg_name 1 nd))
  (dps_one (dp_if (dt_cmp od_notN (de_var 1) de_non (nomark _))
  (dps_one dp_never)
  dps_nil))), fun ds G Q h => ?_⟩
    obtain ⟨R, hs, rfl, ok, hh, h0, h10, hm, q⟩ := h
    rw [show dstart N_check_full [rulD C R] = [some (rulD C R), none] from rfl]
    simp only [dxs, dl]
    refine ⟨R, hs, rfl, ok, hh, h0, h10, ?_⟩
    rw [hm]
    exact ⟨G, Sub.refl _, q⟩
end
end Pace
end
section
set_option Elab.async false
set_option linter.all false
set_option maxRecDepth 100000
set_option maxHeartbeats 4000000
namespace Pace
open PySem PySem.Spec PyProof.Rows L2 DL
section
variable {P : Program} {w : World} {K : PySem.W.Frag} {mg : Str → Option Value} {base : Heap} {C : Addr}
structure Ful (R : Rul) (hs : List Nat) : Prop where
  ok : R.Ok
  st : Steps R.rows
  h : R.heard = strOf hs
  n : R.rows.length ≤ 10
  mute : muteOf R.rows hs = none
theorem Ful.chk {C : Addr} {R : Rul} {hs : List Nat} (f : Ful R hs) {G : GH} {Q : DQ} (q : Q .non G) : spFull C [rulD C R] G Q := ⟨R, hs, rfl, f.ok, f.h, f.st.cl.1, f.n, f.mute, q⟩
def spNeed (C : Addr) : SpD := fun ds G Q => ∃ (R : Rul) (hs p q : List Nat), ds = [rulD C R, .str (strOf p), .str (strOf q)] ∧ Ful R hs ∧ p.length ≤ 1000 ∧ Q (natO (leastC (rowAl R.rows (p.zip q)))) G
abbrev N_need : List Str := ["rules", "speech", "caption"]
theorem sc_need : FnScope N_need ["rules", "speech", "caption"] (defScope s_need) := ⟨rfl, rfl, rfl, by decide +kernel, rfl, by decide +kernel, by decide +kernel⟩
theorem c_need (T : Txt K mg C) (d : Def K mg "need" s_need) (C_check_full : Cal P w K mg base "check_full" 3 ["rules"] (spFull C)) (C_rows_along : Cal P w K mg base "rows_along" 3 ["rules", "speech", "caption"] (spRowsAlong C)) (C_least_of : Cal P w K mg base "least_of" 1 ["row"] (spLeastOf)) : Cal P w K mg base "need" 4 ["rules", "speech", "caption"] (spNeed C) ∧ CalK P w K mg base "need" 4 ["rules", "speech", "caption"] (spNeed C) 0 ["caption", "speech", "rules"] [2, 1, 0] := by
  refine cal_mkK (N := N_need) d sc_need (fun ds G Q h => ?_) (fun _ _ _ _ _ _ us hl => match us, hl with | [_, _, _], _ => rfl) (fun _ _ _ _ _ _ us ws hl hw => match us, ws, hl, hw with | [], [_, _, _], _, _ => rfl) (fun f cdv A outer s H E hg hr => ?_)
  · obtain ⟨R, hs, p, q, rfl, _⟩ := h
    rfl
  · have hu := hu100 hr
    have nd := sc_need.nd
    have hA := deeper_guards (env := envOfC "need" (defScope s_need) s.heap.objs.size f cdv) hg
    refine ⟨_, (dps_cons (dp_expr (de_cal C_check_full hA (hr.mono (by decide)) (da_cons (de_var 0) da_nil)))
  (dps_one (dp_ret (de_cal C_least_of hA (hr.mono (by decide)) (da_cons (de_ix hu (de_cal C_rows_along hA (hr.mono (by decide)) (da_cons (de_var 0) (da_cons (de_var 1) (da_cons (de_var 2) da_nil)))) (de_un ud_neg de_int)) da_nil))))), fun ds G Q h => ?_⟩
    obtain ⟨R, hs, p, q, rfl, fu, pl, z⟩ := h
    rw [show dstart N_need [rulD C R, .str (strOf p), .str (strOf q)] = [some (rulD C R), some (.str (strOf p)), some (.str (strOf q))] from rfl]
    simp only [dxs, dl, dx3]
    refine fu.chk ⟨R, p, q, rfl, fu.st, pl, ?_⟩
    have ecT : ∀ (G : GH) (xs : List D), D.cur G (.tup xs) = .tup xs := fun _ _ => rfl
    have zl : (p.zip q).length ≤ 1000 := by rw [List.length_zip]; omega
    have last : D.item (.tup ((rowsW R.rows (p.zip q)).map fun r => D.tup (rowDs r))) (.int (-1)) = some (.tup (rowDs (rowAl R.rows (p.zip q)))) := by
      have h1 : (-1 : Int) = -1 - ((0 : Nat) : Int) := by omega
      rw [h1, item_neg (by rw [List.length_map, rowsW_len]; omega), List.length_map, rowsW_len, List.getElem?_map]
      have h2 := rowsW_at (A := R.rows) (w := p.zip q) (i := (p.zip q).length) (Nat.le_refl _)
      rw [List.take_length] at h2
      rw [show (p.zip q).length + 1 - 1 - 0 = (p.zip q).length by omega, h2]
      rfl
    simp only [ecT, last]
    refine ⟨_, rfl, by rw [rowAl_len fu.st.cl.1]; have := fu.n; omega, ?_⟩
    exact ⟨_, Sub.refl _, z⟩
end
end Pace
end
section
set_option Elab.async false
set_option linter.all false
set_option maxRecDepth 100000
set_option maxHeartbeats 4000000
namespace Pace
open PySem PySem.Spec PyProof.Rows L2 DL
section
variable {P : Program} {w : World} {K : PySem.W.Frag} {mg : Str → Option Value} {base : Heap} {C : Addr}
def spMended (C : Addr) : SpD := fun ds G Q => ∃ (R : Rul) (hs p q : List Nat), ds = [rulD C R, .str (strOf p), .str (strOf q)] ∧ Ful R hs ∧ p.length = q.length ∧ p.length ≤ 1000 ∧ Q (.str (strOf (mendW R.rows (p.zip q) 0))) G
abbrev N_mended : List Str := ["rules", "speech", "caption"]
theorem sc_mended : FnScope N_mended ["rules", "speech", "caption"] (defScope s_mended) := ⟨rfl, rfl, rfl, by decide +kernel, rfl, by decide +kernel, by decide +kernel⟩
theorem c_mended (T : Txt K mg C) (d : Def K mg "mended" s_mended) (C_check_full : Cal P w K mg base "check_full" 3 ["rules"] (spFull C)) (C_mended_by : Cal P w K mg base "mended_by" 4 ["rules", "speech", "caption"] (spMendedBy C)) : Cal P w K mg base "mended" 5 ["rules", "speech", "caption"] (spMended C) ∧ CalK P w K mg base "mended" 5 ["rules", "speech", "caption"] (spMended C) 0 ["caption", "speech", "rules"] [2, 1, 0] := by
  refine cal_mkK (N := N_mended) d sc_mended (fun ds G Q h => ?_) (fun _ _ _ _ _ _ us hl => match us, hl with | [_, _, _], _ => rfl) (fun _ _ _ _ _ _ us ws hl hw => match us, ws, hl, hw with | [], [_, _, _], _, _ => rfl) (fun f cdv A outer s H E hg hr => ?_)
  · obtain ⟨R, hs, p, q, rfl, _⟩ := h
    rfl
  · have hu := hu100 hr
    have nd := sc_mended.nd
    have hA := deeper_guards (env := envOfC "mended" (defScope s_mended) s.heap.objs.size f cdv) hg
    refine ⟨_, (dps_cons (dp_expr (de_cal C_check_full hA (hr.mono (by decide)) (da_cons (de_var 0) da_nil)))
  (dps_one (dp_ret (de_cal C_mended_by hA (hr.mono (by decide)) (da_cons (de_var 0) (da_cons (de_var 1) (da_cons (de_var 2) da_nil))))))), fun ds G Q h => ?_⟩
    obtain ⟨R, hs, p, q, rfl, fu, pq, pl, z⟩ := h
    rw [show dstart N_mended [rulD C R, .str (strOf p), .str (strOf q)] = [some (rulD C R), some (.str (strOf p)), some (.str (strOf q))] from rfl]
    simp only [dxs, dl, dx3]
    refine fu.chk ⟨R, p, q, rfl, fu.st, pq, pl, _, Sub.refl _, z⟩
end
end Pace
end
section
set_option Elab.async false
set_option linter.all false
set_option maxRecDepth 100000
set_option maxHeartbeats 4000000
namespace Pace
open PySem PySem.Spec PyProof.Rows L2 DL
section
variable {P : Program} {w : World} {K : PySem.W.Frag} {mg : Str → Option Value} {base : Heap} {C : Addr}
/-- the signs met, as a dict -/
def sgK (L : List Nat) : List (Key × D) := L.map fun c => (.inr (sgn c), .bl true)
theorem sgK_put (L : List Nat) (c : Nat) : putD (sgK L) (.inr (sgn c)) (.bl true) = sgK (if c ∈ L then L else L ++ [c]) := by
  have e : ((sgK L).any fun kv => decide (kv.1 = .inr (sgn c))) = decide (c ∈ L) := by
    unfold sgK
    rw [List.any_map, Bool.eq_iff_iff, List.any_eq_true, decide_eq_true_eq]
    constructor
    · rintro ⟨x, hx, h⟩
      have h' : (Sum.inr (sgn x) : Key) = .inr (sgn c) := of_decide_eq_true h
      rw [← sgn_inj (Sum.inr.inj h')]
      exact hx
    · exact fun h => ⟨c, h, decide_eq_true rfl⟩
  unfold putD
  rw [e]
  by_cases hc : c ∈ L
  · rw [if_pos hc, if_pos (decide_eq_true hc)]
    unfold sgK
    rw [List.map_map]
    refine List.map_congr_left fun x _ => ?_
    show (if (Sum.inr (sgn x) : Key) = .inr (sgn c) then _ else _) = _
    split
    · rfl
    · rfl
  · rw [if_neg hc, if_neg (by simpa using hc)]
    unfold sgK
    rw [List.map_append]
    rfl
theorem sgK_keys : ∀ L : List Nat, strKeys (sgK L) = some (L.map sgn)
  | [] => rfl
  | c :: L => by
    show (strKeys (sgK L)).map (sgn c :: ·) = _
    rw [sgK_keys L]
    rfl
theorem asc_of {es : List Nat} (nd : es.Nodup) (so : sortedS (es.map sgn) = true) : es.Pairwise (· < ·) := by
  cases es with
  | nil => exact .nil
  | cons a l =>
    have h := rising_sgn l a so nd
    have := nbr_pair (fun a b c h1 h2 => by simp only [decide_eq_true_eq] at h1 h2 ⊢; omega) _ h
    exact this.imp fun z => of_decide_eq_true z
def spFewest (C : Addr) : SpD := fun ds G Q => ∃ (R : Rul) (hs p q : List Nat) (i : Nat), ds = [rulD C R, .str (strOf p), .str (strOf q), .int (i : Int)] ∧ Ful R hs ∧ p.length = q.length ∧ p.length ≤ 1000 ∧ i < p.length ∧ (∀ r ∈ R.rows, r.length ≤ 31) ∧ (∃ n, (restAl R.rows (p.zip q)).getD 0 none = some n) ∧
  ∀ es : List Nat, es.Pairwise (· < ·) → (∀ c, c ∈ es ↔ FewS R.rows (p.zip q) i c) → Q (.str (strOf es)) G
abbrev N_fewest_signs : List Str := ["rules", "speech", "caption", "place", "row", "rests", "found", "state", "costs", "heard", "sign", "target", "rest"]
theorem sc_fewest_signs : FnScope N_fewest_signs ["rules", "speech", "caption", "place"] (defScope s_fewest_signs) := ⟨rfl, rfl, rfl, by decide +kernel, rfl, by decide +kernel, by decide +kernel⟩
theorem c_fewest_signs (T : Txt K mg C) (d : Def K mg "fewest_signs" s_fewest_signs) (C_check_full : Cal P w K mg base "check_full" 3 ["rules"] (spFull C)) (C_rows_along : Cal P w K mg base "rows_along" 3 ["rules", "speech", "caption"] (spRowsAlong C)) (C_rests_along : Cal P w K mg base "rests_along" 3 ["rules", "speech", "caption"] (spRestsAlong C)) : Cal P w K mg base "fewest_signs" 4 ["rules", "speech", "caption", "place"] (spFewest C) ∧ CalK P w K mg base "fewest_signs" 4 ["rules", "speech", "caption", "place"] (spFewest C) 0 ["place", "caption", "speech", "rules"] [3, 2, 1, 0] := by
  refine cal_mkK (N := N_fewest_signs) d sc_fewest_signs (fun ds G Q h => ?_) (fun _ _ _ _ _ _ us hl => match us, hl with | [_, _, _, _], _ => rfl) (fun _ _ _ _ _ _ us ws hl hw => match us, ws, hl, hw with | [], [_, _, _, _], _, _ => rfl) (fun f cdv A outer s H E hg hr => ?_)
  · obtain ⟨R, hs, p, q, i, rfl, _⟩ := h
    rfl
  · have hu := hu100 hr
    have nd := sc_fewest_signs.nd
    have hA := deeper_guards (env := envOfC "fewest_signs" (defScope s_fewest_signs) s.heap.objs.size f cdv) hg
    refine ⟨_, (dps_cons (dp_expr (de_cal C_check_full hA (hr.mono (by decide)) (da_cons (de_var 0) da_nil)))
  (dps_cons (dp_par (i := 4) (j := 5) rfl nd (ha := (da_cons (de_ix hu (de_cal C_rows_along hA (hr.mono (by decide)) (da_cons (de_var 0) (da_cons (de_var 1) (da_cons (de_var 2) da_nil)))) (de_var 3)) (da_cons (de_cal C_rests_along hA (hr.mono (by decide)) (da_cons (de_var 0) (da_cons (de_var 1) (da_cons (de_var 2) da_nil)))) da_nil))))
  (dps_cons (dp_asg de_newK (dg_name 6 nd))
  (dps_cons (dp_for PassesOwn.never rfl (di_enumT rfl T.f_enumerate (da_cons (de_var 4) da_nil)) (dg_tup (n := 2) rfl (dgs_cons (dg_name 7 nd) (dgs_cons (dg_name 8 nd) dgs_nil)))
  (dps_one (dp_for PassesOwn.never rfl (di_tup (de_ix hu (de_fld T.clR T.no_rows (de_var 0)) (de_var 7))) (dg_tup (n := 3) rfl (dgs_cons (dg_name 9 nd) (dgs_cons (dg_name 10 nd) (dgs_cons (dg_name 11 nd) dgs_nil))))
  (dps_cons (dp_asg (de_ix hu (de_ix hu (de_var 5) (de_op od_add (de_var 3) de_int)) (de_var 11)) (dg_name 12 nd))
  (dps_one (dp_if (DW.dt (dw_and (dt_cmp od_notN (de_var 8) de_non (nomark _)) (dw_and (dt_cmp od_notN (de_var 12) de_non (nomark _)) (dw_and1 (dt_cmp (od_eq hu) (de_var 9) (de_ix hu (de_var 1) (de_var 3)) (nomark _))))))
  (dps_one (dp_if (dt_cmp (od_eq hu) (de_op od_add (de_op od_add (de_var 8) (de_callTy cd_int rfl T.f_int (by decide +kernel) (da_cons (de_cmp (od_ne hu) (de_var 10) (de_ix hu (de_var 2) (de_var 3)) (nomark _)) da_nil))) (de_var 12)) (de_ix hu (de_ix hu (de_var 5) de_int) de_int) (nomark _))
  (dps_one (dp_asg de_bl (dg_sub hu (de_var 6) (de_var 10))))
  dps_nil))
  dps_nil))))))
  (dps_one (dp_ret (de_bm PySem.F.plainAttrs_str PySem.F.slot_str_join PySem.F.type_str_join md_join de_str (da_cons (de_callB (cd_sortY rfl) rfl T.f_sorted (by decide +kernel) (da_cons (de_var 6) da_nil)) da_nil)))))))), fun ds G Q h => ?_⟩
    obtain ⟨R, hs, p, q, i, rfl, fu, pq, pl, hi, r31, ⟨n, hn⟩, z⟩ := h
    rw [show dstart N_fewest_signs [rulD C R, .str (strOf p), .str (strOf q), .int (i : Int)] = [some (rulD C R), some (.str (strOf p)), some (.str (strOf q)), some (.int (i : Int)), none, none, none, none, none, none, none, none, none] from rfl]
    have st := fu.st
    have zl : (p.zip q).length = p.length := by rw [List.length_zip]; omega
    have n10 := fu.n
    have it1 : D.item (.tup ((rowsW R.rows (p.zip q)).map fun r => D.tup (rowDs r))) (.int (i : Int)) = some (.tup (rowDs (rowAl R.rows ((p.zip q).take i)))) := atI_nat (by rw [List.getElem?_map, rowsW_at (by omega)]; rfl)
    have ecT : ∀ (G : GH) (xs : List D), D.cur G (.tup xs) = .tup xs := fun _ _ => rfl
    refine dseq_via (fun S' G' => S' = [some (rulD C R), some (.str (strOf p)), some (.str (strOf q)), some (.int (i : Int)), none, none, none, none, none, none, none, none, none] ∧ G = G') (fun X hX => ?_) ?_
    · simp only [dxs, dl]
      exact fu.chk (hX _ _ ⟨rfl, rfl⟩)
    rintro S' _ ⟨rfl, rfl⟩
    refine dseq_via (fun S' G' => S' = [some (rulD C R), some (.str (strOf p)), some (.str (strOf q)), some (.int (i : Int)), some (.tup (rowDs (rowAl R.rows ((p.zip q).take i)))), some (.tup ((restsW R.rows (p.zip q)).map fun r => .tup (rowDs r))), none, none, none, none, none, none, none] ∧ G = G') (fun X hX => ?_) ?_
    · simp only [dxs, dl]
      refine ⟨R, p, q, rfl, st, pl, ?_⟩
      simp only [ecT, it1]
      exact ⟨R, p, q, rfl, st, pq, pl, hX _ _ ⟨rfl, rfl⟩⟩
    rintro S' _ ⟨rfl, rfl⟩
    refine dseq_via (fun S' G' => ∃ a, S' = [some (rulD C R), some (.str (strOf p)), some (.str (strOf q)), some (.int (i : Int)), some (.tup (rowDs (rowAl R.rows ((p.zip q).take i)))), some (.tup ((restsW R.rows (p.zip q)).map fun r => .tup (rowDs r))), some (.rf a), none, none, none, none, none, none] ∧ G' = gput G a (.dK (sgK [])) ∧ G a = none) (fun X hX => ?_) ?_
    · simp only [dxs, dl, dx3]
      intro a ha
      exact hX _ _ ⟨a, rfl, rfl, ha⟩
    rintro S' _ ⟨a, rfl, rfl, ha⟩
    generalize hw : p.zip q = w at z zl hn ⊢
    have rat : ∀ s, s < R.rows.length → D.item (rowsD R.rows) (.int (s : Int)) = some (.tup ((rowS R.rows s).map Mv.d)) := fun s hs => by
      refine atI_nat ?_
      rw [List.getElem?_map, List.getElem?_eq_getElem hs]
      unfold rowS rowD
      simp [List.getD, hs]
    have eS : ∀ (G : GH) (x : Str), D.cur G (.str x) = .str x := fun _ _ => rfl
    have eR : ∀ G : GH, D.cur G (rulD C R) = .obj C (rulF R) := fun _ => rfl
    have rest_at : ∀ i, i ≤ w.length → D.item (.tup ((restsW R.rows w).map fun r => D.tup (rowDs r))) (.int (i : Int)) = some (.tup (rowDs (restAl R.rows (w.drop i)))) := fun i hi => by
      refine atI_nat ?_
      rw [List.getElem?_map, restsW_at hi]
      rfl
    have rest_0 : D.item (.tup ((restsW R.rows w).map fun r => D.tup (rowDs r))) (.int 0) = some (.tup (rowDs (restAl R.rows w))) := rest_at 0 (by omega)
    have lq : (strOf q).length ≤ sizeLine := by rw [strOf_len]; exact sz (by omega)
    have lp : (strOf p).length ≤ sizeLine := by rw [strOf_len]; exact sz (by omega)
    obtain ⟨h, hh⟩ : ∃ h, p[i]? = some h := ⟨_, List.getElem?_eq_getElem hi⟩
    obtain ⟨c, hc⟩ : ∃ c, q[i]? = some c := ⟨_, List.getElem?_eq_getElem (by omega)⟩
    have hk : w[i]? = some (h, c) := by
      rw [← hw]
      exact List.getElem?_zip_eq_some (z := (h, c)) |>.mpr ⟨hh, hc⟩
    have capq : D.item (.str (strOf q)) (.int (i : Int)) = some (.str (sgn c)) := by
      show (if (strOf q).length ≤ sizeLine then _ else _) = _
      rw [if_pos lq]
      have : atI (strOf q).cps.toList (i : Int) = some c := atI_nat hc
      rw [this]
      rfl
    have capp : D.item (.str (strOf p)) (.int (i : Int)) = some (.str (sgn h)) := by
      show (if (strOf p).length ≤ sizeLine then _ else _) = _
      rw [if_pos lp]
      have : atI (strOf p).cps.toList (i : Int) = some h := atI_nat hh
      rw [this]
      rfl
    have n1 := st.cl.1
    have al := rowAl_len (w := w.take i) st.cl.1
    have rl0 := restAl_len R.rows w
    have rl1 := restAl_len R.rows (w.drop (i + 1))
    have r00 : D.item (.tup (rowDs (restAl R.rows w))) (.int 0) = some (natO (some n)) := by
      have := rowDs_atT (r := restAl R.rows w) (i := 0) (by omega)
      rw [hn] at this
      exact this
    have e1 : ((i : Int) + 1) = ((i + 1 : Nat) : Int) := by omega
    have cst : ∀ (x : Nat) (b : Bool), ((x : Nat) : Int) + (if b = true then 1 else 0) = ((x + b2n b : Nat) : Int) := fun x b => by
      unfold b2n
      cases b <;> simp
    have cst2 : ∀ (x y : Nat), ((x : Nat) : Int) + ((y : Nat) : Int) = ((x + y : Nat) : Int) := fun x y => by omega
    let Ok : Nat → Mv → Prop := fun s m => ∃ x y, m.h = h ∧ (rowAl R.rows (w.take i)).getD s none = some x ∧ (restAl R.rows (w.drop (i + 1))).getD m.t none = some y ∧ n = x + b2n (decide (m.c ≠ c)) + y
    simp only [dxs, dl, dx3]
    refine ⟨fun j S' G' => ∃ (L : List Nat) (x7 x8 x9 x10 x11 x12 : Option D), S' = [some (rulD C R), some (.str (strOf p)), some (.str (strOf q)), some (.int (i : Int)), some (.tup (rowDs (rowAl R.rows (w.take i)))), some (.tup ((restsW R.rows w).map fun r => .tup (rowDs r))), some (.rf a), x7, x8, x9, x10, x11, x12] ∧ G' = gput G a (.dK (sgK L)) ∧ L.Nodup ∧ L.length ≤ 31 * j ∧ (∀ c, c ∈ L ↔ ∃ s m, s < j ∧ m ∈ rowS R.rows s ∧ Ok s m ∧ m.c = c),
      ⟨[], _, _, _, _, _, _, rfl, rfl, .nil, Nat.le_refl _, fun c => ⟨fun hc => (by cases hc), fun ⟨s, m, hs, _⟩ => by omega⟩⟩, fun _ _ _ _ => trivial, ?_, ?_⟩
    · rintro j S' G' d ⟨L, x7, x8, x9, x10, x11, x12, rfl, rfl, nd, ll, hL⟩ hd
      obtain ⟨hj, rfl⟩ : j < R.rows.length ∧ d = .tup [.int (j : Int), natO ((rowAl R.rows (w.take i)).getD j none)] := by
        rw [List.getElem?_mapIdx] at hd
        unfold rowDs at hd
        rw [List.getElem?_map] at hd
        cases e : (rowAl R.rows (w.take i))[j]? with
        | none => rw [e] at hd; cases hd
        | some o =>
          rw [e] at hd
          cases hd
          have := (List.getElem?_eq_some_iff.mp e).1
          refine ⟨by omega, ?_⟩
          rw [List.getD_eq_getElem?_getD, e]
          rfl
      simp only [dxs, dl, dx3, eR, rulF_rows, rowsD_cur, rat j hj]
      refine ⟨trivial, trivial, ?_⟩
      have rj := rowS_le (s := j) r31
      refine ⟨fun l S'' G'' => ∃ (L : List Nat) (x9 x10 x11 x12 : Option D), S'' = [some (rulD C R), some (.str (strOf p)), some (.str (strOf q)), some (.int (i : Int)), some (.tup (rowDs (rowAl R.rows (w.take i)))), some (.tup ((restsW R.rows w).map fun r => .tup (rowDs r))), some (.rf a), some (.int (j : Int)), some (natO ((rowAl R.rows (w.take i)).getD j none)), x9, x10, x11, x12] ∧ G'' = gput G a (.dK (sgK L)) ∧ L.Nodup ∧ L.length ≤ 31 * j + l ∧ (∀ c, c ∈ L ↔ (∃ s m, s < j ∧ m ∈ rowS R.rows s ∧ Ok s m ∧ m.c = c) ∨ ∃ m ∈ (rowS R.rows j).take l, Ok j m ∧ m.c = c),
        ⟨L, _, _, _, _, rfl, rfl, nd, by omega, fun c => by rw [hL]; simp⟩, fun _ _ _ _ => trivial, ?_, ?_⟩
      · rintro l S'' G'' d ⟨L, x9, x10, x11, x12, rfl, rfl, nd, ll, hL⟩ hd
        obtain ⟨m, hm, rfl⟩ := map_get hd
        have mmem := List.mem_of_getElem? hm
        have mt : m.t < R.rows.length := st.cl.t mmem
        have hl31 := (List.getElem?_eq_some_iff.mp hm).1
        have skip : ¬ Ok j m → ∀ c, c ∈ L ↔ (∃ s m, s < j ∧ m ∈ rowS R.rows s ∧ Ok s m ∧ m.c = c) ∨ ∃ m ∈ (rowS R.rows j).take (l + 1), Ok j m ∧ m.c = c := fun hno c => by
          rw [hL, take_step hm]
          refine or_congr Iff.rfl ⟨fun ⟨m', h1, h2⟩ => ⟨m', List.mem_append_left _ h1, h2⟩, fun ⟨m', h1, h2⟩ => ?_⟩
          rcases List.mem_append.mp h1 with h1 | h1
          · exact ⟨m', h1, h2⟩
          · rw [List.mem_singleton.mp h1] at h2
            exact absurd h2.1 hno
        simp only [dxs, dl, dx3, Mv.d, e1, rest_at (i + 1) (by omega), ecT, rowDs_atT (show m.t < (restAl R.rows (w.drop (i + 1))).length by omega), natO_non, capp, eS, sgn_okE, sgn_eqv, true_and]
        cases ex : (rowAl R.rows (w.take i)).getD j none with
        | none =>
          rw [if_neg (by simp)]
          exact ⟨L, _, _, _, _, rfl, rfl, nd, by omega, skip fun ⟨x, y, h1, h2, _⟩ => by rw [ex] at h2; cases h2⟩
        | some x =>
          cases ey : (restAl R.rows (w.drop (i + 1))).getD m.t none with
          | none =>
            have nn : D.non.isNon = true := rfl
            simp only [Option.isNone_some, Option.isNone_none, Bool.not_false, Bool.not_true, if_true, Bool.false_eq_true, if_false]
            exact ⟨L, _, _, _, _, rfl, rfl, nd, by omega, skip fun ⟨x, y, h1, h2, h3, _⟩ => by rw [ey] at h3; cases h3⟩
          | some y =>
            simp only [Option.isNone_some, Bool.not_false, if_true]
            by_cases e : m.h = h
            · rw [if_pos (by simpa using e)]
              have eb : (!decide (m.c = c)) = decide (m.c ≠ c) := by by_cases e : m.c = c <;> simp [e]
              have enx : ∀ x : Nat, natO (some x) = .int (x : Int) := fun _ => rfl
              have eI : ∀ (G : GH) (n : Int), D.cur G (.int n) = .int n := fun _ _ => rfl
              have eN : ∀ (G : GH) (o : Cost), D.cur G (natO o) = natO o := fun _ o => by cases o <;> rfl
              simp only [capq, eS, sgn_okE, sgn_eqv, true_and, x_intB, dx3, enx, rAddD, eI, eb, cst, cst2, rest_0, ecT, r00]
              have et : ∀ x : Nat, D.int ((x : Nat) : Int) = natO (some x) := fun _ => rfl
              rw [et (x + b2n (decide (m.c ≠ c)) + y), et n]
              refine ⟨natO_okE _ _, ?_⟩
              rw [natO_eqv]
              by_cases hf : n = x + b2n (decide (m.c ≠ c)) + y
              · rw [if_pos (by rw [← hf]; simp)]
                simp only [gput_same, D.key, sgK_put, gput_gput]
                refine ⟨?_, ?_⟩
                · have : (sgK L).length = L.length := by unfold sgK; rw [List.length_map]
                  rw [this]
                  have := st.n
                  exact sz (by omega)
                have ok : Ok j m := ⟨x, y, e, ex, ey, hf⟩
                refine ⟨if m.c ∈ L then L else L ++ [m.c], _, _, _, _, rfl, rfl, ?_, ?_, fun d => ?_⟩
                · by_cases hmL : m.c ∈ L
                  · rw [if_pos hmL]; exact nd
                  · rw [if_neg hmL]
                    exact List.nodup_append.mpr ⟨nd, by simp, fun u hu v hv e => by rw [List.mem_singleton.mp hv] at e; subst e; exact hmL hu⟩
                · split
                  · omega
                  · rw [List.length_append, List.length_singleton]; omega
                · have e1 : d ∈ (if m.c ∈ L then L else L ++ [m.c]) ↔ d ∈ L ∨ d = m.c := by
                    by_cases hmL : m.c ∈ L
                    · rw [if_pos hmL]
                      exact ⟨.inl, fun h => h.elim id fun h => by rw [h]; exact hmL⟩
                    · rw [if_neg hmL, List.mem_append, List.mem_singleton]
                  rw [e1, hL, take_step hm]
                  constructor
                  · rintro ((z1 | ⟨m', h1, h2⟩) | rfl)
                    · exact .inl z1
                    · exact .inr ⟨m', List.mem_append_left _ h1, h2⟩
                    · exact .inr ⟨m, by simp, ok, rfl⟩
                  · rintro (z1 | ⟨m', h1, h2⟩)
                    · exact .inl (.inl z1)
                    · rcases List.mem_append.mp h1 with h1 | h1
                      · exact .inl (.inr ⟨m', h1, h2⟩)
                      · rw [List.mem_singleton.mp h1] at h2
                        exact .inr h2.2.symm
              · rw [if_neg (by rw [decide_eq_true_eq]; intro e; exact hf (Option.some.inj e).symm)]
                exact ⟨L, _, _, _, _, rfl, rfl, nd, by omega, skip fun ⟨x', y', _, h2, h3, h4⟩ => by rw [ex] at h2; rw [ey] at h3; cases h2; cases h3; exact hf h4⟩
            · rw [if_neg (by simpa using e)]
              exact ⟨L, _, _, _, _, rfl, rfl, nd, by omega, skip fun ⟨_, _, h1, _⟩ => e h1⟩
      · rintro S'' G'' ⟨L, x9, x10, x11, x12, rfl, rfl, nd, ll, hL⟩
        rw [List.length_map] at ll hL
        rw [List.take_length] at hL
        refine ⟨L, _, _, _, _, _, _, rfl, rfl, nd, by omega, fun c => (hL c).trans ⟨?_, ?_⟩⟩
        · rintro (⟨s, m, h1, h2⟩ | ⟨m, h1, h2⟩)
          · exact ⟨s, m, by omega, h2⟩
          · exact ⟨j, m, by omega, h1, h2⟩
        · rintro ⟨s, m, h1, h2⟩
          by_cases hs : s = j
          · subst hs
            exact .inr ⟨m, h2⟩
          · exact .inl ⟨s, m, by omega, h2⟩
    · rintro S' G' ⟨L, x7, x8, x9, x10, x11, x12, rfl, rfl, nd, ll, hL⟩
      simp only [dxs, dl, dx3]
      refine ⟨rfl, ?_⟩
      simp only [rSortY, D.cur, gput_same, sgK_keys]
      rw [List.length_mapIdx, rowDs_len] at ll hL
      refine ⟨by rw [List.length_map]; omega, fun ys pm so => ?_⟩
      obtain ⟨es, rfl⟩ := unsgn (ys := ys) fun y hy => by
        obtain ⟨c, _, rfl⟩ := List.mem_map.mp (pm.mem_iff.mp hy)
        exact ⟨c, rfl⟩
      have hmem : ∀ c, c ∈ es ↔ c ∈ L := fun c => by
        constructor
        · intro hc
          obtain ⟨x, hx, e⟩ := List.mem_map.mp (pm.mem_iff.mp (List.mem_map.mpr ⟨c, hc, rfl⟩))
          rw [← sgn_inj e]; exact hx
        · intro hc
          obtain ⟨x, hx, e⟩ := List.mem_map.mp (pm.mem_iff.mpr (List.mem_map.mpr ⟨c, hc, rfl⟩))
          rw [← sgn_inj e]; exact hx
      have ndL : (L.map sgn).Nodup := by
        rw [List.Nodup, List.pairwise_map]
        exact nd.imp fun h e => h (sgn_inj e)
      have nde : es.Nodup := by
        have := pm.nodup_iff.mpr ndL
        rw [List.Nodup, List.pairwise_map] at this
        exact this.imp fun h e => h (by rw [e])
      have lle : es.length ≤ 310 := by
        have := pm.length_eq
        rw [List.length_map, List.length_map] at this
        omega
      have fin_ := z es (asc_of nde so) fun c => by
        rw [hmem, hL]
        constructor
        · rintro ⟨s, m, h1, h2, ⟨x, y, h3, h4, h5, h6⟩, h7⟩
          exact ⟨s, m, (h, _), x, y, hk, by omega, h2, h3, h7, h4, h5, by rw [hn, h6]⟩
        · rintro ⟨s, m, k, x, y, h1, h2, h3, h4, h5, h6, h7, h8⟩
          rw [hk] at h1
          cases h1
          rw [hn] at h8
          exact ⟨s, m, by omega, h3, ⟨x, y, h4, h6, h7, Option.some.inj h8⟩, h5⟩
      have e2 : (es.map sgn).map D.str = es.map fun c => .str (sgn c) := by rw [List.map_map]; rfl
      simp only [rJoinD, e2, dxs, dl, texts_sgn, join_sgn, sgn_sum]
      have h00 : (Str.ofString "").length = 0 := by rw [str_nil]; rfl
      exact ⟨by rw [h00]; simp; exact sz (by omega), _, sub_new ha rfl, fin_⟩
end
end Pace
end
section
set_option Elab.async false
set_option linter.all false
set_option maxRecDepth 100000
set_option maxHeartbeats 4000000
namespace Pace
open PySem PySem.Spec PyProof.Rows L2 DL
section
variable {P : Program} {w : World} {K : PySem.W.Frag} {mg : Str → Option Value} {base : Heap} {C : Addr}
def spRight42 (C : Addr) : SpD := fun ds G Q => ∃ (z : Addr) (hs ws : List Nat) (rs : List (List Mv)) (p q : List Nat) (tot nm : Bool), ds = [.rf z, rulD C (mkR hs ws rs), .str (strOf p), .str (strOf q), .bl nm] ∧ G z = some (.dK (wK hs ws rs)) ∧ Wor 5 tot hs ws rs ∧ muteOf rs hs = none ∧ p.length = q.length ∧ p.length ≤ 4 ∧ (∀ c ∈ p, c ∈ hs) ∧ Q (.bl true) G
abbrev N__law_right : List Str := ["_law_w", "_law_code_here", "_law_said", "_law_shown", "_law_is_named", "_law_some_here", "_law_due", "_law_one", "_law_best", "_law_told", "_law_k", "_law_signs", "_law_heard_here"]
theorem sc__law_right : FnScope N__law_right ["_law_w", "_law_code_here", "_law_said", "_law_shown", "_law_is_named"] (defScope s__law_right) := ⟨rfl, rfl, rfl, by decide +kernel, rfl, by decide +kernel, by decide +kernel⟩
theorem c__law_right (T : Txt K mg C) (d : Def K mg "_law_right" s__law_right) (C__law_captions : Cal P w K mg base "_law_captions" 1 ["_law_w", "_law_said"] (spCaptions42)) (C__law_apart : Cal P w K mg base "_law_apart" 1 ["_law_one", "_law_mark"] (spApart42)) (K_need : CalK P w K mg base "need" 4 ["rules", "speech", "caption"] (spNeed C) 0 ["caption", "speech", "rules"] [2, 1, 0]) (C_need : Cal P w K mg base "need" 4 ["rules", "speech", "caption"] (spNeed C)) (K_mended : CalK P w K mg base "mended" 5 ["rules", "speech", "caption"] (spMended C) 0 ["caption", "speech", "rules"] [2, 1, 0]) (C_mended : Cal P w K mg base "mended" 5 ["rules", "speech", "caption"] (spMended C)) (K_fewest_signs : CalK P w K mg base "fewest_signs" 4 ["rules", "speech", "caption", "place"] (spFewest C) 0 ["place", "caption", "speech", "rules"] [3, 2, 1, 0]) (C_fewest_signs : Cal P w K mg base "fewest_signs" 4 ["rules", "speech", "caption", "place"] (spFewest C)) : Cal P w K mg base "_law_right" 6 ["_law_w", "_law_code_here", "_law_said", "_law_shown", "_law_is_named"] (spRight42 C) := by
  refine cal_mk (N := N__law_right) d sc__law_right (fun ds G Q h => ?_) (fun _ _ _ _ _ _ us hl => match us, hl with | [_, _, _, _, _], _ => rfl) (fun f cdv A outer s H E hg hr => ?_)
  · obtain ⟨z, hs, ws, rs, p, q, tot, nm, rfl, _⟩ := h
    rfl
  · have hu := hu100 hr
    have nd := sc__law_right.nd
    have hA := deeper_guards (env := envOfC "_law_right" (defScope s__law_right) s.heap.objs.size f cdv) hg
    refine ⟨_, (dps_cons (dp_asg (de_cal C__law_captions hA (hr.mono (by decide)) (da_cons (de_var 0) (da_cons (de_var 2) da_nil))) (dg_name 5 nd))
  (dps_cons (dp_asg (de_callB (cd_minD hu rfl) rfl T.f_min (by decide +kernel) (da_cons (de_lc (own := [("_law_one", 7)]) (p := (.nm 7)) rfl nd (di_list (de_var 5)) (blkOk_by (by show blkC N__law_right (defScope s__law_right) _ _ = true; decide +kernel)) (by decide) (fun _ _ _ _ _ => pg_name (i := 7) nd rfl (Or.inl rfl)) (fun _ _ _ _ _ => dts_nil) (fun _ _ _ _ _ => (de_cal C__law_apart hA (hr.mono (by decide)) (da_cons (de_var 7) (da_cons (de_var 3) da_nil))))) da_nil)) (dg_name 6 nd))
  (dps_cons (dp_setLc (i := 8) (own := [("_law_one", 7)]) (p := (.nm 7)) rfl nd rfl rfl (sw_true rfl rfl rfl (by decide +kernel)) (di_list (de_var 5)) (blkOk_by (by show blkC N__law_right (defScope s__law_right) _ _ = true; decide +kernel)) (by decide) (fun _ _ _ _ _ => pg_name (i := 7) nd rfl (Or.inl rfl)) (fun _ _ _ _ _ => (dts_one (dt_cmp (od_eq hu) (de_cal C__law_apart hA (hr.mono (by decide)) (da_cons (de_var 7) (da_cons (de_var 3) da_nil))) (de_var 6) (nomark _)))) (fun _ _ _ _ _ => (de_var 7)))
  (dps_cons (dp_if (dt_val (de_var 4))
  (dps_one (dp_asg (de_lst (da_cons (de_calK0 K_need hA (hr.mono (by decide)) (dk_cons (de_var 3) (dk_cons (de_var 2) (dk_cons (de_var 1) dk_nil)))) (da_cons (de_calK0 K_mended hA (hr.mono (by decide)) (dk_cons (de_var 3) (dk_cons (de_var 2) (dk_cons (de_var 1) dk_nil)))) da_nil))) (dg_name 9 nd)))
  (dps_one (dp_asg (de_lst (da_cons (de_cal C_need hA (hr.mono (by decide)) (da_cons (de_var 1) (da_cons (de_var 2) (da_cons (de_var 3) da_nil)))) (da_cons (de_cal C_mended hA (hr.mono (by decide)) (da_cons (de_var 1) (da_cons (de_var 2) (da_cons (de_var 3) da_nil)))) da_nil))) (dg_name 9 nd))))
  (dps_cons (dp_if (dt_cmp (od_ne hu) (de_callB (cd_repr hu hA) rfl T.f_repr (by decide +kernel) (da_cons (de_var 9) da_nil)) (de_callB (cd_repr hu hA) rfl T.f_repr (by decide +kernel) (da_cons (de_lst (da_cons (de_var 6) (da_cons (de_ix hu (de_var 8) de_int) da_nil))) da_nil)) (nomark _))
  (dps_one (dp_ret de_bl))
  dps_nil)
  (dps_cons (dp_for PassesOwn.never rfl (di_range1 rfl T.f_range (da_cons (de_callB cd_len rfl T.f_len (by decide +kernel) (da_cons (de_var 2) da_nil)) da_nil)) (dg_name 10 nd)
  (dps_cons (dp_asg (de_bm PySem.F.plainAttrs_str PySem.F.slot_str_join PySem.F.type_str_join md_join de_str (da_cons (de_sortSetS rfl rfl T.f_sorted rfl T.f_set (de_lc (own := [("_law_one", 7)]) (p := (.nm 7)) rfl nd (di_list (de_var 8)) (blkOk_by (by show blkC N__law_right (defScope s__law_right) _ _ = true; decide +kernel)) (by decide) (fun _ _ _ _ _ => pg_name (i := 7) nd rfl (Or.inl rfl)) (fun _ _ _ _ _ => dts_nil) (fun _ _ _ _ _ => (de_ix hu (de_var 7) (de_var 10))))) da_nil)) (dg_name 11 nd))
  (dps_cons (dp_if (dt_val (de_var 4))
  (dps_one (dp_asg (de_calK0 K_fewest_signs hA (hr.mono (by decide)) (dk_cons (de_var 10) (dk_cons (de_var 3) (dk_cons (de_var 2) (dk_cons (de_var 1) dk_nil))))) (dg_name 12 nd)))
  (dps_one (dp_asg (de_cal C_fewest_signs hA (hr.mono (by decide)) (da_cons (de_var 1) (da_cons (de_var 2) (da_cons (de_var 3) (da_cons (de_var 10) da_nil))))) (dg_name 12 nd))))
  (dps_one (dp_if (dt_cmp (od_ne hu) (de_var 12) (de_var 11) (nomark _))
  (dps_one (dp_ret de_bl))
  dps_nil)))))
  (dps_one (dp_ret de_bl)))))))), fun ds G Q h => ?_⟩
    obtain ⟨z, hs, ws, rs, p, q, tot, nm, rfl, gz, wor, hmu, pq, p4, ph, zz⟩ := h
    rw [show dstart N__law_right [.rf z, rulD C (mkR hs ws rs), .str (strOf p), .str (strOf q), .bl nm] = [some (.rf z), some (rulD C (mkR hs ws rs)), some (.str (strOf p)), some (.str (strOf q)), some (.bl nm), none, none, none, none, none, none, none, none] from rfl]
    have v := wor.val
    have st := v.steps
    have n5 := wor.n
    have so := letters_lt v.lh
    have tl : ∀ r ∈ rs, ∀ m ∈ r, m.t < rs.length := fun r hr => (v.ok.at_ r hr).2
    have fu : Ful (mkR hs ws rs) hs := ⟨v.ok, st, rfl, by show rs.length ≤ 10; omega, hmu⟩
    have Pne : putsC rs p ≠ [] := fun e => by
      have := putsC_nil.mp e
      exact mute_first tl so v.n1 p ph (fun d hd => by rw [hmu] at hd; cases hd) this
    have zl : (p.zip q).length = p.length := by rw [List.length_zip]; omega
    have e1 : (p.zip q).map (·.1) = p := List.map_fst_zip (by omega)
    have e2 : (p.zip q).map (·.2) = q := List.map_snd_zip (by omega)
    have Pl : ∀ u ∈ putsC rs p, u.length = p.length := fun u hu => ((putsC_mem st).mp hu).1
    have Pw : ∀ u ∈ putsC rs p, ∀ c ∈ u, c ∈ ws := fun u hu => puts_in v hu
    have P81 : (putsC rs p).length ≤ 81 := by
      unfold putsC
      rw [List.length_map]
      exact Nat.le_trans (caps_len v wor.ws3 0 _) (show 3 ^ _ ≤ 3 ^ 4 from Nat.pow_le_pow_right (by decide) p4)
    obtain ⟨n, hn⟩ : ∃ n, (restAl rs (p.zip q)).getD 0 none = some n := by
      obtain ⟨u, hu⟩ := List.exists_mem_of_ne_nil _ Pne
      obtain ⟨u1, u2⟩ := (putsC_mem st).mp hu
      obtain ⟨m, hm, _⟩ := min_ex (restAl_min st (p.zip q) 0 st.cl.1) (n := distN u q) ⟨u, by rw [zl]; exact u1, by rw [e1]; exact u2, by rw [e2]⟩
      exact ⟨m, hm⟩
    obtain ⟨⟨u0, hu0, hd0⟩, hmin⟩ := dist_min st pq hn
    obtain ⟨tlb, hbest⟩ := best_first st pq hn
    have bm := fun w => best_mem (v := w) st pq hn
    have few_ := fun i c (hi : i < (p.zip q).length) => few_best (c := c) st hi
    have n4 : n ≤ 4 := by
      rw [← hd0]
      have : ∀ a b : List Nat, distN a b ≤ a.length := fun a => by
        induction a with
        | nil => intro b; simp [distN]
        | cons x a ih =>
          intro b
          cases b with
          | nil => simp [distN]
          | cons y b =>
            have := ih b
            rw [distN, List.length_cons]
            unfold b2n
            split <;> omega
      have := this u0 q
      have := Pl u0 hu0
      omega
    generalize hP : putsC rs p = P at *
    generalize hB : P.filter (fun v => decide (distN v q = n)) = B at *
    generalize hM : mendW rs (p.zip q) 0 = M at *
    have MB : M ∈ B := by rw [hbest]; simp
    have BP : ∀ u ∈ B, u ∈ P := fun u hu => by rw [← hB] at hu; exact (List.mem_filter.mp hu).1
    have Bd : ∀ u, u ∈ B ↔ Best rs (p.zip q) u := fun u => by
      rw [← bm u, ← hB, List.mem_filter]
      simp
    have B81 : B.length ≤ 81 := by rw [← hB]; exact Nat.le_trans (List.length_filter_le _ _) P81
    have er : (mkR hs ws rs).rows = rs := rfl
    have need_ : ∀ {G : GH} {Q : DQ}, Q (.int (n : Int)) G → spNeed C [rulD C (mkR hs ws rs), .str (strOf p), .str (strOf q)] G Q := fun {G Q} zq => by
      refine ⟨_, hs, p, q, rfl, fu, by omega, ?_⟩
      rw [er, need_rest st, hn]
      exact zq
    have mend_ : ∀ {G : GH} {Q : DQ}, Q (.str (strOf M)) G → spMended C [rulD C (mkR hs ws rs), .str (strOf p), .str (strOf q)] G Q := fun {G Q} zq => by
      refine ⟨_, hs, p, q, rfl, fu, pq, by omega, ?_⟩
      rw [er, hM]
      exact zq
    have fews_ : ∀ {G : GH} {Q : DQ} {k : Nat} {es : List Nat}, k < p.length → es.Pairwise (· < ·) → (∀ c, c ∈ es ↔ ∃ u ∈ B, u[k]? = some c) → Q (.str (strOf es)) G → spFewest C [rulD C (mkR hs ws rs), .str (strOf p), .str (strOf q), .int (k : Int)] G Q := fun {G Q k es} hk he hm zq => by
      refine ⟨_, hs, p, q, k, rfl, fu, pq, by omega, hk, fun r hr => ?_, ⟨n, hn⟩, fun es' a1 a2 => ?_⟩
      · have := wor.row r hr
        omega
      · have : es' = es := by
          refine sorted_ext a1 he fun c => ?_
          rw [a2, hm, er, few_ k c (by omega)]
          exact ⟨fun ⟨u, h1, h2⟩ => ⟨u, (Bd u).mpr h1, h2⟩, fun ⟨u, h1, h2⟩ => ⟨u, (Bd u).mp h1, h2⟩⟩
        rw [this]
        exact zq
    have fine : ∀ x ∈ [D.int (n : Int), .str (strOf M)], Fine x 0 1000 := fun x hx => by
      simp only [List.mem_cons, List.not_mem_nil, or_false] at hx
      rcases hx with rfl | rfl
      · exact fine_int (by omega)
      · exact fine_str (fun c hc => letters_small v.lw _ (Pw M (BP M MB) c (by simpa [strOf] using hc))) (by rw [strOf_len, Pl M (BP M MB)]; omega)
    have rep_ : ∀ {G : GH} {Q : DQ}, Q (.str (D.shown (.lst [.int (n : Int), .str (strOf M)]))) G → rReprD [.lst [.int (n : Int), .str (strOf M)]] G Q := fun zq => repr_lst fine (by decide) (by show 2 * (1000 + 1) ≤ 1000000; decide) zq
    have lp : (strOf p).length ≤ sizeLine := by rw [strOf_len]; exact sz (by omega)
    simp only [dxs, dl, dx3, dCallK]
    refine ⟨z, hs, ws, rs, p, rfl, gz, v, wor.ws3, p4, fun r hr => Nat.le_trans (wor.row r hr) (by decide), ?_⟩
    rw [hP]
    simp only []
    refine lc_mapA P wd (fun u => .int (distN u q : Nat)) rfl (sz (by omega)) trivial (fun u hu => ⟨_, rfl, fun Q zz => ?_⟩) ?_
    · simp only [dxs, dl, dwipe, List.map_cons, List.map_nil, wd]
      exact ⟨u, q, rfl, by rw [Pl u hu]; exact pq, by rw [Pl u hu]; omega, zz⟩
    have best : D.best (P.map fun u => D.int (distN u q : Nat)) = .int (n : Int) := by
      obtain ⟨m, hm, e, hl⟩ := best_map (l := P) (g := fun u => D.int (distN u q : Nat)) (lt := fun a b => decide (distN a q < distN b q)) Pne (fun a _ b _ => by rw [DL.lt_int]; simp) (by simp) (fun a b c h1 h2 => by simp only [decide_eq_true_eq] at h1 h2 ⊢; omega)
      rw [e]
      have h1 := hl u0 hu0
      have h2 := hmin m hm
      simp only [decide_eq_false_iff_not] at h1
      have : distN m q = n := by omega
      show D.int (distN m q : Nat) = _
      rw [this]
    have okm : okM (P.map fun u => D.int (distN u q : Nat)) = true := by
      unfold okM
      rw [List.all_eq_true]
      intro x hx
      rw [List.all_eq_true]
      intro y hy
      obtain ⟨a, _, rfl⟩ := List.mem_map.mp hx
      obtain ⟨b, _, rfl⟩ := List.mem_map.mp hy
      rfl
    refine ⟨by simpa using Pne, okm, ?_⟩
    rw [best]
    refine lc_someA P wd (fun u => decide (distN u q = n)) wd rfl (sz (by omega)) trivial (fun u hu => ⟨_, rfl, fun Q zz => ?_, fun _ Q zz => ?_⟩) ?_
    · simp only [dxs, dl, dwipe, List.map_cons, List.map_nil, wd]
      refine ⟨u, q, rfl, by rw [Pl u hu]; exact pq, by rw [Pl u hu]; omega, okE_int _ _, ?_⟩
      have : ∀ G : GH, (D.cur G (D.int (distN u q : Nat))).eqv (.int (n : Int)) = decide (distN u q = n) := fun _ => by
        show (D.int (distN u q : Nat)).eqv (.int (n : Int)) = _
        rw [eqv_int, Bool.eq_iff_iff, beq_iff_eq, decide_eq_true_eq]
        omega
      rw [this]
      exact zz
    · simp only [dxs, dl, dwipe, List.map_cons, List.map_nil, wd]
      exact zz
    rw [hB]
    have hB0 : (D.lst (B.map wd)).item (.int 0) = some (.str (strOf M)) := by rw [hbest, item_lst]; exact atI_nat (j := 0) rfl
    have eL : ∀ (G : GH) (xs : List D), D.cur G (.lst xs) = .lst xs := fun _ _ => rfl
    have eS : ∀ (G : GH) (x : Str), D.cur G (.str x) = .str x := fun _ _ => rfl
    have ew : ∀ (G : GH) (x : List Nat), D.cur G (wd x) = wd x := fun _ _ => rfl
    generalize hsh : D.shown (.lst [.int (n : Int), .str (strOf M)]) = shn at rep_
    have esh : D.eqv (.str shn) (.str shn) = true := (eqv_si rfl rfl).mpr rfl
    have osh : okE (.str shn) (.str shn) = true := okE_si rfl rfl (Nat.zero_le _)
    split
    case' isTrue hnm =>
      simp only [dxs, dl, dx3]
      refine ⟨by simp, need_ ?_⟩
      refine ⟨by simp, mend_ ?_⟩
    case' isFalse hnm =>
      refine need_ (mend_ ?_)
    all_goals
      refine ⟨sz (by decide), rep_ ?_⟩
      simp only [eL, hB0]
      refine ⟨sz (by decide), rep_ ?_⟩
      simp only [eS, esh, osh, true_and, Bool.not_true, Bool.false_eq_true, if_false, len_str lp, strOf_len]
      refine ⟨by omega, by omega, ?_⟩
      refine ⟨fun k S' G' => ∃ x7 x10 x11 x12, S' = [some (.rf z), some (rulD C (mkR hs ws rs)), some (.str (strOf p)), some (.str (strOf q)), some (.bl nm), some (.lst (P.map wd)), some (.int (n : Int)), x7, some (.lst (B.map wd)), some (.lst [.int (n : Int), .str (strOf M)]), x10, x11, x12] ∧ G' = G,
        ⟨_, _, _, _, rfl, rfl⟩, fun _ _ _ _ => trivial, ?_, ?_⟩
      · rintro k S' G' d ⟨x7, x10, x11, x12, rfl, rfl⟩ hd
        obtain ⟨hk', rfl⟩ := range_get hd
        have hk : k < p.length := by simpa using hk'
        have at_ : ∀ u ∈ B, D.item (wd u) (.int (k : Int)) = some (.str (sgn (u.getD k 0))) := fun u hu => by
          have hl : k < u.length := by rw [Pl u (BP u hu)]; exact hk
          have hz : (strOf u).length ≤ sizeLine := by rw [strOf_len, Pl u (BP u hu)]; exact sz (by omega)
          show (if (strOf u).length ≤ sizeLine then _ else _) = _
          rw [if_pos hz]
          have : atI (strOf u).cps.toList (k : Int) = some (u.getD k 0) := atI_nat (by show u[k]? = _; rw [List.getElem?_eq_getElem hl, List.getD_eq_getElem?_getD, List.getElem?_eq_getElem hl]; rfl)
          rw [this]
          rfl
        simp only [dSortSetS, dxs, dl, dx3]
        refine ⟨rfl, ?_⟩
        refine lc_mapA B wd (fun u => .str (sgn (u.getD k 0))) rfl (sz (by omega)) trivial (fun u hu => ⟨_, rfl, fun Q zz => ?_⟩) ?_
        · simp only [dxs, dl, dwipe, List.map_cons, List.map_nil, ew, at_ u hu]
          exact zz
        have etx : (B.map fun u => D.str (sgn (u.getD k 0))) = (B.map fun u => u.getD k 0).map fun c => .str (sgn c) := by rw [List.map_map]; rfl
        rw [etx]
        simp only [eL, texts_sgn, List.length_map]
        refine ⟨by omega, fun ys pm so => ?_⟩
        obtain ⟨es, rfl⟩ := unsgn (ys := ys) fun y hy => by
          obtain ⟨c, _, rfl⟩ := List.mem_map.mp (firstsF_mem.mp (pm.mem_iff.mp hy))
          exact ⟨c, rfl⟩
        have nde : es.Nodup := by
          have nd : (es.map sgn).Nodup := pm.nodup_iff.mpr (firstsF_nodup _)
          rw [List.Nodup, List.pairwise_map] at nd
          exact nd.imp fun h z => h (by rw [z])
        have hmem : ∀ c, c ∈ es ↔ ∃ u ∈ B, u[k]? = some c := fun c => by
          have gd : ∀ u ∈ B, u[k]? = some (u.getD k 0) := fun u hu => by
            have hl : k < u.length := by rw [Pl u (BP u hu)]; exact hk
            rw [List.getElem?_eq_getElem hl, List.getD_eq_getElem?_getD, List.getElem?_eq_getElem hl]; rfl
          constructor
          · intro hc
            obtain ⟨x, hx, e⟩ := List.mem_map.mp (firstsF_mem.mp (pm.mem_iff.mp (List.mem_map.mpr ⟨c, hc, rfl⟩)))
            obtain ⟨u, hu, rfl⟩ := List.mem_map.mp hx
            exact ⟨u, hu, by rw [gd u hu, sgn_inj e]⟩
          · rintro ⟨u, hu, e⟩
            rw [gd u hu] at e
            have e := Option.some.inj e
            obtain ⟨x, hx, e3⟩ := List.mem_map.mp (pm.mem_iff.mpr (firstsF_mem.mpr (List.mem_map.mpr ⟨c, List.mem_map.mpr ⟨u, hu, e⟩, rfl⟩)))
            rw [← sgn_inj e3]; exact hx
        have lle : es.length ≤ 81 := by
          have h1 := pm.length_eq
          have h2 := firstsF_len ((B.map fun u => u.getD k 0).map sgn)
          simp only [List.length_map] at h1 h2
          omega
        have e3 : (es.map sgn).map D.str = es.map fun c => .str (sgn c) := by rw [List.map_map]; rfl
        have h00 : (Str.ofString "").length = 0 := by rw [str_nil]; rfl
        have oks : okE (.str (strOf es)) (.str (strOf es)) = true := okE_si rfl rfl (Nat.zero_le _)
        have eqs : D.eqv (.str (strOf es)) (.str (strOf es)) = true := (eqv_si rfl rfl).mpr rfl
        simp only [rJoinD, e3, dxs, dl, texts_sgn, join_sgn, sgn_sum]
        refine ⟨by rw [h00]; simp; exact sz (by omega), ?_⟩
        by_cases hn2 : nm = true
        · rw [if_pos hn2]
          simp only [dCallK, dxs, dl, dx3]
          refine ⟨by simp, fews_ hk (asc_of nde so) hmem ?_⟩
          simp only [eS, oks, eqs, true_and, Bool.not_true, Bool.false_eq_true, if_false]
          exact ⟨_, _, _, _, rfl, trivial⟩
        · rw [if_neg hn2]
          refine fews_ hk (asc_of nde so) hmem ?_
          simp only [eS, oks, eqs, true_and, Bool.not_true, Bool.false_eq_true, if_false]
          exact ⟨_, _, _, _, rfl, trivial⟩
      · rintro S' G' ⟨x7, x10, x11, x12, rfl, rfl⟩
        simp only [dxs, dl]
        exact ⟨_, Sub.refl _, zz⟩
end
end Pace
end
section
set_option Elab.async false
set_option linter.all false
set_option maxRecDepth 100000
set_option maxHeartbeats 4000000
namespace Pace
open PySem PySem.Spec PyProof.Rows L2 DL
section
variable {P : Program} {w : World} {K : PySem.W.Frag} {mg : Str → Option Value} {base : Heap} {C : Addr}
/-- of rules that are not full: Mute, with the speech -/
def MuteX (K : PySem.W.Frag) (R : Rul) (E : DXQ) (G : GH) : Prop := ∃ (hs page : List Nat), R.Ok ∧ R.heard = strOf hs ∧ 0 < R.rows.length ∧ R.rows.length ≤ 10 ∧ muteOf R.rows hs = some page ∧ E (He.ga K "Mute") [("speech", .str (strOf page))] G
def spFullX (C : Addr) (K : PySem.W.Frag) : SpX := fun ds G Q E => ∃ R, ds = [rulD C R] ∧ MuteX K R E G
theorem x_check_full (T : Txt K mg C) (d : Def K mg "check_full" s_check_full) (Er : ErT P K mg) (C_mute : Cal P w K mg base "mute" 2 ["rules"] (spMute C)) : CalX P w K mg base "check_full" 3 ["rules"] (spFullX C K) := by
  refine calX_mk (N := N_check_full) d sc_check_full (fun ds G Q E h => ?_) (fun _ _ _ _ _ _ us hl => match us, hl with | [_], _ => rfl) (fun f cdv A outer s H E hg hr => ?_)
  · obtain ⟨R, rfl, _⟩ := h
    rfl
  · have hu := hu100 hr
    have nd := sc_check_full.nd
    have hA := deeper_guards (env := envOfC "check_full" (defScope s_check_full) s.heap.objs.size f cdv) hg
    refine ⟨_, (dpsx_cons (dpx_of (dp_asg (de_cal C_mute hA (hr.mono (by decide)) (da_cons (de_var 0) da_nil)) (dg_name 1 nd)))
  (dpsx_one (dpx_if (dt_cmp od_notN (de_var 1) de_non (nomark _))
  (dpsx_one (dpx_raise1 (k := 0) (st := s_Mute_u__init_u_) rfl Er.e_Mute Er.a_Mute (hr.mono (by decide)) (da_cons (de_var 1) da_nil) (by rfl) (by rfl) (by intros; rfl) (by decide) (by rfl) (by rfl) (by rfl) (by rfl) (by rfl) (by decide) (by decide) (by decide +kernel) (by rfl) (by rfl) (by exact fun env => ⟨_, rfl⟩)))
  (dpsx_of dps_nil)))), fun ds G Q E2 h => ?_⟩
    obtain ⟨R, rfl, hs, page, ok, hh, h0, h10, hm, q⟩ := h
    rw [show dstart N_check_full [rulD C R] = [some (rulD C R), none] from rfl]
    simp only [dxs, dl, xS, xE, finX, dSeqX]
    refine ⟨R, hs, rfl, ok, hh, h0, h10, ?_⟩
    rw [hm]
    refine (if_pos rfl : (if (!(pageD (some page)).isNon) = true then _ else _) = _).mpr ?_
    exact ⟨_, rfl, _, Sub.refl _, q⟩
end
section
variable {P : Program} {w : World} {K : PySem.W.Frag} {mg : Str → Option Value} {base : Heap} {C : Addr}
def spMX3 (C : Addr) (K : PySem.W.Frag) : SpX := fun ds G Q E => ∃ R a b, ds = [rulD C R, a, b] ∧ MuteX K R E G
theorem x_need (T : Txt K mg C) (d : Def K mg "need" s_need) (Er : ErT P K mg) (X_check_full : CalX P w K mg base "check_full" 3 ["rules"] (spFullX C K)) : CalX P w K mg base "need" 4 ["rules", "speech", "caption"] (spMX3 C K) := by
  refine calX_mk (N := N_need) d sc_need (fun ds G Q E h => ?_) (fun _ _ _ _ _ _ us hl => match us, hl with | [_, _, _], _ => rfl) (fun f cdv A outer s H E hg hr => ?_)
  · obtain ⟨R, a, b, rfl, _⟩ := h
    rfl
  · have hu := hu100 hr
    have nd := sc_need.nd
    have hA := deeper_guards (env := envOfC "need" (defScope s_need) s.heap.objs.size f cdv) hg
    refine ⟨_, (dpsx_cons (dpx_expr (dex_cal X_check_full hA (hr.mono (by decide)) (da_cons (de_var 0) da_nil))) dpsx_never), fun ds G Q E2 h => ?_⟩
    obtain ⟨R, a, b, rfl, hs, page, ok, hh, h0, h10, hm, q⟩ := h
    rw [show dstart N_need [rulD C R, a, b] = [some (rulD C R), some (a), some (b)] from rfl]
    simp only [dxs, dl, xS, xE, finX, dSeqX]
    exact ⟨R, rfl, hs, page, ok, hh, h0, h10, hm, _, Sub.refl _, q⟩
end
section
variable {P : Program} {w : World} {K : PySem.W.Frag} {mg : Str → Option Value} {base : Heap} {C : Addr}
theorem x_mended (T : Txt K mg C) (d : Def K mg "mended" s_mended) (Er : ErT P K mg) (X_check_full : CalX P w K mg base "check_full" 3 ["rules"] (spFullX C K)) : CalX P w K mg base "mended" 4 ["rules", "speech", "caption"] (spMX3 C K) := by
  refine calX_mk (N := N_mended) d sc_mended (fun ds G Q E h => ?_) (fun _ _ _ _ _ _ us hl => match us, hl with | [_, _, _], _ => rfl) (fun f cdv A outer s H E hg hr => ?_)
  · obtain ⟨R, a, b, rfl, _⟩ := h
    rfl
  · have hu := hu100 hr
    have nd := sc_mended.nd
    have hA := deeper_guards (env := envOfC "mended" (defScope s_mended) s.heap.objs.size f cdv) hg
    refine ⟨_, (dpsx_cons (dpx_expr (dex_cal X_check_full hA (hr.mono (by decide)) (da_cons (de_var 0) da_nil))) dpsx_never), fun ds G Q E2 h => ?_⟩
    obtain ⟨R, a, b, rfl, hs, page, ok, hh, h0, h10, hm, q⟩ := h
    rw [show dstart N_mended [rulD C R, a, b] = [some (rulD C R), some (a), some (b)] from rfl]
    simp only [dxs, dl, xS, xE, finX, dSeqX]
    exact ⟨R, rfl, hs, page, ok, hh, h0, h10, hm, _, Sub.refl _, q⟩
end
section
variable {P : Program} {w : World} {K : PySem.W.Frag} {mg : Str → Option Value} {base : Heap} {C : Addr}
def spMX4 (C : Addr) (K : PySem.W.Frag) : SpX := fun ds G Q E => ∃ R a b c, ds = [rulD C R, a, b, c] ∧ MuteX K R E G
theorem x_fewest_signs (T : Txt K mg C) (d : Def K mg "fewest_signs" s_fewest_signs) (Er : ErT P K mg) (X_check_full : CalX P w K mg base "check_full" 3 ["rules"] (spFullX C K)) : CalX P w K mg base "fewest_signs" 4 ["rules", "speech", "caption", "place"] (spMX4 C K) := by
  refine calX_mk (N := N_fewest_signs) d sc_fewest_signs (fun ds G Q E h => ?_) (fun _ _ _ _ _ _ us hl => match us, hl with | [_, _, _, _], _ => rfl) (fun f cdv A outer s H E hg hr => ?_)
  · obtain ⟨R, a, b, c, rfl, _⟩ := h
    rfl
  · have hu := hu100 hr
    have nd := sc_fewest_signs.nd
    have hA := deeper_guards (env := envOfC "fewest_signs" (defScope s_fewest_signs) s.heap.objs.size f cdv) hg
    refine ⟨_, (dpsx_cons (dpx_expr (dex_cal X_check_full hA (hr.mono (by decide)) (da_cons (de_var 0) da_nil))) dpsx_never), fun ds G Q E2 h => ?_⟩
    obtain ⟨R, a, b, c, rfl, hs, page, ok, hh, h0, h10, hm, q⟩ := h
    rw [show dstart N_fewest_signs [rulD C R, a, b, c] = [some (rulD C R), some (a), some (b), some (c), none, none, none, none, none, none, none, none, none] from rfl]
    simp only [dxs, dl, xS, xE, finX, dSeqX]
    exact ⟨R, rfl, hs, page, ok, hh, h0, h10, hm, _, Sub.refl _, q⟩
end
section
variable {P : Program} {w : World} {K : PySem.W.Frag} {mg : Str → Option Value} {base : Heap} {C : Addr}
abbrev N_judge_need : List Str := ["rules", "speech", "caption"]
theorem sc_judge_need : FnScope N_judge_need ["rules", "speech", "caption"] (defScope s_judge_need) := ⟨rfl, rfl, rfl, by decide +kernel, rfl, by decide +kernel, by decide +kernel⟩
theorem x_judge_need (T : Txt K mg C) (d : Def K mg "judge_need" s_judge_need) (Er : ErT P K mg) (X_check_full : CalX P w K mg base "check_full" 3 ["rules"] (spFullX C K)) : CalX P w K mg base "judge_need" 4 ["rules", "speech", "caption"] (spMX3 C K) := by
  refine calX_mk (N := N_judge_need) d sc_judge_need (fun ds G Q E h => ?_) (fun _ _ _ _ _ _ us hl => match us, hl with | [_, _, _], _ => rfl) (fun f cdv A outer s H E hg hr => ?_)
  · obtain ⟨R, a, b, rfl, _⟩ := h
    rfl
  · have hu := hu100 hr
    have nd := sc_judge_need.nd
    have hA := deeper_guards (env := envOfC "judge_need" (defScope s_judge_need) s.heap.objs.size f cdv) hg
    refine ⟨_, (dpsx_cons (dpx_expr (dex_cal X_check_full hA (hr.mono (by decide)) (da_cons (de_var 0) da_nil))) dpsx_never), fun ds G Q E2 h => ?_⟩
    obtain ⟨R, a, b, rfl, hs, page, ok, hh, h0, h10, hm, q⟩ := h
    rw [show dstart N_judge_need [rulD C R, a, b] = [some (rulD C R), some (a), some (b)] from rfl]
    simp only [dxs, dl, xS, xE, finX, dSeqX]
    exact ⟨R, rfl, hs, page, ok, hh, h0, h10, hm, _, Sub.refl _, q⟩
end
end Pace
end
section
set_option Elab.async false
set_option linter.all false
set_option maxRecDepth 100000
set_option maxHeartbeats 4000000
namespace Pace
open PySem PySem.Spec PyProof.Rows L2 DL
section
variable {P : Program} {w : World} {K : PySem.W.Frag} {mg : Str → Option Value} {base : Heap} {C : Addr}
def heard42 (page : List Nat) : D := .lst [.str (Str.ofString "mute"), .str (strOf page), .bl true]
def spHeard42 (C : Addr) : SpD := fun ds G Q => ∃ (R : Rul) (hs page : List Nat) (i : Int) (a b : D), ds = [rulD C R, .int i, a, b] ∧ R.Ok ∧ R.heard = strOf hs ∧ 0 < R.rows.length ∧ R.rows.length ≤ 10 ∧ muteOf R.rows hs = some page ∧ Q (heard42 page) G
abbrev N__law_heard : List Str := ["_law_code_here", "_law_way", "_law_said", "_law_shown", "_law_found", "e"]
theorem sc__law_heard : FnScope N__law_heard ["_law_code_here", "_law_way", "_law_said", "_law_shown"] (defScope s__law_heard) := ⟨rfl, rfl, rfl, by decide +kernel, rfl, by decide +kernel, by decide +kernel⟩
theorem c__law_heard (T : Txt K mg C) (d : Def K mg "_law_heard" s__law_heard) (Er : ErT P K mg) (X_need : CalX P w K mg base "need" 4 ["rules", "speech", "caption"] (spMX3 C K)) (X_mended : CalX P w K mg base "mended" 4 ["rules", "speech", "caption"] (spMX3 C K)) (X_fewest_signs : CalX P w K mg base "fewest_signs" 4 ["rules", "speech", "caption", "place"] (spMX4 C K)) (X_judge_need : CalX P w K mg base "judge_need" 4 ["rules", "speech", "caption"] (spMX3 C K)) : Cal P w K mg base "_law_heard" 6 ["_law_code_here", "_law_way", "_law_said", "_law_shown"] (spHeard42 C) := by
  refine cal_mk (N := N__law_heard) d sc__law_heard (fun ds G Q h => ?_) (fun _ _ _ _ _ _ us hl => match us, hl with | [_, _, _, _], _ => rfl) (fun f cdv A outer s H E hg hr => ?_)
  · obtain ⟨R, hs, page, i, a, b, rfl, _⟩ := h
    rfl
  · have hu := hu100 hr
    have nd := sc__law_heard.nd
    have hA := deeper_guards (env := envOfC "_law_heard" (defScope s__law_heard) s.heap.objs.size f cdv) hg
    refine ⟨_, (dps_cons (dp_asg de_non (dg_name 4 nd))
  (dps_cons (dp_try_as (x := "Mute") (n := "e") (i := 5) (fun _ _ => Iff.rfl) rfl rfl nd rfl rfl rfl Er.e_Mute.mg_ (by decide) (fun pn xe => (dpsx_one (dpx_if (dt_cmp (od_eq hu) (de_var 1) de_int (nomark _))
  (dpsx_one (dpx_asg (dex_cal X_need hA (hr.mono (by decide)) (da_cons (de_var 0) (da_cons (de_var 2) (da_cons (de_var 3) da_nil)))) (dg_name 4 nd)))
  (dpsx_one (dpx_if (dt_cmp (od_eq hu) (de_var 1) de_int (nomark _))
  (dpsx_one (dpx_asg (dex_cal X_mended hA (hr.mono (by decide)) (da_cons (de_var 0) (da_cons (de_var 2) (da_cons (de_var 3) da_nil)))) (dg_name 4 nd)))
  (dpsx_one (dpx_if (dt_cmp (od_eq hu) (de_var 1) de_int (nomark _))
  (dpsx_one (dpx_asg (dex_cal X_fewest_signs hA (hr.mono (by decide)) (da_cons (de_var 0) (da_cons (de_var 2) (da_cons (de_var 3) (da_cons de_int da_nil))))) (dg_name 4 nd)))
  (dpsx_one (dpx_asg (dex_cal X_judge_need hA (hr.mono (by decide)) (da_cons (de_var 0) (da_cons (de_var 2) (da_cons (de_var 3) da_nil)))) (dg_name 4 nd)))))))))) (fun a oe d pn C1 fs hz hf => (dpse_asg (dee_lst (dae_cons xrep_keeps (dee_of de_str) (dae_cons xrep_keeps (dee_xf Er.f_Mute Er.a_Mute hz hf (de_var 5)) (dae_cons xrep_keeps (dee_isE1 Er.i_Mute.c Er.i_Mute.k hz hf rfl T.f_isinstance (da_cons (de_var 5) (da_cons (de_cls rfl Er.mg_CaptionError) da_nil))) dae_nil)))) (dg_name 4 nd))))
  (dps_one (dp_ret (de_var 4))))), fun ds G Q h => ?_⟩
    obtain ⟨R, hs, page, i, a, b, rfl, ok, hh, h0, h10, hm, q⟩ := h
    rw [show dstart N__law_heard [rulD C R, .int i, a, b] = [some (rulD C R), some (.int i), some (a), some (b), none, none] from rfl]
    simp only [dxs, dl, xS, xE, finX, dTryAs, dIsE1, dXf]
    have eI : ∀ (x y : Int), okE (D.int x) (D.int y) = true := fun x y => okE_int _ _
    have el : List.lookup (Str.ofString "speech") [(Str.ofString "speech", D.str (strOf page))] = some (.str (strOf page)) := rfl
    refine ⟨eI _ _, ?_⟩
    split
    · exact ⟨R, a, b, rfl, hs, page, ok, hh, h0, h10, hm, Er.i_Mute.m, fun _ => ⟨trivial, rfl, trivial, rfl, by simp, sz (by decide), _, Sub.refl _, q⟩⟩
    refine ⟨eI _ _, ?_⟩
    split
    · exact ⟨R, a, b, rfl, hs, page, ok, hh, h0, h10, hm, Er.i_Mute.m, fun _ => ⟨trivial, rfl, trivial, rfl, by simp, sz (by decide), _, Sub.refl _, q⟩⟩
    refine ⟨eI _ _, ?_⟩
    split
    · exact ⟨R, a, b, _, rfl, hs, page, ok, hh, h0, h10, hm, Er.i_Mute.m, fun _ => ⟨trivial, rfl, trivial, rfl, by simp, sz (by decide), _, Sub.refl _, q⟩⟩
    · exact ⟨R, a, b, rfl, hs, page, ok, hh, h0, h10, hm, Er.i_Mute.m, fun _ => ⟨trivial, rfl, trivial, rfl, by simp, sz (by decide), _, Sub.refl _, q⟩⟩
end
end Pace
end
section
set_option Elab.async false
set_option linter.all false
set_option maxRecDepth 100000
set_option maxHeartbeats 4000000
namespace Pace
open PySem PySem.Spec PyProof.Rows L2 DL
section
variable {P : Program} {w : World} {K : PySem.W.Frag} {mg : Str → Option Value} {base : Heap} {C : Addr}
def spPage42 : SpD := fun ds G Q => ∃ (p : Addr) (al : List Nat) (k n : Nat), ds = [.rf p, .str (strOf al), .int (k : Int)] ∧ al ≠ [] ∧ al.length ≤ 1000 ∧ k ≤ 1000 ∧ G p = some (dk (n + k)) ∧
  ∀ cs : List Nat, cs.length = k → (∀ c ∈ cs, c ∈ al) → Q (.str (strOf cs)) (gput G p (dk n))
abbrev N__law_page : List Str := ["_law_deck_here", "_law_signs", "_law_size", "_law_go"]
theorem sc__law_page : FnScope N__law_page ["_law_deck_here", "_law_signs", "_law_size"] (defScope s__law_page) := ⟨rfl, rfl, rfl, by decide +kernel, rfl, by decide +kernel, by decide +kernel⟩
theorem c__law_page (T : Txt K mg C) (d : Def K mg "_law_page" s__law_page) (C__law_pick : Cal P w K mg base "_law_pick" 2 ["_law_deck_here", "_law_some_here"] (spPick)) : Cal P w K mg base "_law_page" 3 ["_law_deck_here", "_law_signs", "_law_size"] (spPage42) := by
  refine cal_mk (N := N__law_page) d sc__law_page (fun ds G Q h => ?_) (fun _ _ _ _ _ _ us hl => match us, hl with | [_, _, _], _ => rfl) (fun f cdv A outer s H E hg hr => ?_)
  · obtain ⟨p, al, k, n, rfl, _⟩ := h
    rfl
  · have hu := hu100 hr
    have nd := sc__law_page.nd
    have hA := deeper_guards (env := envOfC "_law_page" (defScope s__law_page) s.heap.objs.size f cdv) hg
    refine ⟨_, (dps_one (dp_ret (de_bm PySem.F.plainAttrs_str PySem.F.slot_str_join PySem.F.type_str_join md_join de_str (da_cons (de_lc (own := [("_law_go", 3)]) (p := (.nm 3)) rfl nd (di_range1 rfl T.f_range (da_cons (de_var 2) da_nil)) (blkOk_by (by show blkC N__law_page (defScope s__law_page) _ _ = true; decide +kernel)) (by decide) (fun _ _ _ _ _ => pg_name (i := 3) nd rfl (Or.inl rfl)) (fun _ _ _ _ _ => dts_nil) (fun _ _ _ _ _ => (de_cal C__law_pick hA (hr.mono (by decide)) (da_cons (de_var 0) (da_cons (de_var 1) da_nil))))) da_nil)))), fun ds G Q h => ?_⟩
    obtain ⟨p, al, k, n, rfl, ne, al3, hk, gp, q⟩ := h
    rw [show dstart N__law_page [.rf p, .str (strOf al), .int (k : Int)] = [some (.rf p), some (.str (strOf al)), some (.int (k : Int)), none] from rfl]
    have n1 : 1 ≤ al.length := List.length_pos_iff.mpr ne
    simp only [dxs, dl, dx3]
    refine ⟨rfl, by omega, by omega, ?_⟩
    refine ⟨sz (by simp; omega), fun i acc G' => ∃ cs : List Nat, acc = cs.map (fun c => .str (sgn c)) ∧ cs.length = i ∧ i ≤ k ∧ (∀ c ∈ cs, c ∈ al) ∧ G' = gput G p (dk (n + k - i)), ⟨[], rfl, rfl, Nat.zero_le _, by simp, (gput_self gp).symm⟩, fun _ _ _ _ => trivial, ?_, ?_⟩
    · rintro i acc G' d ⟨cs, rfl, hl, hi, hin, rfl⟩ hd
      obtain ⟨hi2, rfl⟩ := range_get hd
      refine ⟨_, rfl, ?_⟩
      simp only [dxs, dl, dwipe, List.map_cons, List.map_nil, if_true]
      refine ⟨p, n + k - (i + 1), _, _, rfl, .inr ⟨al, rfl, rfl⟩, by rw [List.length_map]; exact n1, by rw [List.length_map]; exact al3, ?_, fun x hx => ?_⟩
      · rw [gput_same]
        congr 2
        have : i < k := by simpa using hi2
        omega
      · obtain ⟨c, hc, rfl⟩ := List.mem_map.mp hx
        refine ⟨cs ++ [c], by simp, by simp [hl], ?_, fun d hd => ?_, ?_⟩
        · have : i < k := by simpa using hi2
          omega
        · rcases List.mem_append.mp hd with hd | hd
          · exact hin d hd
          · rw [List.mem_singleton.mp hd]; exact hc
        · rw [gput_gput]
    · rintro acc G' ⟨cs, rfl, hl, hi, hin, rfl⟩
      rw [range_len] at hl ⊢
      simp only [rJoinD, dxs, dl, texts_sgn, join_sgn, sgn_sum]
      have h00 : (Str.ofString "").length = 0 := by rw [str_nil]; rfl
      refine ⟨by rw [h00]; simp; exact sz (by omega), _, Sub.refl _, ?_⟩
      have e : n + k - k = n := by omega
      rw [e]
      exact q cs hl hin
end
end Pace
end
section
set_option Elab.async false
set_option linter.all false
set_option maxRecDepth 100000
set_option maxHeartbeats 4000000
namespace Pace
open PySem PySem.Spec PyProof.Rows L2 DL
section
variable {P : Program} {w : World} {K : PySem.W.Frag} {mg : Str → Option Value} {base : Heap} {C : Addr}
def lt42 (l : List Nat) : D := .tup (natsD l)
def laD (x : List Nat × List Nat) : D := .tup [.str (strOf x.1), lt42 x.2]
theorem lot_inn (l : List Nat) (L : List (List Nat)) : D.inn (lt42 l) (.lst (L.map lt42)) = some (decide (l ∈ L)) := by
  have hs : D.sis (L.map lt42) = true := sis_all.mpr fun x hx => by
    obtain ⟨q, _, rfl⟩ := List.mem_map.mp hx
    exact natsD_si q
  have ls : ∀ l, (lt42 l).si = true := fun l => natsD_si l
  have dp : (lt42 l).dp ≤ 60 := by
    have := natsD_dps l
    show D.dps (natsD l) + 1 ≤ 60
    omega
  show (if okI (lt42 l) (L.map lt42) = true then some (D.isIn (lt42 l) (L.map lt42)) else none) = _
  rw [if_pos (okI_si (ls l) hs dp)]
  congr 1
  rw [Bool.eq_iff_iff, isIn_si (ls l) hs, decide_eq_true_eq]
  have inj : ∀ a b : List Nat, lt42 a = lt42 b → a = b := fun a b e => by
    have := natsD_eqv a b
    have e2 : D.eqv (.tup (natsD a)) (.tup (natsD b)) = true := (eqv_si (ls a) (ls b)).mpr e
    rw [this] at e2
    exact of_decide_eq_true e2
  exact ⟨fun h => by
    obtain ⟨q, hq, e⟩ := List.mem_map.mp h
    exact inj _ _ e ▸ hq, fun h => List.mem_map.mpr ⟨l, h, rfl⟩⟩
def spMute42 : SpD := fun ds G Q => ∃ (z : Addr) (hs ws : List Nat) (rs : List (List Mv)) (tot : Bool), ds = [.rf z] ∧ G z = some (.dK (wK hs ws rs)) ∧ Wor 5 tot hs ws rs ∧ Q (pageD (muteOf rs hs)) G
abbrev N__law_mute : List Str := ["_law_w", "_law_seen", "_law_layer", "_law_later", "_law_said", "_law_lot", "_law_h", "_law_some_here", "_law_here", "_law_sign", "_law_c", "_law_there"]
theorem sc__law_mute : FnScope N__law_mute ["_law_w"] (defScope s__law_mute) := ⟨rfl, rfl, rfl, by decide +kernel, rfl, by decide +kernel, by decide +kernel⟩
theorem c__law_mute (T : Txt K mg C) (d : Def K mg "_law_mute" s__law_mute) : Cal P w K mg base "_law_mute" 1 ["_law_w"] (spMute42) := by
  refine cal_mk (N := N__law_mute) d sc__law_mute (fun ds G Q h => ?_) (fun _ _ _ _ _ _ us hl => match us, hl with | [_], _ => rfl) (fun f cdv A outer s H E hg hr => ?_)
  · obtain ⟨z, hs, ws, rs, tot, rfl, _⟩ := h
    rfl
  · have hu := hu100 hr
    have nd := sc__law_mute.nd
    have hA := deeper_guards (env := envOfC "_law_mute" (defScope s__law_mute) s.heap.objs.size f cdv) hg
    refine ⟨_, (dps_cons (dp_par (i := 1) (j := 2) rfl nd (ha := (da_cons (de_lstM da_nil) (da_cons (de_lst (da_cons (de_tup (da_cons de_str (da_cons (de_tup (da_cons de_int da_nil)) da_nil))) da_nil)) da_nil))))
  (dps_cons (dp_while PassesOwn.never (dt_cmp (od_ne hu) (de_var 2) (de_lst da_nil) (nomark _))
  (dps_cons (dp_asg (de_lstM da_nil) (dg_name 3 nd))
  (dps_cons (dp_for PassesOwn.never rfl (di_list (de_var 2)) (dg_tup (n := 2) rfl (dgs_cons (dg_name 4 nd) (dgs_cons (dg_name 5 nd) dgs_nil)))
  (dps_cons (dp_if (dt_cmp (od_eq hu) (de_var 5) (de_tup da_nil) (nomark _))
  (dps_one (dp_ret (de_var 4)))
  dps_nil)
  (dps_one (dp_if (dt_cmp (od_notIn hu) (de_var 5) (de_var 1) (by rfl))
  (dps_cons (dp_expr (de_bm PySem.F.plainAttrs_list PySem.F.slot_list_append PySem.F.type_list_append md_append (de_var 1) (da_cons (de_var 5) da_nil)))
  (dps_one (dp_for PassesOwn.never rfl (di_str (de_ix hu (de_var 0) de_str)) (dg_name 6 nd)
  (dps_cons (dp_asg (de_lstM da_nil) (dg_name 7 nd))
  (dps_cons (dp_for PassesOwn.never rfl (di_tup (de_var 5)) (dg_name 8 nd)
  (dps_one (dp_expr (de_bm PySem.F.plainAttrs_list PySem.F.slot_list_extend PySem.F.type_list_extend md_extend (de_var 7) (da_cons (de_lc (own := [("_law_sign", 9), ("_law_c", 10), ("_law_there", 11)]) (p := (.tp [9, 10, 11])) rfl nd (di_tup (de_ix hu (de_ix hu (de_var 0) de_str) (de_var 8))) (blkOk_by (by show blkC N__law_mute (defScope s__law_mute) _ _ = true; decide +kernel)) (by decide) (fun _ _ _ _ _ => pg_tup rfl (pgs_cons (pg_name (i := 9) nd rfl (Or.inl rfl)) (pgs_cons (pg_name (i := 10) nd rfl (Or.inl rfl)) (pgs_cons (pg_name (i := 11) nd rfl (Or.inl rfl)) pgs_nil)))) (fun _ _ _ _ _ => (dts_one (dt_cmp (od_eq hu) (de_var 9) (de_var 6) (nomark _)))) (fun _ _ _ _ _ => (de_var 11))) da_nil)))))
  (dps_one (dp_expr (de_bm PySem.F.plainAttrs_list PySem.F.slot_list_append PySem.F.type_list_append md_append (de_var 3) (da_cons (de_tup (da_cons (de_op od_add (de_var 4) (de_var 6)) (da_cons (de_callTy cd_tuple rfl T.f_tuple (by decide +kernel) (da_cons (de_sortSet rfl rfl T.f_sorted rfl T.f_set (de_var 7)) da_nil)) da_nil))) da_nil)))))))))
  dps_nil))))
  (dps_one (dp_asg (de_cold (de_var 3)) (dg_name 2 nd))))))
  (dps_one (dp_ret de_non)))), fun ds G Q h => ?_⟩
    obtain ⟨z, hs, ws, rs, tot, rfl, gz, wor, q⟩ := h
    rw [show dstart N__law_mute [.rf z] = [some (.rf z), none, none, none, none, none, none, none, none, none, none, none] from rfl]
    have v := wor.val
    have h3 := wor.hs3
    have few := wor.few
    have n5 := wor.n
    have h0 := v.n1
    have so := letters_lt v.lh
    have tl : ∀ r ∈ rs, ∀ m ∈ r, m.t < rs.length := fun r hr => (v.ok.at_ r hr).2
    have hB : 2 ^ rs.length ≤ 2 ^ 5 := Nat.pow_le_pow_right (by decide) n5
    have hB : 2 ^ rs.length ≤ 32 := hB
    have i1 : D.item (.dK (wK hs ws rs)) (.str (Str.ofString "heard")) = some (.str (strOf hs)) := rfl
    have i2 : D.item (.dK (wK hs ws rs)) (.str (Str.ofString "rows")) = some (rowsD rs) := rfl
    have ecr : ∀ G : GH, D.cur G (rowsD rs) = rowsD rs := fun _ => rfl
    simp only [dxs, dl]
    refine ⟨Nat.zero_le _, fun p hp => ⟨sz (by decide), sz (by decide), sz (by decide), ?_⟩⟩
    have hpz : p ≠ z := fun e => by rw [e, gz] at hp; cases hp
    have hzp : z ≠ p := Ne.symm hpz
    let sO : List (List Nat) → MO := fun seen => .lst (seen.map lt42)
    have g0 : ∀ {seen G'}, Sub (gput G p (sO seen)) G' → G' p = some (sO seen) ∧ G' z = some (.dK (wK hs ws rs)) ∧ ∀ x o, G x = some o → G' x = some o := fun sb =>
      ⟨sb.le p _ gput_same, sb.le z _ (by rw [gput_ne hzp]; exact gz), fun x o hx => sb.le x o (by rw [gput_ne (fun e => by rw [e, hp] at hx; cases hx)]; exact hx)⟩
    have fin_ : ∀ {seen G'}, Sub (gput G p (sO seen)) G' → Sub G G' := fun sb => (sub_new hp rfl).trans sb
    refine ⟨fun m S' G' => ∃ (seen : List (List Nat)) (A : List (List Nat × List Nat)) (x3 x4 x5 x6 x7 x8 x9 x10 x11 : Option D), m = 2 * (2 ^ rs.length - seen.length) + (if A = [] then 0 else 1) ∧ S' = [some (.rf z), some (.rf p), some (.lst (A.map laD)), x3, x4, x5, x6, x7, x8, x9, x10, x11] ∧ Sub (gput G p (sO seen)) G' ∧ MuI rs hs seen A [],
      ⟨_, [], [([], [0])], none, none, none, none, none, none, none, none, none, rfl, by rw [str_nil]; rfl, Sub.refl _, .start⟩, ?_⟩
    rintro m S' G' ⟨seen, A, x3, x4, x5, x6, x7, x8, x9, x10, x11, rfl, rfl, sb, mu⟩
    obtain ⟨gp, gz', _⟩ := g0 sb
    have siA : (D.lst (A.map laD)).si = true := sis_all.mpr fun x hx => by
      obtain ⟨y, _, rfl⟩ := List.mem_map.mp hx
      show (true && ((lt42 y.2).si && true)) = true
      rw [show (lt42 y.2).si = true from natsD_si y.2]; rfl
    have dpA : (D.lst (A.map laD)).dp ≤ 60 := by
      have : D.dps (A.map laD) ≤ 2 := dps_le fun x hx => by
        obtain ⟨y, _, rfl⟩ := List.mem_map.mp hx
        have := natsD_dps y.2
        show max 0 (max (D.dps (natsD y.2) + 1) 0) + 1 ≤ 2
        omega
      show D.dps (A.map laD) + 1 ≤ 60
      omega
    have eqv0 : D.eqv (.lst (A.map laD)) (.lst []) = decide (A = []) := by
      rw [Bool.eq_iff_iff, eqv_si siA rfl]
      simp
    have sl0 := mu.seen_len tl h0
    simp only [dxs, dl]
    refine ⟨Nat.zero_le _, okE_si siA rfl dpA, ?_⟩
    rw [eqv0]
    by_cases hA : A = []
    · subst hA
      rw [if_neg (by simp)]
      refine ⟨G, fin_ sb, ?_⟩
      rw [mu.none] at q
      exact q
    · rw [if_pos (by simp [hA])]
      refine ⟨Nat.zero_le _, fun y hy => ?_⟩
      have hyp : y ≠ p := fun e => by rw [e, gp] at hy; cases hy
      have hyz : y ≠ z := fun e => by rw [e, gz'] at hy; cases hy
      have hyG : G y = none := by
        cases e : G y with
        | none => rfl
        | some o => rw [(g0 sb).2.2 y o e] at hy; cases hy
      have hyG2 : ∀ seen, gput G p (sO seen) y = none := fun _ => by rw [gput_ne hyp]; exact hyG
      let GG : List (List Nat) → List (List Nat × List Nat) → GH := fun seen B => gput (gput G p (sO seen)) y (.lst (B.map laD))
      have rd : ∀ {seen B G'}, Sub (GG seen B) G' → G' p = some (sO seen) ∧ G' z = some (.dK (wK hs ws rs)) ∧ G' y = some (.lst (B.map laD)) := fun sb =>
        ⟨sb.le p _ (by show gput _ y _ p = _; rw [gput_ne (Ne.symm hyp), gput_same]), sb.le z _ (by show gput _ y _ z = _; rw [gput_ne (Ne.symm hyz), gput_ne hzp]; exact gz), sb.le y _ gput_same⟩
      have un : ∀ {seen B G'}, Sub (GG seen B) G' → Sub G G' := fun sb => ((sub_new hp rfl).trans (sub_new (hyG2 _) rfl)).trans sb
      refine ⟨fun j S' G2 => ∃ (seen2 : List (List Nat)) (B : List (List Nat × List Nat)) (x4 x5 x6 x7 x8 x9 x10 x11 : Option D), S' = [some (.rf z), some (.rf p), some (.lst (A.map laD)), some (.rf y), x4, x5, x6, x7, x8, x9, x10, x11] ∧ Sub (GG seen2 B) G2 ∧ MuI rs hs seen2 (A.drop j) B ∧ seen.length ≤ seen2.length ∧ (B ≠ [] → seen.length < seen2.length),
        ⟨seen, [], _, _, _, _, _, _, _, _, rfl, sb.put y _, mu, Nat.le_refl _, fun e => absurd rfl e⟩, fun _ _ _ _ => trivial, ?_, ?_⟩
      · rintro j S' G2 d ⟨seen2, B, x4, x5, x6, x7, x8, x9, x10, x11, rfl, sb2, mu2, hle, hlt⟩ hd
        obtain ⟨x, hx, rfl⟩ := map_get hd
        obtain ⟨u, l⟩ := x
        obtain ⟨gp2, gz2, gy2⟩ := rd sb2
        have edr : A.drop j = (u, l) :: A.drop (j + 1) := by
          obtain ⟨h1, h2⟩ := List.getElem?_eq_some_iff.mp hx
          rw [List.drop_eq_getElem_cons h1, h2]
        rw [edr] at mu2
        have lot := mu2.lot tl h0 (x := (u, l)) (by simp)
        have sl2 := mu2.seen_len tl h0
        have hll : u.length ≤ seen2.length := mu2.ll (u, l) (by simp)
        have hbl := mu2.bl
        simp only [dxs, dl, laD, lt42, List.length_cons, List.length_nil, true_and, natsD_okE0, natsD_eqv0, Nat.zero_le]
        by_cases hl0 : l = []
        · subst hl0
          rw [if_pos (by simp)]
          refine ⟨G, un sb2, ?_⟩
          rw [mu2.found tl so h0] at q
          exact q
        · rw [if_neg (by simpa using hl0)]
          have einn : D.inn (.tup (natsD l)) (.lst (seen2.map lt42)) = some (decide (l ∈ seen2)) := lot_inn l seen2
          have gp2' : G2 p = some (.lst (seen2.map lt42)) := gp2
          have gy2' : G2 y = some (.lst (B.map laD)) := gy2
          simp only [gp2', dxs, dl, einn]
          by_cases hs2 : l ∈ seen2
          · rw [if_neg (by simp [hs2])]
            exact ⟨seen2, B, _, _, _, _, _, _, _, _, rfl, sb2, mu2.again tl so h0 hs2, hle, hlt⟩
          · rw [if_pos (by simp [hs2])]
            have hnd : l.Nodup := lot.1.imp fun h => by omega
            have sb3 : Sub (GG (seen2 ++ [l]) B) (gput G2 p (sO (seen2 ++ [l]))) := by
              have := sb2.put p (sO (seen2 ++ [l]))
              have e : gput (GG seen2 B) p (sO (seen2 ++ [l])) = GG (seen2 ++ [l]) B := by
                show gput (gput (gput G p (sO seen2)) y _) p _ = gput (gput G p (sO (seen2 ++ [l]))) y _
                rw [gput_under hyp.symm]
              rw [e] at this
              exact this
            refine ⟨rfl, ?_⟩
            simp only [rAppendD, gp2']
            refine ⟨szl (by rw [List.length_map]; omega), ?_⟩
            have e0 : gput G2 p (.lst (seen2.map lt42 ++ [.tup (natsD l)])) = gput G2 p (sO (seen2 ++ [l])) := by
              show _ = gput G2 p (.lst ((seen2 ++ [l]).map lt42))
              rw [List.map_append]; rfl
            rw [e0]
            generalize gput G2 p (sO (seen2 ++ [l])) = G3 at sb3 ⊢
            obtain ⟨gp3, gz3, gy3⟩ := rd sb3
            simp only [gz3, i1]
            have mu3 := mu2.fresh tl so h0 hs2 hl0
            refine ⟨fun i S' G4 => ∃ (x6 x7 x8 x9 x10 x11 : Option D), S' = [some (.rf z), some (.rf p), some (.lst (A.map laD)), some (.rf y), some (.str (strOf u)), some (.tup (natsD l)), x6, x7, x8, x9, x10, x11] ∧ Sub (GG (seen2 ++ [l]) (B ++ kids rs u l (hs.take i))) G4,
              ⟨_, _, _, _, _, _, rfl, by rw [show kids rs u l (hs.take 0) = [] from rfl, List.append_nil]; exact sb3⟩, fun _ _ _ _ => trivial, ?_, ?_⟩
            · clear sb2 sb3 gp2 gz2 gy2 gp3 gz3 gy3 gp2' gy2' e0
              rintro i S' G4 d ⟨x6, x7, x8, x9, x10, x11, rfl, sb4⟩ hd
              obtain ⟨c, hc, rfl⟩ := signs_get hd
              obtain ⟨gp4, gz4, gy4⟩ := rd sb4
              have hi := (List.getElem?_eq_some_iff.mp hc).1
              have h64 := few.len hnd lot.2 c
              simp only [dxs, dl]
              refine ⟨Nat.zero_le _, fun y2 hy2 => ?_⟩
              have h2z : z ≠ y2 := fun e => by rw [← e, gz4] at hy2; cases hy2
              have h2y : y ≠ y2 := fun e => by rw [← e, gy4] at hy2; cases hy2
              have gz5 : ∀ o, gput G4 y2 o z = some (.dK (wK hs ws rs)) := fun o => by rw [gput_ne h2z]; exact gz4
              refine ⟨fun k S' G5 => ∃ x8 x9 x10 x11, S' = [some (.rf z), some (.rf p), some (.lst (A.map laD)), some (.rf y), some (.str (strOf u)), some (.tup (natsD l)), some (.str (sgn c)), some (.rf y2), x8, x9, x10, x11] ∧
                G5 = gput G4 y2 (.lst (natsD ((l.take k).flatMap fun s => hits rs s c))), ⟨_, _, _, _, rfl, rfl⟩, fun _ _ _ _ => trivial, ?_, ?_⟩
              · rintro k S' G5 dd ⟨x8, x9, x10, x11, rfl, rfl⟩ hd
                obtain ⟨s1, hs1, rfl⟩ := natsD_get hd
                obtain ⟨r, hrr⟩ : ∃ r, rs[s1]? = some r := ⟨_, List.getElem?_eq_getElem (lot.2 s1 (List.mem_of_getElem? hs1))⟩
                have hl := wor.row r (List.mem_of_getElem? hrr)
                simp only [dxs, dl, beq_self_eq_true, true_and, gz5, i2, ecr, rowsD_at hrr, rowD]
                have hf : (r.filter fun m => m.h == c).length ≤ 1000 := Nat.le_trans (List.length_filter_le _ _) (by omega)
                have e4 : hits rs s1 c = (r.filter fun m => m.h == c).map (·.t) := by unfold hits; simp [List.getD, hrr]
                refine lc_someA r Mv.d (fun m => m.h == c) (fun m => .int (m.t : Int)) rfl (sz (by omega)) trivial (fun m _ => ⟨_, rfl, fun Q z => ?_, fun _ Q z => ?_⟩) ?_
                · simp only [dxs, dl, dwipe, List.map_cons, List.map_nil, Mv.d, okE_str, eqv_str, sgn_beq, true_and]
                  exact z
                · simp only [dxs, dl, dwipe, List.map_cons, List.map_nil, Mv.d]
                  exact z
                · have e5 : (r.filter fun m => m.h == c).map (fun m => D.int (m.t : Int)) = natsD (hits rs s1 c) := by rw [e4]; simp [natsD]
                  rw [e5]
                  have hb := few.len (ss := l.take (k + 1)) (hnd.sublist (List.take_sublist _ _)) (fun s hs => lot.2 s (List.mem_of_mem_take hs)) c
                  rw [take_snoc hs1, List.flatMap_append, List.length_append] at hb
                  simp only [List.flatMap_cons, List.flatMap_nil, List.append_nil] at hb
                  simp only [rExtendD, dxs, dl, gput_same, gput_gput]
                  refine ⟨sz (by rw [natsD_len, natsD_len]; omega), some (.int (s1 : Int)), _, _, _, rfl, ?_⟩
                  rw [take_snoc hs1, natsD_app, List.flatMap_append]
                  simp
              · rintro S' G5 ⟨x8, x9, x10, x11, rfl, rfl⟩
                rw [natsD_len, List.take_length]
                have sb5 := sb4.trans (sub_new (o := .lst (natsD (l.flatMap fun s => hits rs s c))) hy2 rfl)
                obtain ⟨gp5, gz5', gy5⟩ := rd sb5
                have eb : nsort (firstsF (l.flatMap fun s => hits rs s c)) = behind rs l c := rfl
                have ecur : D.cur (gput G4 y2 (.lst (natsD (l.flatMap fun s => hits rs s c)))) (.rf y2) = .lst (natsD (l.flatMap fun s => hits rs s c)) := by simp only [D.cur, gput_same]
                have ecl : ∀ (G : GH) (xs : List D), D.cur G (.lst xs) = .lst xs := fun _ _ => rfl
                have en : (isort1 ((l.flatMap fun s => hits rs s c).map fun n : Nat => (n : Int))).map D.int = natsD (behind rs l c) := by rw [isort1_nat, ← eb]
                simp only [dxs, dl, dx2, beq_self_eq_true, true_and, rAddD, strOf_sgn, ecur, intsD_nats, List.length_map, rTupleD, ecl, en, gy5, rAppendD]
                have hkl : (kids rs u l (hs.take i)).length ≤ 3 := by unfold kids; rw [List.length_map, List.length_take]; omega
                have hB3 : B.length ≤ 3 * 32 := Nat.le_trans hbl (Nat.mul_le_mul h3 (by omega))
                refine ⟨by rw [strOf_len]; exact sz (by simp [sgn, Str.length]; omega), h64, sz (by decide), szl (by rw [List.length_append]; omega), _, _, _, _, _, _, rfl, ?_⟩
                have sb6 := sb5.put y (.lst ((B ++ kids rs u l (hs.take (i + 1))).map laD))
                have e6 : gput (GG (seen2 ++ [l]) (B ++ kids rs u l (hs.take i))) y (.lst ((B ++ kids rs u l (hs.take (i + 1))).map laD)) = GG (seen2 ++ [l]) (B ++ kids rs u l (hs.take (i + 1))) := gput_gput
                rw [e6] at sb6
                have e7 : (B ++ kids rs u l (hs.take (i + 1))).map laD = (B ++ kids rs u l (hs.take i)).map laD ++ [.tup [.str (strOf (u ++ [c])), .tup (natsD (behind rs l c))]] := by
                  unfold kids
                  rw [take_snoc hc]
                  simp [laD, lt42]
                rw [e7] at sb6
                exact sb6
            · rintro S' G4 ⟨x6, x7, x8, x9, x10, x11, rfl, sb4⟩
              rw [signs_len, List.take_length] at sb4
              exact ⟨seen2 ++ [l], _, _, _, _, _, _, _, _, _, rfl, sb4, mu3, by rw [List.length_append]; omega, fun _ => by rw [List.length_append, List.length_singleton]; omega⟩
      · rintro S' G2 ⟨seen2, B, x4, x5, x6, x7, x8, x9, x10, x11, rfl, sb2, mu2, hle, hlt⟩
        rw [List.length_map, List.drop_length] at mu2
        obtain ⟨gp2, gz2, gy2⟩ := rd sb2
        have sl2 := mu2.seen_len tl h0
        simp only [dxs, dl, gy2, MO.cold]
        refine ⟨_, ?_, seen2, B, _, _, _, _, _, _, _, _, _, rfl, rfl, sub_del ((sub_new (hyG2 _) rfl).trans sb2) (hyG2 _), mu2.turn⟩
        rw [if_neg hA]
        by_cases hBe : B = []
        · rw [if_pos hBe]; omega
        · rw [if_neg hBe]
          have := hlt hBe
          omega
end
end Pace
end
section
set_option Elab.async false
set_option linter.all false
set_option maxRecDepth 100000
set_option maxHeartbeats 4000000
namespace Pace
open PySem PySem.Spec PyProof.Rows L2 DL
section
variable {P : Program} {w : World} {K : PySem.W.Frag} {mg : Str → Option Value} {base : Heap} {C : Addr}
def spLetters : SpD := fun ds G Q => ∃ cs : List Nat, ds = [.str (strOf cs)] ∧ cs.length ≤ 1000 ∧ Q (.bl (lettersB cs)) G
abbrev N_are_letters : List Str := ["thing", "sign", "one", "other"]
theorem sc_are_letters : FnScope N_are_letters ["thing"] (defScope s_are_letters) := ⟨rfl, rfl, rfl, by decide +kernel, rfl, by decide +kernel, by decide +kernel⟩
theorem c_are_letters (T : Txt K mg C) (d : Def K mg "are_letters" s_are_letters) : Cal P w K mg base "are_letters" 1 ["thing"] (spLetters) := by
  refine cal_mk (N := N_are_letters) d sc_are_letters (fun ds G Q h => ?_) (fun _ _ _ _ _ _ us hl => match us, hl with | [_], _ => rfl) (fun f cdv A outer s H E hg hr => ?_)
  · obtain ⟨cs, rfl, _⟩ := h
    rfl
  · have hu := hu100 hr
    have nd := sc_are_letters.nd
    have hA := deeper_guards (env := envOfC "are_letters" (defScope s_are_letters) s.heap.objs.size f cdv) hg
    refine ⟨_, (dps_cons (dp_if (DW.dt (dw_or (dt_not (dt_val (de_callB cd_isi rfl T.f_isinstance (by decide +kernel) (da_cons (de_var 0) (da_cons (de_ty (T := "str") rfl T.f_str (by decide +kernel)) da_nil))))) (dw_or (dt_cmp (od_eq hu) (de_var 0) de_str (nomark _)) (dw_or1 (dt_not (dt_val (de_callB (cd_all rfl) rfl T.f_all (by decide +kernel) (da_cons (de_lc (own := [("sign", 1)]) (p := (.nm 1)) rfl nd (di_str (de_var 0)) (blkOk_by (by show blkC N_are_letters (defScope s_are_letters) _ _ = true; decide +kernel)) (by decide) (fun _ _ _ _ _ => pg_name (i := 1) nd rfl (Or.inl rfl)) (fun _ _ _ _ _ => dts_nil) (fun _ _ _ _ _ => (de_cmp (od_in hu) (de_var 1) (de_gstr rfl T.c_LETTERS) (by rfl)))) da_nil))))))))
  (dps_one (dp_ret de_bl))
  dps_nil)
  (dps_one (dp_ret (de_callB (cd_all rfl) rfl T.f_all (by decide +kernel) (da_cons (de_lc (own := [("one", 2), ("other", 3)]) (p := (.tp [2, 3])) rfl nd (di_zipS rfl T.f_zip (da_cons (de_slice (de_var 0) do_none (do_some (de_un ud_neg de_int))) (da_cons (de_slice (de_var 0) (do_some de_int) do_none) da_nil))) (blkOk_by (by show blkC N_are_letters (defScope s_are_letters) _ _ = true; decide +kernel)) (by decide) (fun _ _ _ _ _ => pg_tup rfl (pgs_cons (pg_name (i := 2) nd rfl (Or.inl rfl)) (pgs_cons (pg_name (i := 3) nd rfl (Or.inl rfl)) pgs_nil))) (fun _ _ _ _ _ => dts_nil) (fun _ _ _ _ _ => (de_cmp (od_lt hu) (de_var 2) (de_var 3) (nomark _)))) da_nil))))), fun ds G Q h => ?_⟩
    obtain ⟨cs, rfl, hl, q⟩ := h
    rw [show dstart N_are_letters [.str (strOf cs)] = [some (.str (strOf cs)), none, none, none] from rfl]
    simp only [dxs, dl, dx3, Bool.not_true, Bool.false_eq_true, if_false, okE_str, eqv_str, true_and]
    by_cases h0 : cs = []
    · subst h0
      rw [if_pos (by decide +kernel), if_pos trivial]
      exact ⟨_, Sub.refl _, q⟩
    · rw [if_neg (by
        intro z
        have z2 : strOf cs = strOf [] := by rw [← str_nil]; simpa using z
        exact h0 (strOf_inj z2))]
      have hsz : (strOf cs).length ≤ sizeLine := by rw [strOf_len]; exact sz (by omega)
      refine lc_mapA cs (fun c => .str (sgn c)) (fun c => .bl (decide (c ∈ abc))) (by simp [DL.signs, strOf, sgn]) (sz (by omega)) trivial (fun c _ => ⟨_, rfl, fun Q z => ?_⟩) ?_
      · simp only [dxs, dl, dwipe, List.map_cons, List.map_nil, inn_str, abc_str, strIn_sgn]
        exact z
      · rw [all_map]
        simp only
        by_cases ha : cs.all (fun c => decide (c ∈ abc)) = true
        · rw [if_neg (by simp [ha])]
          refine ⟨hsz, hsz, ?_⟩
          rw [cutS_strOf, cutS_strOf, cut_last, cut_tail]
          refine lc_mapA (cs.dropLast.zip cs.tail) (fun p => .tup [.str (sgn p.1), .str (sgn p.2)]) (fun p => .bl (decide (p.1 < p.2))) (by rw [zip_map]; simp [strOf]) (sz (by simp; omega)) trivial (fun p _ => ⟨_, rfl, fun Q z => ?_⟩) ?_
          · simp only [dxs, dl, dwipe, List.map_cons, List.map_nil, okL_str, sgn_lt, true_and]
            exact z
          · rw [all_map]
            refine ⟨_, Sub.refl _, ?_⟩
            have e : lettersB cs = (cs.dropLast.zip cs.tail).all fun p => decide (p.1 < p.2) := by
              unfold lettersB nbr
              rw [ha, zip_map]
              have : cs.isEmpty = false := by simpa using h0
              simp [this, List.all_map]
            rw [← e]
            exact q
        · rw [if_pos (by simpa using ha)]
          have e : lettersB cs = false := by
            unfold lettersB
            simp only [Bool.not_eq_true] at ha
            simp [ha]
          rw [e] at q
          exact ⟨_, Sub.refl _, q⟩
end
section
variable {P : Program} {w : World} {K : PySem.W.Frag} {mg : Str → Option Value} {base : Heap} {C : Addr}
def spInteger : SpD := fun ds G Q => ∃ n : Int, ds = [.int n] ∧ Q (.bl true) G
abbrev N_is_integer : List Str := ["thing"]
theorem sc_is_integer : FnScope N_is_integer ["thing"] (defScope s_is_integer) := ⟨rfl, rfl, rfl, by decide +kernel, rfl, by decide +kernel, by decide +kernel⟩
theorem c_is_integer (T : Txt K mg C) (d : Def K mg "is_integer" s_is_integer) : Cal P w K mg base "is_integer" 1 ["thing"] (spInteger) := by
  refine cal_mk (N := N_is_integer) d sc_is_integer (fun ds G Q h => ?_) (fun _ _ _ _ _ _ us hl => match us, hl with | [_], _ => rfl) (fun f cdv A outer s H E hg hr => ?_)
  · obtain ⟨n, rfl, _⟩ := h
    rfl
  · have hu := hu100 hr
    have nd := sc_is_integer.nd
    have hA := deeper_guards (env := envOfC "is_integer" (defScope s_is_integer) s.heap.objs.size f cdv) hg
    refine ⟨_, (dps_one (dp_ret (de_and (de_callB cd_isi rfl T.f_isinstance (by decide +kernel) (da_cons (de_var 0) (da_cons (de_ty (T := "int") rfl T.f_int (by decide +kernel)) da_nil))) (de_one (de_not (de_callB cd_isi rfl T.f_isinstance (by decide +kernel) (da_cons (de_var 0) (da_cons (de_ty (T := "bool") rfl T.f_bool (by decide +kernel)) da_nil)))))))), fun ds G Q h => ?_⟩
    obtain ⟨n, rfl, q⟩ := h
    exact ⟨_, Sub.refl _, q⟩
end
section
variable {P : Program} {w : World} {K : PySem.W.Frag} {mg : Str → Option Value} {base : Heap} {C : Addr}
def spLetterOf : SpD := fun ds G Q => ∃ (ls : List Nat) (c : Nat), ds = [.str (strOf ls), .str (sgn c)] ∧ Q (.bl (decide (c ∈ ls))) G
abbrev N_is_letter_of : List Str := ["letters", "thing"]
theorem sc_is_letter_of : FnScope N_is_letter_of ["letters", "thing"] (defScope s_is_letter_of) := ⟨rfl, rfl, rfl, by decide +kernel, rfl, by decide +kernel, by decide +kernel⟩
theorem c_is_letter_of (T : Txt K mg C) (d : Def K mg "is_letter_of" s_is_letter_of) : Cal P w K mg base "is_letter_of" 1 ["letters", "thing"] (spLetterOf) := by
  refine cal_mk (N := N_is_letter_of) d sc_is_letter_of (fun ds G Q h => ?_) (fun _ _ _ _ _ _ us hl => match us, hl with | [_, _], _ => rfl) (fun f cdv A outer s H E hg hr => ?_)
  · obtain ⟨ls, c, rfl, _⟩ := h
    rfl
  · have hu := hu100 hr
    have nd := sc_is_letter_of.nd
    have hA := deeper_guards (env := envOfC "is_letter_of" (defScope s_is_letter_of) s.heap.objs.size f cdv) hg
    refine ⟨_, (dps_one (dp_ret (de_and (de_callB cd_isi rfl T.f_isinstance (by decide +kernel) (da_cons (de_var 1) (da_cons (de_ty (T := "str") rfl T.f_str (by decide +kernel)) da_nil))) (de_and (de_cmp (od_eq hu) (de_callB cd_len rfl T.f_len (by decide +kernel) (da_cons (de_var 1) da_nil)) de_int (nomark _)) (de_one (de_cmp (od_in hu) (de_var 1) (de_var 0) (by rfl))))))), fun ds G Q h => ?_⟩
    obtain ⟨ls, c, rfl, q⟩ := h
    rw [show dstart N_is_letter_of [.str (strOf ls), .str (sgn c)] = [some (.str (strOf ls)), some (.str (sgn c))] from rfl]
    have e1 : rLenD [.str (sgn c)] = fun G Q => Q (.int (1 : Nat)) G := by
      funext G Q
      exact len_str (x := sgn c) (sz (by show (1 : Nat) ≤ 5000; decide)) G Q
    simp only [dxs, dl, dx3, e1, inn_str, strIn_sgn, okE_int, eqv_int, true_and, if_true, beq_self_eq_true, Int.ofNat_one]
    exact ⟨_, Sub.refl _, q⟩
end
end Pace
end
section
set_option Elab.async false
set_option linter.all false
set_option maxRecDepth 100000
set_option maxHeartbeats 4000000
namespace Pace
open PySem PySem.Spec PyProof.Rows L2 DL
section
variable {P : Program} {w : World} {K : PySem.W.Frag} {mg : Str → Option Value} {base : Heap} {C : Addr}
def spMove : SpD := fun ds G Q => ∃ (hs ws : List Nat) (n : Nat) (m : Mv), ds = [.str (strOf hs), .str (strOf ws), .int (n : Int), Mv.d m] ∧ Q (.bl (mvB hs ws n m)) G
abbrev N_is_move : List Str := ["heard", "written", "many", "thing"]
theorem sc_is_move : FnScope N_is_move ["heard", "written", "many", "thing"] (defScope s_is_move) := ⟨rfl, rfl, rfl, by decide +kernel, rfl, by decide +kernel, by decide +kernel⟩
theorem c_is_move (T : Txt K mg C) (d : Def K mg "is_move" s_is_move) (C_is_letter_of : Cal P w K mg base "is_letter_of" 1 ["letters", "thing"] (spLetterOf)) (C_is_integer : Cal P w K mg base "is_integer" 1 ["thing"] (spInteger)) : Cal P w K mg base "is_move" 2 ["heard", "written", "many", "thing"] (spMove) := by
  refine cal_mk (N := N_is_move) d sc_is_move (fun ds G Q h => ?_) (fun _ _ _ _ _ _ us hl => match us, hl with | [_, _, _, _], _ => rfl) (fun f cdv A outer s H E hg hr => ?_)
  · obtain ⟨hs, ws, n, m, rfl, _⟩ := h
    rfl
  · have hu := hu100 hr
    have nd := sc_is_move.nd
    have hA := deeper_guards (env := envOfC "is_move" (defScope s_is_move) s.heap.objs.size f cdv) hg
    refine ⟨_, (dps_cons (dp_if (DW.dt (dw_or (dt_not (dt_val (de_callB cd_isi rfl T.f_isinstance (by decide +kernel) (da_cons (de_var 3) (da_cons (de_ty (T := "tuple") rfl T.f_tuple (by decide +kernel)) da_nil))))) (dw_or1 (dt_cmp (od_ne hu) (de_callB cd_len rfl T.f_len (by decide +kernel) (da_cons (de_var 3) da_nil)) (de_gint rfl T.c_MOVE_PARTS_rules) (nomark _)))))
  (dps_one (dp_ret de_bl))
  dps_nil)
  (dps_cons (dp_if (DW.dt (dw_or (dt_not (dt_val (de_cal C_is_letter_of hA (hr.mono (by decide)) (da_cons (de_var 0) (da_cons (de_ix hu (de_var 3) de_int) da_nil))))) (dw_or1 (dt_not (dt_val (de_cal C_is_letter_of hA (hr.mono (by decide)) (da_cons (de_var 1) (da_cons (de_ix hu (de_var 3) de_int) da_nil))))))))
  (dps_one (dp_ret de_bl))
  dps_nil)
  (dps_one (dp_ret (de_and (de_cal C_is_integer hA (hr.mono (by decide)) (da_cons (de_ix hu (de_var 3) de_int) da_nil)) (de_one (de_chain (od_le hu) (od_lt hu) de_int (de_ix hu (de_var 3) de_int) (de_var 2)))))))), fun ds G Q h => ?_⟩
    obtain ⟨hs, ws, n, m, rfl, q⟩ := h
    rw [show dstart N_is_move [.str (strOf hs), .str (strOf ws), .int (n : Int), Mv.d m] = [some (.str (strOf hs)), some (.str (strOf ws)), some (.int (n : Int)), some (Mv.d m)] from rfl]
    simp only [Mv.d, dxs, dl, dx3, Bool.not_true, Bool.false_eq_true, if_false, okE_int, eqv_int, true_and, mv0, mv1, mv2]
    rw [if_neg (by decide)]
    refine ⟨hs, m.h, rfl, ?_⟩
    by_cases h1 : m.h ∈ hs
    · simp only [h1, decide_true, Bool.not_true, Bool.false_eq_true, if_false]
      refine ⟨ws, m.c, rfl, ?_⟩
      by_cases h2 : m.c ∈ ws
      · simp only [h2, decide_true, Bool.not_true, Bool.false_eq_true, if_false]
        refine ⟨_, rfl, ?_⟩
        simp only [dxs, dl, mv2, okL_int, DL.lt_int, true_and, if_true]
        have e1 : (!decide ((m.t : Int) < 0)) = true := by simp
        rw [e1, if_pos rfl]
        refine ⟨_, Sub.refl _, ?_⟩
        have e2 : decide ((m.t : Int) < (n : Int)) = mvB hs ws n m := by
          unfold mvB
          simp [h1, h2]
        rw [e2]
        exact q
      · simp only [h2, decide_false, Bool.not_false, if_true]
        refine ⟨_, Sub.refl _, ?_⟩
        have : mvB hs ws n m = false := by unfold mvB; simp [h2]
        rw [this] at q
        exact q
    · simp only [h1, decide_false, Bool.not_false, if_true]
      refine ⟨_, Sub.refl _, ?_⟩
      have : mvB hs ws n m = false := by unfold mvB; simp [h1]
      rw [this] at q
      exact q
end
section
variable {P : Program} {w : World} {K : PySem.W.Frag} {mg : Str → Option Value} {base : Heap} {C : Addr}
def spRow : SpD := fun ds G Q => ∃ (hs ws : List Nat) (n : Nat) (r : List Mv), ds = [.str (strOf hs), .str (strOf ws), .int (n : Int), rowD r] ∧ r.length ≤ 1000 ∧ Q (.bl (rowB hs ws n r)) G
abbrev N_is_row : List Str := ["heard", "written", "many", "thing", "move", "one", "other"]
theorem sc_is_row : FnScope N_is_row ["heard", "written", "many", "thing"] (defScope s_is_row) := ⟨rfl, rfl, rfl, by decide +kernel, rfl, by decide +kernel, by decide +kernel⟩
theorem c_is_row (T : Txt K mg C) (d : Def K mg "is_row" s_is_row) (C_is_move : Cal P w K mg base "is_move" 2 ["heard", "written", "many", "thing"] (spMove)) : Cal P w K mg base "is_row" 3 ["heard", "written", "many", "thing"] (spRow) := by
  refine cal_mk (N := N_is_row) d sc_is_row (fun ds G Q h => ?_) (fun _ _ _ _ _ _ us hl => match us, hl with | [_, _, _, _], _ => rfl) (fun f cdv A outer s H E hg hr => ?_)
  · obtain ⟨hs, ws, n, r, rfl, _⟩ := h
    rfl
  · have hu := hu100 hr
    have nd := sc_is_row.nd
    have hA := deeper_guards (env := envOfC "is_row" (defScope s_is_row) s.heap.objs.size f cdv) hg
    refine ⟨_, (dps_cons (dp_if (DW.dt (dw_or (dt_not (dt_val (de_callB cd_isi rfl T.f_isinstance (by decide +kernel) (da_cons (de_var 3) (da_cons (de_ty (T := "tuple") rfl T.f_tuple (by decide +kernel)) da_nil))))) (dw_or1 (dt_not (dt_val (de_callB (cd_all rfl) rfl T.f_all (by decide +kernel) (da_cons (de_lc (own := [("move", 4)]) (p := (.nm 4)) rfl nd (di_tup (de_var 3)) (blkOk_by (by show blkC N_is_row (defScope s_is_row) _ _ = true; decide +kernel)) (by decide) (fun _ _ _ _ _ => pg_name (i := 4) nd rfl (Or.inl rfl)) (fun _ _ _ _ _ => dts_nil) (fun _ _ _ _ _ => (de_cal C_is_move hA (hr.mono (by decide)) (da_cons (de_var 0) (da_cons (de_var 1) (da_cons (de_var 2) (da_cons (de_var 4) da_nil))))))) da_nil)))))))
  (dps_one (dp_ret de_bl))
  dps_nil)
  (dps_one (dp_ret (de_callB (cd_all rfl) rfl T.f_all (by decide +kernel) (da_cons (de_lc (own := [("one", 5), ("other", 6)]) (p := (.tp [5, 6])) rfl nd (di_zipT rfl T.f_zip (da_cons (de_slice (de_var 3) do_none (do_some (de_un ud_neg de_int))) (da_cons (de_slice (de_var 3) (do_some de_int) do_none) da_nil))) (blkOk_by (by show blkC N_is_row (defScope s_is_row) _ _ = true; decide +kernel)) (by decide) (fun _ _ _ _ _ => pg_tup rfl (pgs_cons (pg_name (i := 5) nd rfl (Or.inl rfl)) (pgs_cons (pg_name (i := 6) nd rfl (Or.inl rfl)) pgs_nil))) (fun _ _ _ _ _ => dts_nil) (fun _ _ _ _ _ => (de_cmp (od_lt hu) (de_slice (de_var 5) do_none (do_some de_int)) (de_slice (de_var 6) do_none (do_some de_int)) (nomark _)))) da_nil))))), fun ds G Q h => ?_⟩
    obtain ⟨hs, ws, n, r, rfl, hl, q⟩ := h
    rw [show dstart N_is_row [.str (strOf hs), .str (strOf ws), .int (n : Int), rowD r] = [some (.str (strOf hs)), some (.str (strOf ws)), some (.int (n : Int)), some (rowD r), none, none, none] from rfl]
    simp only [rowD, dxs, dl, dx3, Bool.not_true, Bool.false_eq_true, if_false, true_and]
    refine lc_mapA r Mv.d (fun m => .bl (mvB hs ws n m)) rfl (sz (by omega)) trivial (fun m _ => ⟨_, rfl, fun Q z => ?_⟩) ?_
    · simp only [dxs, dl, dwipe, List.map_cons, List.map_nil]
      exact ⟨hs, ws, n, m, rfl, z⟩
    · rw [all_map]
      simp only
      by_cases ha : r.all (mvB hs ws n) = true
      · rw [if_neg (by simp [ha])]
        rw [cut_last, cut_tail]
        refine lc_mapA (r.dropLast.zip r.tail) (fun p => .tup [Mv.d p.1, Mv.d p.2]) (fun p => .bl (mvLt p.1 p.2)) ?_ (sz (by simp; omega)) trivial (fun p _ => ⟨_, rfl, fun Q z => ?_⟩) ?_
        · rw [← List.map_dropLast, ← List.map_tail, List.zipWith_map, zip_map]
        · simp only [dxs, dl, dx3, dwipe, List.map_cons, List.map_nil, Mv.d, mv_cut, mv_okL, mv_lt, true_and]
          exact z
        · rw [all_map]
          refine ⟨_, Sub.refl _, ?_⟩
          have e : rowB hs ws n r = (r.dropLast.zip r.tail).all fun p => mvLt p.1 p.2 := by
            unfold rowB nbr
            rw [ha, zip_map]
            simp [List.all_map]
          rw [← e]
          exact q
      · rw [if_pos (by simpa using ha)]
        have e : rowB hs ws n r = false := by
          unfold rowB
          simp only [Bool.not_eq_true] at ha
          simp [ha]
        rw [e] at q
        exact ⟨_, Sub.refl _, q⟩
end
section
variable {P : Program} {w : World} {K : PySem.W.Frag} {mg : Str → Option Value} {base : Heap} {C : Addr}
def spSteps : SpD := fun ds G Q => ∃ (r : List Mv), ds = [rowD r] ∧ r.length ≤ 1000 ∧ mergeDT [] (r.map mvK) = r.map mvK ∧ Q (.dT (r.map mvK)) G
abbrev N_steps_of : List Str := ["row", "sign", "letter", "target"]
theorem sc_steps_of : FnScope N_steps_of ["row"] (defScope s_steps_of) := ⟨rfl, rfl, rfl, by decide +kernel, rfl, by decide +kernel, by decide +kernel⟩
theorem c_steps_of (T : Txt K mg C) (d : Def K mg "steps_of" s_steps_of) : Cal P w K mg base "steps_of" 1 ["row"] (spSteps) := by
  refine cal_mk (N := N_steps_of) d sc_steps_of (fun ds G Q h => ?_) (fun _ _ _ _ _ _ us hl => match us, hl with | [_], _ => rfl) (fun f cdv A outer s H E hg hr => ?_)
  · obtain ⟨r, rfl, _⟩ := h
    rfl
  · have hu := hu100 hr
    have nd := sc_steps_of.nd
    have hA := deeper_guards (env := envOfC "steps_of" (defScope s_steps_of) s.heap.objs.size f cdv) hg
    refine ⟨_, (dps_one (dp_ret (de_callTy (cd_dictT rfl hu) rfl T.f_dict (by decide +kernel) (da_cons (de_lc (own := [("sign", 1), ("letter", 2), ("target", 3)]) (p := (.tp [1, 2, 3])) rfl nd (di_tup (de_var 0)) (blkOk_by (by show blkC N_steps_of (defScope s_steps_of) _ _ = true; decide +kernel)) (by decide) (fun _ _ _ _ _ => pg_tup rfl (pgs_cons (pg_name (i := 1) nd rfl (Or.inl rfl)) (pgs_cons (pg_name (i := 2) nd rfl (Or.inl rfl)) (pgs_cons (pg_name (i := 3) nd rfl (Or.inl rfl)) pgs_nil)))) (fun _ _ _ _ _ => dts_nil) (fun _ _ _ _ _ => (de_tup (da_cons (de_tup (da_cons (de_var 1) (da_cons (de_var 2) da_nil))) (da_cons (de_var 3) da_nil))))) da_nil)))), fun ds G Q h => ?_⟩
    obtain ⟨r, rfl, hl, hm, q⟩ := h
    rw [show dstart N_steps_of [rowD r] = [some (rowD r), none, none, none] from rfl]
    simp only [rowD, dxs, dl]
    refine lc_mapA r Mv.d (fun m => .tup [.tup [.str (sgn m.h), .str (sgn m.c)], .int (m.t : Int)]) rfl (sz (by omega)) trivial (fun m _ => ⟨_, rfl, fun Q z => ?_⟩) ?_
    · simp only [dxs, dl, dwipe, List.map_cons, List.map_nil, Mv.d]
      exact ⟨sz (by simp), sz (by simp), z⟩
    · show (match prsT _ with | some ms => _ | none => False)
      rw [prsT_row]
      refine ⟨_, Sub.refl _, ?_⟩
      rw [hm]
      exact q
end
end Pace
end
section
set_option Elab.async false
set_option linter.all false
set_option maxRecDepth 100000
set_option maxHeartbeats 4000000
namespace Pace
open PySem PySem.Spec PyProof.Rows L2 DL
section
variable {P : Program} {w : World} {K : PySem.W.Frag} {mg : Str → Option Value} {base : Heap} {C : Addr}
def spInit (C : Addr) : SpD := fun ds G Q => ∃ (y : Addr) (hs ws : List Nat) (rs : List (List Mv)), ds = [.rf y, .str (strOf hs), .str (strOf ws), rowsD rs] ∧ G y = some (.ins C []) ∧ RulV hs ws rs ∧ Q .non (gput G y (.ins C (rulF (mkR hs ws rs))))
abbrev N_Rules_u__init_u_ : List Str := ["self", "heard", "written", "rows", "state", "row"]
theorem sc_Rules_u__init_u_ : FnScope N_Rules_u__init_u_ ["self", "heard", "written", "rows"] (defScope s_Rules_u__init_u_) := ⟨rfl, rfl, rfl, by decide +kernel, rfl, by decide +kernel, by decide +kernel⟩
theorem c_Rules_u__init_u_ (T : Txt K mg C) (d : DefI K C "Rules.__init__" s_Rules_u__init_u_) (C_are_letters : Cal P w K mg base "are_letters" 1 ["thing"] (spLetters)) (C_is_row : Cal P w K mg base "is_row" 3 ["heard", "written", "many", "thing"] (spRow)) (C_steps_of : Cal P w K mg base "steps_of" 1 ["row"] (spSteps)) : Mak P w K mg base "Rules" C 4 ["self", "heard", "written", "rows"] (spInit C) := by
  refine mak_mk (N := N_Rules_u__init_u_) d T.mgR sc_Rules_u__init_u_ (fun ds G Q h => ?_) (fun _ _ _ _ _ _ us hl => match us, hl with | [_, _, _, _], _ => rfl) (fun f cdv A outer s H E hg hr => ?_)
  · obtain ⟨y, hs, ws, rs, rfl, _⟩ := h
    rfl
  · have hu := hu100 hr
    have nd := sc_Rules_u__init_u_.nd
    have hA := deeper_guards (env := envOfC "Rules.__init__" (defScope s_Rules_u__init_u_) s.heap.objs.size f cdv) hg
    refine ⟨_, (dps_cons (dp_if (dt_not (dt_val (de_cal C_are_letters hA (hr.mono (by decide)) (da_cons (de_var 1) da_nil))))
  (dps_one dp_never)
  dps_nil)
  (dps_cons (dp_if (dt_not (dt_val (de_cal C_are_letters hA (hr.mono (by decide)) (da_cons (de_var 2) da_nil))))
  (dps_one dp_never)
  dps_nil)
  (dps_cons (dp_if (DW.dt (dw_or (dt_not (dt_val (de_callB cd_isi rfl T.f_isinstance (by decide +kernel) (da_cons (de_var 3) (da_cons (de_ty (T := "tuple") rfl T.f_tuple (by decide +kernel)) da_nil))))) (dw_or1 (dt_not (dt_chain (od_le hu) (od_le hu) de_int (de_callB cd_len rfl T.f_len (by decide +kernel) (da_cons (de_var 3) da_nil)) (de_gint rfl T.c_MOST_STATES))))))
  (dps_one dp_never)
  dps_nil)
  (dps_cons (dp_for PassesOwn.never rfl (di_enumT rfl T.f_enumerate (da_cons (de_var 3) da_nil)) (dg_tup (n := 2) rfl (dgs_cons (dg_name 4 nd) (dgs_cons (dg_name 5 nd) dgs_nil)))
  (dps_one (dp_if (dt_not (dt_val (de_cal C_is_row hA (hr.mono (by decide)) (da_cons (de_var 1) (da_cons (de_var 2) (da_cons (de_callB cd_len rfl T.f_len (by decide +kernel) (da_cons (de_var 3) da_nil)) (da_cons (de_var 5) da_nil)))))))
  (dps_one dp_never)
  dps_nil)))
  (dps_cons (dp_setFld T.clR T.no_heard (de_var 0) (de_var 1))
  (dps_cons (dp_setFld T.clR T.no_written (de_var 0) (de_var 2))
  (dps_cons (dp_setFld T.clR T.no_rows (de_var 0) (de_var 3))
  (dps_one (dp_setFld T.clR T.no_steps (de_var 0) (de_lc (own := [("row", 5)]) (p := (.nm 5)) rfl nd (di_tup (de_var 3)) (blkOk_by (by show blkC N_Rules_u__init_u_ (defScope s_Rules_u__init_u_) _ _ = true; decide +kernel)) (by decide) (fun _ _ _ _ _ => pg_name (i := 5) nd rfl (Or.inl rfl)) (fun _ _ _ _ _ => dts_nil) (fun _ _ _ _ _ => (de_cal C_steps_of hA (hr.mono (by decide)) (da_cons (de_var 5) da_nil))))))))))))), fun ds G Q h => ?_⟩
    obtain ⟨y, hs, ws, rs, rfl, hy, v, q⟩ := h
    rw [show dstart N_Rules_u__init_u_ [.rf y, .str (strOf hs), .str (strOf ws), rowsD rs] = [some (.rf y), some (.str (strOf hs)), some (.str (strOf ws)), some (rowsD rs), none, none] from rfl]
    simp only [rowsD, dxs, dl, dx3]
    refine ⟨hs, rfl, v.sh, ?_⟩
    rw [v.lh]
    simp only [dxs, dl, dx3, Bool.not_true, Bool.false_eq_true, if_false]
    refine ⟨ws, rfl, v.sw, ?_⟩
    rw [v.lw]
    simp only [dxs, dl, dx3, Bool.not_true, Bool.false_eq_true, if_false, okL_int, DL.lt_int, true_and, List.length_map]
    have n1 := v.n1
    have n2 := v.n2
    rw [if_pos (by simp; omega), if_neg (by simp; omega)]
    refine ⟨fun i S' G' => ∃ x4 x5, S' = [some (.rf y), some (.str (strOf hs)), some (.str (strOf ws)), some (.tup (rs.map rowD)), x4, x5] ∧ G' = G, ⟨none, none, rfl, rfl⟩, fun _ _ _ _ => trivial, ?_, ?_⟩
    · rintro i S' G' dd ⟨x4, x5, rfl, rfl⟩ hd
      rw [List.getElem?_mapIdx, List.getElem?_map] at hd
      cases er : rs[i]? with
      | none => rw [er] at hd; cases hd
      | some r =>
        rw [er] at hd
        cases hd
        obtain ⟨hr1, hr2⟩ := v.row r (List.mem_of_getElem? er)
        simp only [dxs, dl, dx3, true_and, List.length_map]
        refine ⟨hs, ws, rs.length, r, rfl, hr2, ?_⟩
        rw [hr1]
        exact ⟨_, _, rfl, rfl⟩
    · rintro S' G' ⟨x4, x5, rfl, rfl⟩
      simp only [dxs, dl, hy, pf1, pf2, pf3]
      refine ⟨trivial, by decide, trivial, by decide, trivial, by decide, ?_⟩
      refine lc_mapA rs rowD (fun r => .dT (r.map mvK)) rfl (sz (by omega)) trivial (fun r hr => ⟨_, rfl, fun Q z => ?_⟩) ?_
      · obtain ⟨hr1, hr2⟩ := v.row r hr
        simp only [dxs, dl, dwipe, List.map_cons, List.map_nil]
        exact ⟨r, rfl, hr2, merge_rowB hr1, z⟩
      · simp only [dxs, dl, gput_gput, pf4]
        exact ⟨trivial, by decide, _, Sub.refl _, q⟩
end
end Pace
end
section
set_option Elab.async false
set_option linter.all false
set_option maxRecDepth 100000
set_option maxHeartbeats 4000000
namespace Pace
open PySem PySem.Spec PyProof.Rows L2 DL
section
variable {P : Program} {w : World} {K : PySem.W.Frag} {mg : Str → Option Value} {base : Heap} {C : Addr}
def spCode66 (C : Addr) : SpD := fun ds G Q => ∃ (z : Addr) (hs ws : List Nat) (rs : List (List Mv)), ds = [.rf z] ∧ G z = some (.dK (wK hs ws rs)) ∧ RulV hs ws rs ∧ Q (rulD C (mkR hs ws rs)) G
abbrev N__law_code : List Str := ["_law_w"]
theorem sc__law_code : FnScope N__law_code ["_law_w"] (defScope s__law_code) := ⟨rfl, rfl, rfl, by decide +kernel, rfl, by decide +kernel, by decide +kernel⟩
theorem c__law_code (T : Txt K mg C) (d : Def K mg "_law_code" s__law_code) (M_Rules : Mak P w K mg base "Rules" C 4 ["self", "heard", "written", "rows"] (spInit C)) : Cal P w K mg base "_law_code" 6 ["_law_w"] (spCode66 C) := by
  refine cal_mk (N := N__law_code) d sc__law_code (fun ds G Q h => ?_) (fun _ _ _ _ _ _ us hl => match us, hl with | [_], _ => rfl) (fun f cdv A outer s H E hg hr => ?_)
  · obtain ⟨z, hs, ws, rs, rfl, _⟩ := h
    rfl
  · have hu := hu100 hr
    have nd := sc__law_code.nd
    have hA := deeper_guards (env := envOfC "_law_code" (defScope s__law_code) s.heap.objs.size f cdv) hg
    refine ⟨_, (dps_one (dp_ret (de_mak M_Rules hA (hr.mono (by decide)) (da_cons (de_ix hu (de_var 0) de_str) (da_cons (de_ix hu (de_var 0) de_str) (da_cons (de_ix hu (de_var 0) de_str) da_nil)))))), fun ds G Q h => ?_⟩
    obtain ⟨z, hs, ws, rs, rfl, gz, v, q⟩ := h
    rw [show dstart N__law_code [.rf z] = [some (.rf z)] from rfl]
    have i0 : D.item (.dK (wK hs ws rs)) (.str (Str.ofString "heard")) = some (.str (strOf hs)) := rfl
    have i1 : D.item (.dK (wK hs ws rs)) (.str (Str.ofString "written")) = some (.str (strOf ws)) := rfl
    have i2 : D.item (.dK (wK hs ws rs)) (.str (Str.ofString "rows")) = some (rowsD rs) := rfl
    simp only [dxs, dl, gz, i0, i1, i2]
    intro y hy
    refine ⟨y, hs, ws, rs, rfl, gput_same, v, ?_⟩
    simp only [dxs, dl, gput_gput, MO.cold, gdel_gput hy]
    exact ⟨_, Sub.refl _, q⟩
end
end Pace
end
section
set_option Elab.async false
set_option linter.all false
set_option maxRecDepth 100000
set_option maxHeartbeats 4000000
namespace Pace
open PySem PySem.Spec PyProof.Rows L2 DL
section
variable {P : Program} {w : World} {K : PySem.W.Frag} {mg : Str → Option Value} {base : Heap} {C : Addr}
theorem strs66 {x : D} (h : x ∈ [D.str (Str.ofString "ab"), .str (Str.ofString "xy"), .str (Str.ofString "x"), .str (Str.ofString "xyz"), .str (Str.ofString "aq")] ∨ x ∈ [D.str (Str.ofString "ab"), .str (Str.ofString "ab"), .str (Str.ofString "a"), .str (Str.ofString "mz")]) :
    ∃ cs : List Nat, x = .str (strOf cs) ∧ lettersB cs = true ∧ cs.length ≤ 3 := by
  have e1 : Str.ofString "ab" = strOf [97, 98] := by decide +kernel
  have e2 : Str.ofString "xy" = strOf [120, 121] := by decide +kernel
  have e3 : Str.ofString "x" = strOf [120] := by decide +kernel
  have e4 : Str.ofString "xyz" = strOf [120, 121, 122] := by decide +kernel
  have e5 : Str.ofString "aq" = strOf [97, 113] := by decide +kernel
  have e6 : Str.ofString "a" = strOf [97] := by decide +kernel
  have e7 : Str.ofString "mz" = strOf [109, 122] := by decide +kernel
  simp only [List.mem_cons, List.not_mem_nil, or_false, e1, e2, e3, e4, e5, e6, e7] at h
  rcases h with (h | h | h | h | h) | (h | h | h | h)
  all_goals exact ⟨_, h, by decide +kernel, by decide⟩
def spSome66 : SpD := fun ds G Q => ∃ (p : Addr) (top n : Nat) (tot : Bool), ds = [.rf p, .int (top : Int), .bl tot] ∧ 1 ≤ top ∧ top ≤ 5 ∧ G p = some (dk (n + 210)) ∧
  ∀ (hs ws : List Nat) (rs : List (List Mv)) (m : Nat) (z : Addr), n ≤ m → rs.length ≤ top → Wor 5 tot hs ws rs → G z = none → Q (.rf z) (gput (gput G p (dk m)) z (.dK (wK hs ws rs)))
abbrev N__law_some : List Str := ["_law_deck_here", "_law_top", "_law_is_total", "_law_written"]
theorem sc__law_some : FnScope N__law_some ["_law_deck_here", "_law_top", "_law_is_total"] (defScope s__law_some) := ⟨rfl, rfl, rfl, by decide +kernel, rfl, by decide +kernel, by decide +kernel⟩
theorem c__law_some (T : Txt K mg C) (d : Def K mg "_law_some" s__law_some) (C__law_pick : Cal P w K mg base "_law_pick" 2 ["_law_deck_here", "_law_some_here"] (spPick)) (C__law_draw : Cal P w K mg base "_law_draw" 1 ["_law_deck_here", "_law_below"] (spDraw)) (C__law_world : Cal P w K mg base "_law_world" 3 ["_law_deck_here", "_law_size", "_law_heard_here", "_law_written", "_law_is_total"] (spWorld66)) : Cal P w K mg base "_law_some" 4 ["_law_deck_here", "_law_top", "_law_is_total"] (spSome66) := by
  refine cal_mk (N := N__law_some) d sc__law_some (fun ds G Q h => ?_) (fun _ _ _ _ _ _ us hl => match us, hl with | [_, _, _], _ => rfl) (fun f cdv A outer s H E hg hr => ?_)
  · obtain ⟨p, top, n, tot, rfl, _⟩ := h
    rfl
  · have hu := hu100 hr
    have nd := sc__law_some.nd
    have hA := deeper_guards (env := envOfC "_law_some" (defScope s__law_some) s.heap.objs.size f cdv) hg
    refine ⟨_, (dps_cons (dp_asg (de_cal C__law_pick hA (hr.mono (by decide)) (da_cons (de_var 0) (da_cons (de_lst (da_cons de_str (da_cons de_str (da_cons de_str (da_cons de_str (da_cons de_str da_nil)))))) da_nil))) (dg_name 3 nd))
  (dps_one (dp_ret (de_cal C__law_world hA (hr.mono (by decide)) (da_cons (de_var 0) (da_cons (de_op od_add de_int (de_cal C__law_draw hA (hr.mono (by decide)) (da_cons (de_var 0) (da_cons (de_var 1) da_nil)))) (da_cons (de_cal C__law_pick hA (hr.mono (by decide)) (da_cons (de_var 0) (da_cons (de_lst (da_cons de_str (da_cons de_str (da_cons de_str (da_cons de_str da_nil))))) da_nil))) (da_cons (de_var 3) (da_cons (de_var 2) da_nil))))))))), fun ds G Q h => ?_⟩
    obtain ⟨p, top, n, tot, rfl, t1, t5, gp, q⟩ := h
    rw [show dstart N__law_some [.rf p, .int (top : Int), .bl tot] = [some (.rf p), some (.int (top : Int)), some (.bl tot), none] from rfl]
    simp only [dxs, dl, dx3]
    refine ⟨sz (by decide), p, n + 209, _, _, rfl, .inl rfl, by simp, by simp, gp, fun x hx => ?_⟩
    obtain ⟨ws, rfl, lw, ws3⟩ := strs66 (.inl hx)
    refine ⟨p, top, n + 208, rfl, t1, by omega, gput_same, fun r hr => ⟨sz (by decide), ?_⟩⟩
    refine ⟨p, n + 207, _, _, rfl, .inl rfl, by simp, by simp, gput_same, fun x hx => ?_⟩
    obtain ⟨hs, rfl, lh, hs3⟩ := strs66 (.inr hx)
    have e1 : (1 : Int) + (r : Int) = ((1 + r : Nat) : Int) := by omega
    simp only [e1, gput_gput]
    refine ⟨p, 1 + r, n + 7, hs, ws, tot, rfl, by omega, by omega, lh, lw, hs3, ws3, gput_same, fun rs m z hm hl wor hz => ?_⟩
    have hzp : z ≠ p := fun e => by rw [e, gput_same] at hz; cases hz
    rw [gput_gput]
    exact ⟨_, Sub.refl _, q hs ws rs m z (by omega) (by omega) wor (by rw [gput_ne hzp] at hz; exact hz)⟩
end
end Pace
end
section
set_option Elab.async false
set_option linter.all false
set_option maxRecDepth 100000
set_option maxHeartbeats 4000000
namespace DL
open PySem PySem.Spec PyProof.Rows L2
def spLaw (n : Nat) : SpD := fun ds G Q => ∃ ns : List Int, ds = [.scr ns] ∧ ns.length ≤ n ∧ (G = fun _ => none) ∧ ∀ G', Q (.bl true) G'
section
variable {P : Program} {w : World} {K : PySem.W.Frag} {mg mb : Str → Option Value} {k : Nat} {fa a : Addr} {fd : FuncData} {x : Str} {s₁ : Shared} {vs : List Value} {ns : List Int} {n : Nat}
theorem last_core (inn : K.In s₁.heap) (hns : s₁.heap.Ns mainGlobals mg) (hb : s₁.heap.Ns builtinsNs mb) (hbb : ∀ x : Str, x ≠ "__name__" → mb x = bootBuiltins x) (hlim : s₁.heap.NoLimit) (hg : s₁.gens = #[])
    (ha : s₁.heap.get? a = some { cls := .type "list", data := .seq vs.toArray }) (hl : ns.length ≤ n) (hr : Room k callerA)
    (Fn : ∀ base : Heap, K.In base → base.Ns mainGlobals mg → FnG P w K mg base CX0 k fa fd [x] (SpOf K (spLaw n))) (bd : ∀ (s : Shared) (u : Value), BindsTo s fd ⟨[u], []⟩ [(x, u)])
    (H : Hp) (hO : Only H) (hS : SqL K H a (ns.map V.int)) (hok : HOk P w H s₁.heap) (hA : ∀ b, H b ≠ none → b = a) (hK : H a ≠ none → K.lookup a = none) :
    codeAny (model P w) callerA (.call (.ref fa) ⟨[.ref a], []⟩) (fun r s' => r = .ok (.ret (.bool true)) ∧ OldK s₁.heap s'.heap ∧ s'.os = s₁.os ∧ AllBare s'.gens) s₁ := by
  have put : ∀ {b : Addr} {o : Obj}, s₁.heap.get? b = some o → H b = none → (hidT s₁.heap H).get? b = some o := by
    intro b o z y
    exact hidT_get z y
  have nod : ∀ {b : Addr} {o : Obj} {es : Array DictEntry} {ep : Nat}, s₁.heap.get? b = some o → o.data = .dict es ep → H b = none := by
    intro b o es ep z y
    cases q : H b with
    | none => rfl
    | some u =>
      obtain rfl : b = a := hA b (by rw [q]; simp)
      rw [ha] at z
      cases z
      exact absurd y (by intro c; cases c)
  have ns2 : ∀ {b : Addr} {m : Str → Option Value}, s₁.heap.Ns b m → (hidT s₁.heap H).Ns b m := by
    rintro b m ⟨o, es, ep, z, y, r⟩
    exact ⟨o, es, ep, put z (nod z y), y, r⟩
  have in2 : K.In (hidT s₁.heap H) := by
    intro b o z
    refine put (inn b o z) ?_
    cases q : H b with
    | none => rfl
    | some u =>
      have y : b = a := hA b (by rw [q]; simp)
      subst y
      have c := hK (by rw [q]; simp)
      rw [c] at z; cases z
  have md : Mod K mg (hidT s₁.heap H) := by
    obtain ⟨mc, l1, l2⟩ := hlim
    exact ⟨in2, ns2 hns, ⟨mb, ns2 hb, hbb⟩, ⟨mc, ns2 l1, l2⟩⟩
  have e0 : Env0 P w K mg (hidT s₁.heap H) callerA [] s₁ H := by
    refine ⟨rfl, md, fun b o z => of_hidT z, Nat.le_of_eq (hidT_size _ _), trivial, ?_, hok, .of_eq hg⟩
    intro b hb
    cases hb
  have sp0 : SpOf K (spLaw n) [.ref a] H (fun v _ => v = .bl true) (fun _ _ _ => False) := by
    refine ⟨H, fun _ => none, [.scr ns], fun d _ => d = .bl true, ⟨Ex.refl H, fun _ _ z => (nomatch z), fun _ _ _ _ _ _ _ _ _ _ z => (nomatch z)⟩, .one (.scr hS), ⟨ns, rfl, hl, rfl, fun _ => rfl⟩, ?_⟩
    intro F' H' v d G' _ _ r z
    subst z
    cases r
    rfl
  refine codeAny_mono ((Fn _ in2 (ns2 hns)).goes callerA [] s₁ H ⟨[.ref a], []⟩ [.ref a] [.ref a] _ _ rfl hr e0 (bd s₁ (.ref a)) (.cons rfl .nil) sp0) ?_
  intro r s' z
  match r, z with
  | .error er, z => exact z.elim
  | .ok .next, z => exact z.elim
  | .ok .brk, z => exact z.elim
  | .ok .cont, z => exact z.elim
  | .ok (.ret u), z =>
    obtain ⟨v, H', os, bare, un, hok', r', q⟩ := z
    have q' : v = .bl true := q
    subst q'
    obtain rfl : u = Value.bool true := r'
    refine ⟨rfl, OldK.of_keep ?_, os, bare⟩
    intro b o z
    cases q : H b with
    | none => exact un.keep b o z q (by intro c; cases c) (by simp)
    | some y =>
      rcases hO b with c | ⟨ob, xs, c⟩
      · rw [q] at c; cases c
      · have c2 := un.frzs b ob _ c
        have d1 := (hok b _ c).1
        have d2 := (hok' b _ c2).1
        rw [z] at d1
        cases d1
        exact d2
theorem last_call (inn : K.In s₁.heap) (hns : s₁.heap.Ns mainGlobals mg) (hb : s₁.heap.Ns builtinsNs mb) (hbb : ∀ x : Str, x ≠ "__name__" → mb x = bootBuiltins x) (hlim : s₁.heap.NoLimit) (hg : s₁.gens = #[])
    (ha : s₁.heap.get? a = some { cls := .type "list", data := .seq vs.toArray }) (hi : IntsAre vs ns) (hl : ns.length ≤ n) (hn : n ≤ sizeLine) (hr : Room k callerA)
    (Fn : ∀ base : Heap, K.In base → base.Ns mainGlobals mg → FnG P w K mg base CX0 k fa fd [x] (SpOf K (spLaw n))) (bd : ∀ (s : Shared) (u : Value), BindsTo s fd ⟨[u], []⟩ [(x, u)]) :
    codeAny (model P w) callerA (.call (.ref fa) ⟨[.ref a], []⟩) (fun r s' => r = .ok (.ret (.bool true)) ∧ OldK s₁.heap s'.heap ∧ s'.os = s₁.os ∧ AllBare s'.gens) s₁ := by
  have rv := vals_ints hi
  have lv := hi.length
  have hz : ns.length ≤ sizeLine := Nat.le_trans hl hn
  cases hk : K.lookup a with
  | some o =>
    have z := inn a o hk
    rw [ha] at z
    cases z
    refine last_core inn hns hb hbb hlim hg ha hl hr Fn bd (fun _ => none) (fun _ => .inl rfl) ?_ (fun b u z => (nomatch z)) (fun b z => absurd rfl z) (fun z => absurd rfl z)
    refine .inr ⟨_, vs.toArray, _, hk, rfl, rfl, rfl, ?_, by simpa using rv⟩
    rw [List.size_toArray, lv]
    exact hz
  | none =>
    let H : Hp := fun b => if b = a then some (.frz { cls := .type "list", data := .seq vs.toArray } (.lst (ns.map V.int))) else none
    have hy : H a = some (.frz { cls := .type "list", data := .seq vs.toArray } (.lst (ns.map V.int))) := if_pos rfl
    have hno : ∀ b, b ≠ a → H b = none := fun b z => if_neg z
    refine last_core inn hns hb hbb hlim hg ha hl hr Fn bd H (fun b => ?_) (.inl (.inr ⟨_, hy⟩)) (fun b u z => ?_) (fun b z => ?_) (fun _ => hk)
    · by_cases c : b = a
      · subst c; exact .inr ⟨_, _, hy⟩
      · exact .inl (hno b c)
    · by_cases c : b = a
      · subst c
        rw [hy] at z
        cases z
        exact ⟨ha, by rw [List.length_map]; exact hz, vs, _, rv, ha⟩
      · rw [hno b c] at z; cases z
    · by_cases c : b = a
      · exact c
      · exact absurd (hno b c) z
end
theorem walk_G {l : PySem.W.OpenLaw} {n k : Nat} {q : Program} {loose : List Str} {XP : (Str → Option Value) → Heap → Prop} {YP : World → Heap → Prop} {d : DefRec} {x : Str}
    (hn : l.most = some n) (hn2 : n ≤ sizeLine) (hdf : d.params.defaults = []) (hr : Room k callerA)
    (Fn : ∀ (w : World) (mg : Str → Option Value) (fa : Addr) (h : Heap), YP w h → h.Ns mainGlobals mg → mg d.name = some (.ref fa) →
      ∃ (K : PySem.W.Frag) (fd : FuncData), K.In h ∧ (∀ (s : Shared) (u : Value), BindsTo s fd ⟨[u], []⟩ [(x, u)]) ∧
        ∀ base : Heap, K.In base → base.Ns mainGlobals mg → FnG l.prog w K mg base CX0 k fa fd [x] (SpOf K (spLaw n))) :
    PySem.W.WalkO q loose XP YP l.row.toRowW d [] (fun f vs => PySem.call f vs) := by
  refine Att.attach_call hn hdf ?_
  intro w s₀ s₁ mg mb fa o pm cd doc a vs ns G Y ho hd hcd hmg hobj hints hlen hg
  obtain ⟨K, fd, inn, bd, hF⟩ := Fn w mg fa _ Y G.T.g hmg
  exact last_call inn G.T.g G.T.b G.T.builtins G.T.nolimit hg hobj hints hlen hn2 hr hF bd
end DL
end
section
set_option Elab.async false
set_option linter.all false
set_option maxRecDepth 100000
set_option maxHeartbeats 4000000
namespace Pace
open PySem PySem.Spec PyProof.Rows L2 DL
section
variable {P : Program} {w : World} {K : PySem.W.Frag} {mg : Str → Option Value} {base : Heap} {C : Addr}
theorem strs42 {x : D} (h : x ∈ [D.str (Str.ofString ""), .str (Str.ofString "q"), .str (Str.ofString "b")]) : ∃ cs : List Nat, x = .str (strOf cs) ∧ cs.length ≤ 1 := by
  have e1 : Str.ofString "" = strOf [] := by decide +kernel
  have e2 : Str.ofString "q" = strOf [113] := by decide +kernel
  have e3 : Str.ofString "b" = strOf [98] := by decide +kernel
  simp only [List.mem_cons, List.not_mem_nil, or_false, e1, e2, e3] at h
  rcases h with h | h | h
  all_goals exact ⟨_, h, by decide⟩
abbrev N_law : List Str := ["_law_script", "_law_deck_here", "_law_w", "_law_code_here", "_law_due", "_law_said", "_law_shown", "_law_told", "_law_way", "_law_go"]
theorem sc_law : FnScope N_law ["_law_script"] (defScope s_law) := ⟨rfl, rfl, rfl, by decide +kernel, rfl, by decide +kernel, by decide +kernel⟩
theorem c_law {f0 : Addr} {fd0 : FuncData} (T : Txt K mg C) (d : Fun K "law" "law" s_law f0 fd0) (C__law_deck : Cal P w K mg base "_law_deck" 1 ["_law_script"] (spDeck)) (C__law_some : Cal P w K mg base "_law_some" 4 ["_law_deck_here", "_law_top", "_law_is_total"] (spSome66)) (C__law_draw : Cal P w K mg base "_law_draw" 1 ["_law_deck_here", "_law_below"] (spDraw)) (C__law_code : Cal P w K mg base "_law_code" 6 ["_law_w"] (spCode66 C)) (C__law_mute : Cal P w K mg base "_law_mute" 1 ["_law_w"] (spMute42)) (C__law_page : Cal P w K mg base "_law_page" 3 ["_law_deck_here", "_law_signs", "_law_size"] (spPage42)) (C__law_pick : Cal P w K mg base "_law_pick" 2 ["_law_deck_here", "_law_some_here"] (spPick)) (C__law_heard : Cal P w K mg base "_law_heard" 6 ["_law_code_here", "_law_way", "_law_said", "_law_shown"] (spHeard42 C)) (C__law_right : Cal P w K mg base "_law_right" 6 ["_law_w", "_law_code_here", "_law_said", "_law_shown", "_law_is_named"] (spRight42 C)) : FnG P w K mg base CX0 12 f0 fd0 ["_law_script"] (SpOf K (spLaw 63)) := by
  refine fn_mk (N := N_law) d sc_law (fun ds G Q h => ?_) (fun cdv A outer s H E hg hr => ?_)
  · obtain ⟨ns, rfl, _⟩ := h
    rfl
  · have hu := hu100 hr
    have nd := sc_law.nd
    have hA := deeper_guards (env := envOfC "law" (defScope s_law) s.heap.objs.size f0 cdv) hg
    refine ⟨_, (dps_cons (dp_asg (de_cal C__law_deck hA (hr.mono (by decide)) (da_cons (de_var 0) da_nil)) (dg_name 1 nd))
  (dps_cons (dp_asg (de_cal C__law_some hA (hr.mono (by decide)) (da_cons (de_var 1) (da_cons de_int (da_cons (de_cmp (od_gt hu) (de_cal C__law_draw hA (hr.mono (by decide)) (da_cons (de_var 1) (da_cons de_int da_nil))) de_int (nomark _)) da_nil)))) (dg_name 2 nd))
  (dps_cons (dp_asg (de_tup (da_cons (de_cal C__law_code hA (hr.mono (by decide)) (da_cons (de_var 2) da_nil)) (da_cons (de_cal C__law_mute hA (hr.mono (by decide)) (da_cons (de_var 2) da_nil)) da_nil))) (dg_tup (n := 2) rfl (dgs_cons (dg_name 3 nd) (dgs_cons (dg_name 4 nd) dgs_nil))))
  (dps_cons (dp_if (dt_cmp od_notN (de_var 4) de_non (nomark _))
  (dps_cons (dp_asg (de_cal C__law_page hA (hr.mono (by decide)) (da_cons (de_var 1) (da_cons (de_ix hu (de_var 2) de_str) (da_cons (de_op od_add de_int (de_cal C__law_draw hA (hr.mono (by decide)) (da_cons (de_var 1) (da_cons de_int da_nil)))) da_nil)))) (dg_name 5 nd))
  (dps_cons (dp_asg (de_cal C__law_page hA (hr.mono (by decide)) (da_cons (de_var 1) (da_cons (de_ix hu (de_var 2) de_str) (da_cons (de_callB cd_len rfl T.f_len (by decide +kernel) (da_cons (de_var 5) da_nil)) da_nil)))) (dg_name 6 nd))
  (dps_cons (dp_setLc (i := 7) (own := [("_law_way", 8)]) (p := (.nm 8)) rfl nd rfl rfl (sw_true rfl rfl rfl (by decide +kernel)) (di_range1 rfl T.f_range (da_cons de_int da_nil)) (blkOk_by (by show blkC N_law (defScope s_law) _ _ = true; decide +kernel)) (by decide) (fun _ _ _ _ _ => pg_name (i := 8) nd rfl (Or.inl rfl)) (fun _ _ _ _ _ => dts_nil) (fun _ _ _ _ _ => (de_cal C__law_heard hA (hr.mono (by decide)) (da_cons (de_var 3) (da_cons (de_var 8) (da_cons (de_var 5) (da_cons (de_var 6) da_nil)))))))
  (dps_one (dp_ret (de_cmp (od_eq hu) (de_callB (cd_repr hu hA) rfl T.f_repr (by decide +kernel) (da_cons (de_var 7) da_nil)) (de_callB (cd_repr hu hA) rfl T.f_repr (by decide +kernel) (da_cons (de_op od_mulL (de_lst (da_cons (de_lst (da_cons de_str (da_cons (de_var 4) (da_cons de_bl da_nil)))) da_nil)) de_int) da_nil)) (nomark _)))))))
  dps_nil)
  (dps_cons (dp_for PassesOwn.never rfl (di_range1 rfl T.f_range (da_cons de_int da_nil)) (dg_name 9 nd)
  (dps_cons (dp_asg (de_cal C__law_page hA (hr.mono (by decide)) (da_cons (de_var 1) (da_cons (de_ix hu (de_var 2) de_str) (da_cons (de_ix hu (de_lst (da_cons de_int (da_cons de_int (da_cons de_int (da_cons de_int (da_cons de_int (da_cons de_int da_nil))))))) (de_cal C__law_draw hA (hr.mono (by decide)) (da_cons (de_var 1) (da_cons de_int da_nil)))) da_nil)))) (dg_name 5 nd))
  (dps_cons (dp_asg (de_cal C__law_page hA (hr.mono (by decide)) (da_cons (de_var 1) (da_cons (de_op od_add (de_ix hu (de_var 2) de_str) (de_cal C__law_pick hA (hr.mono (by decide)) (da_cons (de_var 1) (da_cons (de_lst (da_cons de_str (da_cons de_str (da_cons de_str da_nil)))) da_nil)))) (da_cons (de_callB cd_len rfl T.f_len (by decide +kernel) (da_cons (de_var 5) da_nil)) da_nil)))) (dg_name 6 nd))
  (dps_one (dp_if (dt_not (dt_val (de_cal C__law_right hA (hr.mono (by decide)) (da_cons (de_var 2) (da_cons (de_var 3) (da_cons (de_var 5) (da_cons (de_var 6) (da_cons (de_cmp (od_eq hu) (de_op od_mod (de_var 9) de_int) de_int (nomark _)) da_nil))))))))
  (dps_one (dp_ret de_bl))
  dps_nil)))))
  (dps_one (dp_ret de_bl))))))), fun ds G Q h => ?_⟩
    obtain ⟨ns, rfl, hl, rfl, q⟩ := h
    rw [show dstart N_law [.scr ns] = [some (.scr ns), none, none, none, none, none, none, none, none, none] from rfl]
    simp only [dxs, dl]
    refine ⟨ns, rfl, (fun _ _ _ _ _ z => by cases z), fun p c hp hc hcp => ?_⟩
    simp only
    have gp0 : shutG (fun _ => none) p c "cells" "stirred" "draws" 1000000 p = some (dk 1000000) := gput_same
    generalize shutG (fun _ => none) p c "cells" "stirred" "draws" 1000000 = G0 at gp0
    have ei : ∀ (G : GH) (y : Int), D.cur G (.int y) = .int y := fun _ _ => rfl
    refine ⟨p, 4, 999999, rfl, by decide, by decide, gp0, fun r0 hr0 => ⟨okL_int _ _, ?_⟩⟩
    refine ⟨p, 4, 999789, _, rfl, by decide, by decide, gput_same, fun hs ws rs m0 z hm0 rl4 wor hz => ?_⟩
    have hzp : z ≠ p := fun e => by rw [e, gput_same] at hz; cases hz
    have hpz : p ≠ z := fun e => hzp e.symm
    simp only [gput_gput]
    have v := wor.val
    have gz : ∀ m, gput (gput G0 p (dk m)) z (.dK (wK hs ws rs)) z = some (.dK (wK hs ws rs)) := fun m => gput_same
    have gp : ∀ m, gput (gput G0 p (dk m)) z (.dK (wK hs ws rs)) p = some (dk m) := fun m => by rw [gput_ne hpz, gput_same]
    have wrp : ∀ m m', gput (gput (gput G0 p (dk m)) z (.dK (wK hs ws rs))) p (dk m') = gput (gput G0 p (dk m')) z (.dK (wK hs ws rs)) := fun m m' => gput_under hpz
    have i1 : D.item (.dK (wK hs ws rs)) (.str (Str.ofString "heard")) = some (.str (strOf hs)) := rfl
    have i0 : D.item (.dK (wK hs ws rs)) (.str (Str.ofString "written")) = some (.str (strOf ws)) := rfl
    have hne : hs ≠ [] := List.length_pos_iff.mp (letters_pos v.lh)
    have wne : ws ≠ [] := List.length_pos_iff.mp (letters_pos v.lw)
    have ecz : ∀ m, D.cur (gput (gput G0 p (dk m)) z (.dK (wK hs ws rs))) (.rf z) = .dK (wK hs ws rs) := fun m => by simp only [D.cur, gz]
    have h3 := wor.hs3
    have w3 := wor.ws3
    refine ⟨z, hs, ws, rs, rfl, gz _, v, ?_⟩
    refine ⟨z, hs, ws, rs, _, rfl, gz _, wor, ?_⟩
    refine ⟨sz (by decide), trivial, ?_⟩
    have tl : ∀ r ∈ rs, ∀ m ∈ r, m.t < rs.length := fun r hr => (v.ok.at_ r hr).2
    cases hmu : muteOf rs hs with
    | some page =>
      obtain ⟨l1, l2, l3⟩ := mute_leas tl (letters_lt v.lh) v.n1 hmu
      have p32 : page.length ≤ 33 := by
        obtain ⟨q', c', eq', _, _, _, _, hl'⟩ := muteOf_some tl v.n1 hmu
        have : 2 ^ rs.length ≤ 2 ^ 4 := Nat.pow_le_pow_right (by decide) rl4
        have : 2 ^ rs.length ≤ 16 := this
        rw [eq', List.length_append, List.length_singleton]
        omega
      rw [if_pos (by rfl)]
      simp only [ecz, i1]
      obtain ⟨m1, rfl⟩ : ∃ m1, m0 = m1 + 1000 := ⟨m0 - 1000, by omega⟩
      refine ⟨p, 3, m1 + 999, rfl, by decide, by decide, gp _, fun r1 hr1 => ?_⟩
      have e1 : (1 : Int) + (r1 : Int) = ((1 + r1 : Nat) : Int) := by omega
      simp only [wrp, rAddD, ei, e1]
      obtain ⟨m2, hm2⟩ : ∃ m2, m1 + 999 = m2 + (1 + r1) := ⟨m1 + 999 - (1 + r1), by omega⟩
      refine ⟨p, hs, 1 + r1, m2, rfl, hne, by omega, by omega, by rw [gp, hm2], fun said sl sin => ?_⟩
      have lsd : (strOf said).length ≤ sizeLine := by rw [strOf_len]; exact sz (by omega)
      simp only [wrp, ecz, i0, len_str lsd, strOf_len]
      obtain ⟨m3, hm3⟩ : ∃ m3, m2 = m3 + said.length := ⟨m2 - said.length, by omega⟩
      refine ⟨p, ws, said.length, m3, rfl, wne, by omega, by omega, by rw [gp, hm3], fun shown hl2 hin2 => ?_⟩
      simp only [wrp]
      refine ⟨by decide, by decide, ?_⟩
      have e4 : (4 : Int).toNat = 4 := rfl
      rw [e4]
      refine lc_mapA (List.range 4) (fun i : Nat => .int (i : Int)) (fun _ => heard42 page) rfl (sz (by decide)) trivial (fun i hi => ⟨_, rfl, fun Q zz => ?_⟩) ?_
      · simp only [dxs, dl, dwipe, List.map_cons, List.map_nil]
        exact ⟨mkR hs ws rs, hs, page, i, _, _, rfl, v.ok, rfl, v.n1, by show rs.length ≤ 10; omega, hmu, zz⟩
      have er : (List.replicate 4 [heard42 page]).flatten = (List.range 4).map fun _ => heard42 page := rfl
      have fine : ∀ x ∈ (List.range 4).map (fun _ => heard42 page), Fine x 1 (3 * (1000 + 1)) := fun x hx => by
        obtain ⟨_, _, rfl⟩ := List.mem_map.mp hx
        refine fine_lst (n := 0) (w := 1000) fun y hy => ?_
        simp only [List.mem_cons, List.not_mem_nil, or_false] at hy
        rcases hy with rfl | rfl | rfl
        · exact fine_str (by decide) (by decide)
        · exact fine_str (fun c hc => letters_small v.lh _ (l1 c (by simpa [strOf] using hc))) (by rw [strOf_len]; omega)
        · exact fine_bl
      have epg : pageD (some page) = .str (strOf page) := rfl
      refine repr_lst fine (by decide) (by show 4 * (3 * (1000 + 1) + 1) ≤ 1000000; decide) ?_
      refine ⟨sz (by decide), sz (by decide), by decide, by decide, by simp, ?_⟩
      rw [e4, epg]
      show rReprD [.lst (List.replicate 4 [heard42 page]).flatten] _ _
      rw [er]
      refine repr_lst fine (by decide) (by show 4 * (3 * (1000 + 1) + 1) ≤ 1000000; decide) ?_
      generalize D.shown (.lst ((List.range 4).map fun _ => heard42 page)) = shn
      have eS : ∀ (G : GH) (x : Str), D.cur G (.str x) = .str x := fun _ _ => rfl
      have esh : D.eqv (.str shn) (.str shn) = true := (eqv_si rfl rfl).mpr rfl
      simp only [eS, esh]
      exact ⟨okE_si rfl rfl (Nat.zero_le _), _, Sub.refl _, q _⟩
    | none =>
      rw [if_neg (by decide)]
      refine ⟨by decide, by decide, ?_⟩
      refine ⟨fun j S' G' => ∃ (m : Nat) (x5 x6 x7 x8 x9 : Option D), S' = [some (.scr ns), some (.rf p), some (.rf z), some (rulD C (mkR hs ws rs)), some .non, x5, x6, x7, x8, x9] ∧ G' = gput (gput G0 p (dk m)) z (.dK (wK hs ws rs)) ∧ 10000 ≤ m + 100 * j,
        ⟨m0, _, _, _, _, _, rfl, rfl, by omega⟩, fun _ _ _ _ => trivial, ?_, ?_⟩
      · rintro j S' G' d ⟨m, x5, x6, x7, x8, x9, rfl, rfl, hm⟩ hd
        obtain ⟨hj', rfl⟩ := range_get hd
        have hj : j < 4 := hj'
        obtain ⟨m1, rfl⟩ : ∃ m1, m = m1 + 100 := ⟨m - 100, by omega⟩
        simp only [dxs, dl, dx3, ecz, i1]
        have it : ∀ r : Nat, r < 6 → ∃ k : Nat, k ≤ 4 ∧ (D.lst [D.int 0, .int 1, .int 2, .int 3, .int 4, .int 4]).item (.int (r : Int)) = some (.int (k : Int)) := fun r hr => by
          have : r = 0 ∨ r = 1 ∨ r = 2 ∨ r = 3 ∨ r = 4 ∨ r = 5 := by omega
          rcases this with rfl | rfl | rfl | rfl | rfl | rfl
          · exact ⟨0, by decide, by rw [item_lst]; rfl⟩
          · exact ⟨1, by decide, by rw [item_lst]; rfl⟩
          · exact ⟨2, by decide, by rw [item_lst]; rfl⟩
          · exact ⟨3, by decide, by rw [item_lst]; rfl⟩
          · exact ⟨4, by decide, by rw [item_lst]; rfl⟩
          · exact ⟨4, by decide, by rw [item_lst]; rfl⟩
        refine ⟨sz (by decide), p, 6, m1 + 99, rfl, by decide, by decide, gp _, fun r1 hr1 => ?_⟩
        obtain ⟨k, hk4, hit⟩ := it r1 hr1
        simp only [hit, wrp]
        refine ⟨p, hs, k, m1 + 99 - k, rfl, hne, by omega, by omega, ?_, fun said hsl hsin => ?_⟩
        · rw [gp]
          congr 2
          omega
        have lsd : (strOf said).length ≤ sizeLine := by rw [strOf_len]; exact sz (by omega)
        have gzz : ∀ m, (gput (gput G0 p (dk m)) z (.dK (wK hs ws rs))) z = some (.dK (wK hs ws rs)) := gz
        simp only [wrp, gzz, i0]
        obtain ⟨m2, hm2⟩ : ∃ m2, m1 + 99 - k = m2 + 1 := ⟨m1 + 99 - k - 1, by omega⟩
        rw [hm2]
        refine ⟨sz (by decide), p, m2, _, _, rfl, .inl rfl, by simp, by simp, gp _, fun x hx => ?_⟩
        obtain ⟨cs, rfl, cl⟩ := strs42 hx
        simp only [rAddD, strOf_app, len_str lsd, strOf_len, wrp]
        obtain ⟨m3, rfl⟩ : ∃ m3, m2 = m3 + said.length := ⟨m2 - said.length, by omega⟩
        refine ⟨sz (by rw [strOf_len, strOf_len]; omega), p, ws ++ cs, said.length, m3, by rw [strOf_app], by simp [wne], by rw [List.length_append]; omega, by omega, gp _, fun shown hl2 hin2 => ?_⟩
        simp only [wrp, okE_int, true_and]
        refine ⟨by decide, z, hs, ws, rs, said, shown, _, _, rfl, gz _, wor, hmu, by omega, by omega, hsin, ?_⟩
        simp only [Bool.not_true, Bool.false_eq_true, if_false]
        exact ⟨m3, _, _, _, _, _, rfl, rfl, by omega⟩
      · rintro S' G' ⟨m, x5, x6, x7, x8, x9, rfl, rfl, hm⟩
        simp only [dxs, dl]
        exact ⟨_, Sub.refl _, q _⟩
end
end Pace
end
section
set_option Elab.async false
set_option linter.all false
set_option maxRecDepth 100000
set_option maxHeartbeats 0
namespace Pace
open PySem PySem.Spec PyProof.Rows L2 DL
theorem htxt {K : PySem.W.Frag} {h : Heap} {mg : Str → Option Value} (X : K.In h) (G : h.Ns mainGlobals mg) (c : He.SaysD hfa hfn K) (cx : hex K = true) : Txt K mg (He.ga K "Rules") where
  f_Exception := He.free_ok X G (c.fact 47 (f := .free "Exception") rfl)
  f_classmethod := He.free_ok X G (c.fact 48 (f := .free "classmethod") rfl)
  f_tuple := He.free_ok X G (c.fact 49 (f := .free "tuple") rfl)
  f_min := He.free_ok X G (c.fact 50 (f := .free "min") rfl)
  f_enumerate := He.free_ok X G (c.fact 51 (f := .free "enumerate") rfl)
  f_zip := He.free_ok X G (c.fact 52 (f := .free "zip") rfl)
  f_all := He.free_ok X G (c.fact 53 (f := .free "all") rfl)
  f_dict := He.free_ok X G (c.fact 54 (f := .free "dict") rfl)
  f_range := He.free_ok X G (c.fact 55 (f := .free "range") rfl)
  f_sorted := He.free_ok X G (c.fact 56 (f := .free "sorted") rfl)
  f_len := He.free_ok X G (c.fact 57 (f := .free "len") rfl)
  f_isinstance := He.free_ok X G (c.fact 58 (f := .free "isinstance") rfl)
  f_str := He.free_ok X G (c.fact 59 (f := .free "str") rfl)
  f_int := He.free_ok X G (c.fact 60 (f := .free "int") rfl)
  f_list := He.free_ok X G (c.fact 61 (f := .free "list") rfl)
  f_repr := He.free_ok X G (c.fact 62 (f := .free "repr") rfl)
  f_bool := He.free_ok X G (c.fact 63 (f := .free "bool") rfl)
  f_set := He.free_ok X G (c.fact 64 (f := .free "set") rfl)
  f_super := He.free_ok X G (c.fact 65 (f := .free "super") rfl)
  c_NEED := He.str_ok X G (c.fact 66 (f := .str "NEED" "need") rfl)
  c_RULES_WORD := He.str_ok X G (c.fact 67 (f := .str "RULES_WORD" "rules") rfl)
  c_MOVE_WORD := He.str_ok X G (c.fact 68 (f := .str "MOVE_WORD" "move") rfl)
  c_BREAK := He.str_ok X G (c.fact 69 (f := .str "BREAK" "\n") rfl)
  c_BLANK := He.str_ok X G (c.fact 70 (f := .str "BLANK" " ") rfl)
  c_DIGITS := He.str_ok X G (c.fact 71 (f := .str "DIGITS" "0123456789") rfl)
  c_MOST_DIGITS := He.int_ok X G (c.fact 72 (f := .int "MOST_DIGITS" (3)) rfl)
  c_FIRST_PARTS := He.int_ok X G (c.fact 73 (f := .int "FIRST_PARTS" (4)) rfl)
  c_MOVE_PARTS_ruletexts := He.int_ok X G (c.fact 74 (f := .int "MOVE_PARTS_ruletexts" (5)) rfl)
  c_LETTERS := He.str_ok X G (c.fact 75 (f := .str "LETTERS" "abcdefghijklmnopqrstuvwxyz") rfl)
  c_MOST_STATES := He.int_ok X G (c.fact 76 (f := .int "MOST_STATES" (999)) rfl)
  c_MOVE_PARTS_rules := He.int_ok X G (c.fact 77 (f := .int "MOVE_PARTS_rules" (3)) rfl)
  c_NOWHERE := He.int_ok X G (c.fact 78 (f := .int "NOWHERE" (-1)) rfl)
  clR := He.cls_ok (c.fact 80 (f := .cls "Rules") rfl)
  mgR := He.glo_ok X G (c.fact 79 (f := .glo "Rules") rfl)
  insR := insB_ok (He.cls_ok (c.fact 80 (f := .cls "Rules") rfl)) (Bool.and_eq_true_iff.mp (Bool.and_eq_true_iff.mp cx).1).1
  neR := neB_ok (Bool.and_eq_true_iff.mp (Bool.and_eq_true_iff.mp cx).1).2
  sysM := sysB_ok (Bool.and_eq_true_iff.mp (Bool.and_eq_true_iff.mp cx).2).1
  no_heard := He.noat_ok (c.fact 82 (f := .noat "Rules" "heard") rfl)
  no_written := He.noat_ok (c.fact 83 (f := .noat "Rules" "written") rfl)
  no_rows := He.noat_ok (c.fact 84 (f := .noat "Rules" "rows") rfl)
  no_steps := He.noat_ok (c.fact 85 (f := .noat "Rules" "steps") rfl)
theorem hd_less {K : PySem.W.Frag} {h : Heap} {mg : Str → Option Value} (X : K.In h) (G : h.Ns mainGlobals mg) (c : He.SaysD hfa hfn K) : Def K mg "less" s_less := by
  obtain ⟨fd, F⟩ := c.def_ 4 (d := d_less) rfl
  exact ⟨_, fd, He5.fun_of F, He.glo_ok X G (c.fact 4 (f := .glo "less") rfl)⟩
theorem hd_first_row {K : PySem.W.Frag} {h : Heap} {mg : Str → Option Value} (X : K.In h) (G : h.Ns mainGlobals mg) (c : He.SaysD hfa hfn K) : Def K mg "first_row" s_first_row := by
  obtain ⟨fd, F⟩ := c.def_ 5 (d := d_first_row) rfl
  exact ⟨_, fd, He5.fun_of F, He.glo_ok X G (c.fact 5 (f := .glo "first_row") rfl)⟩
theorem hd_least_of {K : PySem.W.Frag} {h : Heap} {mg : Str → Option Value} (X : K.In h) (G : h.Ns mainGlobals mg) (c : He.SaysD hfa hfn K) : Def K mg "least_of" s_least_of := by
  obtain ⟨fd, F⟩ := c.def_ 10 (d := d_least_of) rfl
  exact ⟨_, fd, He5.fun_of F, He.glo_ok X G (c.fact 10 (f := .glo "least_of") rfl)⟩
theorem hd_row_behind {K : PySem.W.Frag} {h : Heap} {mg : Str → Option Value} (X : K.In h) (G : h.Ns mainGlobals mg) (c : He.SaysD hfa hfn K) : Def K mg "row_behind" s_row_behind := by
  obtain ⟨fd, F⟩ := c.def_ 6 (d := d_row_behind) rfl
  exact ⟨_, fd, He5.fun_of F, He.glo_ok X G (c.fact 6 (f := .glo "row_behind") rfl)⟩
theorem hd_rows_along {K : PySem.W.Frag} {h : Heap} {mg : Str → Option Value} (X : K.In h) (G : h.Ns mainGlobals mg) (c : He.SaysD hfa hfn K) : Def K mg "rows_along" s_rows_along := by
  obtain ⟨fd, F⟩ := c.def_ 7 (d := d_rows_along) rfl
  exact ⟨_, fd, He5.fun_of F, He.glo_ok X G (c.fact 7 (f := .glo "rows_along") rfl)⟩
theorem hd_are_letters {K : PySem.W.Frag} {h : Heap} {mg : Str → Option Value} (X : K.In h) (G : h.Ns mainGlobals mg) (c : He.SaysD hfa hfn K) : Def K mg "are_letters" s_are_letters := by
  obtain ⟨fd, F⟩ := c.def_ 16 (d := d_are_letters) rfl
  exact ⟨_, fd, He5.fun_of F, He.glo_ok X G (c.fact 16 (f := .glo "are_letters") rfl)⟩
theorem hd_is_integer {K : PySem.W.Frag} {h : Heap} {mg : Str → Option Value} (X : K.In h) (G : h.Ns mainGlobals mg) (c : He.SaysD hfa hfn K) : Def K mg "is_integer" s_is_integer := by
  obtain ⟨fd, F⟩ := c.def_ 22 (d := d_is_integer) rfl
  exact ⟨_, fd, He5.fun_of F, He.glo_ok X G (c.fact 22 (f := .glo "is_integer") rfl)⟩
theorem hd_is_letter_of {K : PySem.W.Frag} {h : Heap} {mg : Str → Option Value} (X : K.In h) (G : h.Ns mainGlobals mg) (c : He.SaysD hfa hfn K) : Def K mg "is_letter_of" s_is_letter_of := by
  obtain ⟨fd, F⟩ := c.def_ 23 (d := d_is_letter_of) rfl
  exact ⟨_, fd, He5.fun_of F, He.glo_ok X G (c.fact 23 (f := .glo "is_letter_of") rfl)⟩
theorem hd_is_move {K : PySem.W.Frag} {h : Heap} {mg : Str → Option Value} (X : K.In h) (G : h.Ns mainGlobals mg) (c : He.SaysD hfa hfn K) : Def K mg "is_move" s_is_move := by
  obtain ⟨fd, F⟩ := c.def_ 24 (d := d_is_move) rfl
  exact ⟨_, fd, He5.fun_of F, He.glo_ok X G (c.fact 24 (f := .glo "is_move") rfl)⟩
theorem hd_is_row {K : PySem.W.Frag} {h : Heap} {mg : Str → Option Value} (X : K.In h) (G : h.Ns mainGlobals mg) (c : He.SaysD hfa hfn K) : Def K mg "is_row" s_is_row := by
  obtain ⟨fd, F⟩ := c.def_ 25 (d := d_is_row) rfl
  exact ⟨_, fd, He5.fun_of F, He.glo_ok X G (c.fact 25 (f := .glo "is_row") rfl)⟩
theorem hd_steps_of {K : PySem.W.Frag} {h : Heap} {mg : Str → Option Value} (X : K.In h) (G : h.Ns mainGlobals mg) (c : He.SaysD hfa hfn K) : Def K mg "steps_of" s_steps_of := by
  obtain ⟨fd, F⟩ := c.def_ 26 (d := d_steps_of) rfl
  exact ⟨_, fd, He5.fun_of F, He.glo_ok X G (c.fact 26 (f := .glo "steps_of") rfl)⟩
theorem hd_Rules_u__init_u_ {K : PySem.W.Frag} (c : He.SaysD hfa hfn K) : DefI K (He.ga K "Rules") "Rules.__init__" s_Rules_u__init_u_ := by
  obtain ⟨fd, F⟩ := c.def_ 47 (d := d_RI) rfl
  exact ⟨_, fd, He5.fun_of F, He.mkr_ok (c.fact 81 (f := .mkr "Rules") rfl)⟩
theorem hd__law_draw {K : PySem.W.Frag} {h : Heap} {mg : Str → Option Value} (X : K.In h) (G : h.Ns mainGlobals mg) (c : He.SaysD hfa hfn K) : Def K mg "_law_draw" s__law_draw := by
  obtain ⟨fd, F⟩ := c.def_ 35 (d := d__law_draw) rfl
  exact ⟨_, fd, He5.fun_of F, He.glo_ok X G (c.fact 35 (f := .glo "_law_draw") rfl)⟩
theorem hd__law_pick {K : PySem.W.Frag} {h : Heap} {mg : Str → Option Value} (X : K.In h) (G : h.Ns mainGlobals mg) (c : He.SaysD hfa hfn K) : Def K mg "_law_pick" s__law_pick := by
  obtain ⟨fd, F⟩ := c.def_ 36 (d := d__law_pick) rfl
  exact ⟨_, fd, He5.fun_of F, He.glo_ok X G (c.fact 36 (f := .glo "_law_pick") rfl)⟩
theorem hd__law_deck {K : PySem.W.Frag} {h : Heap} {mg : Str → Option Value} (X : K.In h) (G : h.Ns mainGlobals mg) (c : He.SaysD hfa hfn K) : Def K mg "_law_deck" s__law_deck := by
  obtain ⟨fd, F⟩ := c.def_ 34 (d := d__law_deck) rfl
  exact ⟨_, fd, He5.fun_of F, He.glo_ok X G (c.fact 34 (f := .glo "_law_deck") rfl)⟩
theorem hd_states_behind {K : PySem.W.Frag} {h : Heap} {mg : Str → Option Value} (X : K.In h) (G : h.Ns mainGlobals mg) (c : He.SaysD hfa hfn K) : Def K mg "states_behind" s_states_behind := by
  obtain ⟨fd, F⟩ := c.def_ 1 (d := d_states_behind) rfl
  exact ⟨_, fd, He5.fun_of F, He.glo_ok X G (c.fact 1 (f := .glo "states_behind") rfl)⟩
theorem hd_mute {K : PySem.W.Frag} {h : Heap} {mg : Str → Option Value} (X : K.In h) (G : h.Ns mainGlobals mg) (c : He.SaysD hfa hfn K) : Def K mg "mute" s_mute := by
  obtain ⟨fd, F⟩ := c.def_ 2 (d := d_mute) rfl
  exact ⟨_, fd, He5.fun_of F, He.glo_ok X G (c.fact 2 (f := .glo "mute") rfl)⟩
theorem hd_check_full {K : PySem.W.Frag} {h : Heap} {mg : Str → Option Value} (X : K.In h) (G : h.Ns mainGlobals mg) (c : He.SaysD hfa hfn K) : Def K mg "check_full" s_check_full := by
  obtain ⟨fd, F⟩ := c.def_ 3 (d := d_check_full) rfl
  exact ⟨_, fd, He5.fun_of F, He.glo_ok X G (c.fact 3 (f := .glo "check_full") rfl)⟩
theorem hd__law_world {K : PySem.W.Frag} {h : Heap} {mg : Str → Option Value} (X : K.In h) (G : h.Ns mainGlobals mg) (c : He.SaysD hfa hfn K) : Def K mg "_law_world" s__law_world := by
  obtain ⟨fd, F⟩ := c.def_ 37 (d := d__law_world) rfl
  exact ⟨_, fd, He5.fun_of F, He.glo_ok X G (c.fact 37 (f := .glo "_law_world") rfl)⟩
theorem hd__law_some {K : PySem.W.Frag} {h : Heap} {mg : Str → Option Value} (X : K.In h) (G : h.Ns mainGlobals mg) (c : He.SaysD hfa hfn K) : Def K mg "_law_some" s__law_some := by
  obtain ⟨fd, F⟩ := c.def_ 39 (d := d__law_some) rfl
  exact ⟨_, fd, He5.fun_of F, He.glo_ok X G (c.fact 39 (f := .glo "_law_some") rfl)⟩
theorem hd__law_code {K : PySem.W.Frag} {h : Heap} {mg : Str → Option Value} (X : K.In h) (G : h.Ns mainGlobals mg) (c : He.SaysD hfa hfn K) : Def K mg "_law_code" s__law_code := by
  obtain ⟨fd, F⟩ := c.def_ 38 (d := d__law_code) rfl
  exact ⟨_, fd, He5.fun_of F, He.glo_ok X G (c.fact 38 (f := .glo "_law_code") rfl)⟩
theorem hd_rest_ahead {K : PySem.W.Frag} {h : Heap} {mg : Str → Option Value} (X : K.In h) (G : h.Ns mainGlobals mg) (c : He.SaysD hfa hfn K) : Def K mg "rest_ahead" s_rest_ahead := by
  obtain ⟨fd, F⟩ := c.def_ 8 (d := d_rest_ahead) rfl
  exact ⟨_, fd, He5.fun_of F, He.glo_ok X G (c.fact 8 (f := .glo "rest_ahead") rfl)⟩
theorem hd_rests_along {K : PySem.W.Frag} {h : Heap} {mg : Str → Option Value} (X : K.In h) (G : h.Ns mainGlobals mg) (c : He.SaysD hfa hfn K) : Def K mg "rests_along" s_rests_along := by
  obtain ⟨fd, F⟩ := c.def_ 9 (d := d_rests_along) rfl
  exact ⟨_, fd, He5.fun_of F, He.glo_ok X G (c.fact 9 (f := .glo "rests_along") rfl)⟩
theorem hd_need {K : PySem.W.Frag} {h : Heap} {mg : Str → Option Value} (X : K.In h) (G : h.Ns mainGlobals mg) (c : He.SaysD hfa hfn K) : Def K mg "need" s_need := by
  obtain ⟨fd, F⟩ := c.def_ 11 (d := d_need) rfl
  exact ⟨_, fd, He5.fun_of F, He.glo_ok X G (c.fact 11 (f := .glo "need") rfl)⟩
theorem hd_mended_by {K : PySem.W.Frag} {h : Heap} {mg : Str → Option Value} (X : K.In h) (G : h.Ns mainGlobals mg) (c : He.SaysD hfa hfn K) : Def K mg "mended_by" s_mended_by := by
  obtain ⟨fd, F⟩ := c.def_ 12 (d := d_mended_by) rfl
  exact ⟨_, fd, He5.fun_of F, He.glo_ok X G (c.fact 12 (f := .glo "mended_by") rfl)⟩
theorem hd_mended {K : PySem.W.Frag} {h : Heap} {mg : Str → Option Value} (X : K.In h) (G : h.Ns mainGlobals mg) (c : He.SaysD hfa hfn K) : Def K mg "mended" s_mended := by
  obtain ⟨fd, F⟩ := c.def_ 13 (d := d_mended) rfl
  exact ⟨_, fd, He5.fun_of F, He.glo_ok X G (c.fact 13 (f := .glo "mended") rfl)⟩
theorem hd_fewest_signs {K : PySem.W.Frag} {h : Heap} {mg : Str → Option Value} (X : K.In h) (G : h.Ns mainGlobals mg) (c : He.SaysD hfa hfn K) : Def K mg "fewest_signs" s_fewest_signs := by
  obtain ⟨fd, F⟩ := c.def_ 14 (d := d_fewest_signs) rfl
  exact ⟨_, fd, He5.fun_of F, He.glo_ok X G (c.fact 14 (f := .glo "fewest_signs") rfl)⟩
theorem hd_judge_need {K : PySem.W.Frag} {h : Heap} {mg : Str → Option Value} (X : K.In h) (G : h.Ns mainGlobals mg) (c : He.SaysD hfa hfn K) : Def K mg "judge_need" s_judge_need := by
  obtain ⟨fd, F⟩ := c.def_ 15 (d := d_judge_need) rfl
  exact ⟨_, fd, He5.fun_of F, He.glo_ok X G (c.fact 15 (f := .glo "judge_need") rfl)⟩
theorem hd__law_heard {K : PySem.W.Frag} {h : Heap} {mg : Str → Option Value} (X : K.In h) (G : h.Ns mainGlobals mg) (c : He.SaysD hfa hfn K) : Def K mg "_law_heard" s__law_heard := by
  obtain ⟨fd, F⟩ := c.def_ 44 (d := d__law_heard) rfl
  exact ⟨_, fd, He5.fun_of F, He.glo_ok X G (c.fact 44 (f := .glo "_law_heard") rfl)⟩
theorem hd__law_page {K : PySem.W.Frag} {h : Heap} {mg : Str → Option Value} (X : K.In h) (G : h.Ns mainGlobals mg) (c : He.SaysD hfa hfn K) : Def K mg "_law_page" s__law_page := by
  obtain ⟨fd, F⟩ := c.def_ 41 (d := d__law_page) rfl
  exact ⟨_, fd, He5.fun_of F, He.glo_ok X G (c.fact 41 (f := .glo "_law_page") rfl)⟩
theorem hd__law_captions {K : PySem.W.Frag} {h : Heap} {mg : Str → Option Value} (X : K.In h) (G : h.Ns mainGlobals mg) (c : He.SaysD hfa hfn K) : Def K mg "_law_captions" s__law_captions := by
  obtain ⟨fd, F⟩ := c.def_ 42 (d := d__law_captions) rfl
  exact ⟨_, fd, He5.fun_of F, He.glo_ok X G (c.fact 42 (f := .glo "_law_captions") rfl)⟩
theorem hd__law_apart {K : PySem.W.Frag} {h : Heap} {mg : Str → Option Value} (X : K.In h) (G : h.Ns mainGlobals mg) (c : He.SaysD hfa hfn K) : Def K mg "_law_apart" s__law_apart := by
  obtain ⟨fd, F⟩ := c.def_ 43 (d := d__law_apart) rfl
  exact ⟨_, fd, He5.fun_of F, He.glo_ok X G (c.fact 43 (f := .glo "_law_apart") rfl)⟩
theorem hd__law_mute {K : PySem.W.Frag} {h : Heap} {mg : Str → Option Value} (X : K.In h) (G : h.Ns mainGlobals mg) (c : He.SaysD hfa hfn K) : Def K mg "_law_mute" s__law_mute := by
  obtain ⟨fd, F⟩ := c.def_ 40 (d := d__law_mute) rfl
  exact ⟨_, fd, He5.fun_of F, He.glo_ok X G (c.fact 40 (f := .glo "_law_mute") rfl)⟩
theorem hd__law_right {K : PySem.W.Frag} {h : Heap} {mg : Str → Option Value} (X : K.In h) (G : h.Ns mainGlobals mg) (c : He.SaysD hfa hfn K) : Def K mg "_law_right" s__law_right := by
  obtain ⟨fd, F⟩ := c.def_ 45 (d := d__law_right) rfl
  exact ⟨_, fd, He5.fun_of F, He.glo_ok X G (c.fact 45 (f := .glo "_law_right") rfl)⟩
theorem hfacts {P : Program} {w : World} {K : PySem.W.Frag} {h : Heap} {mg : Str → Option Value} {f : Addr} (X : K.In h) (G : h.Ns mainGlobals mg) (hfa0 : mg ("law" : Str) = some (.ref f)) (c : He.SaysD hfa hfn K) (cx : hex K = true) (cy : (hys.map fun p => fnXo K (p.1 K)) = hys.map Prod.snd) (hP : P.main.file = hfl) (hT : (P.main.scope.names.lookup ("super" : Str)).isSome = false) :
    ∃ fd : FuncData, (∀ (s : Shared) (v : Value), BindsTo s fd ⟨[v], []⟩ [("_law_script", v)]) ∧ ∀ base : Heap, K.In base → base.Ns mainGlobals mg → FnG P w K mg base CX0 12 f fd ["_law_script"] (SpOf K (spLaw 63)) := by
  obtain ⟨fd, F⟩ := c.def_ 46 (d := d_law) rfl
  have e := hfa0.symm.trans (He.glo_ok X G (c.fact 46 (f := .glo "law") rfl))
  cases e
  have b := FunD.bindsA (ps := ["_law_script"]) F fun _ _ _ _ _ _ us hl => match us, hl with | [_], _ => rfl
  have T := htxt X G c cx
  refine ⟨fd, fun s v => b s [v] rfl, fun base _ _ => ?_⟩
  have hee := (Bool.and_eq_true_iff.mp (Bool.and_eq_true_iff.mp cx).2).2
  simp only [Bool.and_eq_true] at hee
  obtain ⟨hb_Mute, hi_Mute, ha_Mute, hf_Mute⟩ := hee
  have Er : ErT P K mg := { mg_CaptionError := He.glo_ok X G (c.fact 86 (f := .glo "CaptionError") rfl), e_Mute := ⟨by
      obtain ⟨cc, cda, kV, doc, pm, ct, an, z⟩ := err_ok (d := dE_Mute) hb_Mute (ysX cy 0 (p := ((fun K => eI K "Mute"), dE_Mute.val)) rfl)
      exact ⟨_, cc, cda, kV, doc, pm, ct, an, hP ▸ z⟩, He.glo_ok X G (c.fact 87 (f := .glo "Mute") rfl), T.f_super, hT⟩, i_Mute := isEB_ok hi_Mute, a_Mute := xattB_ok ha_Mute, f_Mute := xfB_ok hf_Mute }
  have q_less := c_less (P := P) (w := w) (base := base) T (hd_less X G c)
  have q_first_row := c_first_row (P := P) (w := w) (base := base) T (hd_first_row X G c)
  have q_least_of := c_least_of (P := P) (w := w) (base := base) T (hd_least_of X G c)
  have q_row_behind := c_row_behind (P := P) (w := w) (base := base) T (hd_row_behind X G c) q_less
  have q_rows_along := c_rows_along (P := P) (w := w) (base := base) T (hd_rows_along X G c) q_first_row q_row_behind
  have q_are_letters := c_are_letters (P := P) (w := w) (base := base) T (hd_are_letters X G c)
  have q_is_integer := c_is_integer (P := P) (w := w) (base := base) T (hd_is_integer X G c)
  have q_is_letter_of := c_is_letter_of (P := P) (w := w) (base := base) T (hd_is_letter_of X G c)
  have q_is_move := c_is_move (P := P) (w := w) (base := base) T (hd_is_move X G c) q_is_letter_of q_is_integer
  have q_is_row := c_is_row (P := P) (w := w) (base := base) T (hd_is_row X G c) q_is_move
  have q_steps_of := c_steps_of (P := P) (w := w) (base := base) T (hd_steps_of X G c)
  have q_Rules_u__init_u_ := c_Rules_u__init_u_ (P := P) (w := w) (base := base) T (hd_Rules_u__init_u_ c) q_are_letters q_is_row q_steps_of
  have q__law_draw := c__law_draw (P := P) (w := w) (base := base) T (hd__law_draw X G c)
  have q__law_pick := c__law_pick (P := P) (w := w) (base := base) T (hd__law_pick X G c) q__law_draw
  have q__law_deck := c__law_deck (P := P) (w := w) (base := base) T (hd__law_deck X G c)
  have q_states_behind := c_states_behind (P := P) (w := w) (base := base) T (hd_states_behind X G c)
  have q_mute := c_mute (P := P) (w := w) (base := base) T (hd_mute X G c) q_states_behind
  have q_check_full := c_check_full (P := P) (w := w) (base := base) T (hd_check_full X G c) q_mute
  have q__law_world := c__law_world (P := P) (w := w) (base := base) T (hd__law_world X G c) q__law_pick q__law_draw
  have q__law_some := c__law_some (P := P) (w := w) (base := base) T (hd__law_some X G c) q__law_pick q__law_draw q__law_world
  have q__law_code := c__law_code (P := P) (w := w) (base := base) T (hd__law_code X G c) q_Rules_u__init_u_
  have q_rest_ahead := c_rest_ahead (P := P) (w := w) (base := base) T (hd_rest_ahead X G c) q_less
  have q_rests_along := c_rests_along (P := P) (w := w) (base := base) T (hd_rests_along X G c) q_rest_ahead
  have q_need := c_need (P := P) (w := w) (base := base) T (hd_need X G c) q_check_full q_rows_along q_least_of
  have q_mended_by := c_mended_by (P := P) (w := w) (base := base) T (hd_mended_by X G c) q_rests_along
  have q_mended := c_mended (P := P) (w := w) (base := base) T (hd_mended X G c) q_check_full q_mended_by
  have q_fewest_signs := c_fewest_signs (P := P) (w := w) (base := base) T (hd_fewest_signs X G c) q_check_full q_rows_along q_rests_along
  have qx_check_full := x_check_full (P := P) (w := w) (base := base) T (hd_check_full X G c) Er q_mute
  have qx_need := x_need (P := P) (w := w) (base := base) T (hd_need X G c) Er qx_check_full
  have qx_mended := x_mended (P := P) (w := w) (base := base) T (hd_mended X G c) Er qx_check_full
  have qx_fewest_signs := x_fewest_signs (P := P) (w := w) (base := base) T (hd_fewest_signs X G c) Er qx_check_full
  have qx_judge_need := x_judge_need (P := P) (w := w) (base := base) T (hd_judge_need X G c) Er qx_check_full
  have q__law_heard := c__law_heard (P := P) (w := w) (base := base) T (hd__law_heard X G c) Er qx_need qx_mended qx_fewest_signs qx_judge_need
  have q__law_page := c__law_page (P := P) (w := w) (base := base) T (hd__law_page X G c) q__law_pick
  have q__law_captions := c__law_captions (P := P) (w := w) (base := base) T (hd__law_captions X G c)
  have q__law_apart := c__law_apart (P := P) (w := w) (base := base) T (hd__law_apart X G c)
  have q__law_mute := c__law_mute (P := P) (w := w) (base := base) T (hd__law_mute X G c)
  have q__law_right := c__law_right (P := P) (w := w) (base := base) T (hd__law_right X G c) q__law_captions q__law_apart q_need.2 q_need.1 q_mended.2 q_mended.1 q_fewest_signs.2 q_fewest_signs.1
  exact c_law (P := P) (w := w) (base := base) T (He5.fun_of F) q__law_deck q__law_some q__law_draw q__law_code q__law_mute q__law_page q__law_pick q__law_heard q__law_right
end Pace
open PySem PySem.W PySem.Calls PyProof.Rows
theorem PySem.Challenge.cw_pacehouse_k42_needs_beside_all_captions_holds : PySem.Challenge.rw_pacehouse_k42_needs_beside_all_captions.Holds := by
  w_on; o_law
  refine HandSHeadRun.head_any (r := OpenLaw.row PySem.Challenge.rw_pacehouse_k42_needs_beside_all_captions) (q := view (OpenLaw.row PySem.Challenge.rw_pacehouse_k42_needs_beside_all_captions).prog [72]) (H := Pace.hhk) (ob := Pace.hob) (M := 20000) (loose := Pace.hnm) (d := HandSHeadRun.topDef (OpenLaw.row PySem.Challenge.rw_pacehouse_k42_needs_beside_all_captions).prog 72) (kwd := []) Pace.hob_eq
    (by kernel_rfl) (fun s => by kernel_rfl) Pace.hrun (by kernel_rfl) (by kernel_rfl) (by kernel_rfl) (by rfl) (by first | assumption | decide +kernel) (by decide +kernel) ⟨rfl, rfl, rfl, rfl, rfl, by decide +kernel⟩ ?hw ?hc
  case hw => w_witness2
  case hc =>
    refine DL.walk_G (l := PySem.Challenge.rw_pacehouse_k42_needs_beside_all_captions) (n := 63) (k := 12) (x := "_law_script") rfl (by decide) (by kernel_rfl) ⟨rfl, by decide, by decide⟩ ?F
    intro w mg fa h Y G hmg0
    obtain ⟨K, KX, c, cx, cy⟩ := Y
    have hmg : mg ("law" : PySem.Str) = some (.ref fa) := by
      have e : (HandSHeadRun.topDef (OpenLaw.row PySem.Challenge.rw_pacehouse_k42_needs_beside_all_captions).prog 72).name = ("law" : PySem.Str) := by kernel_rfl
      rw [← e]
      exact hmg0
    obtain ⟨fd, hb, hF⟩ := Pace.hfacts (P := (PySem.Challenge.rw_pacehouse_k42_needs_beside_all_captions).prog) (w := w) KX G hmg c cx cy rfl (by kernel_rfl)
    exact ⟨K, fd, KX, hb, hF⟩
end
