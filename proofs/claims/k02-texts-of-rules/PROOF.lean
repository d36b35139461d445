import PyProof.Rows.All
import Wide.All
import OpenK.AllK
import Wide.FinOn
import KE.KStateDown
import Lean
import HandS.ForMost
import HandS.ForExc
import KE.KDictKeyed
import KE.DataCmp
import KE.DataEq
import KE.DataFind
import KE.DataIsa
import KE.SortData
import HandS.TupAny
import HandS.TupLen
import HandS.Conv
import HandS.IsInst
import HandS.Text
import HandS.Sort
import HandS.More
import HandS.Zip
import HandS.Style
import KE.GoesEnum
import KE.GoesZip
import KE.GoesMore
import KE.KDictDisplayH
import PyProof.ReprRoads
import HandS.SetFor
import HandS.Strs
import HandS.Set
import KE.KDictPairs
import KE.DatumOrd
import HandS.ListItems
import HandS.Codes
import HandS.HeadHook1
import HandS.HeadHook2
import KE.KDictZip
import PyProof.Rows.StrRev
import PyProof.InstSpecial
import PyProof.AutoSeq1
import PyProof.NeKinds
import HandS.FStr
import HandS.TupMul
import HandS.RaiseMore
import KE.KCallOwn
import HandS.ClsMeth
import KE.GoesEnumKw
import HandS.Replace
import PySem.Challenge.RW_pacehouse_k02_texts_of_rules
import HandS.HeadEnd
import HandS.Head0
import HandS.Head1
import HandS.Head2
import HandS.HeadNt
import HandS.Base
import HandS.Call
import HandS.Ends
import HandS.Words
import HandS.WordsExc
import HandS.Defaults
section
set_option Elab.async false
set_option linter.all false
set_option maxRecDepth 100000
set_option maxHeartbeats 4000000
/-! DL1: a layer of data over the hand layer. Frozen things are trees (D); things that change stand in G by their address. -/
namespace DL
open PySem PySem.Spec PyProof.Rows L2

inductive D where
  | non | bl (b : Bool) | int (i : Int) | str (x : Str) | ty (n : String)
  | tup (xs : List D) | lst (xs : List D)
  | dK (kvs : List (Key × D)) | dT (kvs : List (List Key × D))
  | obj (C : Addr) (fs : List (Str × D))
  | rf (a : Addr)
  | scr (ns : List Int)

def Ex (F F' : Hp) : Prop := ∀ a o, F a = some o → F' a = some o
theorem Ex.refl (F : Hp) : Ex F F := fun _ _ h => h
theorem Ex.trans {F F1 F2 : Hp} (a : Ex F F1) (b : Ex F1 F2) : Ex F F2 := fun x o h => b x o (a x o h)
theorem Ex.new {F : Hp} {p : Addr} {o : HO} (h : F p = none) : Ex F (upd F p o) := fun a u e => by
  by_cases q : a = p
  · subst q; rw [h] at e; cases e
  · rw [upd_ne q]; exact e
theorem Ex.nope {F H : Hp} (e : Ex F H) {p : Addr} (h : H p = none) : F p = none := by
  cases q : F p with
  | none => rfl
  | some o => rw [e p o q] at h; cases h
theorem Ex.upds {F H : Hp} (e : Ex F H) {p : Addr} (o : HO) : Ex (upd F p o) (upd H p o) := fun a u h => by
  by_cases q : a = p
  · subst q; rw [upd_same] at h ⊢; exact h
  · rw [upd_ne q] at h ⊢; exact e a u h
theorem Ex.updR {F H : Hp} (e : Ex F H) {p : Addr} {o : HO} (h : F p = none) : Ex F (upd H p o) := fun a u z => by
  by_cases q : a = p
  · subst q; rw [h] at z; cases z
  · rw [upd_ne q]; exact e a u z
theorem Ex.rd {F F' : Hp} {a : Addr} {u : HO} (e : Ex F F') (h : Rd F a u) : Rd F' a u := by
  rcases h with h | ⟨o, h⟩
  · exact .inl (e _ _ h)
  · exact .inr ⟨o, e _ _ h⟩
theorem Ex.sql {K : PySem.W.Frag} {F F' : Hp} {a : Addr} {xs : List V} (e : Ex F F') (h : SqL K F a xs) : SqL K F' a xs := by
  rcases h with h | h
  · exact .inl (e.rd h)
  · exact .inr h
theorem Ex.sqt {K : PySem.W.Frag} {F F' : Hp} {a : Addr} {xs : List V} (e : Ex F F') (h : SqT K F a xs) : SqT K F' a xs := by
  rcases h with h | h
  · exact .inl (e.rd h)
  · exact .inr h

mutual
inductive Rep (K : PySem.W.Frag) (F : Hp) : V → D → Prop
  | non : Rep K F .non .non
  | bl (b : Bool) : Rep K F (.bl b) (.bl b)
  | int (i : Int) : Rep K F (.int i) (.int i)
  | str (x : Str) : Rep K F (.str x) (.str x)
  | ty (n : String) : Rep K F (.ty n) (.ty n)
  | tup {a : Addr} {vs : List V} {ds : List D} : F a = some (.tup vs) → Reps K F vs ds → Rep K F (.ref a) (.tup ds)
  | lst {a : Addr} {vs : List V} {ds : List D} : F a = some (.lst vs) → Reps K F vs ds → Rep K F (.ref a) (.lst ds)
  | dK {a : Addr} {kvs : List (Key × V)} {kds : List (Key × D)} : F a = some (.dK kvs) → kvs.map (·.1) = kds.map (·.1) → Reps K F (kvs.map (·.2)) (kds.map (·.2)) → Rep K F (.ref a) (.dK kds)
  | dT {a : Addr} {kvs : List (List Key × V)} {kds : List (List Key × D)} : F a = some (.dT kvs) → kvs.map (·.1) = kds.map (·.1) → Reps K F (kvs.map (·.2)) (kds.map (·.2)) → Rep K F (.ref a) (.dT kds)
  | obj {a C dx : Addr} {kvs : List (Str × V)} {kds : List (Str × D)} : F a = some (.ins C dx kvs) → kvs.map (·.1) = kds.map (·.1) → Reps K F (kvs.map (·.2)) (kds.map (·.2)) → Rep K F (.ref a) (.obj C kds)
  | rf (a : Addr) : Rep K F (.ref a) (.rf a)
  | scr {a : Addr} {ns : List Int} : SqL K F a (ns.map V.int) → Rep K F (.ref a) (.scr ns)
inductive Reps (K : PySem.W.Frag) (F : Hp) : List V → List D → Prop
  | nil : Reps K F [] []
  | cons {v : V} {vs : List V} {d : D} {ds : List D} : Rep K F v d → Reps K F vs ds → Reps K F (v :: vs) (d :: ds)
end
mutual
theorem Rep.mono {K : PySem.W.Frag} {F F' : Hp} (e : Ex F F') : ∀ {v : V} {d : D}, Rep K F v d → Rep K F' v d
  | _, _, .non => .non
  | _, _, .bl b => .bl b
  | _, _, .int i => .int i
  | _, _, .str x => .str x
  | _, _, .ty n => .ty n
  | _, _, .tup h r => .tup (e _ _ h) (Reps.mono e r)
  | _, _, .lst h r => .lst (e _ _ h) (Reps.mono e r)
  | _, _, .dK h l r => .dK (e _ _ h) l (Reps.mono e r)
  | _, _, .dT h l r => .dT (e _ _ h) l (Reps.mono e r)
  | _, _, .obj h l r => .obj (e _ _ h) l (Reps.mono e r)
  | _, _, .rf a => .rf a
  | _, _, .scr h => .scr (e.sql h)
theorem Reps.mono {K : PySem.W.Frag} {F F' : Hp} (e : Ex F F') : ∀ {vs : List V} {ds : List D}, Reps K F vs ds → Reps K F' vs ds
  | _, _, .nil => .nil
  | _, _, .cons h t => .cons (Rep.mono e h) (Reps.mono e t)
end
section
variable {K : PySem.W.Frag} {F : Hp}
theorem Reps.length : ∀ {vs : List V} {ds : List D}, Reps K F vs ds → vs.length = ds.length
  | _, _, .nil => rfl
  | _, _, .cons _ t => congrArg (· + 1) (Reps.length t)
theorem Reps.get : ∀ {vs : List V} {ds : List D} {i : Nat} {d : D}, Reps K F vs ds → ds[i]? = some d → ∃ v, vs[i]? = some v ∧ Rep K F v d
  | _, _, _, _, .nil, e => by simp at e
  | _, _, 0, _, .cons r _, e => by simp at e; subst e; exact ⟨_, rfl, r⟩
  | _, _, i + 1, _, .cons _ t, e => by
    obtain ⟨v, h1, h2⟩ := Reps.get (i := i) t (by simpa using e)
    exact ⟨v, by simpa using h1, h2⟩
theorem Reps.get' : ∀ {vs : List V} {ds : List D} {i : Nat} {v : V}, Reps K F vs ds → vs[i]? = some v → ∃ d, ds[i]? = some d ∧ Rep K F v d
  | _, _, _, _, .nil, e => by simp at e
  | _, _, 0, _, .cons r _, e => by simp at e; subst e; exact ⟨_, rfl, r⟩
  | _, _, i + 1, _, .cons _ t, e => by
    obtain ⟨v, h1, h2⟩ := Reps.get' (i := i) t (by simpa using e)
    exact ⟨v, by simpa using h1, h2⟩
theorem Reps.append : ∀ {vs vs' : List V} {ds ds' : List D}, Reps K F vs ds → Reps K F vs' ds' → Reps K F (vs ++ vs') (ds ++ ds')
  | _, _, _, _, .nil, s => s
  | _, _, _, _, .cons r t, s => .cons r (Reps.append t s)
theorem Reps.one {v : V} {d : D} (h : Rep K F v d) : Reps K F [v] [d] := .cons h .nil
theorem Reps.set {v : V} {d : D} (h : Rep K F v d) : ∀ {vs : List V} {ds : List D} (i : Nat), Reps K F vs ds → Reps K F (vs.set i v) (ds.set i d)
  | _, _, _, .nil => .nil
  | _, _, 0, .cons _ t => .cons h t
  | _, _, i + 1, .cons r t => .cons r (Reps.set h i t)
theorem Reps.take : ∀ {vs : List V} {ds : List D} (n : Nat), Reps K F vs ds → Reps K F (vs.take n) (ds.take n)
  | _, _, 0, _ => .nil
  | _, _, _ + 1, .nil => .nil
  | _, _, n + 1, .cons r t => .cons r (Reps.take n t)
theorem Reps.drop : ∀ {vs : List V} {ds : List D} (n : Nat), Reps K F vs ds → Reps K F (vs.drop n) (ds.drop n)
  | _, _, 0, r => r
  | _, _, _ + 1, .nil => .nil
  | _, _, n + 1, .cons _ t => Reps.drop n t
theorem Reps.reverse {vs : List V} {ds : List D} (r : Reps K F vs ds) : Reps K F vs.reverse ds.reverse := by
  induction vs generalizing ds with
  | nil => cases r; exact .nil
  | cons v vs ih =>
    cases r with
    | cons h t =>
      rw [List.reverse_cons, List.reverse_cons]
      exact (ih t).append (.one h)
end

/-! ### what changes -/
inductive MO where
  | lst (xs : List D) | dK (kvs : List (Key × D)) | dT (kvs : List (List Key × D))
  | ins (C : Addr) (fs : List (Str × D))
  | deck (k1 k2 k3 : Str) (n : Nat)
  | dcell
  | lkT (o : Obj) (kvs : List (List Key × V)) (kds : List (List Key × D))
  | dN (w : World) (kds : List (NestedKey × D))
abbrev GH := Addr → Option MO
def gput (G : GH) (a : Addr) (o : MO) : GH := fun b => if b = a then some o else G b
def gdel (G : GH) (a : Addr) : GH := fun b => if b = a then none else G b
theorem gput_same {G : GH} {a : Addr} {o : MO} : gput G a o a = some o := by unfold gput; rw [if_pos rfl]
theorem gput_ne {G : GH} {a b : Addr} {o : MO} (h : b ≠ a) : gput G a o b = G b := by unfold gput; rw [if_neg h]
theorem gput_gput {G : GH} {a : Addr} {o o' : MO} : gput (gput G a o) a o' = gput G a o' := by
  funext b
  by_cases h : b = a
  · subst h; rw [gput_same, gput_same]
  · rw [gput_ne h, gput_ne h, gput_ne h]
theorem gput_self {G : GH} {a : Addr} {o : MO} (h : G a = some o) : gput G a o = G := by
  funext b
  by_cases q : b = a
  · subst q; rw [gput_same, h]
  · rw [gput_ne q]
def deckOk (F H : Hp) (G : GH) (a : Addr) (k1 k2 k3 : Str) (n : Nat) : Prop :=
  ∃ (c : Addr) (g t : Int) (ns : List Int), H a = some (.dK [(.inr k1, .ref c), (.inr k2, .int g), (.inr k3, .int t)]) ∧ H c = some (.lst (ns.map V.int)) ∧ G c = some .dcell ∧
    0 ≤ t ∧ t + n ≤ 1099511627776 ∧ 0 ≤ g ∧ g < 4294967296 ∧ ns.length ≤ 63
/-- a dict whose keys are tuples of any depth: what stands at its own place -/
def RawN (w : World) (a : Addr) (xs : List (NestedKey × Addr × Value)) (h : Heap) : Prop :=
  (a == sysModules) = false ∧ ∃ o es ep, h.get? a = some o ∧ o.ExactDict ∧ o.data = .dict es ep ∧ es.toList = xs.map (fun x => ({ hash := x.1.hash w, key := .ref x.2.1, val := x.2.2 } : DictEntry)) ∧ (xs.map (·.1)).Nodup
mutual
/-- data as a key -/
def D.nkey : D → Option NestedKey
  | .non => some .none
  | .int i => some (.num i)
  | .str x => some (.text x)
  | .tup ds => (D.nkeys ds).map .tup
  | _ => none
def D.nkeys : List D → Option (List NestedKey)
  | [] => some []
  | d :: ds => match d.nkey, D.nkeys ds with
    | some k, some ks => some (k :: ks)
    | _, _ => none
end
def KN (K : PySem.W.Frag) (F : Hp) : List (NestedKey × D) → List (NestedKey × Addr × Value) → Prop := Paired fun p q => p.1 = q.1 ∧ (∃ d : D, d.nkey = some p.1 ∧ p.1.depth ≤ 8 ∧ Rep K F (.ref q.2.1) d) ∧ ∃ v, RelV v q.2.2 ∧ Rep K F v p.2
def MRep (K : PySem.W.Frag) (F H : Hp) (G : GH) (a : Addr) : MO → Prop
  | .lst ds => ∃ vs, H a = some (.lst vs) ∧ Reps K F vs ds
  | .dK kds => ∃ kvs, H a = some (.dK kvs) ∧ kvs.map (·.1) = kds.map (·.1) ∧ Reps K F (kvs.map (·.2)) (kds.map (·.2))
  | .dT kds => ∃ kvs, H a = some (.dT kvs) ∧ kvs.map (·.1) = kds.map (·.1) ∧ Reps K F (kvs.map (·.2)) (kds.map (·.2))
  | .ins C kds => ∃ dx kvs, H a = some (.ins C dx kvs) ∧ kvs.map (·.1) = kds.map (·.1) ∧ Reps K F (kvs.map (·.2)) (kds.map (·.2))
  | .deck k1 k2 k3 n => deckOk F H G a k1 k2 k3 n
  | .dcell => ∃ xs, H a = some (.lst xs)
  | .lkT o kvs kds => H a = some (.frz o (.dT kvs)) ∧ kvs.map (·.1) = kds.map (·.1) ∧ Reps K F (kvs.map (·.2)) (kds.map (·.2))
  | .dN w kds => ∃ xs, H a = some (.ext (RawN w a xs)) ∧ kds.length ≤ sizeLine ∧ KN K F kds xs
structure Gok (K : PySem.W.Frag) (F H : Hp) (G : GH) : Prop where
  ex : Ex F H
  at_ : ∀ a o, G a = some o → F a = none ∧ MRep K F H G a o
  one : ∀ a b k1 k2 k3 n j1 j2 j3 m, G a = some (.deck k1 k2 k3 n) → G b = some (.deck j1 j2 j3 m) → a = b
section
variable {K : PySem.W.Frag} {F H : Hp} {G : GH}
theorem MRep.isAt {a : Addr} {o : MO} (h : MRep K F H G a o) : ∃ u, H a = some u := by
  cases o with
  | lst xs => obtain ⟨vs, e, _⟩ := h; exact ⟨_, e⟩
  | dK kds => obtain ⟨vs, e, _⟩ := h; exact ⟨_, e⟩
  | dT kds => obtain ⟨vs, e, _⟩ := h; exact ⟨_, e⟩
  | ins C kds => obtain ⟨dx, vs, e, _⟩ := h; exact ⟨_, e⟩
  | deck k1 k2 k3 n => obtain ⟨c, g, t, ns, e, _⟩ := h; exact ⟨_, e⟩
  | dcell => obtain ⟨xs, e⟩ := h; exact ⟨_, e⟩
  | lkT o kvs kds => exact ⟨_, h.1⟩
  | dN w kds => obtain ⟨xs, e, _⟩ := h; exact ⟨_, e⟩
theorem Gok.free (g : Gok K F H G) {p : Addr} (h : H p = none) : G p = none := by
  cases q : G p with
  | none => rfl
  | some o =>
    obtain ⟨u, e⟩ := (g.at_ p o q).2.isAt
    rw [e] at h; cases h
theorem MRep.move {F' H' : Hp} {G' : GH} {a : Addr} {o : MO} (h : MRep K F H G a o) (e : Ex F F') (k : ∀ b u, H b = some u → (b = a ∨ G b = some .dcell) → H' b = some u) (g : ∀ c, G c = some .dcell → G' c = some .dcell) : MRep K F' H' G' a o := by
  cases o with
  | lst xs =>
    obtain ⟨vs, e1, r⟩ := h
    exact ⟨vs, k _ _ e1 (.inl rfl), r.mono e⟩
  | dK kds =>
    obtain ⟨vs, e1, l, r⟩ := h
    exact ⟨vs, k _ _ e1 (.inl rfl), l, r.mono e⟩
  | dT kds =>
    obtain ⟨vs, e1, l, r⟩ := h
    exact ⟨vs, k _ _ e1 (.inl rfl), l, r.mono e⟩
  | ins C kds =>
    obtain ⟨dx, vs, e1, l, r⟩ := h
    exact ⟨dx, vs, k _ _ e1 (.inl rfl), l, r.mono e⟩
  | deck k1 k2 k3 n =>
    obtain ⟨c, g0, t, ns, e1, e2, gc, hz⟩ := h
    exact ⟨c, g0, t, ns, k _ _ e1 (.inl rfl), k _ _ e2 (.inr gc), g c gc, hz⟩
  | dcell =>
    obtain ⟨xs, e1⟩ := h
    exact ⟨xs, k _ _ e1 (.inl rfl)⟩
  | lkT o kvs kds => exact ⟨k _ _ h.1 (.inl rfl), h.2.1, h.2.2.mono e⟩
  | dN w kds =>
    obtain ⟨xs, e1, hz, r⟩ := h
    exact ⟨xs, k _ _ e1 (.inl rfl), hz, Paired.mapP r fun _ _ ⟨z1, ⟨d, z2, zd, z3⟩, v, z4, z5⟩ => ⟨z1, ⟨d, z2, zd, z3.mono e⟩, v, z4, z5.mono e⟩⟩
/-- the heap grows, frozen things with it -/
structure Gr (F H F' H' : Hp) : Prop where
  ff : Ex F F'
  fh : Ex F' H'
  hh : Ex H H'
  no : ∀ a u, H a = some u → F a = none → F' a = none
theorem Gok.grow (g : Gok K F H G) {F' H' : Hp} (r : Gr F H F' H') : Gok K F' H' G where
  ex := r.fh
  at_ := fun a o e => by
    obtain ⟨f, m⟩ := g.at_ a o e
    obtain ⟨u, hu⟩ := m.isAt
    exact ⟨r.no a u hu f, m.move r.ff (fun b u q _ => r.hh b u q) (fun c z => z)⟩
  one := g.one
theorem Gr.new (e : Ex F H) {p : Addr} {u : HO} (h : H p = none) : Gr F H (upd F p u) (upd H p u) where
  ff := Ex.new (e.nope h)
  fh := e.upds u
  hh := Ex.new h
  no := fun a w ha fa => by
    have q : a ≠ p := fun q => by rw [q, h] at ha; cases ha
    rw [upd_ne q]; exact fa
theorem Gr.only (e : Ex F H) {p : Addr} {u : HO} (h : H p = none) : Gr F H F (upd H p u) where
  ff := Ex.refl F
  fh := e.updR (e.nope h)
  hh := Ex.new h
  no := fun a w ha fa => fa
theorem Gr.refl (e : Ex F H) : Gr F H F H := ⟨Ex.refl F, e, Ex.refl H, fun _ _ _ z => z⟩
/-- fewer things that may change -/
structure Sub (G' G : GH) : Prop where
  le : ∀ a o, G' a = some o → G a = some o
  dc : ∀ c, G c = some .dcell → G' c = some .dcell
theorem Sub.refl (G : GH) : Sub G G := ⟨fun _ _ z => z, fun _ z => z⟩
theorem Sub.trans {G1 G2 G3 : GH} (a : Sub G1 G2) (b : Sub G2 G3) : Sub G1 G3 := ⟨fun x o z => b.le x o (a.le x o z), fun c z => a.dc c (b.dc c z)⟩
theorem Gok.sub (g : Gok K F H G) {G' : GH} (h : Sub G' G) : Gok K F H G' where
  ex := g.ex
  at_ := fun a o e => by
    obtain ⟨f, m⟩ := g.at_ a o (h.le a o e)
    exact ⟨f, m.move (Ex.refl F) (fun b u q _ => q) h.dc⟩
  one := fun a b k1 k2 k3 n j1 j2 j3 m e1 e2 => g.one a b k1 k2 k3 n j1 j2 j3 m (h.le _ _ e1) (h.le _ _ e2)
def MO.isDeck : MO → Bool
  | .deck _ _ _ _ => true
  | .dcell => true
  | _ => false
theorem sub_new {p : Addr} {o : MO} (h : G p = none) (hd : o.isDeck = false) : Sub G (gput G p o) := by
  refine ⟨fun a w z => ?_, fun c z => ?_⟩
  · have q : a ≠ p := fun y => by rw [y, h] at z; cases z
    rw [gput_ne q]; exact z
  · by_cases q : c = p
    · subst q; rw [gput_same] at z; cases z; cases hd
    · rw [gput_ne q] at z; exact z
theorem Sub.put {G' : GH} (s : Sub G' G) (p : Addr) (o : MO) : Sub (gput G' p o) (gput G p o) := by
  refine ⟨fun a w z => ?_, fun c z => ?_⟩
  · by_cases q : a = p
    · subst q; rw [gput_same] at z ⊢; exact z
    · rw [gput_ne q] at z ⊢; exact s.le a w z
  · by_cases q : c = p
    · subst q; rw [gput_same] at z ⊢; exact z
    · rw [gput_ne q] at z ⊢; exact s.dc c z
theorem upd_none {H : Hp} {p b : Addr} {u : HO} (h : upd H p u b = none) : H b = none := by
  by_cases q : b = p
  · subst q; rw [upd_same] at h; cases h
  · rw [upd_ne q] at h; exact h
/-- from one moment to a later one -/
structure Go (F H : Hp) (G : GH) (F' H' : Hp) (G' : GH) : Prop where
  ex : Ex F F'
  fr : ∀ b u, H b = some u → G b = none → H' b = some u ∧ G' b = none
  no : ∀ b u, H b = some u → G b = none → F b = none → (∀ vs, u ≠ .tup vs) → F' b = none
  st : ∀ b, H' b = none → H b = none
theorem Go.refl : Go F H G F H G := ⟨Ex.refl F, fun _ _ h g => ⟨h, g⟩, fun _ _ _ _ f _ => f, fun _ z => z⟩
theorem Go.trans {F1 H1 F2 H2 : Hp} {G1 G2 : GH} (a : Go F H G F1 H1 G1) (b : Go F1 H1 G1 F2 H2 G2) : Go F H G F2 H2 G2 := by
  refine ⟨a.ex.trans b.ex, fun c u h g => ?_, fun c u h g f t => ?_, fun c z => a.st c (b.st c z)⟩
  · obtain ⟨h1, g1⟩ := a.fr c u h g
    exact b.fr c u h1 g1
  · obtain ⟨h1, g1⟩ := a.fr c u h g
    exact b.no c u h1 g1 (a.no c u h g f t) t
theorem Gr.go {F' H' : Hp} (r : Gr F H F' H') : Go F H G F' H' G := ⟨r.ff, fun b u h g => ⟨r.hh b u h, g⟩, fun b u h _ f _ => r.no b u h f, fun b z => r.hh.nope z⟩
theorem Go.sub {F' H' : Hp} {G' G0 : GH} (a : Go F H G F' H' G') (s : Sub G0 G') : Go F H G F' H' G0 := by
  refine ⟨a.ex, fun b u h g => ?_, a.no, a.st⟩
  obtain ⟨h1, g1⟩ := a.fr b u h g
  refine ⟨h1, ?_⟩
  cases q : G0 b with
  | none => rfl
  | some o => rw [s.le b o q] at g1; cases g1
theorem Go.alloc {p : Addr} {u : HO} {o : MO} (h : H p = none) : Go F H G F (upd H p u) (gput G p o) := by
  refine ⟨Ex.refl F, fun b w hb g => ?_, fun _ _ _ _ f _ => f, fun b z => upd_none z⟩
  have q : b ≠ p := fun y => by rw [y, h] at hb; cases hb
  exact ⟨by rw [upd_ne q]; exact hb, by rw [gput_ne q]; exact g⟩
theorem Go.put {p : Addr} {u : HO} {o o0 : MO} (h : G p = some o0) : Go F H G F (upd H p u) (gput G p o) := by
  refine ⟨Ex.refl F, fun b w hb g => ?_, fun _ _ _ _ f _ => f, fun b z => upd_none z⟩
  have q : b ≠ p := fun y => by rw [y, h] at g; cases g
  exact ⟨by rw [upd_ne q]; exact hb, by rw [gput_ne q]; exact g⟩
/-- a new thing that may change -/
theorem Gok.alloc (g : Gok K F H G) {p : Addr} {u : HO} {o : MO} (h : H p = none) (hd : o.isDeck = false) (r : MRep K F (upd H p u) (gput G p o) p o) : Gok K F (upd H p u) (gput G p o) where
  ex := g.ex.updR (g.ex.nope h)
  at_ := fun a w e => by
    by_cases q : a = p
    · subst q
      rw [gput_same] at e; cases e
      exact ⟨g.ex.nope h, r⟩
    · rw [gput_ne q] at e
      obtain ⟨f, m⟩ := g.at_ a w e
      refine ⟨f, m.move (Ex.refl F) (fun b z qb _ => (Ex.new h) b z qb) fun c z => ?_⟩
      have : c ≠ p := fun y => by rw [y, g.free h] at z; cases z
      rw [gput_ne this]; exact z
  one := fun a b k1 k2 k3 n j1 j2 j3 m e1 e2 => by
    have ha : a ≠ p := fun y => by rw [y, gput_same] at e1; cases e1; cases hd
    have hb : b ≠ p := fun y => by rw [y, gput_same] at e2; cases e2; cases hd
    rw [gput_ne ha] at e1; rw [gput_ne hb] at e2
    exact g.one a b k1 k2 k3 n j1 j2 j3 m e1 e2
/-- a thing changes -/
theorem Gok.put (g : Gok K F H G) {p : Addr} {u : HO} {o o0 : MO} (h : G p = some o0) (h0 : o0.isDeck = false) (hd : o.isDeck = false) (r : MRep K F (upd H p u) (gput G p o) p o) : Gok K F (upd H p u) (gput G p o) where
  ex := g.ex.updR (g.at_ p o0 h).1
  at_ := fun a w e => by
    by_cases q : a = p
    · subst q
      rw [gput_same] at e; cases e
      exact ⟨(g.at_ a o0 h).1, r⟩
    · rw [gput_ne q] at e
      obtain ⟨f, m⟩ := g.at_ a w e
      have np : ∀ c, (c = a ∨ G c = some .dcell) → c ≠ p := fun c hc y => by
        rcases hc with hc | hc
        · exact q (hc ▸ y)
        · rw [y, h] at hc; cases hc; cases h0
      refine ⟨f, m.move (Ex.refl F) (fun b z qb hb => by rw [upd_ne (np b hb)]; exact qb) fun c z => by rw [gput_ne (np c (.inr z))]; exact z⟩
  one := fun a b k1 k2 k3 n j1 j2 j3 m e1 e2 => by
    have ha : a ≠ p := fun y => by rw [y, gput_same] at e1; cases e1; cases hd
    have hb : b ≠ p := fun y => by rw [y, gput_same] at e2; cases e2; cases hd
    rw [gput_ne ha] at e1; rw [gput_ne hb] at e2
    exact g.one a b k1 k2 k3 n j1 j2 j3 m e1 e2
theorem gdel_sub {G : GH} {p : Addr} : ∀ a o, gdel G p a = some o → G a = some o := fun a o e => by
  unfold gdel at e
  by_cases q : a = p
  · rw [if_pos q] at e; cases e
  · rw [if_neg q] at e; exact e
theorem gdel_same {G : GH} {p : Addr} : gdel G p p = none := by unfold gdel; rw [if_pos rfl]
theorem gdel_ne {G : GH} {p a : Addr} (h : a ≠ p) : gdel G p a = G a := by unfold gdel; rw [if_neg h]
theorem gdel_gput {G : GH} {p : Addr} {o : MO} (h : G p = none) : gdel (gput G p o) p = G := by
  funext b
  by_cases q : b = p
  · subst q; rw [gdel_same, h]
  · rw [gdel_ne q, gput_ne q]
/-- a thing changes no more -/
theorem Gok.freeze (g : Gok K F H G) {p : Addr} {u : HO} {o0 : MO} (h : G p = some o0) (h0 : o0.isDeck = false) (hu : H p = some u) : Gok K (upd F p u) H (gdel G p) ∧ Go F H G (upd F p u) H (gdel G p) := by
  have fp := (g.at_ p o0 h).1
  have eF : Ex F (upd F p u) := Ex.new fp
  refine ⟨⟨fun a w z => ?_, fun a w e => ?_, ?_⟩, eF, fun b w hb gb => ⟨hb, ?_⟩, fun b w hb gb fb _ => ?_, fun _ z => z⟩
  · by_cases q : a = p
    · subst q; rw [upd_same] at z; cases z; exact hu
    · rw [upd_ne q] at z; exact g.ex a w z
  · have q : a ≠ p := fun y => by rw [y, gdel_same] at e; cases e
    rw [gdel_ne q] at e
    obtain ⟨f, m⟩ := g.at_ a w e
    refine ⟨by rw [upd_ne q]; exact f, m.move eF (fun b w hb _ => hb) fun c z => ?_⟩
    have nq : c ≠ p := fun y => by rw [y, h] at z; cases z; cases h0
    rw [gdel_ne nq]; exact z
  · exact fun a b k1 k2 k3 n j1 j2 j3 m e1 e2 => g.one a b k1 k2 k3 n j1 j2 j3 m (gdel_sub _ _ e1) (gdel_sub _ _ e2)
  · have q : b ≠ p := fun y => by rw [y, h] at gb; cases gb
    rw [gdel_ne q]; exact gb
  · have q : b ≠ p := fun y => by rw [y, h] at gb; cases gb
    rw [upd_ne q]; exact fb
end

/-! ### slots -/
abbrev DS := List (Option D)
inductive Slots (K : PySem.W.Frag) (F : Hp) : L2.St → DS → Prop
  | nil : Slots K F [] []
  | any {v : Option V} {σ : L2.St} {S : DS} : Slots K F σ S → Slots K F (v :: σ) (none :: S)
  | val {v : V} {d : D} {σ : L2.St} {S : DS} : Rep K F v d → Slots K F σ S → Slots K F (some v :: σ) (some d :: S)
section
variable {K : PySem.W.Frag} {F : Hp}
theorem Slots.mono {F' : Hp} (e : Ex F F') : ∀ {σ : L2.St} {S : DS}, Slots K F σ S → Slots K F' σ S
  | _, _, .nil => .nil
  | _, _, .any t => .any (Slots.mono e t)
  | _, _, .val h t => .val (h.mono e) (Slots.mono e t)
theorem Slots.get : ∀ {σ : L2.St} {S : DS} {i : Nat} {d : D}, Slots K F σ S → S[i]? = some (some d) → ∃ v, σ[i]? = some (some v) ∧ Rep K F v d
  | _, _, _, _, .nil, e => by simp at e
  | _, _, 0, _, .any _, e => by simp at e
  | _, _, 0, _, .val r _, e => by simp at e; subst e; exact ⟨_, rfl, r⟩
  | _, _, i + 1, _, .any t, e => by
    obtain ⟨v, h1, h2⟩ := Slots.get (i := i) t (by simpa using e)
    exact ⟨v, by simpa using h1, h2⟩
  | _, _, i + 1, _, .val _ t, e => by
    obtain ⟨v, h1, h2⟩ := Slots.get (i := i) t (by simpa using e)
    exact ⟨v, by simpa using h1, h2⟩
theorem Slots.set {v : V} {d : D} (h : Rep K F v d) : ∀ {σ : L2.St} {S : DS} (i : Nat), Slots K F σ S → Slots K F (σ.set i (some v)) (S.set i (some d))
  | _, _, _, .nil => .nil
  | _, _, 0, .any t => .val h t
  | _, _, 0, .val _ t => .val h t
  | _, _, i + 1, .any t => .any (Slots.set h i t)
  | _, _, i + 1, .val r t => .val r (Slots.set h i t)
theorem Slots.setN (o : Option V) : ∀ {σ : L2.St} {S : DS} (i : Nat), Slots K F σ S → Slots K F (σ.set i o) (S.set i none)
  | _, _, _, .nil => .nil
  | _, _, 0, .any t => .any t
  | _, _, 0, .val _ t => .any t
  | _, _, i + 1, .any t => .any (Slots.setN o i t)
  | _, _, i + 1, .val r t => .val r (Slots.setN o i t)
theorem Slots.setW (o : Option V) : ∀ {σ : L2.St} {S : DS} (i : Nat), Slots K F σ S → S[i]? = some none → Slots K F (σ.set i o) S
  | _, _, _, .nil, _ => .nil
  | _, _, 0, .any t, _ => .any t
  | _, _, 0, .val _ t, e => by simp at e
  | _, _, i + 1, .any t, e => .any (Slots.setW o i t (by simpa using e))
  | _, _, i + 1, .val r t, e => .val r (Slots.setW o i t (by simpa using e))
def dstart (N : List Str) (ds : List D) : DS := ds.map some ++ List.replicate (N.length - ds.length) none
theorem slots_none : ∀ (n : Nat), Slots K F (List.replicate n none) (List.replicate n none)
  | 0 => .nil
  | n + 1 => .any (slots_none n)
theorem slots_append : ∀ {vs : List V} {ds : List D} {σ : L2.St} {S : DS}, Reps K F vs ds → Slots K F σ S → Slots K F (vs.map some ++ σ) (ds.map some ++ S)
  | _, _, _, _, .nil, s => s
  | _, _, _, _, .cons h t, s => .val h (slots_append t s)
theorem Reps.start {N : List Str} {vs : List V} {ds : List D} (r : Reps K F vs ds) : Slots K F (start N vs) (dstart N ds) := by
  have e := r.length
  unfold L2.start dstart
  rw [e]
  exact slots_append r (slots_none _)
end
structure Ok (K : PySem.W.Frag) (F H : Hp) (σ : L2.St) (S : DS) (G : GH) : Prop where
  g : Gok K F H G
  s : Slots K F σ S
end DL
end
section
set_option Elab.async false
set_option linter.all false
set_option maxRecDepth 100000
set_option maxHeartbeats 4000000
/-! DL2: the judgements over data, and the plain rules. -/
namespace DL
open PySem PySem.Spec PyProof.Rows L2

abbrev DQ := D → GH → Prop
abbrev DTE := DS → GH → DQ → Prop
abbrev DTT := DS → GH → (Bool → GH → Prop) → Prop
abbrev DTA := DS → GH → (List D → GH → Prop) → Prop
structure DEnds where
  nx : DS → GH → Prop
  rt : DQ
  bk : DS → GH → Prop := fun _ _ => False
  ct : DS → GH → Prop := fun _ _ => False
abbrev DTS := DEnds → DS → GH → Prop

def KpE (K : PySem.W.Frag) (F H : Hp) (G : GH) (Q' : DQ) (Q : VK) : Prop := ∀ F' H' v d G', Go F H G F' H' G' → Gok K F' H' G' → Rep K F' v d → Q' d G' → Q v H'
def KpT (K : PySem.W.Frag) (F H : Hp) (G : GH) (Q' : Bool → GH → Prop) (Q : Bool → Hp → Prop) : Prop := ∀ F' H' b G', Go F H G F' H' G' → Gok K F' H' G' → Q' b G' → Q b H'
def KpA (K : PySem.W.Frag) (F H : Hp) (G : GH) (Q' : List D → GH → Prop) (Q : List V → Hp → Prop) : Prop := ∀ F' H' vs ds G', Go F H G F' H' G' → Gok K F' H' G' → Reps K F' vs ds → Q' ds G' → Q vs H'
def KpN (K : PySem.W.Frag) (F H : Hp) (G : GH) (Q' : DS → GH → Prop) (Q : L2.St → Hp → Prop) : Prop := ∀ F' H' σ S G', Go F H G F' H' G' → Ok K F' H' σ S G' → Q' S G' → Q σ H'
structure KpS (K : PySem.W.Frag) (F H : Hp) (G : GH) (D' : DEnds) (D0 : Ends) : Prop where
  nx : KpN K F H G D'.nx D0.nx
  rt : KpE K F H G D'.rt D0.rt
  bk : KpN K F H G D'.bk D0.bk
  ct : KpN K F H G D'.ct D0.ct
section
variable {K : PySem.W.Frag} {F H F1 H1 : Hp} {G G1 : GH}
theorem KpE.mono {Q' : DQ} {Q : VK} (e : Go F H G F1 H1 G1) (h : KpE K F H G Q' Q) : KpE K F1 H1 G1 Q' Q := fun F' H' v d G' a b c q => h F' H' v d G' (e.trans a) b c q
theorem KpT.mono {Q' : Bool → GH → Prop} {Q : Bool → Hp → Prop} (e : Go F H G F1 H1 G1) (h : KpT K F H G Q' Q) : KpT K F1 H1 G1 Q' Q := fun F' H' v G' a b q => h F' H' v G' (e.trans a) b q
theorem KpN.mono {Q' : DS → GH → Prop} {Q : L2.St → Hp → Prop} (e : Go F H G F1 H1 G1) (h : KpN K F H G Q' Q) : KpN K F1 H1 G1 Q' Q := fun F' H' σ S G' a b q => h F' H' σ S G' (e.trans a) b q
theorem KpS.mono {D' : DEnds} {D0 : Ends} (e : Go F H G F1 H1 G1) (h : KpS K F H G D' D0) : KpS K F1 H1 G1 D' D0 := ⟨h.nx.mono e, h.rt.mono e, h.bk.mono e, h.ct.mono e⟩
end

structure DE (X : Cx) (e : Expr) (t' : DTE) : Prop where
  ex : ∃ t, PE X e t ∧ ∀ F H σ S G, Ok X.K F H σ S G → ∀ Q', t' S G Q' → ∀ Q, KpE X.K F H G Q' Q → t σ H Q
structure DT (X : Cx) (e : Expr) (t' : DTT) : Prop where
  ex : ∃ t, PT X e t ∧ ∀ F H σ S G, Ok X.K F H σ S G → ∀ Q', t' S G Q' → ∀ Q, KpT X.K F H G Q' Q → t σ H Q
structure DW (X : Cx) (e : Expr) (t' : DTT) : Prop where
  ex : ∃ t, PW X e t ∧ ∀ F H σ S G, Ok X.K F H σ S G → ∀ Q', t' S G Q' → ∀ Q, KpT X.K F H G Q' Q → t σ H Q
structure DA (X : Cx) (es : List Expr) (t' : DTA) : Prop where
  ex : ∃ t, PA X es t ∧ ∀ F H σ S G, Ok X.K F H σ S G → ∀ Q', t' S G Q' → ∀ Q, KpA X.K F H G Q' Q → t σ H Q
structure DP (X : Cx) (st : Stmt) (t' : DTS) : Prop where
  ex : ∃ t, PS X st t ∧ ∀ F H σ S G, Ok X.K F H σ S G → ∀ D', t' D' S G → ∀ D0, KpS X.K F H G D' D0 → t D0 σ H
structure DPs (X : Cx) (st : List Stmt) (t' : DTS) : Prop where
  ex : ∃ t, PSs X st t ∧ ∀ F H σ S G, Ok X.K F H σ S G → ∀ D', t' D' S G → ∀ D0, KpS X.K F H G D' D0 → t D0 σ H

section
variable {X : Cx} {pos : Pos}
theorem Ok.go {K : PySem.W.Frag} {F H F' H' : Hp} {σ : L2.St} {S : DS} {G G' : GH} (o : Ok K F H σ S G) (e : Go F H G F' H' G') (g : Gok K F' H' G') : Ok K F' H' σ S G' := ⟨g, o.s.mono e.ex⟩

/-! names, constants -/
def dVar (i : Nat) : DTE := fun S G Q => match S[i]? with
  | some (some d) => Q d G
  | _ => False
def dC (d : D) : DTE := fun _ G Q => Q d G
theorem de_var (i : Nat) {x : Str} (hN : X.N[i]? = some x := by rfl) (hv : Vis X.env.scope x := by first | exact Or.inl rfl | exact Or.inr (Or.inl rfl) | exact Or.inr (Or.inr rfl)) (hd : (x == ("__debug__" : Str)) = false := by decide)
    (hcd : (x == ("__classdict__" : Str)) = false := by decide) : DE X (.Name x pos) (dVar i) := by
  refine ⟨_, pe_var hN hv hd hcd, fun F H σ S G o Q' h Q k => ?_⟩
  unfold dVar at h
  split at h
  · rename_i d e
    obtain ⟨v, e1, r⟩ := o.s.get e
    exact ⟨v, e1, k F H v d G Go.refl o.g r h⟩
  · exact h.elim
theorem dc_of {e : Expr} {v : V} {d : D} (h : PE X e (tC v)) (r : ∀ F, Rep X.K F v d) : DE X e (dC d) :=
  ⟨_, h, fun F H σ S G o Q' h Q k => k F H v d G Go.refl o.g (r F) h⟩
theorem de_int {i : Int} {j} : DE X (.Constant (.int i) j pos) (dC (.int i)) := dc_of pe_int fun _ => .int i
theorem de_bl {b : Bool} {j} : DE X (.Constant (.bool b) j pos) (dC (.bl b)) := dc_of pe_bl fun _ => .bl b
theorem de_non {j} : DE X (.Constant .none j pos) (dC .non) := dc_of pe_non fun _ => .non
theorem de_str {x : Str} {j} : DE X (.Constant (.str x) j pos) (dC (.str x)) := dc_of pe_str fun _ => .str x
theorem de_gint {x : Str} {i : Int} (hg : Gl X x) (hm : ∃ t, X.mg x = some (.int i t)) (hd : (x == ("__debug__" : Str)) = false := by decide) : DE X (.Name x pos) (dC (.int i)) := by
  obtain ⟨t, hm⟩ := hm
  exact dc_of (pe_glob (v := .int i) hg hm ⟨t, rfl⟩ hd) fun _ => .int i
theorem de_gstr {x z : Str} (hg : Gl X x) (hm : ∃ t, X.mg x = some (.str z t)) (hd : (x == ("__debug__" : Str)) = false := by decide) : DE X (.Name x pos) (dC (.str z)) := by
  obtain ⟨t, hm⟩ := hm
  exact dc_of (pe_glob (v := .str z) hg hm ⟨t, rfl⟩ hd) fun _ => .str z

/-! arguments, displays -/
def dNil : DTA := fun _ G Q => Q [] G
def dCons (ta : DTE) (tr : DTA) : DTA := fun S G Q => ta S G fun d G1 => tr S G1 fun ds G2 => Q (d :: ds) G2
theorem da_nil : DA X [] dNil := ⟨_, pa_nil, fun F H σ S G o Q' h Q k => k F H [] [] G Go.refl o.g .nil h⟩
theorem da_cons {e : Expr} {es : List Expr} {ta : DTE} {tr : DTA} (ha : DE X e ta) (hr : DA X es tr) (hs : starEach (e :: es) X.env = (false, eval e X.env) :: starEach es X.env := by rfl) : DA X (e :: es) (dCons ta tr) := by
  obtain ⟨t1, p1, r1⟩ := ha.ex
  obtain ⟨t2, p2, r2⟩ := hr.ex
  refine ⟨_, pa_cons p1 p2 hs, fun F H σ S G o Q' h Q k => ?_⟩
  refine r1 F H σ S G o _ h _ fun F1 H1 v d G1 e1 g1 q1 h1 => ?_
  refine r2 F1 H1 σ S G1 (o.go e1 g1) _ h1 _ fun F2 H2 vs ds G2 e2 g2 q2 h2 => ?_
  exact k F2 H2 _ _ G2 (e1.trans e2) g2 (.cons (q1.mono e2.ex) q2) h2
def dTup (ta : DTA) : DTE := fun S G Q => ta S G fun ds G1 => ds.length ≤ sizeLine ∧ Q (.tup ds) G1
theorem de_tup {es : List Expr} {ta : DTA} {x1} (h : DA X es ta) : DE X (.Tuple es x1 pos) (dTup ta) := by
  obtain ⟨t, p, r⟩ := h.ex
  refine ⟨_, pe_tup p, fun F H σ S G o Q' h Q k => ?_⟩
  refine r F H σ S G o _ h _ fun F1 H1 vs ds G1 e1 g1 q1 h1 => ?_
  refine ⟨q1.length ▸ h1.1, fun p hp => ?_⟩
  have gr : Gr F1 H1 (upd F1 p (.tup vs)) (upd H1 p (.tup vs)) := Gr.new g1.ex hp
  exact k _ _ _ _ G1 (e1.trans gr.go) (g1.grow gr) (.tup upd_same (q1.mono gr.ff)) h1.2
/-- a list as it is written: frozen -/
def dLst (ta : DTA) : DTE := fun S G Q => ta S G fun ds G1 => ds.length ≤ sizeLine ∧ Q (.lst ds) G1
theorem de_lst {es : List Expr} {ta : DTA} (h : DA X es ta) : DE X (.List es pos) (dLst ta) := by
  obtain ⟨t, p, r⟩ := h.ex
  refine ⟨_, pe_lst p, fun F H σ S G o Q' h Q k => ?_⟩
  refine r F H σ S G o _ h _ fun F1 H1 vs ds G1 e1 g1 q1 h1 => ?_
  refine ⟨q1.length ▸ h1.1, fun p hp => ?_⟩
  have gr : Gr F1 H1 (upd F1 p (.lst vs)) (upd H1 p (.lst vs)) := Gr.new g1.ex hp
  exact k _ _ _ _ G1 (e1.trans gr.go) (g1.grow gr) (.lst upd_same (q1.mono gr.ff)) h1.2
/-- .. that may change -/
def dLstM (ta : DTA) : DTE := fun S G Q => ta S G fun ds G1 => ds.length ≤ sizeLine ∧ ∀ p, G1 p = none → Q (.rf p) (gput G1 p (.lst ds))
theorem de_lstM {es : List Expr} {ta : DTA} (h : DA X es ta) : DE X (.List es pos) (dLstM ta) := by
  obtain ⟨t, p, r⟩ := h.ex
  refine ⟨_, pe_lst p, fun F H σ S G o Q' h Q k => ?_⟩
  refine r F H σ S G o _ h _ fun F1 H1 vs ds G1 e1 g1 q1 h1 => ?_
  refine ⟨q1.length ▸ h1.1, fun p hp => ?_⟩
  exact k _ _ _ _ _ (e1.trans (Go.alloc hp)) (g1.alloc (o := .lst ds) hp rfl ⟨vs, upd_same, q1⟩) (.rf p) (h1.2 p (g1.free hp))

/-! a thing that changed changes no more -/
def MO.cold : MO → Option D
  | .lst xs => some (.lst xs)
  | .dK kds => some (.dK kds)
  | .dT kds => some (.dT kds)
  | .ins C kds => some (.obj C kds)
  | .deck _ _ _ _ => none
  | .dcell => none
  | .lkT _ _ _ => none
  | .dN _ _ => none
theorem Gok.cold {K : PySem.W.Frag} {F H : Hp} {G : GH} (g : Gok K F H G) {p : Addr} {o : MO} {d : D} (h : G p = some o) (hc : o.cold = some d) : ∃ F', Go F H G F' H (gdel G p) ∧ Gok K F' H (gdel G p) ∧ Rep K F' (.ref p) d := by
  obtain ⟨fp, m⟩ := g.at_ p o h
  cases o with
  | lst xs =>
    obtain ⟨vs, e, r⟩ := m
    obtain ⟨g', ef⟩ := g.freeze h rfl e
    cases hc
    exact ⟨_, ef, g', .lst upd_same (r.mono ef.ex)⟩
  | dK kds =>
    obtain ⟨vs, e, l, r⟩ := m
    obtain ⟨g', ef⟩ := g.freeze h rfl e
    cases hc
    exact ⟨_, ef, g', .dK upd_same l (r.mono ef.ex)⟩
  | dT kds =>
    obtain ⟨vs, e, l, r⟩ := m
    obtain ⟨g', ef⟩ := g.freeze h rfl e
    cases hc
    exact ⟨_, ef, g', .dT upd_same l (r.mono ef.ex)⟩
  | ins C kds =>
    obtain ⟨dx, vs, e, l, r⟩ := m
    obtain ⟨g', ef⟩ := g.freeze h rfl e
    cases hc
    exact ⟨_, ef, g', .obj upd_same l (r.mono ef.ex)⟩
  | deck k1 k2 k3 n => cases hc
  | dcell => cases hc
  | lkT o kvs kds => cases hc
  | dN w kds => cases hc
/-- the value, frozen from here on -/
def dCold (ta : DTE) : DTE := fun S G Q => ta S G fun d G1 => match d with
  | .rf a => (match G1 a with
    | some o => (match o.cold with
      | some d => Q d (gdel G1 a)
      | none => False)
    | none => False)
  | d => Q d G1
theorem de_cold {e : Expr} {ta : DTE} (h : DE X e ta) : DE X e (dCold ta) := by
  obtain ⟨t, p, r⟩ := h.ex
  refine ⟨t, p, fun F H σ S G o Q' h Q k => ?_⟩
  refine r F H σ S G o _ h _ fun F1 H1 v d G1 e1 g1 q1 h1 => ?_
  dsimp only at h1
  split at h1
  · rename_i a
    split at h1
    · rename_i o eo
      split at h1
      · rename_i d ed
        obtain ⟨F2, e2, g2, r2⟩ := g1.cold eo ed
        cases q1
        exact k F2 H1 _ _ _ (e1.trans e2) g2 r2 h1
      · exact h1.elim
    · exact h1.elim
  · exact k F1 H1 v _ G1 e1 g1 q1 h1
end
end DL
end
section
set_option Elab.async false
set_option linter.all false
set_option maxRecDepth 100000
set_option maxHeartbeats 4000000
/-! DLg: promises of defs where it is known that no repr runs around them (guards = some []); calls by such promises. -/
namespace DL
open PySem PySem.Spec PyProof.Rows L2

structure FnG (P : Program) (w : World) (K : PySem.W.Frag) (mg : Str → Option Value) (base : Heap) (CX : CXT) (k : Nat) (f : Addr) (fd : FuncData) (ps : List Str) (sp : Sp) : Prop where
  many : ∀ vs H Q E, sp vs H Q E → vs.length = ps.length
  goes : ∀ (A : Around) (outer : List Env) (s : Shared) (H : Hp) (args : Args) (us : List Value) (vs : List V) (Q : VK) (E : XK),
    A.guards = some [] → Room k A → Env0 P w K mg base A outer s H → BindsTo s fd args (ps.zip us) → Vals vs us → sp vs H Q E →
      codeAny (model P w) A (.call (.ref f) args) (CR CX outer P w H s Q E) s
theorem FnG.up {P : Program} {w : World} {K : PySem.W.Frag} {mg : Str → Option Value} {base : Heap} {CX : CXT} {j k : Nat} {f : Addr} {fd : FuncData} {ps : List Str} {sp : Sp} (F : FnG P w K mg base CX j f fd ps sp) (h : j ≤ k) : FnG P w K mg base CX k f fd ps sp :=
  ⟨F.many, fun A outer s H args us vs Q E hg hr => F.goes A outer s H args us vs Q E hg (hr.mono h)⟩
theorem deeper_guards {A : Around} {env : Env} (h : A.guards = some []) : (A.deeper env).guards = some [] := by
  first
  | exact h
  | simpa [Around.deeper] using h

section
variable {P : Program} {w : World} {K : PySem.W.Frag} {mg : Str → Option Value} {base : Heap} {CX : CXT}
/-- a def keeps its promise: by its body -/
theorem fng_of {k : Nat} {f : Addr} {name qual : Str} {params : Arguments} {body : List Stmt} {scope : Scope} {dV kV doc pm cdv ct oc : Value} {an od : Option Addr} {osl : Array (Option Value)} {N ps : List Str} {sp : Sp}
    (lk : K.lookup f = some ⟨oc, od, .func (PySem.W.fnOf name qual params body scope dV kV doc pm an cdv ct), osl⟩)
    (hcd : PySem.W.codeIn K cdv qual = true) (S : FnScope N ps scope) (len : ∀ vs H Q E, sp vs H Q E → vs.length = ps.length)
    (hb : ∀ (A : Around) (outer : List Env) (s : Shared) (H : Hp) (vs : List V) (Q : VK) (E : XK), A.guards = some [] → Room k (A.deeper (envOfC qual scope s.heap.objs.size f cdv)) → sp vs H Q E →
      ∃ t, PSs (cxOf CX P w K mg base N qual scope f cdv A outer s H E) body t ∧ t ⟨fun _ H' => Q .non H', Q, fun _ _ => False, fun _ _ => False⟩ (start N vs) H) :
    FnG P w K mg base CX (k + 1) f (PySem.W.fnOf name qual params body scope dV kV doc pm an cdv ct) ps sp := by
  refine ⟨len, fun A outer s H args us vs Q E hg hr e0 bd r hsp => ?_⟩
  have many := len vs H Q E hsp
  have inn : K.In s.heap := e0.mod.kin.keeps fun a u z => (e0.bs a u z).1
  have nol : s.heap.NoLimit := e0.mod.nolimit.keeps fun a u z => (e0.bs a u z).1
  have kinds : ∀ y ∈ ps.zip us, scope.names.lookup y.1 = some .local ∨ (scope.names.lookup y.1 = some .cell ∧ ((cellsFrom (s.heap.objs.size + 1) scope.names []).lookup y.1).isSome = true) := by
    rintro ⟨n, v⟩ hy
    have hm := (List.of_mem_zip hy).1
    rcases S.par n hm with z | z
    · left; exact z
    · right; exact ⟨z, PySem.W.cellsFrom_some _ _ _ (Or.inl z)⟩
  refine codeAny_call_function hr.depth (inn _ _ lk) rfl S.co S.gen rfl (PySem.W.codeRec_of inn hcd) (bd _ _ _ _ ?_)
  refine wpAny_newFunctionEnv_cells S.kind kinds ?_
  rintro env rfl s1 x
  refine ⟨nol.keeps x.toInCall.keep, codeAny_func ?_⟩
  obtain ⟨t, ht, q⟩ := hb A outer s H vs Q E hg (hr.deeper _) hsp
  have J : Inv (cxOf CX P w K mg base N qual scope f cdv A outer s H E) [] (start N vs) H s1 := inv_start S hr.hd e0 many r x
  refine wpAny_mono (ht.run [] s1 (start N vs) H _ J q) ?_ (fun e s' z => z)
  intro fl s' z
  cases fl with
  | ret u =>
    obtain ⟨v, σ', H', J', rv, q'⟩ := z
    exact ⟨v, H', J'.os, J'.bare, J'.base, J'.hok, rv, q'⟩
  | next =>
    obtain ⟨σ', H', J', q'⟩ := z
    exact ⟨V.non, H', J'.os, J'.bare, J'.base, J'.hok, rfl, q'⟩
  | brk =>
    obtain ⟨_, _, _, q'⟩ := z
    exact q'.elim
  | cont =>
    obtain ⟨_, _, _, q'⟩ := z
    exact q'.elim
end

section
variable {X : Cx} {CX : CXT} {k : Nat} {f C : Addr} {fd : FuncData} {ps ks : List Str} {sp : Sp} {E : XK} {x m : Str} {p pos apos : Pos} {e o : Expr} {es : List Expr} {kws : List Keyword} {ta : TE} {t tk : TA}
  {dvs : List V} {ds : List Value} {g : List Value → List Value → List Value} {gV : List V → List V → List V}
theorem goes_fn {pins : List (Addr × Obj)} {σ : L2.St} {H : Hp} {s : Shared} {Q : VK} {us ws : List Value} {zs : List V} (F : FnG X.prog X.w X.K X.mg X.base CX k f fd ps sp) (hA : X.A.guards = some []) (hr : Room k X.A)
    (kw : List (Str × Value)) (bd : ∀ s : Shared, X.K.In s.heap → ws.length = ps.length → BindsTo s fd ⟨us, kw⟩ (ps.zip ws)) (hx : Passes CX X E)
    (I : Inv X pins σ H s) (r : Vals zs ws) (h : sp zs H Q E) : wpAny (model X.prog X.w) X.A (call (.ref f) us kw) (EP X pins σ Q) X.xe s := by
  have many : ws.length = ps.length := r.length ▸ F.many zs H Q E h
  refine wpAny_call (codeAny_mono (F.goes X.A X.stack s H ⟨us, kw⟩ ws zs Q E hA hr I.env0 (bd s I.kIn many) r h) ?_)
  intro res s' z
  match res, z with
  | .error er, z => exact hx pins σ H s er s' I z
  | .ok (.ret u), z => exact I.after z
  | .ok .next, z => exact z.elim
  | .ok .brk, z => exact z.elim
  | .ok .cont, z => exact z.elim
theorem pg_call (F : FnG X.prog X.w X.K X.mg X.base CX k f fd ps sp) (hA : X.A.guards = some []) (hr : Room k X.A) (hg : Gl X x) (hm : X.mg x = some (.ref f)) (hk : PySem.W.keepIn X.K (.ref f) = true) (hb : Binds X.K fd ps ds) (hd : Vals dvs ds) (hx : Passes CX X E)
    (ha : PA X (e :: es) t) (hdb : (x == ("__debug__" : Str)) = false) (he : starEach (e :: es) X.env = (false, eval e X.env) :: starEach es X.env) (hpl : (backTo pos (starEach es X.env)).any (·.1) = false) :
    PE X (.Call (.Name x p) (e :: es) [] pos) (tCall sp dvs E t) := by
  constructor
  intro pins s σ H Q I h
  apply wpAny_Call_Name_kw
  refine ld_glob I hg hm ?_ hdb
  refine PySem.W.callWith_K (h₀ := X.base) I.ok.mod.kin hk (thn (ha.run pos pins s σ H _ I h) ?_) he hpl
  rintro us s1 ⟨vs, H1, I1, r, q⟩
  exact ⟨I1.kIn, goes_fn F hA hr [] (fun s2 i l => hb s2 us i l) hx I1 (r.append hd) q⟩
theorem pg_call0 (F : FnG X.prog X.w X.K X.mg X.base CX k f fd ps sp) (hA : X.A.guards = some []) (hr : Room k X.A) (hg : Gl X x) (hm : X.mg x = some (.ref f)) (hk : PySem.W.keepIn X.K (.ref f) = true) (hb : Binds X.K fd ps ds) (hd : Vals dvs ds) (hx : Passes CX X E)
    (hdb : (x == ("__debug__" : Str)) = false) : PE X (.Call (.Name x p) [] [] pos) (tCall sp dvs E tNil) := by
  constructor
  intro pins s σ H Q I h
  apply wpAny_Call_Name_kw
  refine ld_glob I hg hm ?_ hdb
  exact PySem.W.callWith_K0 I.kIn hk (goes_fn (us := []) F hA hr [] (fun s2 i l => hb s2 [] i l) hx I hd h)
theorem pg_callK (F : FnG X.prog X.w X.K X.mg X.base CX k f fd ps sp) (hA : X.A.guards = some []) (hr : Room k X.A) (hg : Gl X x) (hm : X.mg x = some (.ref f)) (hk : PySem.W.keepIn X.K (.ref f) = true) (hb : KBinds X.K fd ps ks g gV) (hx : Passes CX X E)
    (ha : PA X (e :: es) t) (hkw : PK X kws tk) (hall : (backToKw pos (keywordEach kws X.env)).all (·.1.isSome) = true) (hks : (backToKw pos (keywordEach kws X.env)).filterMap (·.1) = ks)
    (hdb : (x == ("__debug__" : Str)) = false) (he : starEach (e :: es) X.env = (false, eval e X.env) :: starEach es X.env)
    (hpl : ((backTo pos (starEach (e :: es) X.env)).any (·.1) || (backToKw pos (keywordEach kws X.env)).any (·.1.isNone)) = false) :
    PE X (.Call (.Name x p) (e :: es) kws pos) (tCallK sp gV E t tk) := by
  constructor
  intro pins s σ H Q I h
  apply wpAny_Call_Name_kw
  refine ld_glob I hg hm ?_ hdb
  refine PySem.W.callWith_KW (h₀ := X.base) I.ok.mod.kin hk hall (thn (ha.run pos pins s σ H _ I h) ?_) hpl he
  rintro us s1 ⟨vs, H1, I1, r, q⟩
  refine thn (hkw.run pos pins s1 σ H1 _ I1 q) ?_
  rintro ws s2 ⟨zs, H2, I2, rz, q2⟩
  refine ⟨I2.kIn, ?_⟩
  rw [hks]
  exact goes_fn F hA hr _ (fun s3 i l => hb.to s3 us ws i l) hx I2 (hb.rel r rz) q2
theorem pg_meth {pl : Sem Bool} (he : PE X o ta) (c : Cls X.K C) (hm : Meth X.K C m f) (F : FnG X.prog X.w X.K X.mg X.base CX k f fd ps sp) (hA : X.A.guards = some []) (hr : Room k X.A) (hb : Binds X.K fd ps ds) (hd : Vals dvs ds) (hx : Passes CX X E) (ha : PA X (e :: es) t)
    (hst : starEach (e :: es) X.env = (false, eval e X.env) :: starEach es X.env) (hpl : (backTo pos (starEach es X.env)).any (·.1) = false)
    (ht : eval (.Call (.Attribute o m apos) (e :: es) [] pos) X.env = (do let ov ← eval o X.env; standAt apos.atName; let (f, first) ← holding [ov] (getMethod ov m pl); callWith pos f first (backTo pos (starEach (e :: es) X.env)) (backToKw pos (keywordEach [] X.env)))) :
    PE X (.Call (.Attribute o m apos) (e :: es) [] pos) (tMeth C m sp dvs E ta t) := by
  constructor
  intro pins s σ H Q I h
  refine PySem.W.methodCall_KW (pl := pl) (thn (he.run pins s σ H _ I h) ?_) ht
  rintro u s1 ⟨y, H1, I1, rx, a, dx, fs, rfl, ea, l, q⟩
  obtain rfl : u = Value.ref a := rx
  refine getmeth_ok I1 ea c hm l ?_
  refine PySem.W.callWith_K (first := [.ref a]) (h₀ := X.base) I.ok.mod.kin hm.kp (thn (ha.run pos pins s1 σ H1 _ I1 q) ?_) hst hpl
  rintro us s2 ⟨vs, H2, I2, r, q2⟩
  exact ⟨I2.kIn, goes_fn (us := .ref a :: us) F hA hr [] (fun s3 i lg => hb s3 (.ref a :: us) i lg) hx I2 (Vals.append (xs := .ref a :: vs) (us := .ref a :: us) (.cons rfl r) hd) q2⟩
theorem pg_meth0 {pl : Sem Bool} (he : PE X o ta) (c : Cls X.K C) (hm : Meth X.K C m f) (F : FnG X.prog X.w X.K X.mg X.base CX k f fd ps sp) (hA : X.A.guards = some []) (hr : Room k X.A) (hb : Binds X.K fd ps ds) (hd : Vals dvs ds) (hx : Passes CX X E)
    (ht : eval (.Call (.Attribute o m apos) [] [] pos) X.env = (do let ov ← eval o X.env; standAt apos.atName; let (f, first) ← holding [ov] (getMethod ov m pl); callWith pos f first (backTo pos (starEach [] X.env)) (backToKw pos (keywordEach [] X.env)))) :
    PE X (.Call (.Attribute o m apos) [] [] pos) (tMeth C m sp dvs E ta tNil) := by
  constructor
  intro pins s σ H Q I h
  refine PySem.W.methodCall_KW (pl := pl) (thn (he.run pins s σ H _ I h) ?_) ht
  rintro u s1 ⟨y, H1, I1, rx, a, dx, fs, rfl, ea, l, q⟩
  obtain rfl : u = Value.ref a := rx
  refine getmeth_ok I1 ea c hm l ?_
  exact PySem.W.callWith_K0 (first := [.ref a]) I1.kIn hm.kp (goes_fn (us := [.ref a]) F hA hr [] (fun s3 i lg => hb s3 [.ref a] i lg) hx I1 (Vals.append (xs := [.ref a]) (us := [.ref a]) (.cons rfl .nil) hd) q)
theorem under_guards {A : Around} {us : List Value} {kw : List (Str × Value)} (h : A.guards = some []) : (A.under (.builtin "type.__call__" ⟨.ref C :: us, kw⟩)).guards = some [] := by
  simp [Around.under, Code.guards, Code.isGuard, guardIds, pushGuards, h]
theorem goes_make {pins : List (Addr × Obj)} {σ : L2.St} {H : Hp} {s : Shared} {Q : VK} {us : List Value} {vs : List V} (M : Mk X.K C f) (F : FnG X.prog X.w X.K X.mg X.base CX k f fd ps sp) (hA : X.A.guards = some []) (hr : Room (k + 1) X.A) (hb : Binds X.K fd ps ds) (hd : Vals dvs ds)
    (hx : Passes CX X E) (I : Inv X pins σ H s) (r : Vals vs us)
    (h : ∀ y dy, H y = none → H dy = none → dy ≠ y → sp (.ref y :: (vs ++ dvs)) (upd (upd H dy (.own y)) y (.ins C dy [])) (fun v H2 => v = .non ∧ Q (.ref y) H2) E) :
    wpAny (model X.prog X.w) X.A (call (.ref C) us) (EP X pins σ Q) X.xe s := by
  have nw : H (s.heap.objs.size + 1) = none := I.hok.fresh (Nat.le_succ _)
  have nd : H s.heap.objs.size = none := I.hok.fresh (Nat.le_refl _)
  have q0 := h (s.heap.objs.size + 1) s.heap.objs.size nw nd (Nat.ne_of_lt (Nat.lt_succ_self _))
  have J := Inv.made (C := C) I
  have r2 : Vals (V.ref (s.heap.objs.size + 1) :: (vs ++ dvs)) (Value.ref (s.heap.objs.size + 1) :: (us ++ ds)) := Paired.cons rfl (r.append hd)
  have lg : (Value.ref (s.heap.objs.size + 1) :: us ++ ds).length = ps.length := by
    have z := r2.length
    rw [F.many _ _ _ _ q0] at z
    exact z.symm
  refine wpAny_call (make_map (f := f) I.kIn M.makes M.init (beq_iff_eq.mp M.fn) (codeAny_mono (F.goes _ X.stack _ _ ⟨Value.ref (s.heap.objs.size + 1) :: us, []⟩ (Value.ref (s.heap.objs.size + 1) :: (us ++ ds)) _ _ E (under_guards hA) (hr.make C us [])
    (J.env0.make C us []) (hb _ (Value.ref (s.heap.objs.size + 1) :: us) J.kIn lg) r2 q0) ?_))
  intro res s' z
  match res, z with
  | .error er, z => exact hx pins σ _ _ er s' J z
  | .ok (.ret u), z =>
    obtain ⟨v, H', J', rv, ev, q3⟩ := J.after z
    subst ev
    exact ⟨rv, ⟨V.ref (s.heap.objs.size + 1), H', J', rfl, q3⟩⟩
  | .ok .next, z => exact z.elim
  | .ok .brk, z => exact z.elim
  | .ok .cont, z => exact z.elim
theorem pg_make (M : Mk X.K C f) (F : FnG X.prog X.w X.K X.mg X.base CX k f fd ps sp) (hA : X.A.guards = some []) (hr : Room (k + 1) X.A) (hg : Gl X x) (hm : X.mg x = some (.ref C)) (hb : Binds X.K fd ps ds) (hd : Vals dvs ds) (hx : Passes CX X E)
    (ha : PA X (e :: es) t) (hdb : (x == ("__debug__" : Str)) = false) (he : starEach (e :: es) X.env = (false, eval e X.env) :: starEach es X.env) (hpl : (backTo pos (starEach es X.env)).any (·.1) = false) :
    PE X (.Call (.Name x p) (e :: es) [] pos) (tMake C sp dvs E t) := by
  constructor
  intro pins s σ H Q I h
  apply wpAny_Call_Name_kw
  refine ld_glob I hg hm ?_ hdb
  refine PySem.W.callWith_K (h₀ := X.base) I.ok.mod.kin M.kp (thn (ha.run pos pins s σ H _ I h) ?_) he hpl
  rintro us s1 ⟨vs, H1, I1, r, q⟩
  exact ⟨I1.kIn, goes_make M F hA hr hb hd hx I1 r q⟩
end
end DL
end
section
set_option Elab.async false
set_option linter.all false
set_option maxRecDepth 100000
set_option maxHeartbeats 4000000
/-! DL3: operators by values, tests, statements, loops, calls of defs. -/
namespace DL
open PySem PySem.Spec PyProof.Rows L2

section
variable {X : Cx} {pos : Pos}
abbrev DR2 := D → D → GH → DQ → Prop
abbrev DR1 := D → GH → DQ → Prop
structure OpD (X : Cx) (f : Value → Value → Sem Value) (r' : DR2) : Prop where
  ex : ∃ r, OpR X f r ∧ ∀ F H G x y dx dy, Gok X.K F H G → Rep X.K F x dx → Rep X.K F y dy → ∀ Q', r' dx dy G Q' → ∀ Q, KpE X.K F H G Q' Q → r x y H Q
structure UnD (X : Cx) (f : Value → Sem Value) (r' : DR1) : Prop where
  ex : ∃ r, UnR X f r ∧ ∀ F H G x dx, Gok X.K F H G → Rep X.K F x dx → ∀ Q', r' dx G Q' → ∀ Q, KpE X.K F H G Q' Q → r x H Q
structure CallD (X : Cx) (f : Value) (r' : List D → GH → DQ → Prop) : Prop where
  ex : ∃ r, CallR X f r ∧ ∀ F H G vs ds, Gok X.K F H G → Reps X.K F vs ds → ∀ Q', r' ds G Q' → ∀ Q, KpE X.K F H G Q' Q → r vs H Q
def dOp (r : DR2) (ta tb : DTE) : DTE := fun S G Q => ta S G fun x G1 => tb S G1 fun y G2 => r x y G2 Q
def dUn (r : DR1) (ta : DTE) : DTE := fun S G Q => ta S G fun x G1 => r x G1 Q
theorem dop_of {a b : Expr} {ta tb : DTE} {r : R2} {r' : DR2} (hr : ∀ F H G x y dx dy, Gok X.K F H G → Rep X.K F x dx → Rep X.K F y dy → ∀ Q', r' dx dy G Q' → ∀ Q, KpE X.K F H G Q' Q → r x y H Q)
    {t1 t2 : TE} (r1 : ∀ F H σ S G, Ok X.K F H σ S G → ∀ Q', ta S G Q' → ∀ Q, KpE X.K F H G Q' Q → t1 σ H Q) (r2 : ∀ F H σ S G, Ok X.K F H σ S G → ∀ Q', tb S G Q' → ∀ Q, KpE X.K F H G Q' Q → t2 σ H Q) :
    ∀ F H σ S G, Ok X.K F H σ S G → ∀ Q', dOp r' ta tb S G Q' → ∀ Q, KpE X.K F H G Q' Q → tOp r t1 t2 σ H Q := fun F H σ S G o Q' h Q k => by
  refine r1 F H σ S G o _ h _ fun F1 H1 v d G1 e1 g1 q1 h1 => ?_
  refine r2 F1 H1 σ S G1 (o.go e1 g1) _ h1 _ fun F2 H2 u d2 G2 e2 g2 q2 h2 => ?_
  exact hr F2 H2 G2 v u d d2 g2 (q1.mono e2.ex) q2 Q' h2 Q (k.mono (e1.trans e2))
theorem de_op {op : Operator} {r' : DR2} {a b : Expr} {ta tb : DTE} (ho : OpD X (binaryOp op) r') (ha : DE X a ta) (hb : DE X b tb) : DE X (.BinOp a op b pos) (dOp r' ta tb) := by
  obtain ⟨r, p, hr⟩ := ho.ex
  obtain ⟨t1, p1, r1⟩ := ha.ex
  obtain ⟨t2, p2, r2⟩ := hb.ex
  exact ⟨_, pe_op p p1 p2, dop_of (a := a) (b := b) hr r1 r2⟩
theorem de_cmp {op : CmpOp} {r' : DR2} {a b : Expr} {ta tb : DTE} (ho : OpD X (compareOp op) r') (ha : DE X a ta) (hb : DE X b tb) (hm : behindInMarks op b = false) : DE X (.Compare a [op] [b] pos) (dOp r' ta tb) := by
  obtain ⟨r, p, hr⟩ := ho.ex
  obtain ⟨t1, p1, r1⟩ := ha.ex
  obtain ⟨t2, p2, r2⟩ := hb.ex
  exact ⟨_, pe_cmpR p p1 p2 hm, dop_of (a := a) (b := b) hr r1 r2⟩
theorem de_un {op : UnaryOp} {r' : DR1} {a : Expr} {ta : DTE} (ho : UnD X (unaryOp op) r') (ha : DE X a ta) : DE X (.UnaryOp op a pos) (dUn r' ta) := by
  obtain ⟨r, p, hr⟩ := ho.ex
  obtain ⟨t1, p1, r1⟩ := ha.ex
  refine ⟨_, pe_un p p1, fun F H σ S G o Q' h Q k => ?_⟩
  refine r1 F H σ S G o _ h _ fun F1 H1 v d G1 e1 g1 q1 h1 => ?_
  exact hr F1 H1 G1 v d g1 q1 Q' h1 Q (k.mono e1)
/-- a value that is a bool, as a test -/
def dTest (ta : DTE) : DTT := fun S G Q => ta S G fun d G1 => match d with
  | .bl b => Q b G1
  | _ => False
theorem dt_cmp {op : CmpOp} {r' : DR2} {a b : Expr} {ta tb : DTE} (ho : OpD X (compareOp op) r') (ha : DE X a ta) (hb : DE X b tb) (hm : behindInMarks op b = false) : DT X (.Compare a [op] [b] pos) (dTest (dOp r' ta tb)) := by
  obtain ⟨r, p, hr⟩ := ho.ex
  obtain ⟨t1, p1, r1⟩ := ha.ex
  obtain ⟨t2, p2, r2⟩ := hb.ex
  refine ⟨_, pt_cmpR p p1 p2 hm, fun F H σ S G o Q' h Q k => ?_⟩
  refine dop_of (a := a) (b := b) hr r1 r2 F H σ S G o _ h _ fun F1 H1 v d G1 e1 g1 q1 h1 => ?_
  dsimp only at h1
  split at h1
  · cases q1
    exact ⟨_, rfl, k F1 H1 _ G1 e1 g1 h1⟩
  · exact h1.elim
theorem dt_val {e : Expr} {ta : DTE} (h : DE X e ta) (he : ∀ whole, isTrue e X.env whole = (do let v ← whole; standAt e.pos; holding [v] (truthy v)) := by intro _; rfl) : DT X e (dTest ta) := by
  obtain ⟨t1, p1, r1⟩ := h.ex
  refine ⟨_, pt_val p1 he, fun F H σ S G o Q' h Q k => ?_⟩
  refine r1 F H σ S G o _ h _ fun F1 H1 v d G1 e1 g1 q1 h1 => ?_
  dsimp only at h1
  split at h1
  · cases q1
    exact ⟨_, rfl, k F1 H1 _ G1 e1 g1 h1⟩
  · exact h1.elim
def dNot (t : DTT) : DTT := fun S G Q => t S G fun b G1 => Q (!b) G1
theorem dt_not {a : Expr} {t' : DTT} (h : DT X a t') : DT X (.UnaryOp .Not a pos) (dNot t') := by
  obtain ⟨t1, p1, r1⟩ := h.ex
  exact ⟨_, pt_not p1, fun F H σ S G o Q' h Q k => r1 F H σ S G o _ h _ fun F1 H1 b G1 e1 g1 h1 => k F1 H1 _ G1 e1 g1 h1⟩
theorem DW.dt {e : Expr} {t' : DTT} (h : DW X e t') : DT X e t' := by
  obtain ⟨t1, p1, r1⟩ := h.ex
  exact ⟨_, p1.pt, r1⟩
def dAnd (t u : DTT) : DTT := fun S G Q => t S G fun b G1 => if b = true then u S G1 Q else Q false G1
def dOr (t u : DTT) : DTT := fun S G Q => t S G fun b G1 => if b = true then Q true G1 else u S G1 Q
theorem dw_and1 {a : Expr} {t' : DTT} (h : DT X a t') : DW X (.BoolOp .And [a] pos) t' := by
  obtain ⟨t1, p1, r1⟩ := h.ex
  exact ⟨_, pw_and1 p1, r1⟩
theorem dw_or1 {a : Expr} {t' : DTT} (h : DT X a t') : DW X (.BoolOp .Or [a] pos) t' := by
  obtain ⟨t1, p1, r1⟩ := h.ex
  exact ⟨_, pw_or1 p1, r1⟩
theorem dw_and {a b : Expr} {rest : List Expr} {t' u' : DTT} (h : DT X a t') (h2 : DW X (.BoolOp .And (b :: rest) pos) u') : DW X (.BoolOp .And (a :: b :: rest) pos) (dAnd t' u') := by
  obtain ⟨t1, p1, r1⟩ := h.ex
  obtain ⟨t2, p2, r2⟩ := h2.ex
  refine ⟨_, pw_and p1 p2, fun F H σ S G o Q' h Q k => ?_⟩
  refine r1 F H σ S G o _ h _ fun F1 H1 b G1 e1 g1 h1 => ?_
  cases b with
  | true =>
    rw [if_pos rfl] at h1 ⊢
    exact r2 F1 H1 σ S G1 (o.go e1 g1) _ h1 _ (k.mono e1)
  | false =>
    rw [if_neg Bool.false_ne_true] at h1 ⊢
    exact k F1 H1 _ G1 e1 g1 h1
theorem dw_or {a b : Expr} {rest : List Expr} {t' u' : DTT} (h : DT X a t') (h2 : DW X (.BoolOp .Or (b :: rest) pos) u') : DW X (.BoolOp .Or (a :: b :: rest) pos) (dOr t' u') := by
  obtain ⟨t1, p1, r1⟩ := h.ex
  obtain ⟨t2, p2, r2⟩ := h2.ex
  refine ⟨_, pw_or p1 p2, fun F H σ S G o Q' h Q k => ?_⟩
  refine r1 F H σ S G o _ h _ fun F1 H1 b G1 e1 g1 h1 => ?_
  cases b with
  | true =>
    rw [if_pos rfl] at h1 ⊢
    exact k F1 H1 _ G1 e1 g1 h1
  | false =>
    rw [if_neg Bool.false_ne_true] at h1 ⊢
    exact r2 F1 H1 σ S G1 (o.go e1 g1) _ h1 _ (k.mono e1)
def dIf (t : DTT) (ta tb : DTE) : DTE := fun S G Q => t S G fun b G1 => if b = true then ta S G1 Q else tb S G1 Q
theorem de_if {c a b : Expr} {t' : DTT} {ta tb : DTE} (hc : DT X c t') (ha : DE X a ta) (hb : DE X b tb) : DE X (.IfExp c a b pos) (dIf t' ta tb) := by
  obtain ⟨t0, p0, r0⟩ := hc.ex
  obtain ⟨t1, p1, r1⟩ := ha.ex
  obtain ⟨t2, p2, r2⟩ := hb.ex
  refine ⟨_, pe_ifExp p0 p1 p2, fun F H σ S G o Q' h Q k => ?_⟩
  refine r0 F H σ S G o _ h _ fun F1 H1 b G1 e1 g1 h1 => ?_
  cases b with
  | true =>
    rw [if_pos rfl] at h1 ⊢
    exact r1 F1 H1 σ S G1 (o.go e1 g1) _ h1 _ (k.mono e1)
  | false =>
    rw [if_neg Bool.false_ne_true] at h1 ⊢
    exact r2 F1 H1 σ S G1 (o.go e1 g1) _ h1 _ (k.mono e1)
/-- and, or, not as values: bools -/
def dAndV (ta tb : DTE) : DTE := fun S G Q => ta S G fun d G1 => match d with
  | .bl b => if b = true then tb S G1 Q else Q (.bl false) G1
  | _ => False
def dOrV (ta tb : DTE) : DTE := fun S G Q => ta S G fun d G1 => match d with
  | .bl b => if b = true then Q (.bl true) G1 else tb S G1 Q
  | _ => False
def dNotV (ta : DTE) : DTE := fun S G Q => ta S G fun d G1 => match d with
  | .bl b => Q (.bl (!b)) G1
  | _ => False
theorem de_one {op} {a : Expr} {ta : DTE} (h : DE X a ta) : DE X (.BoolOp op [a] pos) ta := by
  obtain ⟨t1, p1, r1⟩ := h.ex
  exact ⟨_, pe_one p1, r1⟩
theorem de_and {a b : Expr} {rest : List Expr} {ta tb : DTE} (ha : DE X a ta) (hb : DE X (.BoolOp .And (b :: rest) pos) tb) : DE X (.BoolOp .And (a :: b :: rest) pos) (dAndV ta tb) := by
  obtain ⟨t1, p1, r1⟩ := ha.ex
  obtain ⟨t2, p2, r2⟩ := hb.ex
  refine ⟨_, pe_and p1 p2, fun F H σ S G o Q' h Q k => ?_⟩
  refine r1 F H σ S G o _ h _ fun F1 H1 v d G1 e1 g1 q1 h1 => ?_
  dsimp only at h1
  split at h1
  · rename_i b0
    cases q1
    refine ⟨b0, rfl, ?_⟩
    cases b0 with
    | true =>
      rw [if_pos rfl] at h1 ⊢
      exact r2 F1 H1 σ S G1 (o.go e1 g1) _ h1 _ (k.mono e1)
    | false =>
      rw [if_neg Bool.false_ne_true] at h1 ⊢
      exact k F1 H1 _ _ G1 e1 g1 (.bl _) h1
  · exact h1.elim
theorem de_or {a b : Expr} {rest : List Expr} {ta tb : DTE} (ha : DE X a ta) (hb : DE X (.BoolOp .Or (b :: rest) pos) tb) : DE X (.BoolOp .Or (a :: b :: rest) pos) (dOrV ta tb) := by
  obtain ⟨t1, p1, r1⟩ := ha.ex
  obtain ⟨t2, p2, r2⟩ := hb.ex
  refine ⟨_, pe_or p1 p2, fun F H σ S G o Q' h Q k => ?_⟩
  refine r1 F H σ S G o _ h _ fun F1 H1 v d G1 e1 g1 q1 h1 => ?_
  dsimp only at h1
  split at h1
  · rename_i b0
    cases q1
    refine ⟨b0, rfl, ?_⟩
    cases b0 with
    | true =>
      rw [if_pos rfl] at h1 ⊢
      exact k F1 H1 _ _ G1 e1 g1 (.bl _) h1
    | false =>
      rw [if_neg Bool.false_ne_true] at h1 ⊢
      exact r2 F1 H1 σ S G1 (o.go e1 g1) _ h1 _ (k.mono e1)
  · exact h1.elim
theorem de_not {a : Expr} {ta : DTE} (ha : DE X a ta) : DE X (.UnaryOp .Not a pos) (dNotV ta) := by
  obtain ⟨t1, p1, r1⟩ := ha.ex
  refine ⟨_, pe_not p1, fun F H σ S G o Q' h Q k => ?_⟩
  refine r1 F H σ S G o _ h _ fun F1 H1 v d G1 e1 g1 q1 h1 => ?_
  dsimp only at h1
  split at h1
  · rename_i b0
    cases q1
    exact ⟨b0, rfl, k F1 H1 _ _ G1 e1 g1 (.bl _) h1⟩
  · exact h1.elim

/-! ### targets -/
abbrev DTG := D → DS → GH → (DS → GH → Prop) → Prop
abbrev DTGs := List D → DS → GH → (DS → GH → Prop) → Prop
structure DG (X : Cx) (tg : Expr) (g' : DTG) : Prop where
  ex : ∃ g, PG X tg g ∧ ∀ F H σ S G v d, Ok X.K F H σ S G → Rep X.K F v d → ∀ Q', g' d S G Q' → ∀ Q, KpN X.K F H G Q' Q → g v σ H Q
structure DGs (X : Cx) (tgs : List Expr) (g' : DTGs) : Prop where
  ex : ∃ g, PGs X tgs g ∧ ∀ F H σ S G vs ds, Ok X.K F H σ S G → Reps X.K F vs ds → ∀ Q', g' ds S G Q' → ∀ Q, KpN X.K F H G Q' Q → g vs σ H Q
def dgName (i : Nat) : DTG := fun d S G Q => Q (S.set i (some d)) G
theorem dg_name (i : Nat) {x : Str} (hN : X.N.Nodup) (hi : X.N[i]? = some x := by rfl) (hx : Loc X.env.scope x := by first | exact Or.inl rfl | exact Or.inr rfl) (hf : X.fn x = true ∨ X.env.scope.names.lookup x = some .local := by first | exact .inl rfl | exact .inr rfl | assumption) : DG X (.Name x pos) (dgName i) :=
  ⟨_, pg_name (i := i) hN hi hx hf, fun F H σ S G v d o r Q' h Q k => k F H _ _ G Go.refl ⟨o.g, o.s.set r i⟩ h⟩
def dgNil : DTGs := fun ds S G Q => match ds with
  | [] => Q S G
  | _ => False
def dgCons (t : DTG) (u : DTGs) : DTGs := fun ds S G Q => match ds with
  | d :: r => t d S G fun S1 G1 => u r S1 G1 Q
  | _ => False
theorem dgs_nil : DGs X [] dgNil := ⟨_, pgs_nil, fun F H σ S G vs ds o r Q' h Q k => by
  cases r with
  | nil => exact ⟨rfl, k F H σ S G Go.refl o h⟩
  | cons a b => exact h.elim⟩
theorem dgs_cons {e : Expr} {es : List Expr} {t : DTG} {u : DTGs} (h1 : DG X e t) (h2 : DGs X es u) (hs : (assignEach (e :: es) X.env).map (·.2) = assign e X.env :: (assignEach es X.env).map (·.2) := by rfl) : DGs X (e :: es) (dgCons t u) := by
  obtain ⟨t1, p1, r1⟩ := h1.ex
  obtain ⟨t2, p2, r2⟩ := h2.ex
  refine ⟨_, pgs_cons p1 p2 hs, fun F H σ S G vs ds o r Q' h Q k => ?_⟩
  cases r with
  | nil => exact h.elim
  | cons a b =>
    refine ⟨_, _, rfl, r1 F H σ S G _ _ o a _ h _ fun F1 H1 σ1 S1 G1 e1 o1 h1 => ?_⟩
    exact r2 F1 H1 σ1 S1 G1 _ _ o1 (b.mono e1.ex) _ h1 _ (k.mono e1)
def dgTup (n : Nat) (u : DTGs) : DTG := fun d S G Q => match d with
  | .tup ds => ds.length = n ∧ u ds S G Q
  | _ => False
theorem dg_tup {es : List Expr} {k : Nat} {u : DTGs} {n : Nat} (hc : X.calm = true) (h : DGs X es u) (hn : (assignEach es X.env).length = n := by rfl) (hst : (assignEach es X.env).findIdx? (·.1) = none := by rfl) : DG X (.Tuple es k pos) (dgTup n u) := by
  obtain ⟨t1, p1, r1⟩ := h.ex
  refine ⟨_, pg_tup hc p1 hn hst, fun F H σ S G v d o r Q' h Q k => ?_⟩
  cases r with
  | tup hs hr =>
    refine ⟨_, _, rfl, .inl (.inl (o.g.ex _ _ hs)), by rw [hr.length]; exact h.1, ?_⟩
    exact r1 F H σ S G _ _ o hr _ h.2 _ k
  | _ => exact h.elim

/-! ### statements -/
def dNext : DTS := fun D' S G => D'.nx S G
def dSeq (t u : DTS) : DTS := fun D' S G => t { D' with nx := u D' } S G
def dAsg (te : DTE) (g : DTG) : DTS := fun D' S G => te S G fun d G1 => g d S G1 D'.nx
def dDrop (te : DTE) : DTS := fun D' S G => te S G fun _ G1 => D'.nx S G1
def dRet (te : DTE) : DTS := fun D' S G => te S G D'.rt
def dRetN : DTS := fun D' _ G => D'.rt .non G
def dIfS (c : DTT) (t u : DTS) : DTS := fun D' S G => c S G fun b G1 => if b = true then t D' S G1 else u D' S G1
def dNever : DTS := fun _ _ _ => False
def dBreak : DTS := fun D' S G => D'.bk S G
def dCont : DTS := fun D' S G => D'.ct S G
theorem dps_nil : DPs X [] dNext := ⟨_, pss_nil, fun F H σ S G o D' h D0 k => k.nx F H σ S G Go.refl o h⟩
theorem dps_cons {st : Stmt} {rest : List Stmt} {t u : DTS} (h1 : DP X st t) (h2 : DPs X rest u) : DPs X (st :: rest) (dSeq t u) := by
  obtain ⟨t1, p1, r1⟩ := h1.ex
  obtain ⟨t2, p2, r2⟩ := h2.ex
  refine ⟨_, pss_cons p1 p2, fun F H σ S G o D' h D0 k => ?_⟩
  exact r1 F H σ S G o _ h _ ⟨fun F1 H1 σ1 S1 G1 e1 o1 h1 => r2 F1 H1 σ1 S1 G1 o1 _ h1 _ (k.mono e1), k.rt, k.bk, k.ct⟩
theorem dps_one {st : Stmt} {t : DTS} (h1 : DP X st t) : DPs X [st] t := by
  obtain ⟨t1, p1, r1⟩ := h1.ex
  exact ⟨_, pss_one p1, r1⟩
theorem dp_asg {tg e : Expr} {te : DTE} {g : DTG} (he : DE X e te) (hg : DG X tg g) (hs : swapsWithSole [tg] e pos.line X.env = pure false := by rfl) (hw : swappedStores [tg] e X.env = pure none := by rfl)
    (h1 : (assignEach [tg] X.env).map (·.2) = [assign tg X.env] := by rfl) : DP X (.Assign [tg] e pos) (dAsg te g) := by
  obtain ⟨t1, p1, r1⟩ := he.ex
  obtain ⟨t2, p2, r2⟩ := hg.ex
  refine ⟨_, ps_asg p1 p2 hs hw h1, fun F H σ S G o D' h D0 k => ?_⟩
  refine r1 F H σ S G o _ h _ fun F1 H1 v d G1 e1 g1 q1 h1 => ?_
  exact r2 F1 H1 σ S G1 v d (o.go e1 g1) q1 _ h1 _ (k.nx.mono e1)
theorem dp_expr {e : Expr} {te : DTE} (he : DE X e te) (hs : swapsWith e none pos.line X.env = pure false := by rfl) : DP X (.Expr e pos) (dDrop te) := by
  obtain ⟨t1, p1, r1⟩ := he.ex
  refine ⟨_, ps_expr p1 hs, fun F H σ S G o D' h D0 k => ?_⟩
  exact r1 F H σ S G o _ h _ fun F1 H1 v d G1 e1 g1 q1 h1 => k.nx F1 H1 σ S G1 e1 (o.go e1 g1) h1
theorem dp_ret {e : Expr} {te : DTE} (he : DE X e te) : DP X (.Return (some e) pos) (dRet te) := by
  obtain ⟨t1, p1, r1⟩ := he.ex
  exact ⟨_, ps_ret p1, fun F H σ S G o D' h D0 k => r1 F H σ S G o _ h _ k.rt⟩
theorem dp_retN : DP X (.Return none pos) dRetN := ⟨_, ps_retN, fun F H σ S G o D' h D0 k => k.rt F H _ _ G Go.refl o.g .non h⟩
theorem dp_if {c : Expr} {a b : List Stmt} {tc : DTT} {t u : DTS} (hc : DT X c tc) (ha : DPs X a t) (hb : DPs X b u) : DP X (.If c a b pos) (dIfS tc t u) := by
  obtain ⟨t0, p0, r0⟩ := hc.ex
  obtain ⟨t1, p1, r1⟩ := ha.ex
  obtain ⟨t2, p2, r2⟩ := hb.ex
  refine ⟨_, ps_if p0 p1 p2, fun F H σ S G o D' h D0 k => ?_⟩
  refine r0 F H σ S G o _ h _ fun F1 H1 b G1 e1 g1 h1 => ?_
  cases b with
  | true =>
    rw [if_pos rfl] at h1 ⊢
    exact r1 F1 H1 σ S G1 (o.go e1 g1) _ h1 _ (k.mono e1)
  | false =>
    rw [if_neg Bool.false_ne_true] at h1 ⊢
    exact r2 F1 H1 σ S G1 (o.go e1 g1) _ h1 _ (k.mono e1)
theorem dp_never {st : Stmt} : DP X st dNever := ⟨_, ps_never, fun F H σ S G o D' h D0 k => h.elim⟩
theorem dps_never {st : List Stmt} : DPs X st dNever := ⟨_, pss_never, fun F H σ S G o D' h D0 k => h.elim⟩
theorem dp_pass : DP X (.Pass pos) dNext := ⟨_, ps_pass, fun F H σ S G o D' h D0 k => k.nx F H σ S G Go.refl o h⟩
theorem dp_break : DP X (.Break pos) dBreak := ⟨_, ps_break, fun F H σ S G o D' h D0 k => k.bk F H σ S G Go.refl o h⟩
theorem dp_continue : DP X (.Continue pos) dCont := ⟨_, ps_continue, fun F H σ S G o D' h D0 k => k.ct F H σ S G Go.refl o h⟩

/-! ### while -/
def dWhile (c : DTT) (tb : DTS) : DTS := fun D' S G => ∃ W : Nat → DS → GH → Prop, (∃ m, W m S G) ∧ ∀ m S G, W m S G →
  c S G fun b G1 => if b = true then tb { D' with nx := fun S' G' => ∃ m', m' < m ∧ W m' S' G', ct := fun S' G' => ∃ m', m' < m ∧ W m' S' G', bk := D'.nx } S G1 else D'.nx S G1
theorem dp_while {c : Expr} {body : List Stmt} {tc : DTT} {tb : DTS} (hp : PassesOwn (model X.prog X.w) X.A X.env X.xe) (hc : DT X c tc) (hb : DPs X body tb) : DP X (.While c body [] pos) (dWhile tc tb) := by
  obtain ⟨t0, p0, r0⟩ := hc.ex
  obtain ⟨t1, p1, r1⟩ := hb.ex
  refine ⟨_, ps_while hp p0 p1, fun F H σ S G o D' h D0 k => ?_⟩
  obtain ⟨W, ⟨m0, w0⟩, turn⟩ := h
  refine ⟨fun m σ1 H1 => ∃ F1 S1 G1, Go F H G F1 H1 G1 ∧ Ok X.K F1 H1 σ1 S1 G1 ∧ W m S1 G1, ⟨m0, F, S, G, Go.refl, o, w0⟩, fun m σ1 H1 ⟨F1, S1, G1, e1, o1, w1⟩ => ?_⟩
  refine r0 F1 H1 σ1 S1 G1 o1 _ (turn m S1 G1 w1) _ fun F2 H2 b G2 e2 g2 h2 => ?_
  cases b with
  | true =>
    rw [if_pos rfl] at h2 ⊢
    refine ⟨fun σ3 H3 => ∃ m', m' < m ∧ ∃ F3 S3 G3, Go F H G F3 H3 G3 ∧ Ok X.K F3 H3 σ3 S3 G3 ∧ W m' S3 G3, fun σ3 H3 z => z, ?_⟩
    have kk := k.mono (e1.trans e2)
    have nn : KpN X.K F2 H2 G2 (fun S' G' => ∃ m', m' < m ∧ W m' S' G') (fun σ3 H3 => ∃ m', m' < m ∧ ∃ F3 S3 G3, Go F H G F3 H3 G3 ∧ Ok X.K F3 H3 σ3 S3 G3 ∧ W m' S3 G3) := fun F3 H3 σ3 S3 G3 e3 o3 ⟨m', hm, w3⟩ => ⟨m', hm, F3, S3, G3, (e1.trans e2).trans e3, o3, w3⟩
    exact r1 F2 H2 σ1 S1 G2 (o1.go e2 g2) _ h2 _ ⟨nn, kk.rt, kk.nx, nn⟩
  | false =>
    rw [if_neg Bool.false_ne_true] at h2 ⊢
    exact k.nx F2 H2 σ1 S1 G2 (e1.trans e2) (o1.go e2 g2) h2

/-! ### for -/
structure ItOk (K : PySem.W.Frag) (F : Hp) (J : It) (ds : List D) (gd : GH → Prop) : Prop where
  go : ∀ F1 H1 G1 (i : Nat) d, Ex F F1 → Gok K F1 H1 G1 → gd G1 → ds[i]? = some d → J.go i H1 ∧ ∀ x H2, J.yld i H1 x H2 → ∃ F2, Go F1 H1 G1 F2 H2 G1 ∧ Gok K F2 H2 G1 ∧ Rep K F2 x d
  stop : ∀ F1 H1 G1, Ex F F1 → Gok K F1 H1 G1 → gd G1 → J.stop ds.length H1
abbrev DTI := DS → GH → (List D → (GH → Prop) → GH → Prop) → Prop
structure DI (X : Cx) (tg iter : Expr) (wi' : DTI) : Prop where
  ex : ∃ wi, PI X tg iter wi ∧ ∀ F H σ S G, Ok X.K F H σ S G → ∀ R', wi' S G R' → ∀ R : It → Hp → Prop, (∀ F1 H1 G1 J ds gd, Go F H G F1 H1 G1 → Gok X.K F1 H1 G1 → ItOk X.K F1 J ds gd → R' ds gd G1 → R J H1) → wi σ H R
def dFor (wi : DTI) (g : DTG) (tb : DTS) : DTS := fun D' S G => wi S G fun ds gd G1 => ∃ W : Nat → DS → GH → Prop, W 0 S G1 ∧ (∀ i S G, W i S G → gd G) ∧
  (∀ i S G d, W i S G → ds[i]? = some d → g d S G fun S2 G2 => tb { D' with nx := W (i + 1), ct := W (i + 1), bk := D'.nx } S2 G2) ∧ (∀ S G, W ds.length S G → D'.nx S G)
theorem dp_for {tg iter : Expr} {body : List Stmt} {wi : DTI} {g : DTG} {tb : DTS} (hp : PassesOwn (model X.prog X.w) X.A X.env X.xe) (hc : X.calm = true) (hi : DI X tg iter wi) (hg : DG X tg g) (hb : DPs X body tb)
    (hs : ∀ x, foldedSetIterable iter X.env x = pure x := by intro _; rfl) : DP X (.For tg iter body [] pos) (dFor wi g tb) := by
  obtain ⟨t0, p0, r0⟩ := hi.ex
  obtain ⟨t1, p1, r1⟩ := hg.ex
  obtain ⟨t2, p2, r2⟩ := hb.ex
  refine ⟨_, ps_for hp hc p0 p1 p2 hs, fun F H σ S G o D' h D0 k => ?_⟩
  refine r0 F H σ S G o _ h _ fun F1 H1 G1 J ds gd e1 g1 it h1 => ?_
  obtain ⟨W, w0, wg, turn, done⟩ := h1
  refine ⟨fun i m σ2 H2 => i + m = ds.length ∧ ∃ F2 S2 G2, Go F1 H1 G1 F2 H2 G2 ∧ Ok X.K F2 H2 σ2 S2 G2 ∧ W i S2 G2, ⟨ds.length, Nat.zero_add _, F1, S, G1, Go.refl, o.go e1 g1, w0⟩, ?_⟩
  rintro i m σ2 H2 ⟨him, F2, S2, G2, e2, o2, w2⟩
  have gg := wg i S2 G2 w2
  cases m with
  | zero =>
    have hi : i = ds.length := him
    refine .inl ⟨hi ▸ it.stop F2 H2 G2 e2.ex o2.g gg, k.nx F2 H2 σ2 S2 G2 (e1.trans e2) o2 (done S2 G2 (hi ▸ w2))⟩
  | succ m =>
    have hlt : i < ds.length := by omega
    have hd : ds[i]? = some ds[i] := List.getElem?_eq_getElem hlt
    obtain ⟨ig, iy⟩ := it.go F2 H2 G2 i _ e2.ex o2.g gg hd
    refine .inr ⟨ig, fun σ3 H3 => ∃ F3 S3 G3, Go F1 H1 G1 F3 H3 G3 ∧ Ok X.K F3 H3 σ3 S3 G3 ∧ W (i + 1) S3 G3, fun σ3 H3 z => ⟨m, Nat.lt_succ_self m, by omega, z⟩, fun x H3 hy => ?_⟩
    obtain ⟨F3, e3, g3, q3⟩ := iy x H3 hy
    refine r1 F3 H3 σ2 S2 G2 x _ (o2.go e3 g3) q3 _ (turn i S2 G2 _ w2 hd) _ fun F4 H4 σ4 S4 G4 e4 o4 h4 => ?_
    have kk := k.mono (((e1.trans e2).trans e3).trans e4)
    have nn : KpN X.K F4 H4 G4 (W (i + 1)) (fun σ3 H3 => ∃ F3 S3 G3, Go F1 H1 G1 F3 H3 G3 ∧ Ok X.K F3 H3 σ3 S3 G3 ∧ W (i + 1) S3 G3) := fun F5 H5 σ5 S5 G5 e5 o5 w5 => ⟨F5, S5, G5, ((e2.trans e3).trans e4).trans e5, o5, w5⟩
    exact r2 F4 H4 σ4 S4 G4 o4 _ h4 _ ⟨nn, kk.rt, kk.nx, nn⟩

/-! ### a def's promise -/
abbrev SpD := List D → GH → DQ → Prop
def SpOf (K : PySem.W.Frag) (sp : SpD) : Sp := fun vs H Q _ => ∃ F G ds Q', Gok K F H G ∧ Reps K F vs ds ∧ sp ds G Q' ∧ KpE K F H G Q' Q
def dCall (sp : SpD) (ta : DTA) : DTE := fun S G Q => ta S G fun ds G1 => sp ds G1 Q
theorem de_call {k : Nat} {f : Addr} {fd : FuncData} {ps : List Str} {sp : SpD} {x : Str} {p : Pos} {e : Expr} {es : List Expr} {ta : DTA} (Fn : FnG X.prog X.w X.K X.mg X.base CX0 k f fd ps (SpOf X.K sp)) (hA : X.A.guards = some []) (hr : Room k X.A) (hg : Gl X x) (hm : X.mg x = some (.ref f)) (hk : PySem.W.keepIn X.K (.ref f) = true) (hb : Binds X.K fd ps [])
    (ha : DA X (e :: es) ta) (hdb : (x == ("__debug__" : Str)) = false := by decide) (he : starEach (e :: es) X.env = (false, eval e X.env) :: starEach es X.env := by rfl) (hpl : (backTo pos (starEach es X.env)).any (·.1) = false := by rfl) :
    DE X (.Call (.Name x p) (e :: es) [] pos) (dCall sp ta) := by
  obtain ⟨t1, p1, r1⟩ := ha.ex
  refine ⟨_, pg_call Fn hA hr hg hm hk hb .nil pass0 p1 hdb he hpl, fun F H σ S G o Q' h Q k => ?_⟩
  refine r1 F H σ S G o _ h _ fun F1 H1 vs ds G1 e1 g1 q1 h1 => ?_
  rw [List.append_nil]
  exact ⟨F1, G1, ds, Q', g1, q1, h1, k.mono e1⟩
theorem de_call0 {k : Nat} {f : Addr} {fd : FuncData} {ps : List Str} {sp : SpD} {x : Str} {p : Pos} (Fn : FnG X.prog X.w X.K X.mg X.base CX0 k f fd ps (SpOf X.K sp)) (hA : X.A.guards = some []) (hr : Room k X.A) (hg : Gl X x) (hm : X.mg x = some (.ref f)) (hk : PySem.W.keepIn X.K (.ref f) = true) (hb : Binds X.K fd ps [])
    (hdb : (x == ("__debug__" : Str)) = false := by decide) : DE X (.Call (.Name x p) [] [] pos) (dCall sp dNil) :=
  ⟨_, pg_call0 Fn hA hr hg hm hk hb .nil pass0 hdb, fun F H σ S G o Q' h Q k => ⟨F, G, [], Q', o.g, .nil, h, k⟩⟩
end
/-- what is wanted at a def's end: its own things may be forgotten -/
def fin (Q : DQ) : DEnds := { nx := fun _ G' => ∃ G0, Sub G0 G' ∧ Q .non G0, rt := fun d G' => ∃ G0, Sub G0 G' ∧ Q d G0 }
theorem fn_mk {P : Program} {w : World} {K : PySem.W.Frag} {mg : Str → Option Value} {base : Heap} {x qual : Str} {st : Stmt} {f : Addr} {fd : FuncData} {N ps : List Str} {k : Nat} {sp : SpD} (Fu : Fun K x qual st f fd) (sc : FnScope N ps (defScope st))
    (len : ∀ ds G Q, sp ds G Q → ds.length = ps.length)
    (hb : ∀ (cdv : Value) (A : Around) (outer : List Env) (s : Shared) (H : Hp) (E : XK), A.guards = some [] → Room k (A.deeper (envOfC qual (defScope st) s.heap.objs.size f cdv)) →
      ∃ t', DPs (cxOf CX0 P w K mg base N qual (defScope st) f cdv A outer s H E).nox (defBody st) t' ∧ ∀ ds G Q, sp ds G Q → t' (fin Q) (dstart N ds) G) : FnG P w K mg base CX0 (k + 1) f fd ps (SpOf K sp) := by
  obtain ⟨oc, od, kV, doc, pm, an, cdv, ct, osl, rfl, lk, hcd⟩ := Fu.ex
  refine fng_of lk hcd sc (fun vs H Q E h => ?_) (fun A outer s H vs Q E hg hr h => ?_)
  · obtain ⟨F, G, ds, Q', g, r, h, _⟩ := h
    rw [r.length]
    exact len ds G Q' h
  · obtain ⟨F, G, ds, Q', g, r, h, kk⟩ := h
    obtain ⟨t', d, rd⟩ := hb cdv A outer s H E hg hr
    obtain ⟨t, p, rf⟩ := d.ex
    refine ⟨t, p.nox, rf F H _ _ G ⟨g, r.start⟩ _ (rd ds G Q' h) _ ⟨fun F1 H1 σ1 S1 G1 e1 o1 h1 => ?_, fun F1 H1 v d G1 e1 g1 r1 h1 => ?_, fun _ _ _ _ _ _ _ z => z.elim, fun _ _ _ _ _ _ _ z => z.elim⟩⟩
    · obtain ⟨G0, sb, h1⟩ := h1
      exact kk F1 H1 _ _ G0 (e1.sub sb) (o1.g.sub sb) .non h1
    · obtain ⟨G0, sb, h1⟩ := h1
      exact kk F1 H1 v d G0 (e1.sub sb) (g1.sub sb) r1 h1
end DL
end
section
set_option Elab.async false
set_option linter.all false
set_option maxRecDepth 100000
set_option maxHeartbeats 4000000
/-! DL4: operators on data. -/
namespace DL
open PySem PySem.Spec PyProof.Rows L2

mutual
def D.py : D → PyData
  | .non => .none
  | .bl b => .bool b
  | .int i => .int i
  | .str x => .str x
  | .tup xs => .tuple (D.pys xs)
  | .lst xs => .list (D.pys xs)
  | _ => .none
def D.pys : List D → List PyData
  | [] => []
  | x :: xs => D.py x :: D.pys xs
end
mutual
def D.pl : D → Bool
  | .non | .bl _ | .int _ | .str _ => true
  | .tup xs | .lst xs => D.pls xs
  | _ => false
def D.pls : List D → Bool
  | [] => true
  | x :: xs => D.pl x && D.pls xs
end
mutual
theorem D.py_plain : ∀ d : D, d.pl = true → d.py.plain = true
  | .non, _ => rfl
  | .bl _, _ => rfl
  | .int _, _ => rfl
  | .str _, _ => rfl
  | .tup xs, h => D.pys_plain xs h
  | .lst xs, h => D.pys_plain xs h
  | .ty _, h => by cases h
  | .dK _, h => by cases h
  | .dT _, h => by cases h
  | .obj _ _, h => by cases h
  | .rf _, h => by cases h
  | .scr _, h => by cases h
theorem D.pys_plain : ∀ xs : List D, D.pls xs = true → PyData.plainAll (D.pys xs) = true
  | [], _ => rfl
  | x :: xs, h => by
    have h' : x.pl = true ∧ D.pls xs = true := by simpa [D.pls] using h
    simp only [D.pys, PyData.plainAll, D.py_plain x h'.1, D.pys_plain xs h'.2, Bool.and_self]
end
theorem D.pys_map (xs : List D) : D.pys xs = xs.map D.py := by
  induction xs with
  | nil => rfl
  | cons x xs ih => simp [D.pys, ih]
theorem D.pls_all (xs : List D) : D.pls xs = xs.all D.pl := by
  induction xs with
  | nil => rfl
  | cons x xs ih => simp [D.pls, ih]
mutual
theorem Rep.dp {K : PySem.W.Frag} {F : Hp} : ∀ (d : D) {v : V}, Rep K F v d → d.pl = true → Dp K F v d.py
  | .non, _, .non, _ => .non
  | .bl _, _, .bl b, _ => .bl b
  | .int _, _, .int i, _ => .int i
  | .str _, _, .str x, _ => .str x
  | .tup xs, _, .tup h r, p => .tup (.inl (.inl h)) (Reps.dp xs r p)
  | .lst xs, _, .lst h r, p => .lst (.inl (.inl h)) (Reps.dp xs r p)
theorem Reps.dp {K : PySem.W.Frag} {F : Hp} : ∀ (ds : List D) {vs : List V}, Reps K F vs ds → D.pls ds = true → DpAll K F vs (D.pys ds)
  | [], _, .nil, _ => .nil
  | d :: ds, _, .cons h t, p => by
    have p' : d.pl = true ∧ D.pls ds = true := by simpa [D.pls] using p
    exact .cons (Rep.dp d h p'.1) (Reps.dp ds t p'.2)
end
mutual
theorem Dp.mono' {K : PySem.W.Frag} {F F' : Hp} (e : Ex F F') : ∀ (d : PyData) {v : V}, Dp K F v d → Dp K F' v d
  | .none, _, .non => .non
  | .bool _, _, .bl b => .bl b
  | .int _, _, .int i => .int i
  | .str _, _, .str x => .str x
  | .list ds, _, .lst h r => .lst (e.sql h) (DpAll.mono' e ds r)
  | .tuple ds, _, .tup h r => .tup (e.sqt h) (DpAll.mono' e ds r)
theorem DpAll.mono' {K : PySem.W.Frag} {F F' : Hp} (e : Ex F F') : ∀ (ds : List PyData) {vs : List V}, DpAll K F vs ds → DpAll K F' vs ds
  | [], _, .nil => .nil
  | d :: ds, _, .cons h t => .cons (Dp.mono' e d h) (DpAll.mono' e ds t)
end
/-- what stands there now: a list that changes, as it is -/
def D.cur (G : GH) : D → D
  | .rf a => (match G a with
    | some (.lst xs) => .lst xs
    | some (.dK kds) => .dK kds
    | some (.dT kds) => .dT kds
    | some (.ins C kds) => .obj C kds
    | _ => .rf a)
  | d => d
theorem D.cur_rf {G : GH} {a : Addr} {xs : List D} (h : G a = some (.lst xs)) : D.cur G (.rf a) = .lst xs := by simp [D.cur, h]
theorem cur_dp {K : PySem.W.Frag} {F H : Hp} {G : GH} {v : V} {d : D} (g : Gok K F H G) (r : Rep K F v d) (p : (d.cur G).pl = true) : Dp K H v (d.cur G).py := by
  cases d with
  | rf a =>
    cases r
    unfold D.cur at p ⊢
    cases q : G a with
    | none => simp only [q] at p; cases p
    | some o =>
      cases o with
      | lst xs =>
        simp only [q] at p ⊢
        obtain ⟨vs, e, rs⟩ := (g.at_ a _ q).2
        exact .lst (.inl (.inl e)) (DpAll.mono' g.ex _ (Reps.dp xs rs p))
      | _ => simp only [q] at p; cases p
  | _ => exact Dp.mono' g.ex _ (Rep.dp _ r p)
theorem cur_list {K : PySem.W.Frag} {F H : Hp} {G : GH} {v : V} {d : D} {ds : List D} (g : Gok K F H G) (r : Rep K F v d) (p : d.cur G = .lst ds) : ∃ a vs, v = .ref a ∧ H a = some (.lst vs) ∧ Reps K F vs ds := by
  cases d with
  | rf a =>
    cases r
    unfold D.cur at p
    cases q : G a with
    | none => simp only [q] at p; cases p
    | some o =>
      cases o with
      | lst xs =>
        simp only [q] at p; cases p
        obtain ⟨vs, e, rs⟩ := (g.at_ a _ q).2
        exact ⟨a, vs, rfl, e, rs⟩
      | dK kds => simp only [q] at p; cases p
      | dT kds => simp only [q] at p; cases p
      | ins C kds => simp only [q] at p; cases p
      | deck k1 k2 k3 n => simp only [q] at p; cases p
      | dcell => simp only [q] at p; cases p
      | lkT o kvs kds => simp only [q] at p; cases p
      | dN w kds => simp only [q] at p; cases p
  | lst xs =>
    cases p
    cases r with
    | lst h rs => exact ⟨_, _, rfl, g.ex _ _ h, rs⟩
  | _ => cases p
def okE (x y : D) : Bool := x.pl && y.pl && decide (min x.py.depth y.py.depth ≤ 60)
def D.eqv (x y : D) : Bool := PyData.eqv x.py y.py

section
variable {X : Cx} {pos : Pos}
def rCmpP (K : PySem.W.Frag) (C : PyData → PyData → Bool) (f : PyData → PyData → Bool) : R2 := fun x y H Q => ∃ d e, Dp K H x d ∧ Dp K H y e ∧ min d.depth e.depth ≤ 60 ∧ C d e = true ∧ Q (.bl (f d e)) H
theorem cmpP_of {op : CmpOp} {C f : PyData → PyData → Bool} (hu : X.A.units + 100 < cLine)
    (rule : ∀ {prog : Program} {w : World} {A : Around} {E : Value → Shared → Prop} {s : Shared} {a b : Value} {da db : PyData} {as bs : List Addr} {Q : Value → Shared → Prop}, Reads s.heap a da as → Reads s.heap b db bs → C da db = true → A.units + min da.depth db.depth < cLine → Q (.bool (f da db)) s → wpAny (model prog w) A (compareOp op a b) Q E s) :
    OpR X (compareOp op) (rCmpP X.K C f) := by
  intro pins s σ H x y v u Q I rx ry h
  obtain ⟨d, e, hd, he, hm, hc, q⟩ := h
  obtain ⟨as, r1⟩ := Dp.reads I d x v hd rx
  obtain ⟨bs, r2⟩ := Dp.reads I e y u he ry
  exact rule r1 r2 hc (by omega) ⟨.bl _, H, I, rfl, q⟩
theorem opd_cmp {op : CmpOp} {C f : PyData → PyData → Bool} {C' f' : D → D → Bool} (ho : OpR X (compareOp op) (rCmpP X.K C f)) (hc : ∀ x y : D, C' x y = true → x.pl = true ∧ y.pl = true ∧ min x.py.depth y.py.depth ≤ 60 ∧ C x.py y.py = true) (hf : ∀ x y : D, f' x y = f x.py y.py) :
    OpD X (compareOp op) (fun x y G Q => C' (x.cur G) (y.cur G) = true ∧ Q (.bl (f' (x.cur G) (y.cur G))) G) := by
  refine ⟨_, ho, fun F H G x y dx dy g rx ry Q' h Q k => ?_⟩
  obtain ⟨c, q⟩ := h
  obtain ⟨p1, p2, m, c2⟩ := hc _ _ c
  refine ⟨_, _, cur_dp g rx p1, cur_dp g ry p2, m, c2, ?_⟩
  rw [hf] at q
  exact k F H _ _ G Go.refl g (.bl _) q
theorem okE_of {x y : D} (h : okE x y = true) : x.pl = true ∧ y.pl = true ∧ min x.py.depth y.py.depth ≤ 60 := by
  unfold okE at h
  simp only [Bool.and_eq_true, decide_eq_true_eq] at h
  exact ⟨h.1.1, h.1.2, h.2⟩
theorem od_eq (hu : X.A.units + 100 < cLine) : OpD X (compareOp .Eq) (fun x y G Q => okE (x.cur G) (y.cur G) = true ∧ Q (.bl (D.eqv (x.cur G) (y.cur G))) G) :=
  opd_cmp (C := fun d e => d.plain && e.plain) (f := PyData.eqv) (cmpP_of hu fun r1 r2 c hu' q => by
    simp only [Bool.and_eq_true] at c
    exact SeqAt.eq_plain r1 r2 c.1 c.2 hu' q) (fun x y h => by
    obtain ⟨h1, h2, h3⟩ := okE_of h
    exact ⟨h1, h2, h3, by simp [D.py_plain _ h1, D.py_plain _ h2]⟩) fun _ _ => rfl
theorem od_ne (hu : X.A.units + 100 < cLine) : OpD X (compareOp .NotEq) (fun x y G Q => okE (x.cur G) (y.cur G) = true ∧ Q (.bl (!D.eqv (x.cur G) (y.cur G))) G) :=
  opd_cmp (C := fun d e => d.plain && e.plain) (f := fun d e => !PyData.eqv d e) (f' := fun x y => !D.eqv x y) (cmpP_of hu fun r1 r2 c hu' q => by
    simp only [Bool.and_eq_true] at c
    exact SeqAt.ne_plain r1 r2 c.1 c.2 hu' q) (fun x y h => by
    obtain ⟨h1, h2, h3⟩ := okE_of h
    exact ⟨h1, h2, h3, by simp [D.py_plain _ h1, D.py_plain _ h2]⟩) fun _ _ => rfl
def okL (x y : D) : Bool := okE x y && PySem.W.alike x.py y.py && (match x with | .non => false | _ => true)
def D.lt (x y : D) : Bool := PySem.W.dataLt x.py y.py
def notNone : PyData → Bool
  | .none => false
  | _ => true
theorem notNone_ne {d : PyData} (h : notNone d = true) : d ≠ .none := fun e => by rw [e] at h; cases h
theorem okL_of {x y : D} (h : okL x y = true) : x.pl = true ∧ y.pl = true ∧ min x.py.depth y.py.depth ≤ 60 ∧ (PySem.W.alike x.py y.py && notNone x.py) = true := by
  unfold okL at h
  simp only [Bool.and_eq_true] at h
  obtain ⟨⟨h1, h2⟩, h3⟩ := h
  obtain ⟨p1, p2, p3⟩ := okE_of h1
  refine ⟨p1, p2, p3, ?_⟩
  rw [h2, Bool.true_and]
  cases x <;> first | rfl | (simp [D.pl] at p1; done) | (simp at h3; done)
theorem od_lt (hu : X.A.units + 100 < cLine) : OpD X (compareOp .Lt) (fun x y G Q => okL (x.cur G) (y.cur G) = true ∧ Q (.bl (D.lt (x.cur G) (y.cur G))) G) :=
  opd_cmp (C := fun d e => PySem.W.alike d e && notNone d) (f := PySem.W.dataLt) (cmpP_of hu fun r1 r2 c hu' q => by
    simp only [Bool.and_eq_true] at c
    exact PySem.W.lt_data r1 r2 c.1 (notNone_ne c.2) hu' q) (fun x y h => okL_of h) fun _ _ => rfl
theorem od_gt (hu : X.A.units + 100 < cLine) : OpD X (compareOp .Gt) (fun x y G Q => okL (x.cur G) (y.cur G) = true ∧ Q (.bl (D.lt (y.cur G) (x.cur G))) G) :=
  opd_cmp (C := fun d e => PySem.W.alike d e && notNone d) (f := fun d e => PySem.W.dataLt e d) (f' := fun x y => D.lt y x) (cmpP_of hu fun r1 r2 c hu' q => by
    simp only [Bool.and_eq_true] at c
    exact PySem.W.gt_data r1 r2 c.1 (notNone_ne c.2) hu' q) (fun x y h => okL_of h) fun _ _ => rfl
theorem od_le (hu : X.A.units + 100 < cLine) : OpD X (compareOp .LtE) (fun x y G Q => okL (x.cur G) (y.cur G) = true ∧ Q (.bl (!D.lt (y.cur G) (x.cur G))) G) :=
  opd_cmp (C := fun d e => PySem.W.alike d e && notNone d) (f := fun d e => !PySem.W.dataLt e d) (f' := fun x y => !D.lt y x) (cmpP_of hu fun r1 r2 c hu' q => by
    simp only [Bool.and_eq_true] at c
    exact PySem.W.le_data r1 r2 c.1 (notNone_ne c.2) hu' q) (fun x y h => okL_of h) fun _ _ => rfl
theorem od_ge (hu : X.A.units + 100 < cLine) : OpD X (compareOp .GtE) (fun x y G Q => okL (x.cur G) (y.cur G) = true ∧ Q (.bl (!D.lt (x.cur G) (y.cur G))) G) :=
  opd_cmp (C := fun d e => PySem.W.alike d e && notNone d) (f := fun d e => !PySem.W.dataLt d e) (f' := fun x y => !D.lt x y) (cmpP_of hu fun r1 r2 c hu' q => by
    simp only [Bool.and_eq_true] at c
    exact PySem.W.ge_data r1 r2 c.1 (notNone_ne c.2) hu' q) (fun x y h => okL_of h) fun _ _ => rfl
end
end DL
end
section
set_option Elab.async false
set_option linter.all false
set_option maxRecDepth 100000
set_option maxHeartbeats 4000000
/-! DL5: arithmetic, dicts, in, subscripts, attributes. -/
namespace DL
open PySem PySem.Spec PyProof.Rows L2

/-! ### pairs of a dict -/
def valD {κ : Type} [DecidableEq κ] (kds : List (κ × D)) (k : κ) : Option D := (kds.find? fun kv => decide (kv.1 = k)).map (·.2)
def putD {κ : Type} [DecidableEq κ] (kds : List (κ × D)) (k : κ) (d : D) : List (κ × D) :=
  if (kds.any fun kv => decide (kv.1 = k)) = true then kds.map (fun kv => if kv.1 = k then (kv.1, d) else kv) else kds ++ [(k, d)]
structure KR {κ : Type} (K : PySem.W.Frag) (F : Hp) (kvs : List (κ × V)) (kds : List (κ × D)) : Prop where
  ks : kvs.map (·.1) = kds.map (·.1)
  vs : Reps K F (kvs.map (·.2)) (kds.map (·.2))
section
variable {κ : Type} [DecidableEq κ] {K : PySem.W.Frag} {F : Hp}
theorem KR.nil : KR K F ([] : List (κ × V)) [] := ⟨rfl, .nil⟩
theorem KR.cons {k : κ} {v : V} {d : D} {kvs : List (κ × V)} {kds : List (κ × D)} (h : Rep K F v d) (t : KR K F kvs kds) : KR K F ((k, v) :: kvs) ((k, d) :: kds) := ⟨by simp [t.ks], .cons h t.vs⟩
theorem KR.uncons {kvs : List (κ × V)} {k : κ} {d : D} {kds : List (κ × D)} (h : KR K F kvs ((k, d) :: kds)) : ∃ v r, kvs = (k, v) :: r ∧ Rep K F v d ∧ KR K F r kds := by
  obtain ⟨h1, h2⟩ := h
  cases kvs with
  | nil => simp at h1
  | cons p r =>
    obtain ⟨k', v⟩ := p
    simp only [List.map_cons, List.cons.injEq] at h1
    obtain ⟨rfl, h1⟩ := h1
    cases h2 with
    | cons a b => exact ⟨v, r, rfl, a, h1, b⟩
theorem KR.unnil {kvs : List (κ × V)} (h : KR K F kvs []) : kvs = [] := by
  have := h.ks
  simpa using this
theorem KR.mono {F' : Hp} (e : Ex F F') {kvs : List (κ × V)} {kds : List (κ × D)} (h : KR K F kvs kds) : KR K F' kvs kds := ⟨h.ks, h.vs.mono e⟩
theorem KR.append {a b : List (κ × V)} {c d : List (κ × D)} (h : KR K F a c) (h' : KR K F b d) : KR K F (a ++ b) (c ++ d) := ⟨by simp [h.ks, h'.ks], by simpa using h.vs.append h'.vs⟩
theorem KR.len {kvs : List (κ × V)} {kds : List (κ × D)} (h : KR K F kvs kds) : kvs.length = kds.length := by
  have := congrArg List.length h.ks
  simpa using this
theorem KR.val {k : κ} : ∀ {kds : List (κ × D)} {kvs : List (κ × V)}, KR K F kvs kds → (∀ d, valD kds k = some d → ∃ v, valV kvs k = some v ∧ Rep K F v d) ∧ (valD kds k = none → valV kvs k = none)
  | [], kvs, h => by
    obtain rfl := h.unnil
    exact ⟨fun d z => (by cases z), fun _ => rfl⟩
  | (k', d') :: kds, kvs, h => by
    obtain ⟨v, r, rfl, rv, t⟩ := h.uncons
    by_cases e : k' = k
    · have e1 : valD ((k', d') :: kds) k = some d' := by simp [valD, e]
      have e2 : valV ((k', v) :: r) k = some v := valV_pos e
      rw [e1, e2]
      exact ⟨fun d z => (by cases z; exact ⟨v, rfl, rv⟩), fun z => (by cases z)⟩
    · have e1 : valD ((k', d') :: kds) k = valD kds k := by simp [valD, List.find?_cons, e]
      have e2 : valV ((k', v) :: r) k = valV r k := valV_neg e
      rw [e1, e2]
      exact KR.val t
theorem KR.any {k : κ} {kds : List (κ × D)} {kvs : List (κ × V)} (h : KR K F kvs kds) : (kvs.any fun kv => decide (kv.1 = k)) = kds.any fun kv => decide (kv.1 = k) := by
  have e1 : (kvs.any fun kv => decide (kv.1 = k)) = (kvs.map (·.1)).any fun x => decide (x = k) := by simp [List.any_map, Function.comp_def]
  have e2 : (kds.any fun kv => decide (kv.1 = k)) = (kds.map (·.1)).any fun x => decide (x = k) := by simp [List.any_map, Function.comp_def]
  rw [e1, e2, h.ks]
theorem KR.mapd {k : κ} {v : V} {d : D} (r : Rep K F v d) : ∀ {kds : List (κ × D)} {kvs : List (κ × V)}, KR K F kvs kds → KR K F (kvs.map fun kv => if kv.1 = k then (kv.1, v) else kv) (kds.map fun kv => if kv.1 = k then (kv.1, d) else kv)
  | [], kvs, h => by
    obtain rfl := h.unnil
    exact .nil
  | (k', d') :: kds, kvs, h => by
    obtain ⟨v', r', rfl, rv, t⟩ := h.uncons
    simp only [List.map_cons]
    by_cases e : k' = k
    · rw [if_pos e, if_pos e]; exact .cons r (KR.mapd r t)
    · rw [if_neg e, if_neg e]; exact .cons rv (KR.mapd r t)
theorem KR.put {k : κ} {v : V} {d : D} {kds : List (κ × D)} {kvs : List (κ × V)} (h : KR K F kvs kds) (r : Rep K F v d) : KR K F (putK kvs k v) (putD kds k d) := by
  unfold putK putD
  rw [h.any]
  by_cases e : (kds.any fun kv => decide (kv.1 = k)) = true
  · rw [if_pos e, if_pos e]; exact KR.mapd r h
  · rw [if_neg e, if_neg e]; exact h.append (.cons r .nil)
end
def D.key : D → Option Key
  | .int i => some (.inl i)
  | .str x => some (.inr x)
  | _ => none
def D.keys : List D → Option (List Key)
  | [] => some []
  | d :: ds => match d.key, D.keys ds with
    | some k, some ks => some (k :: ks)
    | _, _ => none
theorem Rep.key {K : PySem.W.Frag} {F : Hp} {v : V} {d : D} {k : Key} (r : Rep K F v d) (h : d.key = some k) : v = kV k := by
  cases r <;> first | (cases h; rfl) | cases h
theorem Reps.keys {K : PySem.W.Frag} {F : Hp} : ∀ {vs : List V} {ds : List D} {ks : List Key}, Reps K F vs ds → D.keys ds = some ks → vs = ks.map kV
  | _, _, _, .nil, h => by cases h; rfl
  | _, _, ks, .cons (v := v) (d := d) (ds := ds) a b, h => by
    unfold D.keys at h
    cases e1 : d.key with
    | none => simp [e1] at h
    | some k =>
      cases e2 : D.keys ds with
      | none => simp [e1, e2] at h
      | some r =>
        simp only [e1, e2] at h
        cases h
        rw [a.key e1, b.keys e2]
        rfl
/-- the value at a key, of a dict as it stands: none: no such lookup; some none: not there -/
def D.look (x y : D) : Option (Option D) := match x with
  | .dK kds => y.key.map (valD kds)
  | .dT kds => (match y with
    | .tup ds => (D.keys ds).map (valD kds)
    | _ => none)
  | _ => none
theorem cur_dK {K : PySem.W.Frag} {F H : Hp} {G : GH} {v : V} {d : D} {kds : List (Key × D)} (g : Gok K F H G) (r : Rep K F v d) (p : d.cur G = .dK kds) : ∃ a kvs, v = .ref a ∧ H a = some (.dK kvs) ∧ KR K F kvs kds := by
  cases d with
  | rf a =>
    cases r
    unfold D.cur at p
    cases q : G a with
    | none => simp only [q] at p; cases p
    | some o =>
      cases o with
      | dK kd =>
        simp only [q] at p; cases p
        obtain ⟨kvs, e, h1, h2⟩ := (g.at_ a _ q).2
        exact ⟨a, kvs, rfl, e, h1, h2⟩
      | lst xs => simp only [q] at p; cases p
      | dT kd => simp only [q] at p; cases p
      | ins C kd => simp only [q] at p; cases p
      | deck k1 k2 k3 n => simp only [q] at p; cases p
      | dcell => simp only [q] at p; cases p
      | lkT o kvs kds => simp only [q] at p; cases p
      | dN w kds => simp only [q] at p; cases p
  | dK kd =>
    cases p
    cases r with
    | dK h h1 h2 => exact ⟨_, _, rfl, g.ex _ _ h, h1, h2⟩
  | _ => cases p
theorem cur_dT {K : PySem.W.Frag} {F H : Hp} {G : GH} {v : V} {d : D} {kds : List (List Key × D)} (g : Gok K F H G) (r : Rep K F v d) (p : d.cur G = .dT kds) : ∃ a kvs, v = .ref a ∧ H a = some (.dT kvs) ∧ KR K F kvs kds := by
  cases d with
  | rf a =>
    cases r
    unfold D.cur at p
    cases q : G a with
    | none => simp only [q] at p; cases p
    | some o =>
      cases o with
      | dT kd =>
        simp only [q] at p; cases p
        obtain ⟨kvs, e, h1, h2⟩ := (g.at_ a _ q).2
        exact ⟨a, kvs, rfl, e, h1, h2⟩
      | lst xs => simp only [q] at p; cases p
      | dK kd => simp only [q] at p; cases p
      | ins C kd => simp only [q] at p; cases p
      | deck k1 k2 k3 n => simp only [q] at p; cases p
      | dcell => simp only [q] at p; cases p
      | lkT o kvs kds => simp only [q] at p; cases p
      | dN w kds => simp only [q] at p; cases p
  | dT kd =>
    cases p
    cases r with
    | dT h h1 h2 => exact ⟨_, _, rfl, g.ex _ _ h, h1, h2⟩
  | _ => cases p
theorem look_get {K : PySem.W.Frag} {F H : Hp} {G : GH} {v u : V} {x y : D} {o : Option D} (g : Gok K F H G) (r : Rep K F v x) (ry : Rep K F u y) (h : (x.cur G).look y = some o) :
    ∃ a o', v = .ref a ∧ DGet H a u o' ∧ (∀ d, o = some d → ∃ z, o' = some z ∧ Rep K F z d) ∧ (o = none → o' = none) := by
  unfold D.look at h
  cases e : x.cur G with
  | dK kds =>
    simp only [e] at h
    obtain ⟨a, kvs, rfl, ha, kr⟩ := cur_dK g r e
    cases ek : y.key with
    | none => simp [ek] at h
    | some k =>
      simp only [ek, Option.map_some, Option.some.injEq] at h
      rw [ry.key ek]
      refine ⟨a, _, rfl, DGet.k (k := k) ha, fun d z => ?_, fun z => ?_⟩
      · obtain ⟨v, h1, h2⟩ := kr.val.1 d (h.trans z)
        exact ⟨v, h1, h2⟩
      · exact kr.val.2 (h.trans z)
  | dT kds =>
    simp only [e] at h
    obtain ⟨a, kvs, rfl, ha, kr⟩ := cur_dT g r e
    cases ry with
    | tup hb rs =>
      simp only at h
      rename_i ds
      cases ek : D.keys ds with
      | none => simp [ek] at h
      | some k =>
        simp only [ek, Option.map_some, Option.some.injEq] at h
        have eb := rs.keys ek
        subst eb
        refine ⟨a, _, rfl, DGet.t (k := k) ha (g.ex _ _ hb), fun d z => ?_, fun z => ?_⟩
        · obtain ⟨v, h1, h2⟩ := kr.val.1 d (h.trans z)
          exact ⟨v, h1, h2⟩
        · exact kr.val.2 (h.trans z)
    | _ => simp at h
  | _ => simp [e] at h

section
variable {X : Cx} {pos : Pos}
/-! ### arithmetic -/
def rAddD : DR2 := fun x y G Q => match x.cur G, y.cur G with
  | .int i, .int j => Q (.int (i + j)) G
  | .str a, .str b => a.length + b.length ≤ sizeLine ∧ Q (.str (a ++ b)) G
  | .tup a, .tup b => a.length + b.length ≤ sizeLine ∧ Q (.tup (a ++ b)) G
  | .lst a, .lst b => a.length + b.length ≤ sizeLine ∧ Q (.lst (a ++ b)) G
  | _, _ => False
theorem cur_int {K : PySem.W.Frag} {F : Hp} {G : GH} {v : V} {d : D} {i : Int} (r : Rep K F v d) (h : d.cur G = .int i) : v = .int i := by
  cases d with
  | rf a =>
    unfold D.cur at h
    cases q : G a with
    | none => simp only [q] at h; cases h
    | some o => cases o <;> (simp only [q] at h; cases h)
  | int j => cases h; cases r; rfl
  | _ => cases h
theorem cur_str {K : PySem.W.Frag} {F : Hp} {G : GH} {v : V} {d : D} {i : Str} (r : Rep K F v d) (h : d.cur G = .str i) : v = .str i := by
  cases d with
  | rf a =>
    unfold D.cur at h
    cases q : G a with
    | none => simp only [q] at h; cases h
    | some o => cases o <;> (simp only [q] at h; cases h)
  | str j => cases h; cases r; rfl
  | _ => cases h
theorem cur_tup {K : PySem.W.Frag} {F : Hp} {G : GH} {v : V} {d : D} {ds : List D} (r : Rep K F v d) (h : d.cur G = .tup ds) : ∃ a vs, v = .ref a ∧ F a = some (.tup vs) ∧ Reps K F vs ds := by
  cases d with
  | rf a =>
    unfold D.cur at h
    cases q : G a with
    | none => simp only [q] at h; cases h
    | some o => cases o <;> (simp only [q] at h; cases h)
  | tup j =>
    cases h
    cases r with
    | tup ha rs => exact ⟨_, _, rfl, ha, rs⟩
  | _ => cases h
theorem od_add : OpD X (binaryOp .Add) rAddD := by
  refine ⟨_, op_add.or (op_add_str.or (op_catA.or op_cat)), fun F H G x y dx dy g rx ry Q' h Q k => ?_⟩
  unfold rAddD at h
  split at h
  · rename_i i j e1 e2
    exact .inl ⟨i, j, cur_int rx e1, cur_int ry e2, k F H _ _ G Go.refl g (.int _) h⟩
  · rename_i a b e1 e2
    exact .inr (.inl ⟨a, b, cur_str rx e1, cur_str ry e2, h.1, k F H _ _ G Go.refl g (.str _) h.2⟩)
  · rename_i a b e1 e2
    obtain ⟨p, xs, rfl, hp, r1⟩ := cur_tup rx e1
    obtain ⟨q, ys, rfl, hq, r2⟩ := cur_tup ry e2
    refine .inr (.inr (.inl ⟨p, q, xs, ys, rfl, rfl, .inl (.inl (g.ex _ _ hp)), .inl (.inl (g.ex _ _ hq)), by rw [r1.length, r2.length]; exact h.1, fun z => ?_, fun z1 z2 => ?_, fun z1 z2 p' hp' => ?_⟩))
    · subst z
      cases r1
      exact k F H _ _ G Go.refl g (.tup hq r2) h.2
    · subst z2
      cases r2
      have h2 := h.2
      rw [List.append_nil] at h2
      exact k F H _ _ G Go.refl g (.tup hp r1) h2
    · have gr : Gr F H (upd F p' (.tup (xs ++ ys))) (upd H p' (.tup (xs ++ ys))) := Gr.new g.ex hp'
      exact k _ _ _ _ G gr.go (g.grow gr) (.tup upd_same ((r1.append r2).mono gr.ff)) h.2
  · rename_i a b e1 e2
    obtain ⟨p, xs, rfl, hp, r1⟩ := cur_list g rx e1
    obtain ⟨q, ys, rfl, hq, r2⟩ := cur_list g ry e2
    refine .inr (.inr (.inr ⟨p, q, xs, ys, rfl, rfl, hp, hq, by rw [r1.length, r2.length]; exact h.1, fun p' hp' => ?_⟩))
    have gr : Gr F H (upd F p' (.lst (xs ++ ys))) (upd H p' (.lst (xs ++ ys))) := Gr.new g.ex hp'
    exact k _ _ _ _ G gr.go (g.grow gr) (.lst upd_same ((r1.append r2).mono gr.ff)) h.2
  · exact h.elim
def rIntD (C : Int → Int → Prop) (f : Int → Int → Int) : DR2 := fun x y G Q => match x, y with
  | .int i, .int j => C i j ∧ Q (.int (f i j)) G
  | _, _ => False
theorem od_int {op : Operator} {C : Int → Int → Prop} {f : Int → Int → Int} (h : OpR X (binaryOp op) (rI C fun i j => .int (f i j))) : OpD X (binaryOp op) (rIntD C f) := by
  refine ⟨_, h, fun F H G x y dx dy g rx ry Q' h Q k => ?_⟩
  unfold rIntD at h
  split at h
  · cases rx; cases ry
    exact ⟨_, _, rfl, rfl, h.1, k F H _ _ G Go.refl g (.int _) h.2⟩
  · exact h.elim
theorem od_sub : OpD X (binaryOp .Sub) (rIntD (fun _ _ => True) fun i j => i - j) := by
  refine ⟨_, op_sub, fun F H G x y dx dy g rx ry Q' h Q k => ?_⟩
  unfold rIntD at h
  split at h
  · cases rx; cases ry
    exact ⟨_, _, rfl, rfl, k F H _ _ G Go.refl g (.int _) h.2⟩
  · exact h.elim
theorem od_fdiv : OpD X (binaryOp .FloorDiv) (rIntD CDiv fun i j => i / j) := od_int op_fdiv
theorem od_mod : OpD X (binaryOp .Mod) (rIntD (fun _ j => 0 < j) fun i j => i % j) := od_int op_mod
theorem od_pow : OpD X (binaryOp .Pow) (rIntD CPow fun i j => i ^ j.toNat) := od_int op_pow
def rMulD : DR2 := fun x y G Q => match x.cur G, y.cur G with
  | .int i, .int j => CMul i j ∧ Q (.int (i * j)) G
  | .lst a, .int j => -(2 ^ 63) ≤ j ∧ j < 2 ^ 63 ∧ a.length * j.toNat ≤ sizeLine ∧ Q (.lst (List.replicate j.toNat a).flatten) G
  | _, _ => False
theorem Reps.rep {K : PySem.W.Frag} {F : Hp} {vs : List V} {ds : List D} (r : Reps K F vs ds) : ∀ n : Nat, Reps K F (List.replicate n vs).flatten (List.replicate n ds).flatten
  | 0 => .nil
  | n + 1 => by
    rw [List.replicate_succ, List.replicate_succ, List.flatten_cons, List.flatten_cons]
    exact r.append (Reps.rep r n)
theorem od_mul : OpD X (binaryOp .Mult) rMulD := by
  refine ⟨_, op_mul.or op_rep, fun F H G x y dx dy g rx ry Q' h Q k => ?_⟩
  unfold rMulD at h
  split at h
  · rename_i i j e1 e2
    exact .inl ⟨i, j, cur_int rx e1, cur_int ry e2, h.1, k F H _ _ G Go.refl g (.int _) h.2⟩
  · rename_i a j e1 e2
    obtain ⟨p, xs, rfl, hp, r1⟩ := cur_list g rx e1
    obtain ⟨h1, h2, h3, h4⟩ := h
    refine .inr ⟨p, j, xs, rfl, cur_int ry e2, hp, h1, h2, by rw [r1.length]; exact h3, fun p' hp' => ?_⟩
    have gr := Gr.new (u := .lst (List.replicate j.toNat xs).flatten) g.ex hp'
    exact k _ _ _ _ G gr.go (g.grow gr) (.lst upd_same ((r1.rep _).mono gr.ff)) h4
  · exact h.elim
def rNegD : DR1 := fun x G Q => match x with
  | .int i => Q (.int (-i)) G
  | _ => False
theorem ud_neg : UnD X (unaryOp .USub) rNegD := by
  refine ⟨_, un_neg, fun F H G x dx g rx Q' h Q k => ?_⟩
  unfold rNegD at h
  split at h
  · cases rx
    exact ⟨_, rfl, k F H _ _ G Go.refl g (.int _) h⟩
  · exact h.elim
/-! ### is None -/
def D.isNon : D → Bool
  | .non => true
  | _ => false
theorem Rep.isNon {K : PySem.W.Frag} {F : Hp} {v : V} {d : D} (r : Rep K F v d) : decide (v = .non) = d.isNon := by
  cases r <;> first | rfl | exact decide_eq_false (by intro h; cases h)
theorem od_isN : OpD X (compareOp .Is) (fun x y G Q => match y with | .non => Q (.bl x.isNon) G | _ => False) := by
  refine ⟨_, op_isN, fun F H G x y dx dy g rx ry Q' h Q k => ?_⟩
  split at h
  · cases ry
    refine ⟨rfl, ?_⟩
    rw [rx.isNon]
    exact k F H _ _ G Go.refl g (.bl _) h
  · exact h.elim
theorem od_notN : OpD X (compareOp .IsNot) (fun x y G Q => match y with | .non => Q (.bl (!x.isNon)) G | _ => False) := by
  refine ⟨_, op_notN, fun F H G x y dx dy g rx ry Q' h Q k => ?_⟩
  split at h
  · cases ry
    refine ⟨rfl, ?_⟩
    rw [rx.isNon]
    exact k F H _ _ G Go.refl g (.bl _) h
  · exact h.elim
/-! ### in -/
def strIn (x z : Str) : Bool := !(Builtin.Str.occurrences z x 0 z.length 1).isEmpty
def okI (x : D) (ys : List D) : Bool := x.pl && D.pls ys && decide (min (PyData.depthAll (D.pys ys)) x.py.depth ≤ 60)
def D.isIn (x : D) (ys : List D) : Bool := (D.pys ys).any fun z => PyData.eqv z x.py
/-- x in y: none where it is not served -/
def D.inn (x y : D) : Option Bool := match y with
  | .str z => (match x with
    | .str w => some (strIn w z)
    | _ => none)
  | .lst ys => if okI x ys = true then some (x.isIn ys) else none
  | .tup ys => if okI x ys = true then some (x.isIn ys) else none
  | y => (y.look x).map Option.isSome
def rInP (K : PySem.W.Frag) (neg : Bool) : R2 := fun x y H Q => ∃ d ds b, Dp K H x d ∧ (Dp K H y (.list ds) ∨ Dp K H y (.tuple ds)) ∧ d.plain = true ∧ PyData.plainAll ds = true ∧ min (PyData.depthAll ds) d.depth ≤ 60 ∧ b = (if neg then !(ds.any fun z => PyData.eqv z d) else ds.any fun z => PyData.eqv z d) ∧ Q (.bl b) H
def rInDict (neg : Bool) : R2 := fun x y H Q => ∃ a o, y = .ref a ∧ DGet H a x o ∧ Q (.bl (if neg then !o.isSome else o.isSome)) H
theorem op_inP (hu : X.A.units + 100 < cLine) : OpR X (compareOp .In) (rInP X.K false) := by
  intro pins s σ H x y v u Q I rx ry h
  obtain ⟨d, ds, b, hd, hy, p1, p2, hm, rfl, q⟩ := h
  obtain ⟨as, r1⟩ := Dp.reads I d x v hd rx
  rcases hy with hy | hy
  · obtain ⟨bs, r2⟩ := Dp.reads I _ y u hy ry
    exact SeqAt.in_list_data r2 r1 p2 p1 (by omega) ⟨.bl _, H, I, rfl, q⟩
  · obtain ⟨bs, r2⟩ := Dp.reads I _ y u hy ry
    exact SeqAt.in_tuple_data r2 r1 p2 p1 (by omega) ⟨.bl _, H, I, rfl, q⟩
theorem op_notInP (hu : X.A.units + 100 < cLine) : OpR X (compareOp .NotIn) (rInP X.K true) := by
  intro pins s σ H x y v u Q I rx ry h
  obtain ⟨d, ds, b, hd, hy, p1, p2, hm, rfl, q⟩ := h
  obtain ⟨as, r1⟩ := Dp.reads I d x v hd rx
  rcases hy with hy | hy
  · obtain ⟨bs, r2⟩ := Dp.reads I _ y u hy ry
    exact SeqAt.notIn_list_data r2 r1 p2 p1 (by omega) ⟨.bl _, H, I, rfl, q⟩
  · obtain ⟨bs, r2⟩ := Dp.reads I _ y u hy ry
    exact SeqAt.notIn_tuple_data r2 r1 p2 p1 (by omega) ⟨.bl _, H, I, rfl, q⟩
theorem op_inDict (hu : X.A.units + 100 < cLine) : OpR X (compareOp .In) (rInDict false) := by
  intro pins s σ H x y v u Q I rx ry h
  obtain ⟨a, o, rfl, g, q⟩ := h
  obtain rfl : u = Value.ref a := ry
  exact d_in (by omega) I g rx fun s' I' => ⟨.bl _, H, I', rfl, q⟩
theorem op_notInDict (hu : X.A.units + 100 < cLine) : OpR X (compareOp .NotIn) (rInDict true) := by
  intro pins s σ H x y v u Q I rx ry h
  obtain ⟨a, o, rfl, g, q⟩ := h
  obtain rfl : u = Value.ref a := ry
  exact d_notIn (by omega) I g rx fun s' I' => ⟨.bl _, H, I', rfl, q⟩
theorem in_core {neg : Bool} {r : R2} (hs : ∀ x y H Q, (∃ i j, x = V.str i ∧ y = V.str j ∧ Q (.bl (if neg then !(strIn i j) else strIn i j)) H) → r x y H Q) (hl : ∀ x y H Q, rInP X.K neg x y H Q → r x y H Q) (hd : ∀ x y H Q, rInDict neg x y H Q → r x y H Q)
    {F H : Hp} {G : GH} {x y : V} {dx dy : D} (g : Gok X.K F H G) (rx : Rep X.K F x dx) (ry : Rep X.K F y dy) {Q' : DQ} {b : Bool} (h : D.inn dx (dy.cur G) = some b) (q : Q' (.bl (if neg then !b else b)) G) {Q : VK} (k : KpE X.K F H G Q' Q) : r x y H Q := by
  have fin : Q (.bl (if neg then !b else b)) H := k F H _ _ G Go.refl g (.bl _) q
  unfold D.inn at h
  have seqs : ∀ (ys : List D), okI dx ys = true → dx.isIn ys = b → (Dp X.K H y (.list (D.pys ys)) ∨ Dp X.K H y (.tuple (D.pys ys))) → r x y H Q := by
    intro ys ok e hy
    unfold okI at ok
    simp only [Bool.and_eq_true, decide_eq_true_eq] at ok
    obtain ⟨⟨p1, p2⟩, p3⟩ := ok
    refine hl _ _ _ _ ⟨dx.py, D.pys ys, _, ?_, hy, D.py_plain _ p1, D.pys_plain _ p2, p3, rfl, ?_⟩
    · exact Dp.mono' g.ex _ (Rep.dp _ rx p1)
    · unfold D.isIn at e
      rw [e]
      exact fin
  split at h
  · rename_i z e
    split at h
    · cases h
      cases rx
      exact hs _ _ _ _ ⟨_, _, rfl, cur_str ry e, fin⟩
    · cases h
  · rename_i ys e
    split at h
    · rename_i ok
      cases h
      obtain ⟨a, vs, rfl, ha, rs⟩ := cur_list g ry e
      unfold okI at ok
      simp only [Bool.and_eq_true, decide_eq_true_eq] at ok
      refine seqs ys (by unfold okI; simp [ok]) rfl (.inl (.lst (.inl (.inl ha)) (DpAll.mono' g.ex _ (Reps.dp _ rs ok.1.2))))
    · cases h
  · rename_i ys e
    split at h
    · rename_i ok
      cases h
      obtain ⟨a, vs, rfl, ha, rs⟩ := cur_tup ry e
      unfold okI at ok
      simp only [Bool.and_eq_true, decide_eq_true_eq] at ok
      refine seqs ys (by unfold okI; simp [ok]) rfl (.inr (.tup (.inl (.inl (g.ex _ _ ha))) (DpAll.mono' g.ex _ (Reps.dp _ rs ok.1.2))))
    · cases h
  · cases e : (dy.cur G).look dx with
    | none => rw [e] at h; cases h
    | some o =>
      rw [e] at h
      cases h
      obtain ⟨a, o', rfl, dg, h1, h2⟩ := look_get g ry rx e
      refine hd _ _ _ _ ⟨a, o', rfl, dg, ?_⟩
      have eo : o'.isSome = o.isSome := by
        cases o with
        | none => simp [h2 rfl]
        | some d =>
          obtain ⟨z, ez, _⟩ := h1 d rfl
          rw [ez]; rfl
      rw [eo]
      exact fin
theorem od_in (hu : X.A.units + 100 < cLine) : OpD X (compareOp .In) (fun x y G Q => match D.inn x (y.cur G) with | some b => Q (.bl b) G | none => False) := by
  refine ⟨_, op_in_str.or ((op_inP hu).or (op_inDict hu)), fun F H G x y dx dy g rx ry Q' h Q k => ?_⟩
  split at h
  · rename_i b e
    exact in_core (neg := false) (r := fun x y H Q => (∃ i j, x = .str i ∧ y = .str j ∧ Q (.bl (!(Builtin.Str.occurrences j i 0 j.length 1).isEmpty)) H) ∨ rInP X.K false x y H Q ∨ rInDict false x y H Q) (fun x y H Q h => .inl h) (fun x y H Q h => .inr (.inl h)) (fun x y H Q h => .inr (.inr h)) g rx ry e h k
  · exact h.elim
theorem od_notIn (hu : X.A.units + 100 < cLine) : OpD X (compareOp .NotIn) (fun x y G Q => match D.inn x (y.cur G) with | some b => Q (.bl (!b)) G | none => False) := by
  refine ⟨_, op_notin_str.or ((op_notInP hu).or (op_notInDict hu)), fun F H G x y dx dy g rx ry Q' h Q k => ?_⟩
  split at h
  · rename_i b e
    exact in_core (neg := true) (r := fun x y H Q => (∃ i j, x = .str i ∧ y = .str j ∧ Q (.bl (!(!(Builtin.Str.occurrences j i 0 j.length 1).isEmpty))) H) ∨ rInP X.K true x y H Q ∨ rInDict true x y H Q) (fun x y H Q h => .inl h) (fun x y H Q h => .inr (.inl h)) (fun x y H Q h => .inr (.inr h)) g rx ry e h k
  · exact h.elim
end
end DL
end
section
set_option Elab.async false
set_option linter.all false
set_option maxRecDepth 100000
set_option maxHeartbeats 4000000
/-! DL6: subscripts, slices, attributes, stores, methods of own classes. -/
namespace DL
open PySem PySem.Spec PyProof.Rows L2

theorem atI_rep {K : PySem.W.Frag} {F : Hp} {vs : List V} {ds : List D} {i : Int} {d : D} (r : Reps K F vs ds) (h : atI ds i = some d) : ∃ v, atI vs i = some v ∧ Rep K F v d := by
  unfold atI at h ⊢
  rw [r.length]
  cases e : ixN ds.length i with
  | none => rw [e] at h; cases h
  | some j =>
    rw [e] at h
    exact r.get h
def D.item (x y : D) : Option D := match x with
  | .tup xs => (match y with
    | .int i => atI xs i
    | _ => none)
  | .lst xs => (match y with
    | .int i => atI xs i
    | _ => none)
  | .str z => (match y with
    | .int i => if z.length ≤ sizeLine then (atI z.cps.toList i).map fun c => .str ⟨#[c]⟩ else none
    | _ => none)
  | x => (x.look y).join
def cutD {α : Type} (xs : List α) (lo hi : Option Int) : List α := (xs.drop (HT.sIx xs.length 0 lo)).take (HT.sIx xs.length xs.length hi - HT.sIx xs.length 0 lo)
theorem Reps.cut {K : PySem.W.Frag} {F : Hp} {vs : List V} {ds : List D} (r : Reps K F vs ds) (lo hi : Option Int) : Reps K F (cutV vs lo hi) (cutD ds lo hi) := by
  unfold cutV cutD
  rw [r.length]
  exact (r.drop _).take _
def putFD (f : Str) (d : D) : List (Str × D) → List (Str × D)
  | [] => [(f, d)]
  | p :: r => if p.1 = f then (f, d) :: r else p :: putFD f d r
theorem KR.look {K : PySem.W.Frag} {F : Hp} {f : Str} : ∀ {kds : List (Str × D)} {kvs : List (Str × V)}, KR K F kvs kds → (∀ d, kds.lookup f = some d → ∃ v, kvs.lookup f = some v ∧ Rep K F v d) ∧ (kds.lookup f = none → kvs.lookup f = none)
  | [], kvs, h => by
    obtain rfl := h.unnil
    exact ⟨fun d z => (by cases z), fun _ => rfl⟩
  | (k', d') :: kds, kvs, h => by
    obtain ⟨v, r, rfl, rv, t⟩ := h.uncons
    by_cases e : f = k'
    · subst e
      simp only [List.lookup_cons, beq_self_eq_true]
      exact ⟨fun d z => (by cases z; exact ⟨v, rfl, rv⟩), fun z => (by cases z)⟩
    · have e' : (f == k') = false := by simpa using e
      simp only [List.lookup_cons, e']
      exact KR.look t
theorem KR.putF {K : PySem.W.Frag} {F : Hp} {f : Str} {v : V} {d : D} (rv : Rep K F v d) : ∀ {kds : List (Str × D)} {kvs : List (Str × V)}, KR K F kvs kds → KR K F (L2.putF f v kvs) (putFD f d kds)
  | [], kvs, h => by
    obtain rfl := h.unnil
    exact .cons rv .nil
  | (k', d') :: kds, kvs, h => by
    obtain ⟨v', r, rfl, rv', t⟩ := h.uncons
    unfold L2.putF putFD
    by_cases e : k' = f
    · subst e
      simp only [if_pos]
      exact .cons rv t
    · simp only [if_neg e]
      exact .cons rv' (KR.putF rv t)
theorem cur_obj {K : PySem.W.Frag} {F H : Hp} {G : GH} {v : V} {d : D} {C : Addr} {kds : List (Str × D)} (g : Gok K F H G) (r : Rep K F v d) (p : d.cur G = .obj C kds) : ∃ a dx kvs, v = .ref a ∧ H a = some (.ins C dx kvs) ∧ KR K F kvs kds := by
  cases d with
  | rf a =>
    cases r
    unfold D.cur at p
    cases q : G a with
    | none => simp only [q] at p; cases p
    | some o =>
      cases o with
      | ins C' kd =>
        simp only [q] at p; cases p
        obtain ⟨dx, kvs, e, h1, h2⟩ := (g.at_ a _ q).2
        exact ⟨a, dx, kvs, rfl, e, h1, h2⟩
      | lst xs => simp only [q] at p; cases p
      | dK kd => simp only [q] at p; cases p
      | dT kd => simp only [q] at p; cases p
      | deck k1 k2 k3 n => simp only [q] at p; cases p
      | dcell => simp only [q] at p; cases p
      | lkT o kvs kds => simp only [q] at p; cases p
      | dN w kds => simp only [q] at p; cases p
  | obj C' kd =>
    cases p
    cases r with
    | obj h h1 h2 => exact ⟨_, _, _, rfl, g.ex _ _ h, h1, h2⟩
  | _ => cases p

section
variable {X : Cx} {pos : Pos}
def rIxDict : R2 := fun x y H Q => ∃ a v, x = .ref a ∧ DGet H a y (some v) ∧ Q v H
theorem ix_dict (hu : X.A.units + 100 < cLine) : IxR X rIxDict := by
  intro value slice pins s σ H x y v u Q I rx ry h hs
  obtain ⟨a, z, rfl, g, q⟩ := h
  obtain rfl : v = Value.ref a := rx
  exact tail_any (dict_typeIs I g) PySem.F.slot_dict_getitem.lookup (d_getItem (by omega) I g ry fun w' s' I' r' => ⟨z, H, I', r', q⟩) hs
def rItem : DR2 := fun x y G Q => match D.item (x.cur G) y with
  | some d => Q d G
  | none => False
theorem de_ix {a b : Expr} {ta tb : DTE} (hu : X.A.units + 100 < cLine) (ha : DE X a ta) (hb : DE X b tb) (hs : PlainIx b := by intro _ _; rfl) : DE X (.Subscript a b pos) (dOp rItem ta tb) := by
  obtain ⟨t1, p1, r1⟩ := ha.ex
  obtain ⟨t2, p2, r2⟩ := hb.ex
  refine ⟨_, pe_ix ((ix_seq (X := X)).or (ix_dict hu)) p1 p2 hs, dop_of (a := a) (b := b) ?_ r1 r2⟩
  intro F H G x y dx dy g rx ry Q' h Q k
  unfold rItem at h
  split at h
  · rename_i d e
    have fin : ∀ v, Rep X.K F v d → Q v H := fun v r => k F H _ _ G Go.refl g r h
    unfold D.item at e
    split at e
    · rename_i xs ex
      split at e
      · cases ry
        obtain ⟨p, vs, rfl, hp, rs⟩ := cur_tup rx ex
        obtain ⟨v, hv, rv⟩ := atI_rep rs e
        exact .inl (.inr (.inl ⟨p, vs, _, v, rfl, rfl, .inl (.inl (g.ex _ _ hp)), hv, fin v rv⟩))
      · cases e
    · rename_i xs ex
      split at e
      · cases ry
        obtain ⟨p, vs, rfl, hp, rs⟩ := cur_list g rx ex
        obtain ⟨v, hv, rv⟩ := atI_rep rs e
        exact .inl (.inl ⟨p, vs, _, v, rfl, rfl, .inl (.inl hp), hv, fin v rv⟩)
      · cases e
    · rename_i z ex
      split at e
      · cases ry
        split at e
        · rename_i hz
          rename_i i
          cases ec : atI z.cps.toList i with
          | none => rw [ec] at e; cases e
          | some c =>
            rw [ec] at e
            cases e
            exact .inl (.inr (.inr ⟨z, _, c, cur_str rx ex, rfl, hz, ec, fin _ (.str _)⟩))
        · cases e
      · cases e
    · cases el : (dx.cur G).look dy with
      | none => rw [el] at e; cases e
      | some o =>
        rw [el] at e
        have e' : o = some d := e
        obtain ⟨a', o', rfl, dg, h1, _⟩ := look_get g rx ry el
        obtain ⟨z, rfl, rz⟩ := h1 d e'
        exact .inr ⟨a', z, rfl, dg, fin z rz⟩
  · exact h.elim
/-! ### slices -/
abbrev DTO := DS → GH → (Option Int → GH → Prop) → Prop
structure DO (X : Cx) (e : Option Expr) (t' : DTO) : Prop where
  ex : ∃ t, PO X e t ∧ ∀ F H σ S G, Ok X.K F H σ S G → ∀ Q', t' S G Q' → ∀ Q : Option Int → Hp → Prop, (∀ F' H' o G', Go F H G F' H' G' → Gok X.K F' H' G' → Q' o G' → Q o H') → t σ H Q
def dNoPart : DTO := fun _ G Q => Q none G
def dPart (ta : DTE) : DTO := fun S G Q => ta S G fun d G1 => match d with
  | .int i => Q (some i) G1
  | _ => False
theorem do_none : DO X none dNoPart := ⟨_, po_none, fun F H σ S G o Q' h Q k => k F H none G Go.refl o.g h⟩
theorem do_some {e : Expr} {ta : DTE} (h : DE X e ta) : DO X (some e) (dPart ta) := by
  obtain ⟨t1, p1, r1⟩ := h.ex
  refine ⟨_, po_some p1, fun F H σ S G o Q' h Q k => ?_⟩
  refine r1 F H σ S G o _ h _ fun F1 H1 v d G1 e1 g1 q1 h1 => ?_
  dsimp only at h1
  split at h1
  · cases q1
    exact ⟨_, rfl, k F1 H1 _ G1 e1 g1 h1⟩
  · exact h1.elim
def rSlice (x : D) (lo hi : Option Int) (G : GH) (Q : DQ) : Prop := match x.cur G with
  | .tup xs => Q (.tup (cutD xs lo hi)) G
  | .lst xs => Q (.lst (cutD xs lo hi)) G
  | .str z => z.length ≤ sizeLine ∧ Q (.str (cutS z lo hi)) G
  | .scr ns => Q (.lst ((cutD ns lo hi).map .int)) G
  | _ => False
def dSlice (ta : DTE) (tl th : DTO) : DTE := fun S G Q => ta S G fun x G1 => tl S G1 fun lo G2 => th S G2 fun hi G3 => rSlice x lo hi G3 Q
theorem Reps.ints {K : PySem.W.Frag} {F : Hp} : ∀ (ns : List Int), Reps K F (ns.map V.int) (ns.map D.int)
  | [] => .nil
  | n :: ns => .cons (.int n) (Reps.ints ns)
theorem de_slice {e : Expr} {lo hi : Option Expr} {ta : DTE} {tl th : DTO} {p2 : Pos} (he : DE X e ta) (hl : DO X lo tl) (hh : DO X hi th) : DE X (.Subscript e (.Slice lo hi none p2) pos) (dSlice ta tl th) := by
  obtain ⟨t1, p1, r1⟩ := he.ex
  obtain ⟨t2, p2', r2⟩ := hl.ex
  obtain ⟨t3, p3, r3⟩ := hh.ex
  refine ⟨_, pe_slice ((sl_tupA (X := X)).or ((sl_list (X := X)).or (sl_str (X := X)))) p1 p2' p3, fun F H σ S G o Q' h Q k => ?_⟩
  refine r1 F H σ S G o _ h _ fun F1 H1 v d G1 e1 g1 q1 h1 => ?_
  refine r2 F1 H1 σ S G1 (o.go e1 g1) _ h1 _ fun F2 H2 lo G2 e2 g2 h2 => ?_
  refine r3 F2 H2 σ S G2 ((o.go e1 g1).go e2 g2) _ h2 _ fun F3 H3 hi G3 e3 g3 h3 => ?_
  have r := (q1.mono e2.ex).mono e3.ex
  have kk := k.mono ((e1.trans e2).trans e3)
  unfold rSlice at h3
  split at h3
  · rename_i xs ex
    obtain ⟨p, vs, rfl, hp, rs⟩ := cur_tup r ex
    refine .inl ⟨p, vs, rfl, .inl (.inl (g3.ex _ _ hp)), fun z => ?_, fun _ p' hp' => ?_⟩
    · have ec : cutD xs lo hi = xs := by
        unfold cutD
        rw [rs.length] at z
        rw [z.1, z.2]
        simp
      rw [ec] at h3
      exact kk F3 H3 _ _ G3 Go.refl g3 (.tup hp rs) h3
    · have gr := Gr.new (u := .tup (cutV vs lo hi)) g3.ex hp'
      exact kk _ _ _ _ G3 gr.go (g3.grow gr) (.tup upd_same ((rs.cut lo hi).mono gr.ff)) h3
  · rename_i xs ex
    obtain ⟨p, vs, rfl, hp, rs⟩ := cur_list g3 r ex
    refine .inr (.inl ⟨p, vs, rfl, .inl (.inl hp), fun p' hp' => ?_⟩)
    have gr := Gr.new (u := .lst (cutV vs lo hi)) g3.ex hp'
    exact kk _ _ _ _ G3 gr.go (g3.grow gr) (.lst upd_same ((rs.cut lo hi).mono gr.ff)) h3
  · rename_i z ex
    exact .inr (.inr ⟨z, cur_str r ex, h3.1, kk F3 H3 _ _ G3 Go.refl g3 (.str _) h3.2⟩)
  · rename_i ns ex
    have hd : d = .scr ns := by
      cases d with
      | rf a =>
        unfold D.cur at ex
        cases q : G3 a with
        | none => simp only [q] at ex; cases ex
        | some o => cases o <;> (simp only [q] at ex; cases ex)
      | _ => exact ex
    subst hd
    cases r with
    | scr hs =>
      refine .inr (.inl ⟨_, ns.map V.int, rfl, g3.ex.sql hs, fun p' hp' => ?_⟩)
      have gr := Gr.new (u := .lst (cutV (ns.map V.int) lo hi)) g3.ex hp'
      have rc : Reps X.K F3 (cutV (ns.map V.int) lo hi) ((cutD ns lo hi).map .int) := by
        have := (Reps.ints (K := X.K) (F := F3) ns).cut lo hi
        have e : cutD (ns.map D.int) lo hi = (cutD ns lo hi).map .int := by
          unfold cutD
          simp [List.map_take, List.map_drop]
        rw [e] at this
        exact this
      exact kk _ _ _ _ G3 gr.go (g3.grow gr) (.lst upd_same (rc.mono gr.ff)) h3
  · exact h3.elim
/-! ### attributes -/
def dFld (C : Addr) (f : Str) (ta : DTE) : DTE := fun S G Q => ta S G fun d G1 => match d.cur G1 with
  | .obj C' fs => C' = C ∧ (match fs.lookup f with
    | some v => Q v G1
    | none => False)
  | _ => False
theorem de_fld {e : Expr} {f : Str} {C : Addr} {ta : DTE} (c : Cls X.K C) (na : NoAttr X.K C f) (he : DE X e ta) (hb : attributeBase e f X.env (eval e X.env) = eval e X.env := by rfl) : DE X (.Attribute e f pos) (dFld C f ta) := by
  obtain ⟨t1, p1, r1⟩ := he.ex
  refine ⟨_, pe_fld p1 hb, fun F H σ S G o Q' h Q k => ?_⟩
  refine r1 F H σ S G o _ h _ fun F1 H1 v d G1 e1 g1 q1 h1 => ?_
  dsimp only at h1
  split at h1
  · rename_i C' fs ex
    obtain ⟨rfl, h1⟩ := h1
    obtain ⟨a, dx, kvs, rfl, ha, kr⟩ := cur_obj g1 q1 ex
    split at h1
    · rename_i z ez
      obtain ⟨y, hy, ry⟩ := kr.look.1 _ ez
      exact ⟨a, C', dx, kvs, y, rfl, ha, c, na, hy, k F1 H1 _ _ G1 e1 g1 ry h1⟩
    · exact h1.elim
  · exact h1.elim
def dSetFld (C : Addr) (f : Str) (ta tv : DTE) : DTS := fun D' S G => tv S G fun y G1 => ta S G1 fun x G2 => match x with
  | .rf a => (match G2 a with
    | some (.ins C' fs) => C' = C ∧ fs.length < 1000 ∧ D'.nx S (gput G2 a (.ins C (putFD f y fs)))
    | _ => False)
  | _ => False
theorem dp_setFld {e value : Expr} {f : Str} {C : Addr} {ta tv : DTE} {pos' : Pos} (c : Cls X.K C) (na : NoAttr X.K C f) (he : DE X e ta) (hv : DE X value tv) (hs : swapsWith value (some (.Attribute e f pos')) pos.line X.env = pure false := by rfl) :
    DP X (.Assign [.Attribute e f pos'] value pos) (dSetFld C f ta tv) := by
  obtain ⟨t1, p1, r1⟩ := he.ex
  obtain ⟨t2, p2, r2⟩ := hv.ex
  refine ⟨_, ps_fld p1 p2 hs, fun F H σ S G o D' h D0 k => ?_⟩
  refine r2 F H σ S G o _ h _ fun F1 H1 v d G1 e1 g1 q1 h1 => ?_
  refine r1 F1 H1 σ S G1 (o.go e1 g1) _ h1 _ fun F2 H2 u d2 G2 e2 g2 q2 h2 => ?_
  dsimp only at h2
  split at h2
  · rename_i a
    split at h2
    · rename_i C' fs eg
      obtain ⟨rfl, hl, h2⟩ := h2
      cases q2
      obtain ⟨fa, dx, kvs, ha, h3, h4⟩ := g2.at_ a _ eg
      have kr : KR X.K F2 kvs fs := ⟨h3, h4⟩
      have kr2 := kr.putF (f := f) (q1.mono e2.ex)
      refine ⟨a, C', dx, kvs, rfl, ha, c, na, by rw [kr.len]; exact hl, ?_⟩
      have g3 := g2.put (u := .ins C' dx (L2.putF f v kvs)) (o := .ins C' (putFD f d fs)) eg rfl rfl ⟨dx, _, upd_same, kr2.ks, kr2.vs⟩
      exact k.nx F2 _ σ S _ ((e1.trans e2).trans (Go.put eg)) ⟨g3, (o.s.mono e1.ex).mono e2.ex⟩ h2
    · exact h2.elim
  · exact h2.elim
/-! ### x[i] = e -/
def dSetSub (to ti : DTE) : DTG := fun v S G Q => to S G fun x G1 => ti S G1 fun i G2 => match x with
  | .rf a => (match G2 a with
    | some (.lst xs) => (match i with
      | .int j => (match ixN xs.length j with
        | some n => Q S (gput G2 a (.lst (xs.set n v)))
        | none => False)
      | _ => False)
    | some (.dK kds) => (match i.key with
      | some k => kds.length < sizeLine ∧ Q S (gput G2 a (.dK (putD kds k v)))
      | none => False)
    | some (.dT kds) => (match i with
      | .tup ds => (match D.keys ds with
        | some k => kds.length < sizeLine ∧ Q S (gput G2 a (.dT (putD kds k v)))
        | none => False)
      | _ => False)
    | _ => False)
  | _ => False
def rSetD : V → V → V → Hp → (Hp → Prop) → Prop := fun o i v H Q => ∃ a H', o = .ref a ∧ DPut H a i v H' ∧ Q H'
theorem set_dict (hu : X.A.units + 100 < cLine) : PSet X rSetD := by
  intro pins s σ H o i v ov iv u Q I ro ri rv h
  obtain ⟨a, H', rfl, g, q⟩ := h
  obtain rfl : ov = Value.ref a := ro
  exact d_setItem (by omega) I g ri rv fun s' I' => ⟨H', I', q⟩
theorem PSet.or {r r' : TSet} (h : PSet X r) (h' : PSet X r') : PSet X (fun o i v H Q => r o i v H Q ∨ r' o i v H Q) := by
  intro pins s σ H o i v ov iv u Q I ro ri rv q
  rcases q with q | q
  · exact h pins s σ H o i v ov iv u Q I ro ri rv q
  · exact h' pins s σ H o i v ov iv u Q I ro ri rv q
theorem dg_sub {o i : Expr} {to ti : DTE} (hu : X.A.units + 100 < cLine) (ho : DE X o to) (hi : DE X i ti)
    (ha : ∀ v, assign (.Subscript o i pos) X.env v = (do let ov ← holding [v] (eval o X.env); let iv ← holding [v, ov] (eval i X.env); standAt pos; holding [v, ov, iv] (setItem ov iv v); release [v, ov, iv] []) := by intro _; rfl) : DG X (.Subscript o i pos) (dSetSub to ti) := by
  obtain ⟨t1, p1, r1⟩ := ho.ex
  obtain ⟨t2, p2, r2⟩ := hi.ex
  refine ⟨_, pg_sub p1 p2 (PSet.or set_list (set_dict hu)) ha, fun F H σ S G v d o' r Q' h Q k => ?_⟩
  refine r1 F H σ S G o' _ h _ fun F1 H1 x dx G1 e1 g1 q1 h1 => ?_
  refine r2 F1 H1 σ S G1 (o'.go e1 g1) _ h1 _ fun F2 H2 y dy G2 e2 g2 q2 h2 => ?_
  have rv := (r.mono e1.ex).mono e2.ex
  dsimp only at h2
  split at h2
  · rename_i a
    cases q1
    split at h2
    · rename_i xs eg
      split at h2
      · rename_i j
        cases q2
        split at h2
        · rename_i n en
          obtain ⟨fa, vs, ha, rs⟩ := g2.at_ a _ eg
          refine .inl ⟨a, vs, j, n, rfl, rfl, ha, by rw [rs.length]; exact en, ?_⟩
          have g3 := g2.put (u := .lst (vs.set n v)) (o := .lst (xs.set n d)) eg rfl rfl ⟨_, upd_same, rs.set rv n⟩
          exact k F2 _ σ S _ ((e1.trans e2).trans (Go.put eg)) ⟨g3, (o'.s.mono e1.ex).mono e2.ex⟩ h2
        · exact h2.elim
      · exact h2.elim
    · rename_i kds eg
      split at h2
      · rename_i kk ek
        obtain ⟨hl, h2⟩ := h2
        obtain ⟨fa, kvs, ha, h3, h4⟩ := g2.at_ a _ eg
        have kr : KR X.K F2 kvs kds := ⟨h3, h4⟩
        have kr2 := kr.put (k := kk) rv
        have ey := q2.key ek
        subst ey
        refine .inr ⟨a, _, rfl, DPut.k (k := kk) ha (by rw [kr.len]; exact hl), ?_⟩
        have g3 := g2.put (u := .dK (putK kvs kk v)) (o := .dK (putD kds kk d)) eg rfl rfl ⟨_, upd_same, kr2.ks, kr2.vs⟩
        exact k F2 _ σ S _ ((e1.trans e2).trans (Go.put eg)) ⟨g3, (o'.s.mono e1.ex).mono e2.ex⟩ h2
      · exact h2.elim
    · rename_i kds eg
      split at h2
      · rename_i ds
        split at h2
        · rename_i kk ek
          obtain ⟨hl, h2⟩ := h2
          obtain ⟨fa, kvs, ha, h3, h4⟩ := g2.at_ a _ eg
          have kr : KR X.K F2 kvs kds := ⟨h3, h4⟩
          have kr2 := kr.put (k := kk) rv
          cases q2 with
          | tup hb rs =>
            have eb := rs.keys ek
            subst eb
            refine .inr ⟨a, _, rfl, DPut.t (k := kk) ha (g2.ex _ _ hb) (by rw [kr.len]; exact hl), ?_⟩
            have g3 := g2.put (u := .dT (putK kvs kk v)) (o := .dT (putD kds kk d)) eg rfl rfl ⟨_, upd_same, kr2.ks, kr2.vs⟩
            exact k F2 _ σ S _ ((e1.trans e2).trans (Go.put eg)) ⟨g3, (o'.s.mono e1.ex).mono e2.ex⟩ h2
        · exact h2.elim
      · exact h2.elim
    · exact h2.elim
  · exact h2.elim
/-! ### methods, making -/
def dMeth (C : Addr) (m : Str) (sp : SpD) (ta : DTE) (tr : DTA) : DTE := fun S G Q => ta S G fun d G1 => match d.cur G1 with
  | .obj C' fs => C' = C ∧ fs.lookup m = none ∧ tr S G1 fun ds G2 => sp (d :: ds) G2 Q
  | _ => False
theorem de_meth {pl : Sem Bool} {o e : Expr} {es : List Expr} {C f : Addr} {m : Str} {k : Nat} {fd : FuncData} {ps : List Str} {sp : SpD} {ta : DTE} {tr : DTA} {apos : Pos} (he : DE X o ta) (c : Cls X.K C) (hm : Meth X.K C m f) (Fn : FnG X.prog X.w X.K X.mg X.base CX0 k f fd ps (SpOf X.K sp)) (hA : X.A.guards = some []) (hr : Room k X.A) (hb : Binds X.K fd ps []) (ha : DA X (e :: es) tr)
    (hst : starEach (e :: es) X.env = (false, eval e X.env) :: starEach es X.env := by rfl) (hpl : (backTo pos (starEach es X.env)).any (·.1) = false := by rfl)
    (ht : eval (.Call (.Attribute o m apos) (e :: es) [] pos) X.env = (do let ov ← eval o X.env; standAt apos.atName; let (f, first) ← holding [ov] (getMethod ov m pl); callWith pos f first (backTo pos (starEach (e :: es) X.env)) (backToKw pos (keywordEach [] X.env))) := by rfl) :
    DE X (.Call (.Attribute o m apos) (e :: es) [] pos) (dMeth C m sp ta tr) := by
  obtain ⟨t1, p1, r1⟩ := he.ex
  obtain ⟨t2, p2, r2⟩ := ha.ex
  refine ⟨_, pg_meth p1 c hm Fn hA hr hb .nil pass0 p2 hst hpl ht, fun F H σ S G o Q' h Q k => ?_⟩
  refine r1 F H σ S G o _ h _ fun F1 H1 v d G1 e1 g1 q1 h1 => ?_
  dsimp only at h1
  split at h1
  · rename_i C' fs ex
    obtain ⟨rfl, hl, h1⟩ := h1
    obtain ⟨a, dx, kvs, rfl, ha', kr⟩ := cur_obj g1 q1 ex
    refine ⟨a, dx, kvs, rfl, ha', kr.look.2 hl, ?_⟩
    refine r2 F1 H1 σ S G1 (o.go e1 g1) _ h1 _ fun F2 H2 vs ds G2 e2 g2 q2 h2 => ?_
    rw [List.append_nil]
    exact ⟨F2, G2, d :: ds, Q', g2, .cons (q1.mono e2.ex) q2, h2, k.mono (e1.trans e2)⟩
  · exact h1.elim
def dMake (C : Addr) (sp : SpD) (tr : DTA) : DTE := fun S G Q => tr S G fun ds G1 => ∀ y, G1 y = none → sp (.rf y :: ds) (gput G1 y (.ins C [])) fun d G2 => match d with
  | .non => Q (.rf y) G2
  | _ => False
theorem de_make {e : Expr} {es : List Expr} {C f : Addr} {x : Str} {k : Nat} {fd : FuncData} {ps : List Str} {sp : SpD} {tr : DTA} {p : Pos} (M : Mk X.K C f) (Fn : FnG X.prog X.w X.K X.mg X.base CX0 k f fd ps (SpOf X.K sp)) (hA : X.A.guards = some []) (hr : Room (k + 1) X.A) (hg : Gl X x) (hm : X.mg x = some (.ref C)) (hb : Binds X.K fd ps []) (ha : DA X (e :: es) tr)
    (hdb : (x == ("__debug__" : Str)) = false := by decide) (he : starEach (e :: es) X.env = (false, eval e X.env) :: starEach es X.env := by rfl) (hpl : (backTo pos (starEach es X.env)).any (·.1) = false := by rfl) :
    DE X (.Call (.Name x p) (e :: es) [] pos) (dMake C sp tr) := by
  obtain ⟨t2, p2, r2⟩ := ha.ex
  refine ⟨_, pg_make M Fn hA hr hg hm hb .nil pass0 p2 hdb he hpl, fun F H σ S G o Q' h Q k => ?_⟩
  refine r2 F H σ S G o _ h _ fun F1 H1 vs ds G1 e1 g1 q1 h1 => ?_
  intro y dy ny ndy ne
  rw [List.append_nil]
  have gr := Gr.only (u := .own y) g1.ex ndy
  have g2 := g1.grow gr
  have ny2 : upd H1 dy (.own y) y = none := by rw [upd_ne (fun z => ne z.symm)]; exact ny
  have g3 := g2.alloc (u := .ins C dy []) (o := .ins C []) ny2 rfl ⟨dy, [], upd_same, rfl, .nil⟩
  have go3 : Go F1 H1 G1 F1 _ (gput G1 y (.ins C [])) := (gr.go (G := G1)).trans (Go.alloc (u := .ins C dy []) (o := .ins C []) ny2)
  refine ⟨F1, _, .rf y :: ds, _, g3, .cons (.rf y) q1, h1 y (g1.free ny), ?_⟩
  intro F4 H4 v d G4 e4 g4 q4 h4
  split at h4
  · cases q4
    exact ⟨rfl, k F4 H4 _ _ G4 ((e1.trans go3).trans e4) g4 (.rf y) h4⟩
  · exact h4.elim
end
end DL
end
section
set_option Elab.async false
set_option linter.all false
set_option maxRecDepth 100000
set_option maxHeartbeats 4000000
/-! DL7: what is walked; built-in functions. -/
namespace DL
open PySem PySem.Spec PyProof.Rows L2

section
variable {X : Cx} {pos : Pos} {tg : Expr}
/-! ### what is walked -/
def dNoGuard : GH → Prop := fun _ => True
def diTup (te : DTE) : DTI := fun S G R => te S G fun d G1 => match d with
  | .tup ds => R ds dNoGuard G1
  | _ => False
theorem di_tup {e : Expr} {te : DTE} (h : DE X e te) : DI X tg e (diTup te) := by
  obtain ⟨t, p, r⟩ := h.ex
  refine ⟨_, pi_tup p, fun F H σ S G o R' h R k => ?_⟩
  refine r F H σ S G o _ h _ fun F1 H1 v d G1 e1 g1 q1 h1 => ?_
  dsimp only at h1
  split at h1
  · cases q1 with
    | tup ha rs =>
      rename_i a vs
      refine ⟨a, rfl, ⟨vs, .inl (.inl (g1.ex _ _ ha))⟩, k F1 H1 G1 _ _ _ e1 g1 ⟨fun F2 H2 G2 i d e2 g2 _ hd => ?_, fun F2 H2 G2 e2 g2 _ => ?_⟩ h1⟩
      · have hs : SqT X.K H2 a vs := .inl (.inl (g2.ex _ _ (e2 _ _ ha)))
        obtain ⟨v, hv, rv⟩ := rs.get hd
        refine ⟨⟨vs, v, hs, hv⟩, fun x H3 hy => ?_⟩
        obtain ⟨rfl, hx⟩ := hy
        have := hx vs hs
        rw [hv] at this
        cases this
        exact ⟨F2, Go.refl, g2, rv.mono e2⟩
      · exact ⟨vs, .inl (.inl (g2.ex _ _ (e2 _ _ ha))), by rw [rs.length]; exact Nat.le_refl _⟩
  · exact h1.elim
def diList (te : DTE) : DTI := fun S G R => te S G fun d G1 => match d with
  | .lst ds => R ds dNoGuard G1
  | .rf a => (match G1 a with
    | some (.lst ds) => R ds (fun G => G a = some (.lst ds)) G1
    | _ => False)
  | _ => False
theorem sql_uniq {K : PySem.W.Frag} {H : Hp} {a : Addr} {xs : List V} (h : H a = some (.lst xs)) : SqL K H a xs := .inl (.inl h)
theorem di_list {e : Expr} {te : DTE} (h : DE X e te) : DI X tg e (diList te) := by
  obtain ⟨t, p, r⟩ := h.ex
  refine ⟨_, pi_list p, fun F H σ S G o R' h R k => ?_⟩
  refine r F H σ S G o _ h _ fun F1 H1 v d G1 e1 g1 q1 h1 => ?_
  dsimp only at h1
  split at h1
  · cases q1 with
    | lst ha rs =>
      rename_i a vs
      refine ⟨a, rfl, ⟨vs, .inl (.inl (g1.ex _ _ ha))⟩, k F1 H1 G1 _ _ _ e1 g1 ⟨fun F2 H2 G2 i d e2 g2 _ hd => ?_, fun F2 H2 G2 e2 g2 _ => ?_⟩ h1⟩
      · have hs : SqL X.K H2 a vs := .inl (.inl (g2.ex _ _ (e2 _ _ ha)))
        obtain ⟨v, hv, rv⟩ := rs.get hd
        refine ⟨⟨vs, v, hs, hv⟩, fun x H3 hy => ?_⟩
        obtain ⟨rfl, hx⟩ := hy
        have := hx vs hs
        rw [hv] at this
        cases this
        exact ⟨F2, Go.refl, g2, rv.mono e2⟩
      · exact ⟨vs, .inl (.inl (g2.ex _ _ (e2 _ _ ha))), by rw [rs.length]; exact Nat.le_refl _⟩
  · rename_i a
    split at h1
    · rename_i ds eg
      cases q1
      obtain ⟨fa, vs0, ha0, rs0⟩ := g1.at_ a _ eg
      refine ⟨a, rfl, ⟨vs0, .inl (.inl ha0)⟩, k F1 H1 G1 _ _ _ e1 g1 ⟨fun F2 H2 G2 i d e2 g2 gd hd => ?_, fun F2 H2 G2 e2 g2 gd => ?_⟩ h1⟩
      · obtain ⟨fa2, vs, ha, rs⟩ := g2.at_ a _ gd
        have hs : SqL X.K H2 a vs := .inl (.inl ha)
        obtain ⟨v, hv, rv⟩ := rs.get hd
        refine ⟨⟨vs, v, hs, hv⟩, fun x H3 hy => ?_⟩
        obtain ⟨rfl, hx⟩ := hy
        have := hx vs hs
        rw [hv] at this
        cases this
        exact ⟨F2, Go.refl, g2, rv⟩
      · obtain ⟨fa2, vs, ha, rs⟩ := g2.at_ a _ gd
        exact ⟨vs, .inl (.inl ha), by rw [rs.length]; exact Nat.le_refl _⟩
    · exact h1.elim
  · exact h1.elim
def signs (x : Str) : List D := x.cps.toList.map fun c => .str ⟨#[c]⟩
def diStr (te : DTE) : DTI := fun S G R => te S G fun d G1 => match d with
  | .str x => R (signs x) dNoGuard G1
  | _ => False
theorem di_str {e : Expr} {te : DTE} (h : DE X e te) : DI X tg e (diStr te) := by
  obtain ⟨t, p, r⟩ := h.ex
  refine ⟨_, pi_str p, fun F H σ S G o R' h R k => ?_⟩
  refine r F H σ S G o _ h _ fun F1 H1 v d G1 e1 g1 q1 h1 => ?_
  dsimp only at h1
  split at h1
  · rename_i x
    cases q1
    refine ⟨x, rfl, k F1 H1 G1 _ _ _ e1 g1 ⟨fun F2 H2 G2 i d e2 g2 _ hd => ?_, fun F2 H2 G2 e2 g2 _ => ?_⟩ h1⟩
    · unfold signs at hd
      rw [List.getElem?_map] at hd
      cases ec : x.cps.toList[i]? with
      | none => rw [ec] at hd; cases hd
      | some c =>
        rw [ec] at hd
        cases hd
        have hl : i < x.cps.size := by
          have := (List.getElem?_eq_some_iff.mp ec).1
          simpa using this
        refine ⟨hl, fun y H3 hy => ?_⟩
        obtain ⟨rfl, c', hc', rfl⟩ := hy
        have e2' : x.cps[i]? = some c := by rw [← ec]; simp
        rw [e2'] at hc'
        cases hc'
        exact ⟨F2, Go.refl, g2, .str _⟩
    · show x.cps.size ≤ (signs x).length
      simp [signs]
  · exact h1.elim
def diRange1 (ta : DTA) : DTI := fun S G R => ta S G fun ds G1 => match ds with
  | [.int n] => -(2 ^ 62) ≤ n ∧ n < 2 ^ 62 ∧ R ((List.range n.toNat).map fun i => .int (i : Nat)) dNoGuard G1
  | _ => False
theorem itr_ok {K : PySem.W.Frag} {F : Hp} (lo : Int) (n : Nat) : ItOk K F (Itr lo n) ((List.range n).map fun i => .int (lo + (i : Nat))) dNoGuard := by
  refine ⟨fun F2 H2 G2 i d e2 g2 _ hd => ?_, fun F2 H2 G2 e2 g2 _ => ?_⟩
  · rw [List.getElem?_map] at hd
    cases ec : (List.range n)[i]? with
    | none => rw [ec] at hd; cases hd
    | some c =>
      rw [ec] at hd
      cases hd
      have hl := (List.getElem?_eq_some_iff.mp ec)
      obtain ⟨h1, h2⟩ := hl
      rw [List.length_range] at h1
      rw [List.getElem_range] at h2
      subst h2
      refine ⟨h1, fun y H3 hy => ?_⟩
      obtain ⟨rfl, rfl⟩ := hy
      exact ⟨F2, Go.refl, g2, .int _⟩
  · show n ≤ _
    simp
theorem di_range1 {a : Expr} {ta : DTA} {p : Pos} (hg : Gl X "range") (hm : X.mg "range" = none) (ha : DA X [a] ta) (hs : starEach [a] X.env = [(false, eval a X.env)] := by rfl) : DI X tg (.Call (.Name "range" p) [a] [] pos) (diRange1 ta) := by
  obtain ⟨t, p1, r⟩ := ha.ex
  refine ⟨_, pi_range1 hg hm p1 hs, fun F H σ S G o R' h R k => ?_⟩
  refine r F H σ S G o _ h _ fun F1 H1 vs ds G1 e1 g1 q1 h1 => ?_
  dsimp only at h1
  split at h1
  · rename_i n
    cases q1 with
    | cons a b =>
      cases a; cases b
      obtain ⟨h2, h3, h4⟩ := h1
      refine ⟨n, rfl, h2, h3, k F1 H1 G1 _ _ _ e1 g1 (itr_ok 0 n.toNat) ?_⟩
      have e : ((List.range n.toNat).map fun i => D.int (0 + ((i : Nat) : Int))) = (List.range n.toNat).map fun i => D.int ((i : Nat) : Int) := by
        congr 1
        funext i
        rw [Int.zero_add]
      rw [e]
      exact h4
  · exact h1.elim
def diRange2 (ta : DTA) : DTI := fun S G R => ta S G fun ds G1 => match ds with
  | [.int m, .int n] => (-(2 ^ 62) ≤ m ∧ m < 2 ^ 62 ∧ -(2 ^ 62) ≤ n ∧ n < 2 ^ 62) ∧ R ((List.range (n - m).toNat).map fun i => .int (m + (i : Nat))) dNoGuard G1
  | _ => False
theorem di_range2 {a b : Expr} {ta : DTA} {p : Pos} (hg : Gl X "range") (hm : X.mg "range" = none) (ha : DA X [a, b] ta) (hs : starEach [a, b] X.env = [(false, eval a X.env), (false, eval b X.env)] := by rfl) (hs2 : starEach [b] X.env = [(false, eval b X.env)] := by rfl) : DI X tg (.Call (.Name "range" p) [a, b] [] pos) (diRange2 ta) := by
  obtain ⟨t, p1, r⟩ := ha.ex
  refine ⟨_, pi_range2 hg hm p1 hs hs2, fun F H σ S G o R' h R k => ?_⟩
  refine r F H σ S G o _ h _ fun F1 H1 vs ds G1 e1 g1 q1 h1 => ?_
  dsimp only at h1
  split at h1
  · rename_i m n
    cases q1 with
    | cons a b =>
      cases a
      cases b with
      | cons c d =>
        cases c; cases d
        exact ⟨m, n, rfl, h1.1, k F1 H1 G1 _ _ _ e1 g1 (itr_ok m _) h1.2⟩
  · exact h1.elim
/-! ### calls of built-ins -/
def dCB (r : List D → GH → DQ → Prop) (ta : DTA) : DTE := fun S G Q => ta S G fun ds G1 => r ds G1 Q
theorem de_callB {id : String} {r' : List D → GH → DQ → Prop} {x : Str} {e : Expr} {es : List Expr} {ta : DTA} {p : Pos} (hc : CallD X (.builtin id) r') (hg : Gl X x) (hm : X.mg x = none) (hv : bootBuiltins x = some (.builtin id)) (ha : DA X (e :: es) ta) (hn : x ≠ "__name__" := by decide) (hdb : (x == ("__debug__" : Str)) = false := by decide)
    (he : starEach (e :: es) X.env = (false, eval e X.env) :: starEach es X.env := by rfl) (hpl : (backTo pos (starEach es X.env)).any (·.1) = false := by rfl) : DE X (.Call (.Name x p) (e :: es) [] pos) (dCB r' ta) := by
  obtain ⟨r, hr, rr⟩ := hc.ex
  obtain ⟨t, p1, r1⟩ := ha.ex
  refine ⟨_, pe_callB hr hg hm hv p1 hn hdb he hpl, fun F H σ S G o Q' h Q k => ?_⟩
  refine r1 F H σ S G o _ h _ fun F1 H1 vs ds G1 e1 g1 q1 h1 => ?_
  exact rr F1 H1 G1 vs ds g1 q1 Q' h1 Q (k.mono e1)
theorem de_callTy {T : String} {r' : List D → GH → DQ → Prop} {x : Str} {e : Expr} {es : List Expr} {ta : DTA} {p : Pos} (hc : CallD X (.type T) r') (hg : Gl X x) (hm : X.mg x = none) (hv : bootBuiltins x = some (.type T)) (ha : DA X (e :: es) ta) (hn : x ≠ "__name__" := by decide) (hdb : (x == ("__debug__" : Str)) = false := by decide)
    (he : starEach (e :: es) X.env = (false, eval e X.env) :: starEach es X.env := by rfl) (hpl : (backTo pos (starEach es X.env)).any (·.1) = false := by rfl) : DE X (.Call (.Name x p) (e :: es) [] pos) (dCB r' ta) := by
  obtain ⟨r, hr, rr⟩ := hc.ex
  obtain ⟨t, p1, r1⟩ := ha.ex
  refine ⟨_, pe_callTy hr hg hm hv p1 hn hdb he hpl, fun F H σ S G o Q' h Q k => ?_⟩
  refine r1 F H σ S G o _ h _ fun F1 H1 vs ds G1 e1 g1 q1 h1 => ?_
  exact rr F1 H1 G1 vs ds g1 q1 Q' h1 Q (k.mono e1)
theorem CallR.or {f : Value} {r r' : List V → Hp → VK → Prop} (h : CallR X f r) (h' : CallR X f r') : CallR X f (fun xs H Q => r xs H Q ∨ r' xs H Q) := by
  intro pins s σ H xs us Q I rx q
  rcases q with q | q
  · exact h pins s σ H xs us Q I rx q
  · exact h' pins s σ H xs us Q I rx q
/-- len -/
def D.len : D → Option Nat
  | .tup xs => some xs.length
  | .lst xs => some xs.length
  | .str z => if z.length ≤ sizeLine then some z.length else none
  | .dK kds => some kds.length
  | .dT kds => some kds.length
  | _ => none
def rLenD (ds : List D) (G : GH) (Q : DQ) : Prop := match ds with
  | [d] => (match (d.cur G).len with
    | some n => Q (.int (n : Nat)) G
    | none => False)
  | _ => False
theorem cd_len : CallD X (.builtin "len") rLenD := by
  refine ⟨_, CallR.or call_len (CallR.or call_lenD call_len_dT), fun F H G vs ds g rs Q' h Q k => ?_⟩
  unfold rLenD at h
  split at h
  · rename_i d
    cases rs with
    | cons r b =>
      cases b
      split at h
      · rename_i n en
        have fin : Q (.int (n : Nat)) H := k F H _ _ G Go.refl g (.int _) h
        unfold D.len at en
        split at en
        · rename_i xs ex
          cases en
          obtain ⟨a, vs, rfl, ha, rs⟩ := cur_tup r ex
          exact .inl ⟨_, _, rfl, .inr ⟨vs, .inl (.inl (g.ex _ _ ha)), rs.length.symm⟩, fin⟩
        · rename_i xs ex
          cases en
          obtain ⟨a, vs, rfl, ha, rs⟩ := cur_list g r ex
          exact .inl ⟨_, _, rfl, .inl ⟨vs, .inl (.inl ha), rs.length.symm⟩, fin⟩
        · rename_i z ex
          split at en
          · rename_i hz
            cases en
            have := cur_str r ex
            subst this
            exact .inl ⟨_, _, rfl, ⟨hz, rfl⟩, fin⟩
          · cases en
        · rename_i kds ex
          cases en
          obtain ⟨a, kvs, rfl, ha, kr⟩ := cur_dK g r ex
          exact .inr (.inl ⟨a, kvs, rfl, ha, by rw [kr.len]; exact fin⟩)
        · rename_i kds ex
          cases en
          obtain ⟨a, kvs, rfl, ha, kr⟩ := cur_dT g r ex
          exact .inr (.inr ⟨a, kvs, rfl, ha, by rw [kr.len]; exact fin⟩)
        · cases en
      · exact h.elim
  · exact h.elim
/-- tuple(x) of a list, a tuple -/
def rTupleD (ds : List D) (G : GH) (Q : DQ) : Prop := match ds with
  | [d] => (match d.cur G with
    | .tup xs => Q (.tup xs) G
    | .lst xs => Q (.tup xs) G
    | _ => False)
  | _ => False
theorem cd_tuple : CallD X (.type "tuple") rTupleD := by
  refine ⟨_, call_tuple_of, fun F H G vs ds g rs Q' h Q k => ?_⟩
  unfold rTupleD at h
  split at h
  · rename_i d
    cases rs with
    | cons r b =>
      cases b
      split at h
      · rename_i xs ex
        obtain ⟨a, vs, rfl, ha, rs⟩ := cur_tup r ex
        exact ⟨a, vs, rfl, .inr ⟨.inl (.inl (g.ex _ _ ha)), k F H _ _ G Go.refl g (.tup ha rs) h⟩⟩
      · rename_i xs ex
        obtain ⟨a, vs, rfl, ha, rs⟩ := cur_list g r ex
        refine ⟨a, vs, rfl, .inl ⟨.inl (.inl ha), fun l hl => ?_⟩⟩
        have gr := Gr.new (u := .tup vs) g.ex hl
        exact k _ _ _ _ G gr.go (g.grow gr) (.tup upd_same (rs.mono gr.ff)) h
      · exact h.elim
  · exact h.elim
/-- list(x) of a list, a tuple: frozen -/
def rListD (ds : List D) (G : GH) (Q : DQ) : Prop := match ds with
  | [d] => (match d.cur G with
    | .tup xs => Q (.lst xs) G
    | .lst xs => Q (.lst xs) G
    | _ => False)
  | _ => False
theorem cd_list : CallD X (.type "list") rListD := by
  refine ⟨_, call_list_of, fun F H G vs ds g rs Q' h Q k => ?_⟩
  unfold rListD at h
  split at h
  · rename_i d
    cases rs with
    | cons r b =>
      cases b
      split at h
      · rename_i xs ex
        obtain ⟨a, vs, rfl, ha, rs⟩ := cur_tup r ex
        refine ⟨a, vs, rfl, .inr (.inl (.inl (g.ex _ _ ha))), fun l hl => ?_⟩
        have gr := Gr.new (u := .lst vs) g.ex hl
        exact k _ _ _ _ G gr.go (g.grow gr) (.lst upd_same (rs.mono gr.ff)) h
      · rename_i xs ex
        obtain ⟨a, vs, rfl, ha, rs⟩ := cur_list g r ex
        refine ⟨a, vs, rfl, .inl (.inl (.inl ha)), fun l hl => ?_⟩
        have gr := Gr.new (u := .lst vs) g.ex hl
        exact k _ _ _ _ G gr.go (g.grow gr) (.lst upd_same (rs.mono gr.ff)) h
      · exact h.elim
  · exact h.elim
/-- {}: a dict that will change -/
def dNewK : DTE := fun _ G Q => ∀ p, G p = none → Q (.rf p) (gput G p (.dK []))
def dNewT : DTE := fun _ G Q => ∀ p, G p = none → Q (.rf p) (gput G p (.dT []))
theorem de_newK : DE X (.Dict [] [] pos) dNewK := by
  refine ⟨_, pe_dnewK, fun F H σ S G o Q' h Q k => ?_⟩
  intro p hp
  exact k _ _ _ _ _ (Go.alloc hp) (o.g.alloc (o := .dK []) hp rfl ⟨[], upd_same, rfl, .nil⟩) (.rf p) (h p (o.g.free hp))
theorem de_newT : DE X (.Dict [] [] pos) dNewT := by
  refine ⟨_, pe_dnewT, fun F H σ S G o Q' h Q k => ?_⟩
  intro p hp
  exact k _ _ _ _ _ (Go.alloc hp) (o.g.alloc (o := .dT []) hp rfl ⟨[], upd_same, rfl, .nil⟩) (.rf p) (h p (o.g.free hp))
/-- sorted(d) of a dict with int keys, fewer than 64 -/
def intKeys : List (Key × D) → Option (List Int)
  | [] => some []
  | (.inl i, _) :: r => (intKeys r).map (i :: ·)
  | (.inr _, _) :: _ => none
theorem intKeys_map : ∀ {kds : List (Key × D)} {ns : List Int}, intKeys kds = some ns → kds.map (·.1) = ns.map Sum.inl
  | [], _, h => by cases h; rfl
  | (.inl i, d) :: r, ns, h => by
    unfold intKeys at h
    cases e : intKeys r with
    | none => rw [e] at h; cases h
    | some m =>
      rw [e] at h
      cases h
      simp [intKeys_map e]
  | (.inr _, _) :: _, _, h => by cases h
end
end DL
end
section
set_option Elab.async false
set_option linter.all false
set_option maxRecDepth 100000
set_option maxHeartbeats 4000000
/-! DL8: list comprehensions, methods of lists. -/
namespace DL
open PySem PySem.Spec PyProof.Rows L2

def hatE (K : PySem.W.Frag) (t' : DTE) : TE := fun σ H Q => ∃ F S G Q', Ok K F H σ S G ∧ t' S G Q' ∧ KpE K F H G Q' Q
def hatT (K : PySem.W.Frag) (t' : DTT) : TT := fun σ H Q => ∃ F S G Q', Ok K F H σ S G ∧ t' S G Q' ∧ KpT K F H G Q' Q
theorem DE.hat {X : Cx} {e : Expr} {t' : DTE} (h : DE X e t') : PE X e (hatE X.K t') := by
  obtain ⟨t, p, r⟩ := h.ex
  exact ⟨fun pins s σ H Q I ⟨F, S, G, Q', o, h1, k⟩ => p.run pins s σ H Q I (r F H σ S G o Q' h1 Q k)⟩
theorem DT.hat {X : Cx} {e : Expr} {t' : DTT} (h : DT X e t') : PT X e (hatT X.K t') := by
  obtain ⟨t, p, r⟩ := h.ex
  exact ⟨fun pins s σ H Q I ⟨F, S, G, Q', o, h1, k⟩ => p.run pins s σ H Q I (r F H σ S G o Q' h1 Q k)⟩
/-- the tests of a comprehension -/
structure DTs (X : Cx) (ifs : List Expr) (t' : DTT) : Prop where
  pt : PTs X ifs (hatT X.K t')
def dYes : DTT := fun _ G Q => Q true G
theorem dts_nil {X : Cx} : DTs X [] dYes := ⟨⟨fun pins s σ H Q I ⟨F, S, G, Q', o, h1, k⟩ => (pts_nil (X := X)).run pins s σ H Q I (k F H true G Go.refl o.g h1)⟩⟩
theorem dts_one {X : Cx} {c : Expr} {t' : DTT} (h : DT X c t') : DTs X [c] t' := ⟨pts_one h.hat⟩

/-! ### targets of a comprehension: a name, a tuple of names -/
inductive Pat where
  | nm (i : Nat) | tp (is : List Nat)
def gNames : List Nat → TGs
  | [] => gNil
  | i :: is => gCons (gName i) (gNames is)
def Pat.g (K : PySem.W.Frag) : Pat → TG
  | .nm i => gName i
  | .tp is => gTup K is.length (gNames is)
def Pat.at_ : Pat → List Nat
  | .nm i => [i]
  | .tp is => is
def setAll : List Nat → List D → DS → Option DS
  | [], [], S => some S
  | i :: is, d :: ds, S => setAll is ds (S.set i (some d))
  | _, _, _ => none
def Pat.put (p : Pat) (d : D) (S : DS) : Option DS := match p with
  | .nm i => some (S.set i (some d))
  | .tp is => (match d with
    | .tup ds => setAll is ds S
    | _ => none)
def dwipe (S : DS) : List Nat → DS
  | [] => S
  | v :: vs => (dwipe S vs).set v none
theorem wipe_slots {K : PySem.W.Frag} {F : Hp} {σ : L2.St} {S : DS} (h : Slots K F σ S) : ∀ vs : List Nat, Slots K F (wipe σ vs) (dwipe S vs)
  | [] => h
  | v :: vs => (wipe_slots h vs).setN none v
theorem wipe_set {σ : L2.St} {i : Nat} {x : Option V} : ∀ {vs : List Nat}, i ∈ vs → wipe (σ.set i x) vs = wipe σ vs
  | [], h => by simp at h
  | v :: vs, h => by
    unfold wipe
    by_cases e : i ∈ vs
    · rw [wipe_set e]
    · have iv : i = v := by
        rcases List.mem_cons.mp h with h | h
        · exact h
        · exact absurd h e
      subst iv
      have aux : ∀ us : List Nat, i ∉ us → wipe (σ.set i x) us = (wipe σ us).set i x := by
        intro us
        induction us with
        | nil => intro _; rfl
        | cons u us ih =>
          intro hu
          rw [List.mem_cons, not_or] at hu
          unfold wipe
          rw [ih hu.2, List.set_comm _ _ hu.1]
      rw [aux vs e, List.set_set]
theorem wipe_wipe {σ : L2.St} {vs : List Nat} : wipe (wipe σ vs) vs = wipe σ vs := by
  have aux : ∀ us : List Nat, (∀ u ∈ us, u ∈ vs) → wipe (wipe σ us) vs = wipe σ vs := by
    intro us
    induction us with
    | nil => intro _; rfl
    | cons u us ih =>
      intro hu
      show wipe ((wipe σ us).set u none) vs = _
      rw [wipe_set (hu u (by simp)), ih fun w hw => hu w (by simp [hw])]
  exact aux vs fun _ h => h
theorem names_ok {K : PySem.W.Frag} {F H : Hp} {G : GH} {vs0 : List Nat} : ∀ {is : List Nat} {ds : List D} {vs : List V} {σ : L2.St} {S S2 : DS} {Q : L2.St → Hp → Prop}, (∀ i ∈ is, i ∈ vs0) → Ok K F H σ S G → Reps K F vs ds → setAll is ds S = some S2 →
    (∀ σ2, wipe σ2 vs0 = wipe σ vs0 → Ok K F H σ2 S2 G → Q σ2 H) → gNames is vs σ H Q
  | [], [], vs, σ, S, S2, Q, _, o, r, h, k => by
    cases r
    cases h
    exact ⟨rfl, k σ rfl o⟩
  | i :: is, d :: ds, vs, σ, S, S2, Q, hi, o, r, h, k => by
    cases r with
    | cons a b =>
      refine ⟨_, _, rfl, ?_⟩
      show gNames is _ _ H Q
      refine names_ok (S := S.set i (some d)) (fun j hj => hi j (by simp [hj])) ⟨o.g, o.s.set a i⟩ b h fun σ2 e o2 => k σ2 ?_ o2
      rw [e, wipe_set (hi i (by simp))]
  | [], _ :: _, _, _, _, _, _, _, _, _, h, _ => by cases h
  | _ :: _, [], _, _, _, _, _, _, _, _, h, _ => by cases h
theorem pat_ok {K : PySem.W.Frag} {F H : Hp} {G : GH} {vs0 : List Nat} {p : Pat} {d : D} {v : V} {σ : L2.St} {S S2 : DS} {Q : L2.St → Hp → Prop} (hp : ∀ i ∈ p.at_, i ∈ vs0) (o : Ok K F H σ S G) (r : Rep K F v d) (h : p.put d S = some S2)
    (k : ∀ σ2, wipe σ2 vs0 = wipe σ vs0 → Ok K F H σ2 S2 G → Q σ2 H) : p.g K v σ H Q := by
  cases p with
  | nm i =>
    cases h
    exact k _ (wipe_set (hp i (by simp [Pat.at_]))) ⟨o.g, o.s.set r i⟩
  | tp is =>
    unfold Pat.put at h
    cases d with
    | tup ds =>
      simp only at h
      cases r with
      | tup ha rs =>
        have hl : ds.length = is.length := by
          clear ha rs o k hp
          induction is generalizing ds S with
          | nil => cases ds with
            | nil => rfl
            | cons a b => cases h
          | cons i is ih => cases ds with
            | nil => cases h
            | cons a b => simpa using ih _ h
        exact ⟨_, _, rfl, .inl (.inl (o.g.ex _ _ ha)), by rw [rs.length]; exact hl, names_ok hp o rs h k⟩
    | _ => cases h

section
variable {X : Cx} {pos : Pos}
/-- [e for p in .. if t] -/
def dLc (wi : DTI) (p : Pat) (tt : DTT) (te : DTE) (vs : List Nat) : DTE := fun S G Q => wi S G fun ds gd G1 => ds.length ≤ sizeLine ∧ ∃ W : Nat → List D → GH → Prop, W 0 [] G1 ∧ (∀ i acc G, W i acc G → gd G) ∧
  (∀ i acc G d, W i acc G → ds[i]? = some d → ∃ S2, p.put d (dwipe S vs) = some S2 ∧ tt S2 G fun b G2 => if b = true then te S2 G2 fun y G3 => W (i + 1) (acc ++ [y]) G3 else W (i + 1) acc G2) ∧
  ∀ acc G, W ds.length acc G → Q (.lst acc) G
/-- the same, the list may change later -/
def dLcM (wi : DTI) (p : Pat) (tt : DTT) (te : DTE) (vs : List Nat) : DTE := fun S G Q => dLc wi p tt te vs S G fun d G' => match d with
  | .lst acc => ∀ a, G' a = none → Q (.rf a) (gput G' a (.lst acc))
  | _ => False
theorem lc_refine {wi : DTI} {p : Pat} {tt : DTT} {te : DTE} {vs : List Nat} {tw : TI} (hp : ∀ i ∈ p.at_, i ∈ vs)
    (r0 : ∀ F H σ S G, Ok X.K F H σ S G → ∀ R', wi S G R' → ∀ R : It → Hp → Prop, (∀ F1 H1 G1 J ds gd, Go F H G F1 H1 G1 → Gok X.K F1 H1 G1 → ItOk X.K F1 J ds gd → R' ds gd G1 → R J H1) → tw σ H R)
    {F H : Hp} {σ : L2.St} {S : DS} {G : GH} (o : Ok X.K F H σ S G) {Q' : List D → GH → Prop} {Q : VK}
    (h : wi S G fun ds gd G1 => ds.length ≤ sizeLine ∧ ∃ W : Nat → List D → GH → Prop, W 0 [] G1 ∧ (∀ i acc G, W i acc G → gd G) ∧
      (∀ i acc G d, W i acc G → ds[i]? = some d → ∃ S2, p.put d (dwipe S vs) = some S2 ∧ tt S2 G fun b G2 => if b = true then te S2 G2 fun y G3 => W (i + 1) (acc ++ [y]) G3 else W (i + 1) acc G2) ∧ ∀ acc G, W ds.length acc G → Q' acc G)
    (k : ∀ F' H' G' D accV acc, H D = none → Go F H G F' H' G' → Gok X.K F' H' G' → H' D = some (.lst accV) → Reps X.K F' accV acc → F' D = none → G' D = none → Q' acc G' → Q (.ref D) H') :
    tLc tw (p.g X.K) (hatT X.K tt) (hatE X.K te) vs σ H Q := by
  refine r0 F H σ S G o _ h _ fun F1 H1 G1 J ds gd e1 g1 it h1 => ?_
  obtain ⟨hz, W, w0, wg, turn, done⟩ := h1
  intro D hD
  have gD : G1 D = none := g1.free hD
  have fD : F1 D = none := g1.ex.nope hD
  have go0 : Go F1 H1 G1 F1 (upd H1 D (.lst [])) G1 := by
    have := (Gr.only (u := .lst []) g1.ex hD).go (G := G1)
    exact this
  have g0 : Gok X.K F1 (upd H1 D (.lst [])) G1 := g1.grow (Gr.only g1.ex hD)
  refine ⟨fun i m H2 => i + m = ds.length ∧ ∃ F2 G2 accV acc, Go F1 H1 G1 F2 H2 G2 ∧ Gok X.K F2 H2 G2 ∧ H2 D = some (.lst accV) ∧ Reps X.K F2 accV acc ∧ F2 D = none ∧ G2 D = none ∧ acc.length ≤ i ∧ W i acc G2,
    ⟨ds.length, Nat.zero_add _, F1, G1, [], [], go0, g0, upd_same, .nil, fD, gD, Nat.le_refl _, w0⟩, ?_⟩
  rintro i m H2 ⟨him, F2, G2, accV, acc, e2, g2, hd2, rs2, fd2, gd2, hl2, w2⟩
  have gg := wg i acc G2 w2
  cases m with
  | zero =>
    have hi : i = ds.length := him
    refine .inl ⟨hi ▸ it.stop F2 H2 G2 e2.ex g2 gg, ?_⟩
    exact k F2 H2 G2 D accV acc (e1.st D hD) (e1.trans e2) g2 hd2 rs2 fd2 gd2 (done acc G2 (hi ▸ w2))
  | succ m =>
    have hlt : i < ds.length := by omega
    have hd : ds[i]? = some ds[i] := List.getElem?_eq_getElem hlt
    obtain ⟨ig, iy⟩ := it.go F2 H2 G2 i _ e2.ex g2 gg hd
    refine .inr ⟨ig, fun H3 => ∃ F3 G3 accV acc, Go F1 H1 G1 F3 H3 G3 ∧ Gok X.K F3 H3 G3 ∧ H3 D = some (.lst accV) ∧ Reps X.K F3 accV acc ∧ F3 D = none ∧ G3 D = none ∧ acc.length ≤ i + 1 ∧ W (i + 1) acc G3,
      fun H3 z => ⟨m, Nat.lt_succ_self m, by omega, z⟩, fun x H3 hy => ?_⟩
    obtain ⟨F3, e3, g3, q3⟩ := iy x H3 hy
    obtain ⟨S2, hS2, body⟩ := turn i acc G2 _ w2 hd
    have o3 : Ok X.K F3 H3 (wipe σ vs) (dwipe S vs) G2 := ⟨g3, wipe_slots (((o.s.mono e1.ex).mono e2.ex).mono e3.ex) vs⟩
    have hd3 : H3 D = some (.lst accV) := (e3.fr D _ hd2 gd2).1
    have fd3 : F3 D = none := e3.no D _ hd2 gd2 fd2 (fun _ z => nomatch z)
    refine pat_ok hp o3 q3 hS2 fun σ2 ew o4 => ⟨by rw [ew, wipe_wipe], ?_⟩
    refine ⟨F3, S2, G2, _, o4, body, fun F5 H5 b G5 e5 g5 h5 => ?_⟩
    have hd5 := e5.fr D _ hd3 gd2
    have fd5 := e5.no D _ hd3 gd2 fd3 (fun _ z => nomatch z)
    cases b with
    | true =>
      dsimp only
      rw [if_pos rfl] at h5 ⊢
      refine ⟨F5, S2, G5, _, o4.go e5 g5, h5, fun F6 H6 y dy G6 e6 g6 r6 h6 => ?_⟩
      have hd6 := e6.fr D _ hd5.1 hd5.2
      have fd6 := e6.no D _ hd5.1 hd5.2 fd5 (fun _ z => nomatch z)
      have r6' := ((rs2.mono e3.ex).mono e5.ex).mono e6.ex
      refine ⟨accV, hd6.1, by rw [rs2.length]; omega, F6, G6, accV ++ [y], acc ++ [dy], ?_, ?_, upd_same, r6'.append (.one r6), fd6, hd6.2, by simp; omega, h6⟩
      · have ea := (((e2.trans e3).trans e5).trans e6)
        refine ⟨ea.ex, fun b u hb gb => ?_, ea.no, fun b z => ea.st b (upd_none z)⟩
        have q : b ≠ D := fun z => by rw [z, hD] at hb; cases hb
        rw [upd_ne q]
        exact ea.fr b u hb gb
      · refine ⟨g6.ex.updR fd6, fun a w ha => ?_, g6.one⟩
        have q : a ≠ D := fun z => by rw [z, hd6.2] at ha; cases ha
        obtain ⟨fa, ma⟩ := g6.at_ a w ha
        refine ⟨fa, ma.move (Ex.refl F6) (fun b u hb hc => ?_) fun c z => z⟩
        have q2 : b ≠ D := fun z => by
          rcases hc with hc | hc
          · exact q (hc ▸ z)
          · rw [z, hd6.2] at hc; cases hc
        rw [upd_ne q2]; exact hb
    | false =>
      dsimp only
      rw [if_neg Bool.false_ne_true] at h5 ⊢
      exact ⟨F5, G5, accV, acc, (e2.trans e3).trans e5, g5, hd5.1, (rs2.mono e3.ex).mono e5.ex, fd5, hd5.2, by omega, h5⟩
/-- freeze what is in no one's hands -/
theorem hold_freeze {K : PySem.W.Frag} {F H : Hp} {G : GH} {D : Addr} {u : HO} (g : Gok K F H G) (hd : H D = some u) (fd : F D = none) (gd : G D = none) : Gok K (upd F D u) H G := by
  refine ⟨fun a w z => ?_, fun a w e => ?_, g.one⟩
  · by_cases q : a = D
    · subst q; rw [upd_same] at z; cases z; exact hd
    · rw [upd_ne q] at z; exact g.ex a w z
  · have q : a ≠ D := fun y => by rw [y, gd] at e; cases e
    obtain ⟨f, m⟩ := g.at_ a w e
    exact ⟨by rw [upd_ne q]; exact f, m.move (Ex.new fd) (fun b w hb _ => hb) fun c z => z⟩
theorem hold_own {K : PySem.W.Frag} {F H : Hp} {G : GH} {D : Addr} {vs : List V} {ds : List DL.D} (g : Gok K F H G) (hd : H D = some (.lst vs)) (fd : F D = none) (gd : G D = none) (r : Reps K F vs ds) : Gok K F H (gput G D (.lst ds)) := by
  refine ⟨g.ex, fun a w e => ?_, fun a b k1 k2 k3 n j1 j2 j3 m e1 e2 => ?_⟩
  · by_cases q : a = D
    · subst q
      rw [gput_same] at e; cases e
      exact ⟨fd, vs, hd, r⟩
    · rw [gput_ne q] at e
      obtain ⟨f, m⟩ := g.at_ a w e
      refine ⟨f, m.move (Ex.refl F) (fun b w hb _ => hb) fun c z => ?_⟩
      have q2 : c ≠ D := fun y => by rw [y, gd] at z; cases z
      rw [gput_ne q2]; exact z
  · have ha : a ≠ D := fun y => by rw [y, gput_same] at e1; cases e1
    have hb : b ≠ D := fun y => by rw [y, gput_same] at e2; cases e2
    rw [gput_ne ha] at e1; rw [gput_ne hb] at e2
    exact g.one a b k1 k2 k3 n j1 j2 j3 m e1 e2
theorem go_hold {F H F' H' : Hp} {G G' : GH} {D : Addr} {u : HO} (h : H D = none) (go : Go F H G F' H' G') (fd : F' D = none) : Go F H G (upd F' D u) H' G' := by
  refine ⟨go.ex.trans (Ex.new fd), go.fr, fun b w hb gb fb t => ?_, go.st⟩
  have q : b ≠ D := fun z => by rw [z, h] at hb; cases hb
  rw [upd_ne q]; exact go.no b w hb gb fb t
theorem go_own {F H F' H' : Hp} {G G' : GH} {D : Addr} {o : MO} (h : H D = none) (go : Go F H G F' H' G') : Go F H G F' H' (gput G' D o) := by
  refine ⟨go.ex, fun b w hb gb => ?_, go.no, go.st⟩
  have q : b ≠ D := fun z => by rw [z, h] at hb; cases hb
  rw [gput_ne q]; exact go.fr b w hb gb
theorem de_lc {elt tg iter : Expr} {ifs : List Expr} {scope : Scope} {own : List (Str × Nat)} {wi : DTI} {p : Pat} {tt : DTT} {te : DTE} (hc : X.calm = true) (hN : X.N.Nodup) (hi : DI X tg iter wi) (ok : BlkOk X.N X.env.scope scope own) (hp : ∀ i ∈ p.at_, i ∈ own.map (·.2))
    (hg : ∀ (s : Shared) (H : Hp) (C : Addr) (cl : List (Str × Addr)) (fp : List Addr), PG (X.blk s H scope (compEnvC scope cl C X.env) fp) tg (p.g X.K)) (ht : ∀ (s : Shared) (H : Hp) (C : Addr) (cl : List (Str × Addr)) (fp : List Addr), DTs (X.blk s H scope (compEnvC scope cl C X.env) fp) ifs tt)
    (he : ∀ (s : Shared) (H : Hp) (C : Addr) (cl : List (Str × Addr)) (fp : List Addr), DE (X.blk s H scope (compEnvC scope cl C X.env) fp) elt te) (hs : ∀ x, foldedSetIterable iter X.env x = pure x := by intro _; rfl) :
    DE X (.ListComp elt [⟨tg, iter, ifs, 0⟩] scope pos) (dLc wi p tt te (own.map (·.2))) := by
  obtain ⟨tw, p0, r0⟩ := hi.ex
  refine ⟨_, pe_lc (tt := hatT X.K tt) (te := hatE X.K te) hc hN p0 ok hg (fun s H C cl fp => (ht s H C cl fp).pt) (fun s H C cl fp => (he s H C cl fp).hat) hs, fun F H σ S G o Q' h Q k => ?_⟩
  refine lc_refine hp r0 o (Q' := fun acc G' => Q' (.lst acc) G') h fun F' H' G' D accV acc hD go g hd rs fd gd q => ?_
  exact k _ H' _ _ G' (go_hold hD go fd) (hold_freeze g hd fd gd) (.lst upd_same (rs.mono (Ex.new fd))) q
theorem de_lcM {elt tg iter : Expr} {ifs : List Expr} {scope : Scope} {own : List (Str × Nat)} {wi : DTI} {p : Pat} {tt : DTT} {te : DTE} (hc : X.calm = true) (hN : X.N.Nodup) (hi : DI X tg iter wi) (ok : BlkOk X.N X.env.scope scope own) (hp : ∀ i ∈ p.at_, i ∈ own.map (·.2))
    (hg : ∀ (s : Shared) (H : Hp) (C : Addr) (cl : List (Str × Addr)) (fp : List Addr), PG (X.blk s H scope (compEnvC scope cl C X.env) fp) tg (p.g X.K)) (ht : ∀ (s : Shared) (H : Hp) (C : Addr) (cl : List (Str × Addr)) (fp : List Addr), DTs (X.blk s H scope (compEnvC scope cl C X.env) fp) ifs tt)
    (he : ∀ (s : Shared) (H : Hp) (C : Addr) (cl : List (Str × Addr)) (fp : List Addr), DE (X.blk s H scope (compEnvC scope cl C X.env) fp) elt te) (hs : ∀ x, foldedSetIterable iter X.env x = pure x := by intro _; rfl) :
    DE X (.ListComp elt [⟨tg, iter, ifs, 0⟩] scope pos) (dLcM wi p tt te (own.map (·.2))) := by
  obtain ⟨tw, p0, r0⟩ := hi.ex
  refine ⟨_, pe_lc (tt := hatT X.K tt) (te := hatE X.K te) hc hN p0 ok hg (fun s H C cl fp => (ht s H C cl fp).pt) (fun s H C cl fp => (he s H C cl fp).hat) hs, fun F H σ S G o Q' h Q k => ?_⟩
  refine lc_refine hp r0 o (Q' := fun acc G' => ∀ a, G' a = none → Q' (.rf a) (gput G' a (.lst acc))) h fun F' H' G' D accV acc hD go g hd rs fd gd q => ?_
  exact k F' H' _ _ _ (go_own hD go) (hold_own g hd fd gd rs) (.rf D) (q D gd)
/-- name = [..] on one line -/
theorem dp_setLc {i : Nat} {y : Str} {py spos : Pos} {elt tg iter : Expr} {ifs : List Expr} {scope : Scope} {own : List (Str × Nat)} {wi : DTI} {p : Pat} {tt : DTT} {te : DTE} (hc : X.calm = true) (hN : X.N.Nodup) (hy : X.N[i]? = some y) (hyl : X.env.scope.names.lookup y = some .local)
    (hsw : swapsWith (.ListComp elt [⟨tg, iter, ifs, 0⟩] scope pos) (some (.Name y py)) spos.line X.env = pure true) (hi : DI X tg iter wi) (ok : BlkOk X.N X.env.scope scope own) (hp : ∀ i ∈ p.at_, i ∈ own.map (·.2))
    (hg : ∀ (s : Shared) (H : Hp) (C : Addr) (cl : List (Str × Addr)) (fp : List Addr), PG (X.blk s H scope (compEnvC scope cl C X.env) fp) tg (p.g X.K)) (ht : ∀ (s : Shared) (H : Hp) (C : Addr) (cl : List (Str × Addr)) (fp : List Addr), DTs (X.blk s H scope (compEnvC scope cl C X.env) fp) ifs tt)
    (he : ∀ (s : Shared) (H : Hp) (C : Addr) (cl : List (Str × Addr)) (fp : List Addr), DE (X.blk s H scope (compEnvC scope cl C X.env) fp) elt te) (hs : ∀ x, foldedSetIterable iter X.env x = pure x := by intro _; rfl) :
    DP X (.Assign [.Name y py] (.ListComp elt [⟨tg, iter, ifs, 0⟩] scope pos) spos) (dAsg (dLc wi p tt te (own.map (·.2))) (dgName i)) := by
  obtain ⟨tw, p0, r0⟩ := hi.ex
  refine ⟨_, ps_setLc (tt := hatT X.K tt) (te := hatE X.K te) hc hN hy hyl hsw p0 ok hg (fun s H C cl fp => (ht s H C cl fp).pt) (fun s H C cl fp => (he s H C cl fp).hat) hs, fun F H σ S G o D' h D0 k => ?_⟩
  refine lc_refine hp r0 o (Q' := fun acc G' => D'.nx (S.set i (some (.lst acc))) G') h fun F' H' G' D accV acc hD go g hd rs fd gd q => ?_
  have go2 := go_hold (u := .lst accV) hD go fd
  exact k.nx _ H' _ _ G' go2 ⟨hold_freeze g hd fd gd, (o.s.mono go2.ex).set (.lst upd_same (rs.mono (Ex.new fd))) i⟩ q
theorem dp_setLcM {i : Nat} {y : Str} {py spos : Pos} {elt tg iter : Expr} {ifs : List Expr} {scope : Scope} {own : List (Str × Nat)} {wi : DTI} {p : Pat} {tt : DTT} {te : DTE} (hc : X.calm = true) (hN : X.N.Nodup) (hy : X.N[i]? = some y) (hyl : X.env.scope.names.lookup y = some .local)
    (hsw : swapsWith (.ListComp elt [⟨tg, iter, ifs, 0⟩] scope pos) (some (.Name y py)) spos.line X.env = pure true) (hi : DI X tg iter wi) (ok : BlkOk X.N X.env.scope scope own) (hp : ∀ i ∈ p.at_, i ∈ own.map (·.2))
    (hg : ∀ (s : Shared) (H : Hp) (C : Addr) (cl : List (Str × Addr)) (fp : List Addr), PG (X.blk s H scope (compEnvC scope cl C X.env) fp) tg (p.g X.K)) (ht : ∀ (s : Shared) (H : Hp) (C : Addr) (cl : List (Str × Addr)) (fp : List Addr), DTs (X.blk s H scope (compEnvC scope cl C X.env) fp) ifs tt)
    (he : ∀ (s : Shared) (H : Hp) (C : Addr) (cl : List (Str × Addr)) (fp : List Addr), DE (X.blk s H scope (compEnvC scope cl C X.env) fp) elt te) (hs : ∀ x, foldedSetIterable iter X.env x = pure x := by intro _; rfl) :
    DP X (.Assign [.Name y py] (.ListComp elt [⟨tg, iter, ifs, 0⟩] scope pos) spos) (dAsg (dLcM wi p tt te (own.map (·.2))) (dgName i)) := by
  obtain ⟨tw, p0, r0⟩ := hi.ex
  refine ⟨_, ps_setLc (tt := hatT X.K tt) (te := hatE X.K te) hc hN hy hyl hsw p0 ok hg (fun s H C cl fp => (ht s H C cl fp).pt) (fun s H C cl fp => (he s H C cl fp).hat) hs, fun F H σ S G o D' h D0 k => ?_⟩
  refine lc_refine hp r0 o (Q' := fun acc G' => ∀ a, G' a = none → D'.nx (S.set i (some (.rf a))) (gput G' a (.lst acc))) h fun F' H' G' D accV acc hD go g hd rs fd gd q => ?_
  have go2 := go_own (o := .lst acc) hD go
  exact k.nx _ H' _ _ _ go2 ⟨hold_own g hd fd gd rs, (o.s.mono go2.ex).set (.rf D) i⟩ (q D gd)
end
end DL
end
section
set_option Elab.async false
set_option linter.all false
set_option maxRecDepth 100000
set_option maxHeartbeats 4000000
/-! DL9: methods of built-in types, isinstance, all, sorted. -/
namespace DL
open PySem PySem.Spec PyProof.Rows L2

def D.hasTy (T : String) : D → Bool
  | .lst _ => T == "list"
  | .str _ => T == "str"
  | .dK _ => T == "dict"
  | .dT _ => T == "dict"
  | _ => false
section
variable {X : Cx} {pos : Pos}
structure MtD (X : Cx) (id : String) (r' : D → List D → GH → DQ → Prop) : Prop where
  ex : ∃ r, MtR X id r ∧ ∀ F H G x dx vs ds, Gok X.K F H G → Rep X.K F x dx → Reps X.K F vs ds → ∀ Q', r' dx ds G Q' → ∀ Q, KpE X.K F H G Q' Q → r x vs H Q
theorem hasTy_tyV {F H : Hp} {G : GH} {v : V} {d : D} {T : String} (g : Gok X.K F H G) (r : Rep X.K F v d) (h : D.hasTy T (d.cur G) = true) : tyV X.K T v H := by
  cases e : d.cur G with
  | lst xs =>
    rw [e] at h
    obtain ⟨a, vs, rfl, ha, _⟩ := cur_list g r e
    exact .inl ⟨by simpa [D.hasTy] using h, vs, .inl (.inl ha)⟩
  | str z =>
    rw [e] at h
    rw [cur_str r e]
    show T = "str"
    simpa [D.hasTy] using h
  | dK kds =>
    rw [e] at h
    obtain ⟨a, kvs, rfl, ha, _⟩ := cur_dK g r e
    exact .inr (.inr (.inl ⟨by simpa [D.hasTy] using h, .inl ⟨kvs, ha⟩⟩))
  | dT kds =>
    rw [e] at h
    obtain ⟨a, kvs, rfl, ha, _⟩ := cur_dT g r e
    exact .inr (.inr (.inl ⟨by simpa [D.hasTy] using h, .inr ⟨kvs, ha⟩⟩))
  | _ => rw [e] at h; cases h
def dBM (T : String) (r : D → List D → GH → DQ → Prop) (to : DTE) (ta : DTA) : DTE := fun S G Q => to S G fun x G1 => D.hasTy T (x.cur G1) = true ∧ ta S G1 fun ds G2 => r x ds G2 Q
theorem de_bm {T id : String} {name : Str} {o e : Expr} {es : List Expr} {r' : D → List D → GH → DQ → Prop} {to : DTE} {ta : DTA} {apos : Pos} (pa : PlainAttrs T) (slot : Slot T name id) (hty : typeOf (.builtin id) = pure (.type "method_descriptor")) (hm : MtD X id r') (ho : DE X o to) (ha : DA X (e :: es) ta)
    (hbase : attributeBase o name X.env (eval o X.env) = eval o X.env := by rfl)
    (hfew : ((backTo pos (starEach (e :: es) X.env)).all (fun x => !x.1) && (backToKw pos (keywordEach [] X.env)).all (fun x => x.1.isSome) && decide ((e :: es).length + ([] : List Keyword).length + (if ([] : List Keyword).isEmpty then 0 else 1) < 30)) = true := by rfl)
    (hline : (apos.endLine == pos.line) = true := by rfl) (hs : starEach (e :: es) X.env = (false, eval e X.env) :: starEach es X.env := by rfl) (hplain : (backTo pos (starEach es X.env)).any (·.1) = false := by rfl) :
    DE X (.Call (.Attribute o name apos) (e :: es) [] pos) (dBM T r' to ta) := by
  obtain ⟨r, hr, rr⟩ := hm.ex
  obtain ⟨t1, p1, r1⟩ := ho.ex
  obtain ⟨t2, p2, r2⟩ := ha.ex
  refine ⟨_, pe_bm pa slot hty hr p1 p2 hbase hfew hline hs hplain, fun F H σ S G o Q' h Q k => ?_⟩
  refine r1 F H σ S G o _ h _ fun F1 H1 v d G1 e1 g1 q1 h1 => ?_
  refine ⟨hasTy_tyV g1 q1 h1.1, ?_⟩
  refine r2 F1 H1 σ S G1 (o.go e1 g1) _ h1.2 _ fun F2 H2 vs ds G2 e2 g2 q2 h2 => ?_
  exact rr F2 H2 G2 v d vs ds g2 (q1.mono e2.ex) q2 Q' h2 Q (k.mono (e1.trans e2))
def dBM0 (T : String) (r : D → List D → GH → DQ → Prop) (to : DTE) : DTE := fun S G Q => to S G fun x G1 => D.hasTy T (x.cur G1) = true ∧ r x [] G1 Q
theorem de_bm0 {T id : String} {name : Str} {o : Expr} {r' : D → List D → GH → DQ → Prop} {to : DTE} {apos : Pos} (pa : PlainAttrs T) (slot : Slot T name id) (hty : typeOf (.builtin id) = pure (.type "method_descriptor")) (hm : MtD X id r') (ho : DE X o to)
    (hbase : attributeBase o name X.env (eval o X.env) = eval o X.env := by rfl) (hline : (apos.endLine == pos.line) = true := by rfl) :
    DE X (.Call (.Attribute o name apos) [] [] pos) (dBM0 T r' to) := by
  obtain ⟨r, hr, rr⟩ := hm.ex
  obtain ⟨t1, p1, r1⟩ := ho.ex
  refine ⟨_, pe_bm0 pa slot hty hr p1 hbase hline, fun F H σ S G o Q' h Q k => ?_⟩
  refine r1 F H σ S G o _ h _ fun F1 H1 v d G1 e1 g1 q1 h1 => ?_
  exact ⟨hasTy_tyV g1 q1 h1.1, rr F1 H1 G1 v d [] [] g1 q1 .nil Q' h1.2 Q (k.mono e1)⟩
/-- l.append(e) -/
def rAppendD (x : D) (ds : List D) (G : GH) (Q : DQ) : Prop := match x, ds with
  | .rf a, [d] => (match G a with
    | some (.lst xs) => xs.length < sizeLine ∧ Q .non (gput G a (.lst (xs ++ [d])))
    | _ => False)
  | _, _ => False
theorem md_append : MtD X "list.append" rAppendD := by
  refine ⟨_, mt_append, fun F H G x dx vs ds g rx rs Q' h Q k => ?_⟩
  unfold rAppendD at h
  split at h
  · rename_i a d
    split at h
    · rename_i xs eg
      cases rx
      cases rs with
      | cons r b =>
        cases b
        obtain ⟨fa, ws, ha, rw'⟩ := g.at_ a _ eg
        refine ⟨a, ws, _, rfl, rfl, ha, by rw [rw'.length]; exact h.1, ?_⟩
        exact k F _ _ _ _ (Go.put eg) (g.put (o := .lst (xs ++ [d])) eg rfl rfl ⟨_, upd_same, rw'.append (.one r)⟩) .non h.2
    · exact h.elim
  · exact h.elim
/-- l.extend(m) -/
def rExtendD (x : D) (ds : List D) (G : GH) (Q : DQ) : Prop := match x, ds with
  | .rf a, [d] => (match G a, d.cur G with
    | some (.lst xs), .lst ys => xs.length + ys.length ≤ sizeLine ∧ Q .non (gput G a (.lst (xs ++ ys)))
    | _, _ => False)
  | _, _ => False
theorem md_extend : MtD X "list.extend" rExtendD := by
  refine ⟨_, mt_extend, fun F H G x dx vs ds g rx rs Q' h Q k => ?_⟩
  unfold rExtendD at h
  split at h
  · rename_i a d
    split at h
    · rename_i xs ys eg ey
      cases rx
      cases rs with
      | cons r b =>
        cases b
        obtain ⟨fa, ws, ha, rw'⟩ := g.at_ a _ eg
        obtain ⟨b, zs, rfl, hb, rz⟩ := cur_list g r ey
        refine ⟨a, b, ws, zs, rfl, rfl, ha, hb, by rw [rw'.length, rz.length]; exact h.1, ?_⟩
        exact k F _ _ _ _ (Go.put eg) (g.put (o := .lst (xs ++ ys)) eg rfl rfl ⟨_, upd_same, rw'.append rz⟩) .non h.2
    · exact h.elim
  · exact h.elim
/-- l.pop() -/
def rPopD (x : D) (ds : List D) (G : GH) (Q : DQ) : Prop := match x, ds with
  | .rf a, [] => (match G a with
    | some (.lst xs) => (match xs[xs.length - 1]? with
      | some d => Q d (gput G a (.lst xs.dropLast))
      | none => False)
    | _ => False)
  | _, _ => False
theorem Reps.dropLast {K : PySem.W.Frag} {F : Hp} {vs : List V} {ds : List D} (r : Reps K F vs ds) : Reps K F vs.dropLast ds.dropLast := by
  rw [List.dropLast_eq_take, List.dropLast_eq_take, r.length]
  exact r.take _
theorem md_pop : MtD X "list.pop" rPopD := by
  refine ⟨_, mt_pop, fun F H G x dx vs ds g rx rs Q' h Q k => ?_⟩
  unfold rPopD at h
  split at h
  · rename_i a
    split at h
    · rename_i xs eg
      split at h
      · rename_i d ed
        cases rx
        cases rs
        obtain ⟨fa, ws, ha, rw'⟩ := g.at_ a _ eg
        obtain ⟨v, hv, rv⟩ := rw'.get ed
        refine ⟨a, ws, v, rfl, rfl, ha, by rw [rw'.length]; exact hv, ?_⟩
        exact k F _ _ _ _ (Go.put eg) (g.put (o := .lst xs.dropLast) eg rfl rfl ⟨_, upd_same, rw'.dropLast⟩) rv h
      · exact h.elim
    · exact h.elim
  · exact h.elim
/-- sep.join(texts) -/
def texts : List D → Option (List Str)
  | [] => some []
  | .str x :: r => (texts r).map (x :: ·)
  | _ :: _ => none
theorem texts_rep {K : PySem.W.Frag} {F : Hp} : ∀ {ds : List D} {xs : List Str} {vs : List V}, texts ds = some xs → Reps K F vs ds → vs = xs.map V.str
  | [], xs, _, h, .nil => by cases h; rfl
  | .str x :: r, xs, _, h, .cons a b => by
    unfold texts at h
    cases e : texts r with
    | none => rw [e] at h; cases h
    | some m =>
      rw [e] at h
      cases h
      cases a
      simp [texts_rep e b]
  | .non :: _, _, _, h, _ => by cases h
  | .bl _ :: _, _, _, h, _ => by cases h
  | .int _ :: _, _, _, h, _ => by cases h
  | .ty _ :: _, _, _, h, _ => by cases h
  | .tup _ :: _, _, _, h, _ => by cases h
  | .lst _ :: _, _, _, h, _ => by cases h
  | .dK _ :: _, _, _, h, _ => by cases h
  | .dT _ :: _, _, _, h, _ => by cases h
  | .obj _ _ :: _, _, _, h, _ => by cases h
  | .rf _ :: _, _, _, h, _ => by cases h
  | .scr _ :: _, _, _, h, _ => by cases h
def rJoinD (x : D) (ds : List D) (G : GH) (Q : DQ) : Prop := match x, ds with
  | .str a, [d] => (match d.cur G with
    | .lst ys => (match texts ys with
      | some zs => (zs.map (·.length)).sum + zs.length * a.length ≤ 16777216 ∧ Q (.str (Txt.join a zs)) G
      | none => False)
    | .tup ys => (match texts ys with
      | some zs => (zs.map (·.length)).sum + zs.length * a.length ≤ 16777216 ∧ Q (.str (Txt.join a zs)) G
      | none => False)
    | _ => False)
  | _, _ => False
theorem md_join : MtD X "str.join" rJoinD := by
  refine ⟨_, mt_join, fun F H G x dx vs ds g rx rs Q' h Q k => ?_⟩
  unfold rJoinD at h
  split at h
  · rename_i a d
    cases rx
    cases rs with
    | cons r b =>
      cases b
      split at h
      · rename_i ys ey
        split at h
        · rename_i zs ez
          obtain ⟨p, ws, rfl, hp, rw'⟩ := cur_list g r ey
          have := texts_rep ez rw'
          subst this
          exact ⟨a, p, zs, rfl, rfl, .inl (.inl (.inl hp)), h.1, k F H _ _ G Go.refl g (.str _) h.2⟩
        · exact h.elim
      · rename_i ys ey
        split at h
        · rename_i zs ez
          obtain ⟨p, ws, rfl, hp, rw'⟩ := cur_tup r ey
          have := texts_rep ez rw'
          subst this
          exact ⟨a, p, zs, rfl, rfl, .inr (.inl (.inl (g.ex _ _ hp))), h.1, k F H _ _ G Go.refl g (.str _) h.2⟩
        · exact h.elim
      · exact h.elim
  · exact h.elim
/-! d.get(k), d.get(k, x) -/
def dGet1 (td ty : DTE) : DTE := fun S G Q => td S G fun x G1 => D.hasTy "dict" (x.cur G1) = true ∧ ty S G1 fun y G2 => match (x.cur G2).look y with
  | some o => Q (o.getD .non) G2
  | none => False
def dGet2 (td ty tx : DTE) : DTE := fun S G Q => td S G fun x G1 => D.hasTy "dict" (x.cur G1) = true ∧ ty S G1 fun y G2 => tx S G2 fun z G3 => match (x.cur G3).look y with
  | some o => Q (o.getD z) G3
  | none => False
theorem hasTy_isD {F H : Hp} {G : GH} {v : V} {d : D} (g : Gok X.K F H G) (r : Rep X.K F v d) (h : D.hasTy "dict" (d.cur G) = true) : ∃ a, v = .ref a ∧ IsD H a := by
  cases e : d.cur G with
  | dK kds =>
    obtain ⟨a, kvs, rfl, ha, _⟩ := cur_dK g r e
    exact ⟨a, rfl, .inl ⟨kvs, .inl ha⟩⟩
  | dT kds =>
    obtain ⟨a, kvs, rfl, ha, _⟩ := cur_dT g r e
    exact ⟨a, rfl, .inr ⟨kvs, .inl ha⟩⟩
  | _ => rw [e] at h; simp [D.hasTy] at h
theorem de_get1 {o e : Expr} {td ty : DTE} {apos : Pos} (hu : X.A.units + 100 < cLine) (ho : DE X o td) (he : DE X e ty) (m : M1 X o "get" apos e pos := by exact ⟨rfl, rfl, rfl, rfl⟩) : DE X (.Call (.Attribute o "get" apos) [e] [] pos) (dGet1 td ty) := by
  obtain ⟨t1, p1, r1⟩ := ho.ex
  obtain ⟨t2, p2, r2⟩ := he.ex
  refine ⟨_, pe_dget1 (by omega) p1 p2 m, fun F H σ S G o Q' h Q k => ?_⟩
  refine r1 F H σ S G o _ h _ fun F1 H1 v d G1 e1 g1 q1 h1 => ?_
  obtain ⟨a, rfl, isd⟩ := hasTy_isD g1 q1 h1.1
  refine ⟨a, rfl, isd, r2 F1 H1 σ S G1 (o.go e1 g1) _ h1.2 _ fun F2 H2 u d2 G2 e2 g2 q2 h2 => ?_⟩
  dsimp only at h2
  split at h2
  · rename_i o eo
    obtain ⟨a', o', ea, dg, h3, h4⟩ := look_get g2 (q1.mono e2.ex) q2 eo
    cases ea
    refine ⟨o', dg, ?_⟩
    cases o with
    | none =>
      rw [h4 rfl]
      exact k F2 H2 _ _ G2 (e1.trans e2) g2 .non h2
    | some d3 =>
      obtain ⟨z, rfl, rz⟩ := h3 d3 rfl
      exact k F2 H2 _ _ G2 (e1.trans e2) g2 rz h2
  · exact h2.elim
theorem de_get2 {o e f : Expr} {td ty tx : DTE} {apos : Pos} (hu : X.A.units + 100 < cLine) (ho : DE X o td) (he : DE X e ty) (hf : DE X f tx) (m : M2 X o "get" apos e f pos := by exact ⟨rfl, rfl, rfl, rfl⟩) : DE X (.Call (.Attribute o "get" apos) [e, f] [] pos) (dGet2 td ty tx) := by
  obtain ⟨t1, p1, r1⟩ := ho.ex
  obtain ⟨t2, p2, r2⟩ := he.ex
  obtain ⟨t3, p3, r3⟩ := hf.ex
  refine ⟨_, pe_dget2 (by omega) p1 p2 p3 m, fun F H σ S G o Q' h Q k => ?_⟩
  refine r1 F H σ S G o _ h _ fun F1 H1 v d G1 e1 g1 q1 h1 => ?_
  obtain ⟨a, rfl, isd⟩ := hasTy_isD g1 q1 h1.1
  refine ⟨a, rfl, isd, r2 F1 H1 σ S G1 (o.go e1 g1) _ h1.2 _ fun F2 H2 u d2 G2 e2 g2 q2 h2 => ?_⟩
  refine r3 F2 H2 σ S G2 ((o.go e1 g1).go e2 g2) _ h2 _ fun F3 H3 w d3 G3 e3 g3 q3 h3 => ?_
  dsimp only at h3
  split at h3
  · rename_i o eo
    obtain ⟨a', o', ea, dg, h5, h4⟩ := look_get g3 ((q1.mono e2.ex).mono e3.ex) (q2.mono e3.ex) eo
    cases ea
    refine ⟨o', dg, ?_⟩
    cases o with
    | none =>
      rw [h4 rfl]
      exact k F3 H3 _ _ G3 ((e1.trans e2).trans e3) g3 q3 h3
    | some d4 =>
      obtain ⟨z, rfl, rz⟩ := h5 d4 rfl
      exact k F3 H3 _ _ G3 ((e1.trans e2).trans e3) g3 rz h3
  · exact h3.elim
/-! isinstance with a built-in class -/
theorem de_ty {x : Str} {T : String} (hg : Gl X x) (hm : X.mg x = none) (hv : bootBuiltins x = some (.type T)) (hn : x ≠ "__name__" := by decide) (hd : (x == ("__debug__" : Str)) = false := by decide) : DE X (.Name x pos) (dC (.ty T)) :=
  dc_of (pe_bltn (v := .ty T) hg hm hv rfl hn hd) fun _ => .ty T
def D.tyN : D → Option String
  | .non => some "NoneType"
  | .bl _ => some "bool"
  | .int _ => some "int"
  | .str _ => some "str"
  | .tup _ => some "tuple"
  | .lst _ => some "list"
  | .dK _ => some "dict"
  | .dT _ => some "dict"
  | _ => none
theorem tyN_of {F H : Hp} {G : GH} {v : V} {d : D} {n : String} (g : Gok X.K F H G) (r : Rep X.K F v d) (h : (d.cur G).tyN = some n) : TyOf X.K H v (.type n) := by
  cases e : d.cur G with
  | lst xs =>
    rw [e] at h; cases h
    obtain ⟨a, vs, rfl, ha, _⟩ := cur_list g r e
    exact .lst ha
  | tup xs =>
    rw [e] at h; cases h
    obtain ⟨a, vs, rfl, ha, _⟩ := cur_tup r e
    exact .tup (g.ex _ _ ha)
  | dK kds =>
    rw [e] at h; cases h
    obtain ⟨a, kvs, rfl, ha, _⟩ := cur_dK g r e
    exact .dK ha
  | dT kds =>
    rw [e] at h; cases h
    obtain ⟨a, kvs, rfl, ha, _⟩ := cur_dT g r e
    exact .dT ha
  | str z => rw [e] at h; cases h; rw [cur_str r e]; exact .str z
  | int z => rw [e] at h; cases h; rw [cur_int r e]; exact .int z
  | non =>
    rw [e] at h; cases h
    cases d <;> first | (cases r; exact .non) | (exfalso; simp [D.cur] at e; done) | skip
    · rename_i a
      exfalso
      unfold D.cur at e
      cases q : G a with
      | none => simp only [q] at e; cases e
      | some o => cases o <;> (simp only [q] at e; cases e)
  | bl b =>
    rw [e] at h; cases h
    cases d <;> first | (cases e; cases r; exact .bl _) | (exfalso; simp [D.cur] at e; done) | skip
    · rename_i a
      exfalso
      unfold D.cur at e
      cases q : G a with
      | none => simp only [q] at e; cases e
      | some o => cases o <;> (simp only [q] at e; cases e)
  | _ => rw [e] at h; cases h
def rIsiD (ds : List D) (G : GH) (Q : DQ) : Prop := match ds with
  | [d, .ty T] => (match (d.cur G).tyN with
    | some n => (match kitB n T with
      | some b => Q (.bl b) G
      | none => False)
    | none => False)
  | _ => False
theorem cd_isi : CallD X (.builtin "isinstance") rIsiD := by
  refine ⟨_, call_isi, fun F H G vs ds g rs Q' h Q k => ?_⟩
  unfold rIsiD at h
  split at h
  · rename_i d T
    split at h
    · rename_i n en
      split at h
      · rename_i b eb
        cases rs with
        | cons r rest =>
          cases rest with
          | cons r2 rest2 =>
            cases rest2
            cases r2
            exact ⟨_, _, .type n, .type T, b, rfl, .ty T, .base (tyN_of g r en), kit_ty eb, k F H _ _ G Go.refl g (.bl _) h⟩
      · exact h.elim
    · exact h.elim
  · exact h.elim
/-! all, any of a list of bools -/
def bools : List D → Option (List Bool)
  | [] => some []
  | .bl x :: r => (bools r).map (x :: ·)
  | _ :: _ => none
theorem bools_rep {K : PySem.W.Frag} {F : Hp} : ∀ {ds : List D} {xs : List Bool} {vs : List V}, bools ds = some xs → Reps K F vs ds → vs = xs.map V.bl
  | [], xs, _, h, .nil => by cases h; rfl
  | .bl x :: r, xs, _, h, .cons a b => by
    unfold bools at h
    cases e : bools r with
    | none => rw [e] at h; cases h
    | some m =>
      rw [e] at h
      cases h
      cases a
      simp [bools_rep e b]
  | .non :: _, _, _, h, _ => by cases h
  | .str _ :: _, _, _, h, _ => by cases h
  | .int _ :: _, _, _, h, _ => by cases h
  | .ty _ :: _, _, _, h, _ => by cases h
  | .tup _ :: _, _, _, h, _ => by cases h
  | .lst _ :: _, _, _, h, _ => by cases h
  | .dK _ :: _, _, _, h, _ => by cases h
  | .dT _ :: _, _, _, h, _ => by cases h
  | .obj _ _ :: _, _, _, h, _ => by cases h
  | .rf _ :: _, _, _, h, _ => by cases h
  | .scr _ :: _, _, _, h, _ => by cases h
theorem bools_map (bs : List Bool) : bools (bs.map D.bl) = some bs := by
  induction bs with
  | nil => rfl
  | cons b bs ih => simp [bools, ih]
theorem texts_map (bs : List Str) : texts (bs.map D.str) = some bs := by
  induction bs with
  | nil => rfl
  | cons b bs ih => simp [texts, ih]
def rAllD (ds : List D) (G : GH) (Q : DQ) : Prop := match ds with
  | [d] => (match d.cur G with
    | .lst ys => (match bools ys with
      | some bs => Q (.bl (bs.all id)) G
      | none => False)
    | _ => False)
  | _ => False
theorem cd_all (hc : X.calm = true) : CallD X (.builtin "all") rAllD := by
  refine ⟨_, cr_all hc, fun F H G vs ds g rs Q' h Q k => ?_⟩
  unfold rAllD at h
  split at h
  · rename_i d
    cases rs with
    | cons r b =>
      cases b
      split at h
      · rename_i ys ey
        split at h
        · rename_i bs eb
          obtain ⟨p, ws, rfl, hp, rw'⟩ := cur_list g r ey
          have := bools_rep eb rw'
          subst this
          exact ⟨p, bs, rfl, .inl (.inl hp), k F H _ _ G Go.refl g (.bl _) h⟩
        · exact h.elim
      · exact h.elim
  · exact h.elim
end
end DL
end
section
set_option Elab.async false
set_option linter.all false
set_option maxRecDepth 100000
set_option maxHeartbeats 4000000
/-! DLa: sorted, chains of comparisons, several targets at once, += -/
namespace DL
open PySem PySem.Spec PyProof.Rows L2

def D.le (x y : D) : Bool := PySem.W.dataLe false D.py x y
def sortD (ds : List D) : List D := ds.mergeSort D.le
def okS (ds : List D) : Bool := D.pls ds && (ds.all fun x => ds.all fun y => PySem.W.alike x.py y.py) && (ds.all fun x => decide (x.py.depth ≤ 60)) &&
  ((ds.all fun x => match x with | .tup (_ :: _) => true | _ => false) || (ds.all fun x => match x with | .tup _ => false | .non => false | _ => true))
def rSortA (K : PySem.W.Frag) : List V → Hp → VK → Prop := fun vs H Q => ∃ (a : Addr) (bs : List (V × D)), vs = [.ref a] ∧ SqL K H a (bs.map (·.1)) ∧ (∀ b ∈ bs, Dp K H b.1 b.2.py) ∧ okS (bs.map (·.2)) = true ∧
  ∀ p, H p = none → Q (.ref p) (upd H p (.lst ((bs.mergeSort (PySem.W.dataLe false fun b => b.2.py)).map (·.1))))
section
variable {X : Cx} {pos : Pos}
theorem each_of {R : Value → (V × D) → Prop} : ∀ {us : List Value} {bs : List (V × D)}, Vals (bs.map (·.1)) us → (∀ b ∈ bs, ∀ u, RelV b.1 u → R u b) → PySem.W.EachIs R us bs
  | _, [], r, _ => by
    cases r
    exact .nil
  | _, b :: bs, r, h => by
    rw [List.map_cons] at r
    cases r with
    | cons a t => exact .cons (h b (by simp) _ a) (each_of t fun c hc => h c (by simp [hc]))
theorem vals_each : ∀ {us : List Value} {bs : List (V × D)}, PySem.W.EachIs (fun u b => RelV b.1 u) us bs → Vals (bs.map (·.1)) us
  | _, _, .nil => .nil
  | _, _, .cons h t => .cons h (vals_each t)
theorem okS_of {ds : List D} (h : okS ds = true) : D.pls ds = true ∧ PySem.W.AllAlike (ds.map D.py) ∧ (∀ d ∈ ds, d.py.depth ≤ 60) ∧ PySem.W.Sortable (ds.map D.py) := by
  unfold okS at h
  simp only [Bool.and_eq_true, Bool.or_eq_true, List.all_eq_true, decide_eq_true_eq] at h
  obtain ⟨⟨⟨h1, h2⟩, h3⟩, h4⟩ := h
  refine ⟨h1, fun d hd d' hd' => ?_, h3, ?_⟩
  · obtain ⟨x, hx, rfl⟩ := List.mem_map.mp hd
    obtain ⟨y, hy, rfl⟩ := List.mem_map.mp hd'
    exact h2 x hx y hy
  · rcases h4 with h4 | h4
    · refine .inl fun d hd => ?_
      obtain ⟨x, hx, rfl⟩ := List.mem_map.mp hd
      have := h4 x hx
      split at this
      · exact ⟨_, _, rfl⟩
      · cases this
    · refine .inr fun d hd => ?_
      obtain ⟨x, hx, rfl⟩ := List.mem_map.mp hd
      have := h4 x hx
      have hp : x.pl = true := by
        rw [D.pls_all, List.all_eq_true] at h1
        exact h1 x hx
      cases x <;> first | (simp at this; done) | (simp [D.pl] at hp; done) | exact ⟨by simp [D.py], fun xs => by simp [D.py]⟩
theorem cr_sortA (hu : X.A.units + 100 < cLine) : CallR X (.builtin "sorted") (rSortA X.K) := by
  intro pins s σ H vs us Q I r h
  obtain ⟨a, bs, rfl, hs, hd, hok, q⟩ := h
  obtain ⟨its, rv, hl, hz⟩ := I.list hs
  rw [Vals.ref1 r]
  obtain ⟨o1, o2, o3, o4⟩ := okS_of hok
  have hz' : bs.length ≤ sizeLine := by simpa using hz
  have em : (bs.map fun b => b.2.py) = (bs.map (·.2)).map D.py := by simp
  refine PySem.W.sorted_data (R := fun u b => RelV b.1 u) (enc := fun b : V × D => b.2.py) (bs := bs) hl.isList (each_of rv fun b _ u ru => ru) (each_of rv fun b hb u ru => ?_) (by rw [em]; exact o2) (by rw [em]; exact o4) hz' (fun b hb => ?_) fun out hlen ho => ?_
  · exact Dp.reads I _ _ _ (hd b hb) ru
  · have := o3 b.2 (List.mem_map.mpr ⟨b, hb, rfl⟩)
    show X.A.units + 2 + b.2.py.depth < cLine
    omega
  · obtain ⟨ep, he'⟩ := PyProof.Rows.sortedAll_at s.heap its out.toArray
    have hlen' : ((bs.mergeSort (PySem.W.dataLe false fun b => b.2.py)).map (·.1)).length ≤ sizeLine := by
      rw [List.length_map, List.length_mergeSort]
      exact hz'
    exact ⟨.ref _, upd H (s.heap.objs.size + 1) (.lst ((bs.mergeSort (PySem.W.dataLe false fun b => b.2.py)).map (·.1))), I.laid (t' := s.toks) (fun _ _ => PyProof.Rows.sortedAll_old) (Nat.le_succ _) ⟨hlen', out, ep, vals_each ho, he'⟩, rfl, q _ (I.hok.fresh (Nat.le_succ _))⟩
theorem zip_fst : ∀ {K : PySem.W.Frag} {F : Hp} {vs : List V} {ds : List D}, Reps K F vs ds → (vs.zip ds).map (·.1) = vs ∧ (vs.zip ds).map (·.2) = ds
  | _, _, _, _, .nil => ⟨rfl, rfl⟩
  | _, _, _, _, .cons a b => by
    obtain ⟨h1, h2⟩ := zip_fst b
    simp [h1, h2]
theorem zip_rep : ∀ {K : PySem.W.Frag} {F : Hp} {vs : List V} {ds : List D}, Reps K F vs ds → ∀ b ∈ vs.zip ds, Rep K F b.1 b.2
  | _, _, _, _, .nil, b, h => by simp at h
  | _, _, _, _, .cons (v := v) (d := d) a t, b, h => by
    rw [List.zip_cons_cons, List.mem_cons] at h
    rcases h with rfl | h
    · exact a
    · exact zip_rep t b h
theorem Reps.of_zip {K : PySem.W.Frag} {F : Hp} : ∀ (bs : List (V × D)), (∀ b ∈ bs, Rep K F b.1 b.2) → Reps K F (bs.map (·.1)) (bs.map (·.2))
  | [], _ => .nil
  | b :: bs, h => .cons (h b (by simp)) (Reps.of_zip bs fun c hc => h c (by simp [hc]))
/-- sorted(l): a new list; of a dict with int keys -/
def rSortD (ds : List D) (G : GH) (Q : DQ) : Prop := match ds with
  | [d] => (match d.cur G with
    | .lst xs => okS xs = true ∧ Q (.lst (sortD xs)) G
    | .dK kds => (match intKeys kds with
      | some ns => ns.length < 64 ∧ Q (.lst ((ns.mergeSort (· ≤ ·)).map .int)) G
      | none => False)
    | _ => False)
  | _ => False
theorem isort_uniq {ns ms : List Int} (p : ms.Perm ns) (s : ms.Pairwise (· ≤ ·)) : ms = ns.mergeSort (· ≤ ·) := by
  have h2 : (ns.mergeSort (· ≤ ·)).Pairwise (fun a b : Int => (decide (a ≤ b)) = true) := List.pairwise_mergeSort (le := fun a b : Int => decide (a ≤ b)) (by intro a b c; simp; omega) (by intro a b; simp; omega) ns
  refine List.Perm.eq_of_pairwise (le := fun a b : Int => a ≤ b) (fun a b _ _ h1 h2 => Int.le_antisymm h1 h2) s (h2.imp fun h => of_decide_eq_true h) (p.trans (List.mergeSort_perm ns _).symm)
theorem cd_sorted (hu : X.A.units + 100 < cLine) (hc : X.calm = true) : CallD X (.builtin "sorted") rSortD := by
  refine ⟨_, CallR.or (cr_sortA hu) (call_sortedDI hc), fun F H G vs ds g rs Q' h Q k => ?_⟩
  unfold rSortD at h
  split at h
  · rename_i d
    cases rs with
    | cons r b =>
      cases b
      split at h
      · rename_i xs ex
        obtain ⟨a, ws, rfl, ha, rw'⟩ := cur_list g r ex
        obtain ⟨z1, z2⟩ := zip_fst rw'
        obtain ⟨o1, o2, o3, o4⟩ := okS_of h.1
        refine .inl ⟨a, ws.zip xs, rfl, by rw [z1]; exact .inl (.inl ha), fun b hb => ?_, by rw [z2]; exact h.1, fun p hp => ?_⟩
        · have hm : b.2 ∈ xs := by rw [← z2]; exact List.mem_map.mpr ⟨b, hb, rfl⟩
          have hp : b.2.pl = true := by
            rw [D.pls_all, List.all_eq_true] at o1
            exact o1 _ hm
          exact Dp.mono' g.ex _ (Rep.dp _ (zip_rep rw' b hb) hp)
        · have em : ((ws.zip xs).mergeSort (PySem.W.dataLe false fun b => b.2.py)).map (·.2) = sortD xs := by
            unfold sortD
            have h3 := PySem.W.sort_maps (r := PySem.W.dataLe false fun b : V × D => b.2.py) (s := D.le) Prod.snd (l := ws.zip xs) (fun a _ b _ => rfl)
            rw [h3, z2]
          have rr : Reps X.K F (((ws.zip xs).mergeSort (PySem.W.dataLe false fun b => b.2.py)).map (·.1)) (sortD xs) := by
            rw [← em]
            exact Reps.of_zip _ fun b hb => zip_rep rw' b ((List.mergeSort_perm _ _).mem_iff.mp hb)
          have gr := Gr.new (u := .lst (((ws.zip xs).mergeSort (PySem.W.dataLe false fun b => b.2.py)).map (·.1))) g.ex hp
          exact k _ _ _ _ G gr.go (g.grow gr) (.lst upd_same (rr.mono gr.ff)) h.2
      · rename_i kds ex
        split at h
        · rename_i ns en
          obtain ⟨a, kvs, rfl, ha, kr⟩ := cur_dK g r ex
          refine .inr ⟨a, kvs, ns, rfl, .inl ha, by rw [kr.ks, intKeys_map en], h.1, fun ys p hp hs hn => ?_⟩
          have e := isort_uniq hp hs
          subst e
          have gr := Gr.new (u := .lst ((ns.mergeSort (· ≤ ·)).map V.int)) g.ex hn
          exact k _ _ _ _ G gr.go (g.grow gr) (.lst upd_same (Reps.ints _)) h.2
        · exact h.elim
      · exact h.elim
  · exact h.elim
/-! ### a op b op' c -/
def dChain (r r' : DR2) (ta tb tc : DTE) : DTE := fun S G Q => ta S G fun x G1 => tb S G1 fun y G2 => r x y G2 fun z G3 => match z with
  | .bl k => if k = true then tc S G3 fun w G4 => r' y w G4 Q else Q (.bl false) G3
  | _ => False
theorem chain_core {op op' : CmpOp} {r r' : DR2} {a b c : Expr} {ta tb tc : DTE} (ho : OpD X (compareOp op) r) (ho' : OpD X (compareOp op') r') (ha : DE X a ta) (hb : DE X b tb) (hc : DE X c tc) :
    ∃ (q q' : R2) (t1 t2 t3 : TE), OpR X (compareOp op) q ∧ OpR X (compareOp op') q' ∧ PE X a t1 ∧ PE X b t2 ∧ PE X c t3 ∧ ∀ F H σ S G, Ok X.K F H σ S G → ∀ Q', dChain r r' ta tb tc S G Q' → ∀ Q, KpE X.K F H G Q' Q → tChain q q' t1 t2 t3 σ H Q := by
  obtain ⟨q, hq, rq⟩ := ho.ex
  obtain ⟨q', hq', rq'⟩ := ho'.ex
  obtain ⟨t1, p1, r1⟩ := ha.ex
  obtain ⟨t2, p2, r2⟩ := hb.ex
  obtain ⟨t3, p3, r3⟩ := hc.ex
  refine ⟨q, q', t1, t2, t3, hq, hq', p1, p2, p3, fun F H σ S G o Q' h Q k => ?_⟩
  refine r1 F H σ S G o _ h _ fun F1 H1 v d G1 e1 g1 q1 h1 => ?_
  refine r2 F1 H1 σ S G1 (o.go e1 g1) _ h1 _ fun F2 H2 u d2 G2 e2 g2 q2 h2 => ?_
  refine rq F2 H2 G2 v u d d2 g2 (q1.mono e2.ex) q2 _ h2 _ fun F3 H3 z d3 G3 e3 g3 q3 h3 => ?_
  dsimp only at h3
  split at h3
  · rename_i kb
    cases q3
    refine ⟨kb, rfl, ?_⟩
    cases kb with
    | true =>
      rw [if_pos rfl] at h3 ⊢
      refine r3 F3 H3 σ S G3 (((o.go e1 g1).go e2 g2).go e3 g3) _ h3 _ fun F4 H4 w d4 G4 e4 g4 q4 h4 => ?_
      exact rq' F4 H4 G4 u w d2 d4 g4 ((q2.mono e3.ex).mono e4.ex) q4 Q' h4 Q (k.mono (((e1.trans e2).trans e3).trans e4))
    | false =>
      rw [if_neg Bool.false_ne_true] at h3 ⊢
      exact k F3 H3 _ _ G3 ((e1.trans e2).trans e3) g3 (.bl _) h3
  · exact h3.elim
theorem dt_chain {op op' : CmpOp} {r r' : DR2} {a b c : Expr} {ta tb tc : DTE} (ho : OpD X (compareOp op) r) (ho' : OpD X (compareOp op') r') (ha : DE X a ta) (hb : DE X b tb) (hc : DE X c tc) (hm : lastMarks [op, op'] [b, c] = false := by with_unfolding_all rfl) : DT X (.Compare a [op, op'] [b, c] pos) (dTest (dChain r r' ta tb tc)) := by
  obtain ⟨q, q', t1, t2, t3, hq, hq', p1, p2, p3, rr⟩ := chain_core ho ho' ha hb hc
  refine ⟨_, pt_chain hq hq' p1 p2 p3 hm, fun F H σ S G o Q' h Q k => ?_⟩
  refine rr F H σ S G o _ h _ fun F1 H1 v d G1 e1 g1 q1 h1 => ?_
  dsimp only at h1
  split at h1
  · cases q1
    exact ⟨_, rfl, k F1 H1 _ G1 e1 g1 h1⟩
  · exact h1.elim
theorem de_chain {op op' : CmpOp} {r r' : DR2} {a b c : Expr} {ta tb tc : DTE} (ho : OpD X (compareOp op) r) (ho' : OpD X (compareOp op') r') (ha : DE X a ta) (hb : DE X b tb) (hc : DE X c tc) (hm : lastMarks [op, op'] [b, c] = false := by with_unfolding_all rfl) : DE X (.Compare a [op, op'] [b, c] pos) (dChain r r' ta tb tc) := by
  obtain ⟨q, q', t1, t2, t3, hq, hq', p1, p2, p3, rr⟩ := chain_core ho ho' ha hb hc
  exact ⟨_, pe_chain hq hq' p1 p2 p3 hm, rr⟩
/-! ### a, b = e, f -/
def dPar (i j : Nat) (ta : DTA) : DTS := fun D' S G => ta S G fun ds G1 => match ds with
  | [x, y] => D'.nx ((S.set i (some x)).set j (some y)) G1
  | _ => False
end
end DL
end
section
set_option Elab.async false
set_option linter.all false
set_option maxRecDepth 100000
set_option maxHeartbeats 4000000
/-! DLb: enumerate of a tuple, of a text; zip of texts, of tuples. -/
namespace DL
open PySem PySem.Spec PyProof.Rows L2

/-! ### enumerate(v) by what its iterator draws -/
def ItE (xs : List V) (ok : Hp → Prop) : It :=
  ⟨fun i H => ok H ∧ i < xs.length, fun i H v H' => ∃ T x, v = .ref T ∧ H T = none ∧ H' = upd H T (.tup [.int (i : Nat), x]) ∧ xs[i]? = some x, fun i H => ok H ∧ i = xs.length⟩
theorem turn_enumOf {P : Program} {w : World} {K : PySem.W.Frag} {elts : List Expr} {kk : Nat} {tpos : Pos} {xs : List V} {ok : Hp → Prop} {e it : Addr} {Si : Nat → Heap → Prop}
    (live : ∀ i h, Si i h → ∃ o, h.get? it = some o ∧ ∀ v, o.data ≠ .cell v) (keep : ∀ i h h', Si i h → (∀ o, h.get? it = some o → h'.get? it = some o) → Si i h')
    (dr : ∀ (X : Cx) (pins : List (Addr × Obj)) (σ : L2.St) (H : Hp) (s : Shared), X.prog = P → X.w = w → X.K = K → X.A.handled = none → Inv X pins σ H s → ok H → ∃ (fp : List Addr) (Pv : Nat → Value → Prop) (St : Nat → Heap → Prop), it ∈ fp ∧ (∀ b ∈ fp, b ≠ it → ∃ u, H b = some u) ∧ Draws P w X.A.in1 it fp xs.length Pv St ∧
      (∀ i, Si i s.heap → St i s.heap) ∧ (∀ i h, St i h → Si i h) ∧ ∀ i u x, Pv i u → xs[i]? = some x → RelV x u) :
    Turn P w K (.Tuple elts kk tpos) (ItE xs ok) [e, it] e (fun i h => (∃ old, IsEnum h e it ((i : Nat) : Int) old) ∧ Si i h ∧ e ≠ it) where
  mem := by simp
  obj := by
    intro i h st b hb
    obtain ⟨⟨old, he⟩, hs, _⟩ := st
    have q : b = e ∨ b = it := by simpa using hb
    rcases q with q | q
    · subst q; exact ⟨_, he, fun v z => nomatch z⟩
    · subst q; exact live i h hs
  keep := by
    intro i h h' st k
    obtain ⟨⟨old, he⟩, hs, ne⟩ := st
    exact ⟨⟨old, k e (by simp) _ he⟩, keep i h h' hs fun o z => k it (by simp) o z, ne⟩
  item := by
    intro X hP hw hK hc i pins s σ H E I hf st hg
    obtain ⟨⟨old, he⟩, hs, ne⟩ := st
    obtain ⟨hok, hi⟩ := hg
    obtain ⟨fp, Pv, St, m0, mt, Dr, s1, s2, rel⟩ := dr X pins σ H s hP hw hK (I.ok.hd hc) I hok
    subst hP hw hK
    have el : e < s.heap.objs.size := Heap.lt_size he
    have il : it < s.heap.objs.size := by
      obtain ⟨o, z, _⟩ := live i _ hs
      exact Heap.lt_size z
    have ef : e ∉ fp := by
      intro z
      obtain ⟨u, hu⟩ := mt e z ne
      rw [(hf e (by simp)).1] at hu
      cases hu
    refine wpAny_pyNext_enum_itemC Dr he (s1 i hs) hi ne ef ?_
    intro x h' tk px ho hst hT hsz hk
    refine ⟨_, rfl, wpAny_letOwnedTupleGo_enum (s := { s with heap := h', toks := tk + 1 }) ho ?_⟩
    intro h'' he' sb
    have hx : xs[i]? = some xs[i] := List.getElem?_eq_getElem hi
    have rx := rel i x _ px hx
    have hT2 := (sb.2 _ (Nat.ne_of_gt el)).trans hT
    have nw : ObjOk X.prog X.w (upd H s.heap.objs.size (.tup [.int (i : Nat), xs[i]])) h'' s.heap.objs.size (.tup [.int (i : Nat), xs[i]]) :=
      ⟨(by decide : 2 ≤ sizeLine), [.int i tk, x], .cons ⟨_, rfl⟩ (.cons rx .nil), ⟨_, hT2, rfl, _, rfl⟩⟩
    have J : Inv X pins σ (upd H s.heap.objs.size (.tup [.int (i : Nat), xs[i]])) { s with heap := h'', toks := tk + 1 } := by
      refine I.turnedNew (ch := [e, it]) ?_ hf (Nat.le_refl _) nw
      intro b ob hb q
      have b1 : b ≠ e := fun z => hb (by simp [z])
      have b2 : b ≠ it := fun z => hb (by simp [z])
      exact (sb.2 b b1).trans (hk b ob b1 b2 q)
    refine ⟨.ref s.heap.objs.size, _, J, rfl, ⟨_, _, rfl, I.hok.fresh (Nat.le_refl _), rfl, hx⟩, ⟨⟨x, ?_⟩, ?_, ne⟩, ?_⟩
    · have z : ((i + 1 : Nat) : Int) = (i : Int) + 1 := by omega
      rw [z]; exact he'
    · exact keep _ _ _ (s2 _ _ hst) fun o q => (sb.2 it (Ne.symm ne)).trans q
    · intro b hb
      have q : b = e ∨ b = it := by simpa using hb
      have lt : b < s.heap.objs.size := by rcases q with q | q <;> (rw [q]; assumption)
      rw [upd_ne (Nat.ne_of_lt lt)]
      exact (hf b hb).1
  done := by
    intro X hP hw hK hc i pins s σ H E I hf st hg
    obtain ⟨⟨old, he⟩, hs, ne⟩ := st
    obtain ⟨hok, hi⟩ := hg
    obtain ⟨fp, Pv, St, m0, mt, Dr, s1, s2, rel⟩ := dr X pins σ H s hP hw hK (I.ok.hd hc) I hok
    subst hP hw hK
    subst hi
    refine wpAny_pyNext_enum_endD Dr he (s1 _ hs) ?_
    intro h' eb
    refine ⟨rfl, I.turnedL (t' := s.toks) (ch := [e, it]) ?_ hf⟩
    intro b o hb q
    exact eb b o (fun z => hb (by simp [z])) q
  self := fun A i s Q E st h => let ⟨⟨_, he⟩, _⟩ := st; wpAny_pyIter_enum he h
set_option maxHeartbeats 4000000 in
theorem meets_enumB {v : Value} {o : Obj} {Hh : Heap → Prop} (B : Begins v o Hh) :
    Meets (Builtin.«enumerate.__new__» ⟨[.type "enumerate", v], []⟩) (fun _ R s => Hh s.heap ∧
      R (.ok (.ret (.ref (s.heap.push o).objs.size))) { s with heap := (s.heap.push o).push { cls := .type "enumerate", data := .fields #[.none, .bool false, .ref s.heap.objs.size, rawInt 0, .none, .none] } }) := by
  refine Meets.of_wp fun prog w A R s h => ?_
  obtain ⟨hp, g, d, tk, os⟩ := s
  obtain ⟨h1, h⟩ := h
  have hsub := PySem.sub_enumerate
  have q1 : ∀ {A' : Around} {E : Value → Shared → Prop} {Q : Value → Shared → Prop}, Q (.ref hp.objs.size) ⟨hp.push o, g, d, tk, os⟩ → wpAny (model prog w) A' (pyIter v) Q E ⟨hp, g, d, tk, os⟩ := by
    intro A' E Q q
    exact B.iter prog w _ _ ⟨hp, g, d, tk, os⟩ _ h1 q
  wp_walk using q1
  refine wpAny_stack_any fun st => wpAny_pure ?_
  split
  · rename_i c _ _ _ _ _
    cases (c == Value.type "enumerate") <;> (wp_walk using q1; exact ⟨_, rfl, h⟩)
  · wp_walk using q1
    exact ⟨_, rfl, h⟩
theorem call_enumB {prog : Program} {w : World} {A : Around} {E : Value → Shared → Prop} {s : Shared} {v : Value} {o : Obj} {Hh : Heap → Prop} {Q : Value → Shared → Prop} (B : Begins v o Hh) (h1 : Hh s.heap)
    (h : ∀ h', IsEnum h' (s.heap.objs.size + 1) s.heap.objs.size 0 .none → h'.get? s.heap.objs.size = some o → h'.objs.size = s.heap.objs.size + 2 → (∀ b o, s.heap.get? b = some o → h'.get? b = some o) → Q (.ref (s.heap.objs.size + 1)) { s with heap := h' }) :
    wpAny (model prog w) A (call (.type "enumerate") [v]) Q E s := by
  refine callType_new F.called_enumerate (by decide) (F.typeCall_enumerate_1 _) (F.newCall_enumerate_1 _) (fun obj => F.args_object_init_2 obj _) F.entry_enumerate_new (meets_enumB B) ⟨h1, ?_⟩
  have z1 : (s.heap.push o).objs.size = s.heap.objs.size + 1 := Heap.size_push ..
  show _ ∧ _
  rw [z1]
  have he : IsEnum ((s.heap.push o).push { cls := .type "enumerate", data := .fields #[.none, .bool false, .ref s.heap.objs.size, rawInt 0, .none, .none] }) (s.heap.objs.size + 1) s.heap.objs.size 0 .none := by
    have z2 := Heap.get?_push_size (s.heap.push o) (o := { cls := .type "enumerate", data := .fields #[.none, .bool false, .ref s.heap.objs.size, rawInt 0, .none, .none] }) rfl
    rw [z1] at z2
    exact z2
  refine ⟨⟨_, he, rfl⟩, h _ he (Heap.get?_push_of_some _ (Heap.get?_push_size _ B.free)) (by rw [Heap.size_push, z1]) ?_⟩
  intro b ob x
  exact Heap.get?_push_of_some _ (Heap.get?_push_of_some _ x)
def iEnumT (K : PySem.W.Frag) (ta : TA) : TI := fun σ H R => ta σ H fun vs H1 => ∃ a xs, vs = [.ref a] ∧ H1 a = some (.tup xs) ∧ R (ItE xs fun H => H a = some (.tup xs)) H1
theorem fresh_fp {X : Cx} {pins : List (Addr × Obj)} {σ : L2.St} {H : Hp} {s : Shared} (I : Inv X pins σ H s) {l : List Addr} (h : ∀ b ∈ l, s.heap.objs.size ≤ b) : ∀ b ∈ l, FpOk X pins H b := fun b hb => I.fpOk (h b hb) (I.hok.fresh (h b hb))
theorem vals_getD {xs : List V} {us : List Value} (r : Vals xs us) {i : Nat} {u : Value} {x : V} (hu : us[i]? = some u) (hx : xs[i]? = some x) : RelV x u := by
  obtain ⟨w, hw, rw'⟩ := r.get hx
  rw [hu] at hw
  cases hw
  exact rw'
theorem pi_enumT {X : Cx} {e : Expr} {ta : TA} {p pos tpos : Pos} {elts : List Expr} {kk : Nat} (hg : Gl X "enumerate") (hm : X.mg "enumerate" = none) (ha : PA X [e] ta) (hs : starEach [e] X.env = [(false, eval e X.env)] := by rfl) :
    PI X (.Tuple elts kk tpos) (.Call (.Name "enumerate" p) [e] [] pos) (iEnumT X.K ta) := by
  constructor
  intro pins s σ H R I h
  refine Call_ (ld_blt I hg hm boot_enumerate (PyProof.Rows.callWith_type1 (thn (ha.run pos pins s σ H _ I h) ?_) hs rfl))
  rintro us s1 ⟨vs, H1, I1, r1, a, xs, rfl, hq, q⟩
  cases r1 with
  | cons r rr =>
    cases rr
    cases r
    obtain ⟨its, rv, tu, hz⟩ := I1.tuple (xs := xs) (a := a) (.inl (.inl hq))
    have hl := rv.length
    refine call_enumB (begins_tuple a its.toArray) tu ?_
    intro h' he hit hsz hk
    refine wpAny_pyIter_enum he ?_
    have J : Inv X pins σ H1 { s1 with heap := h' } := I1.kept (t' := s1.toks) hk
    refine ⟨s1.heap.objs.size + 1, [s1.heap.objs.size + 1, s1.heap.objs.size], _, _, H1, rfl, J, turn_enumOf (Si := fun i h => h.IsTupleIter s1.heap.objs.size a i) ?_ ?_ ?_, ⟨⟨.none, he⟩, ⟨_, hit, rfl, rfl⟩, Nat.succ_ne_self _⟩, ?_, q⟩
    · rintro i h ⟨o, z, c, d⟩
      exact ⟨o, z, fun v y => by rw [d] at y; cases y⟩
    · rintro i h h' ⟨o, z, c⟩ k
      exact ⟨o, k o z, c⟩
    · intro X2 pins2 σ2 H2 s2 hP hw hK hh I2 hok
      have hne : a ≠ s1.heap.objs.size := by
        intro z
        have := I1.hok.fresh (Nat.le_refl s1.heap.objs.size)
        rw [← z, hq] at this
        cases this
      obtain ⟨its2, rv2, tu2, hz2⟩ := I2.tuple (xs := xs) (a := a) (.inl (.inl hok))
      have hl2 := rv2.length
      refine ⟨[s1.heap.objs.size, a], fun i v => its2.toArray[i]? = some v, fun i h => h.IsTupleIter s1.heap.objs.size a i ∧ h.IsTuple a its2.toArray, by simp, fun b hb hb2 => ?_, ?_, fun i z => ⟨z, tu2⟩, fun i h z => z.1, fun i u x pu hx => ?_⟩
      · have : b = a := by
          have q : b = s1.heap.objs.size ∨ b = a := by simpa using hb
          rcases q with q | q
          · exact absurd q hb2
          · exact q
        subst this
        exact ⟨_, hok⟩
      · have := Draws.tuple (prog := X.prog) (w := X.w) (A := X2.A.in1) hh s1.heap.objs.size a hne its2.toArray
        have ez : its2.toArray.size = xs.length := by rw [hl2]; simp
        rw [ez] at this
        exact this
      · refine vals_getD rv2 ?_ hx
        simpa using pu
    · refine fresh_fp I1 fun b hb => ?_
      have q : b = s1.heap.objs.size + 1 ∨ b = s1.heap.objs.size := by simpa using hb
      rcases q with q | q
      · rw [q]; exact Nat.le_add_right _ _
      · rw [q]; exact Nat.le_refl _
section
variable {X : Cx} {pos : Pos}
/-- for i, x in enumerate(t), t a tuple -/
def diEnumT (ta : DTA) : DTI := fun S G R => ta S G fun ds G1 => match ds with
  | [.tup xs] => R (xs.mapIdx fun i x => .tup [.int (i : Nat), x]) dNoGuard G1
  | _ => False
theorem di_enumT {e : Expr} {ta : DTA} {p tpos : Pos} {elts : List Expr} {kk : Nat} (hg : Gl X "enumerate") (hm : X.mg "enumerate" = none) (ha : DA X [e] ta) (hs : starEach [e] X.env = [(false, eval e X.env)] := by rfl) :
    DI X (.Tuple elts kk tpos) (.Call (.Name "enumerate" p) [e] [] pos) (diEnumT ta) := by
  obtain ⟨t, p1, r⟩ := ha.ex
  refine ⟨_, pi_enumT hg hm p1 hs, fun F H σ S G o R' h R k => ?_⟩
  refine r F H σ S G o _ h _ fun F1 H1 vs ds G1 e1 g1 q1 h1 => ?_
  dsimp only at h1
  split at h1
  · rename_i xs
    cases q1 with
    | cons q rest =>
      cases rest
      cases q with
      | tup hq rs =>
        rename_i a ws
        refine ⟨a, ws, rfl, g1.ex _ _ hq, k F1 H1 G1 _ _ _ e1 g1 ⟨fun F2 H2 G2 i d e2 g2 _ hd => ?_, fun F2 H2 G2 e2 g2 _ => ?_⟩ h1⟩
        · rw [List.getElem?_mapIdx] at hd
          cases ex : xs[i]? with
          | none => rw [ex] at hd; cases hd
          | some x =>
            rw [ex] at hd
            cases hd
            have hi : i < ws.length := by
              rw [rs.length]
              exact (List.getElem?_eq_some_iff.mp ex).1
            refine ⟨⟨g2.ex _ _ (e2 _ _ hq), hi⟩, fun y H3 hy => ?_⟩
            obtain ⟨T, z, rfl, hT, rfl, hz⟩ := hy
            obtain ⟨x', hx', rx'⟩ := rs.get' hz
            rw [ex] at hx'
            cases hx'
            have gr := Gr.new (u := .tup [.int (i : Nat), z]) g2.ex hT
            exact ⟨_, gr.go, g2.grow gr, .tup upd_same (.cons (.int _) (.cons ((rx'.mono e2).mono gr.ff) .nil))⟩
        · refine ⟨g2.ex _ _ (e2 _ _ hq), ?_⟩
          rw [List.length_mapIdx, rs.length]
  · exact h1.elim
end
end DL
end
section
set_option Elab.async false
set_option linter.all false
set_option maxRecDepth 100000
set_option maxHeartbeats 4000000
/-! DLc: zip of two texts, of two tuples. -/
namespace DL
open PySem PySem.Spec PyProof.Rows L2

def sgn (c : Nat) : Str := ⟨#[c]⟩
def ItZ (x y : Str) : It :=
  ⟨fun i _ => i < min x.cps.size y.cps.size, fun i H v H' => ∃ T a b, v = .ref T ∧ H T = none ∧ H' = upd H T (.tup [.str (sgn a), .str (sgn b)]) ∧ x.cps[i]? = some a ∧ y.cps[i]? = some b, fun i _ => i = min x.cps.size y.cps.size⟩
theorem turn_zipS {P : Program} {w : World} {K : PySem.W.Frag} {elts : List Expr} {kk : Nat} {tpos : Pos} {x y : Str} {t1 t2 : Tok} {z TI TO i1 i2 : Addr} (Sp : ZipSep2 z TI TO i1 i2 [i1] [i2]) :
    Turn P w K (.Tuple elts kk tpos) (ItZ x y) [z, TI, TO, i1, i2] z (fun i h => IsZip h z TI TO .none ∧ IsTupOf2 h TI (.ref i1) (.ref i2) ∧ (∃ a b, IsTupOf2 h TO a b) ∧ h.IsStrIter i1 (strIterType x) x t1 i ∧ h.IsStrIter i2 (strIterType y) y t2 i) where
  mem := by simp
  obj := by
    rintro i h ⟨hz, hTI, ⟨a, b, hTO⟩, ⟨o1, z1, _, d1⟩, ⟨o2, z2, _, d2⟩⟩ c hc
    have q : c = z ∨ c = TI ∨ c = TO ∨ c = i1 ∨ c = i2 := by simpa using hc
    rcases q with q | q | q | q | q <;> subst q
    · exact ⟨_, hz, fun v y => nomatch y⟩
    · exact ⟨_, hTI, fun v y => nomatch y⟩
    · exact ⟨_, hTO, fun v y => nomatch y⟩
    · exact ⟨o1, z1, fun v y => by rw [d1] at y; cases y⟩
    · exact ⟨o2, z2, fun v y => by rw [d2] at y; cases y⟩
  keep := by
    rintro i h h' ⟨hz, hTI, ⟨a, b, hTO⟩, ⟨o1, z1, r1⟩, ⟨o2, z2, r2⟩⟩ k
    exact ⟨k z (by simp) _ hz, k TI (by simp) _ hTI, ⟨a, b, k TO (by simp) _ hTO⟩, ⟨o1, k i1 (by simp) _ z1, r1⟩, ⟨o2, k i2 (by simp) _ z2, r2⟩⟩
  item := by
    intro X hP hw hK hc i pins s σ H E I hf st hg
    subst hP hw hK
    obtain ⟨hz, hTI, ⟨a0, b0, hTO⟩, s1, s2⟩ := st
    have hg' : i < min x.cps.size y.cps.size := hg
    have g1 : i < x.cps.size := by omega
    have g2 : i < y.cps.size := by omega
    have hh := I.ok.hd hc
    have zl : z < s.heap.objs.size := Heap.lt_size hz
    refine wpAny_pyNext_zipD2_item Sp (Draws.text (A := X.A.in1) hh i1 x t1) (Draws.text (A := X.A.in1) hh i2 y t2) hz hTI hTO s1 s2 g1 g2 ?_
    rintro u1 u2 h' tk ⟨c1, k1, e1, rfl⟩ ⟨c2, k2, e2, rfl⟩ hz' hTO' s1' s2' hT hsz hk
    refine ⟨_, rfl, wpAny_letOwnedTupleGo_zip (s := { s with heap := h', toks := tk }) hz' ?_⟩
    intro h'' hz'' sb
    have hT2 := (sb.2 _ (Nat.ne_of_gt zl)).trans hT
    have nw : ObjOk X.prog X.w (upd H s.heap.objs.size (.tup [.str (sgn c1), .str (sgn c2)])) h'' s.heap.objs.size (.tup [.str (sgn c1), .str (sgn c2)]) :=
      ⟨(by decide : 2 ≤ sizeLine), [.str (sgn c1) k1, .str (sgn c2) k2], .cons ⟨_, rfl⟩ (.cons ⟨_, rfl⟩ .nil), ⟨_, hT2, rfl, _, rfl⟩⟩
    have J : Inv X pins σ (upd H s.heap.objs.size (.tup [.str (sgn c1), .str (sgn c2)])) { s with heap := h'', toks := tk } := by
      refine I.turnedNew (ch := [z, TI, TO, i1, i2]) ?_ hf (Nat.le_refl _) nw
      intro c o hb q
      have b1 : c ≠ z := fun w => hb (by simp [w])
      have b3 : c ≠ TO := fun w => hb (by simp [w])
      have b4 : c ≠ i1 := fun w => hb (by simp [w])
      have b5 : c ≠ i2 := fun w => hb (by simp [w])
      exact (sb.2 c b1).trans (hk c o b1 b3 b4 b5 q)
    refine ⟨.ref s.heap.objs.size, _, J, rfl, ⟨_, c1, c2, rfl, I.hok.fresh (Nat.le_refl _), rfl, e1, e2⟩, ⟨hz'', ?_, ⟨.str (sgn c1) k1, .str (sgn c2) k2, ?_⟩, ?_, ?_⟩, ?_⟩
    · exact (sb.2 _ Sp.TIz).trans (hk _ _ Sp.TIz Sp.TITO Sp.TIi1 Sp.TIi2 hTI)
    · exact (sb.2 _ Sp.TOz).trans hTO'
    · obtain ⟨o, q, r⟩ := s1'
      exact ⟨o, (sb.2 _ (Ne.symm Sp.zi1)).trans q, r⟩
    · obtain ⟨o, q, r⟩ := s2'
      exact ⟨o, (sb.2 _ (Ne.symm Sp.zi2)).trans q, r⟩
    · intro c hcm
      have lt : c < s.heap.objs.size := by
        have q : c = z ∨ c = TI ∨ c = TO ∨ c = i1 ∨ c = i2 := by simpa using hcm
        rcases q with q | q | q | q | q
        · rw [q]; exact zl
        · rw [q]; exact Heap.lt_size hTI
        · rw [q]; exact Heap.lt_size hTO
        · rw [q]; obtain ⟨_, w, _⟩ := s1; exact Heap.lt_size w
        · rw [q]; obtain ⟨_, w, _⟩ := s2; exact Heap.lt_size w
      rw [upd_ne (Nat.ne_of_lt lt)]
      exact (hf c hcm).1
  done := by
    intro X hP hw hK hc i pins s σ H E I hf st hg
    subst hP hw hK
    obtain ⟨hz, hTI, ⟨a0, b0, hTO⟩, s1, s2⟩ := st
    have hg' : i = min x.cps.size y.cps.size := hg
    have hh := I.ok.hd hc
    refine wpAny_pyNext_zipD2_end Sp (Draws.text (A := X.A.in1) hh i1 x t1) (Draws.text (A := X.A.in1) hh i2 y t2) hz hTI hTO s1 s2 (by omega) (by omega) (by omega) ?_
    intro h' tk hk
    refine ⟨rfl, I.turnedL (t' := tk) (ch := [z, TI, TO, i1, i2]) ?_ hf⟩
    intro c o hb q
    exact hk c o (fun w => hb (by simp [w])) (fun w => hb (by simp [w])) (fun w => hb (by simp [w])) (fun w => hb (by simp [w])) q
  self := fun A i s Q E st h => wpAny_pyIter_zip st.1 h
def iZipS (ta : TA) : TI := fun σ H R => ta σ H fun vs H1 => ∃ x y, vs = [.str x, .str y] ∧ R (ItZ x y) H1
theorem pi_zipS {X : Cx} {e e2 : Expr} {ta : TA} {p pos tpos : Pos} {elts : List Expr} {kk : Nat} (hg : Gl X "zip") (hm : X.mg "zip" = none) (ha : PA X [e, e2] ta)
    (hs : starEach [e, e2] X.env = (false, eval e X.env) :: starEach [e2] X.env := by rfl) (hpl : (backTo pos (starEach [e2] X.env)).any (·.1) = false := by rfl) :
    PI X (.Tuple elts kk tpos) (.Call (.Name "zip" p) [e, e2] [] pos) (iZipS ta) := by
  constructor
  intro pins s σ H R I h
  refine Call_ (ld_blt I hg hm PyProof.Rows.boot_zip (PyProof.Rows.callWith_type1 (thn (ha.run pos pins s σ H _ I h) ?_) hs hpl))
  rintro us s1 ⟨vs, H1, I1, r1, x, y, rfl, q⟩
  cases r1 with
  | cons r rr =>
    cases rr with
    | cons r' rr =>
      cases rr
      obtain ⟨t1, rfl⟩ := r
      obtain ⟨t2, rfl⟩ := r'
      refine zip_begins2 (begins_text x t1) (begins_text y t2) trivial trivial ?_
      intro h' hz hTI hTO h1 h2 hsz hk
      refine wpAny_pyIter_zip hz ?_
      have J : Inv X pins σ H1 { s1 with heap := h' } := I1.kept (t' := s1.toks) hk
      have sep : ZipSep2 (s1.heap.objs.size + 4) (s1.heap.objs.size + 2) (s1.heap.objs.size + 3) s1.heap.objs.size (s1.heap.objs.size + 1) [s1.heap.objs.size] [s1.heap.objs.size + 1] := zip_sep2 (N := s1.heap.objs.size) (fp1 := []) (fp2 := []) (by simp) (by simp)
      refine ⟨s1.heap.objs.size + 4, [s1.heap.objs.size + 4, s1.heap.objs.size + 2, s1.heap.objs.size + 3, s1.heap.objs.size, s1.heap.objs.size + 1], _, _, H1, rfl, J, turn_zipS (x := x) (y := y) (t1 := t1) (t2 := t2) sep, ⟨hz, hTI, ⟨_, _, hTO⟩, ⟨_, h1, rfl, rfl⟩, ⟨_, h2, rfl, rfl⟩⟩, ?_, q⟩
      refine fresh_fp I1 fun b hb => ?_
      have z : b = s1.heap.objs.size + 4 ∨ b = s1.heap.objs.size + 2 ∨ b = s1.heap.objs.size + 3 ∨ b = s1.heap.objs.size ∨ b = s1.heap.objs.size + 1 := by simpa using hb
      rcases z with z | z | z | z | z
      · rw [z]; exact Nat.le_add_right _ _
      · rw [z]; exact Nat.le_add_right _ _
      · rw [z]; exact Nat.le_add_right _ _
      · rw [z]; exact Nat.le_refl _
      · rw [z]; exact Nat.le_add_right _ _
section
variable {X : Cx} {pos : Pos}
def diZipS (ta : DTA) : DTI := fun S G R => ta S G fun ds G1 => match ds with
  | [.str x, .str y] => R (List.zipWith (fun a b => .tup [.str (sgn a), .str (sgn b)]) x.cps.toList y.cps.toList) dNoGuard G1
  | _ => False
theorem di_zipS {e e2 : Expr} {ta : DTA} {p tpos : Pos} {elts : List Expr} {kk : Nat} (hg : Gl X "zip") (hm : X.mg "zip" = none) (ha : DA X [e, e2] ta)
    (hs : starEach [e, e2] X.env = (false, eval e X.env) :: starEach [e2] X.env := by rfl) (hpl : (backTo pos (starEach [e2] X.env)).any (·.1) = false := by rfl) : DI X (.Tuple elts kk tpos) (.Call (.Name "zip" p) [e, e2] [] pos) (diZipS ta) := by
  obtain ⟨t, p1, r⟩ := ha.ex
  refine ⟨_, pi_zipS hg hm p1 hs hpl, fun F H σ S G o R' h R k => ?_⟩
  refine r F H σ S G o _ h _ fun F1 H1 vs ds G1 e1 g1 q1 h1 => ?_
  dsimp only at h1
  split at h1
  · rename_i x y
    cases q1 with
    | cons a b =>
      cases a
      cases b with
      | cons c d =>
        cases c; cases d
        refine ⟨x, y, rfl, k F1 H1 G1 _ _ _ e1 g1 ⟨fun F2 H2 G2 i d e2 g2 _ hd => ?_, fun F2 H2 G2 e2 g2 _ => ?_⟩ h1⟩
        · rw [List.getElem?_zipWith] at hd
          cases ea : x.cps.toList[i]? with
          | none => simp [ea] at hd
          | some a =>
            cases eb : y.cps.toList[i]? with
            | none => simp [ea, eb] at hd
            | some b =>
              simp only [ea, eb] at hd
              cases hd
              have la := (List.getElem?_eq_some_iff.mp ea).1
              have lb := (List.getElem?_eq_some_iff.mp eb).1
              rw [Array.length_toList] at la lb
              refine ⟨by show i < min _ _; omega, fun v H3 hy => ?_⟩
              obtain ⟨T, a', b', rfl, hT, rfl, ha', hb'⟩ := hy
              have za : x.cps[i]? = some a := by rw [← ea]; simp
              have zb : y.cps[i]? = some b := by rw [← eb]; simp
              rw [za] at ha'; rw [zb] at hb'
              cases ha'; cases hb'
              have gr := Gr.new (u := .tup [.str (sgn a), .str (sgn b)]) g2.ex hT
              exact ⟨_, gr.go, g2.grow gr, .tup upd_same (.cons (.str _) (.cons (.str _) .nil))⟩
        · show _ = min _ _
          simp
  · exact h1.elim
/-- zip of two tuples -/
def diZipT (ta : DTA) : DTI := fun S G R => ta S G fun ds G1 => match ds with
  | [.tup xs, .tup ys] => R (List.zipWith (fun a b => .tup [a, b]) xs ys) dNoGuard G1
  | _ => False
theorem di_zipT {e e2 : Expr} {ta : DTA} {p tpos : Pos} {elts : List Expr} {kk : Nat} (hg : Gl X "zip") (hm : X.mg "zip" = none) (ha : DA X [e, e2] ta)
    (hs : starEach [e, e2] X.env = (false, eval e X.env) :: starEach [e2] X.env := by rfl) (hpl : (backTo pos (starEach [e2] X.env)).any (·.1) = false := by rfl) : DI X (.Tuple elts kk tpos) (.Call (.Name "zip" p) [e, e2] [] pos) (diZipT ta) := by
  obtain ⟨t, p1, r⟩ := ha.ex
  refine ⟨_, RZ.pi_zipA hg hm p1 hs hpl, fun F H σ S G o R' h R k => ?_⟩
  refine r F H σ S G o _ h _ fun F1 H1 vs ds G1 e1 g1 q1 h1 => ?_
  dsimp only at h1
  split at h1
  · rename_i xs ys
    cases q1 with
    | cons a b =>
      cases b with
      | cons c d =>
        cases d
        cases a with
        | tup ha ra =>
          cases c with
          | tup hb rb =>
            rename_i pa va pb vb
            refine ⟨pa, pb, va, vb, rfl, .inr ⟨.inl (.inl (g1.ex _ _ ha)), .inl (.inl (g1.ex _ _ hb)), k F1 H1 G1 _ _ _ e1 g1 ⟨fun F2 H2 G2 i d e2 g2 _ hd => ?_, fun F2 H2 G2 e2 g2 _ => ?_⟩ h1⟩⟩
            · have sa : SqT X.K H2 pa va := .inl (.inl (g2.ex _ _ (e2 _ _ ha)))
              have sb : SqT X.K H2 pb vb := .inl (.inl (g2.ex _ _ (e2 _ _ hb)))
              rw [List.getElem?_zipWith] at hd
              cases ea : xs[i]? with
              | none => simp [ea] at hd
              | some a =>
                cases eb : ys[i]? with
                | none => simp [ea, eb] at hd
                | some b =>
                  simp only [ea, eb] at hd
                  cases hd
                  obtain ⟨u, hu, ru⟩ := ra.get ea
                  obtain ⟨w, hw, rw'⟩ := rb.get eb
                  refine ⟨⟨va, vb, u, w, sa, sb, hu, hw⟩, fun v H3 hy => ?_⟩
                  obtain ⟨T, u', w', rfl, hT, rfl, h3, h4⟩ := hy
                  have z1 := h3 va sa
                  have z2 := h4 vb sb
                  rw [hu] at z1; rw [hw] at z2
                  cases z1; cases z2
                  have gr := Gr.new (u := .tup [u, w]) g2.ex hT
                  exact ⟨_, gr.go, g2.grow gr, .tup upd_same (.cons ((ru.mono e2).mono gr.ff) (.cons ((rw'.mono e2).mono gr.ff) .nil))⟩
            · refine ⟨va, vb, .inl (.inl (g2.ex _ _ (e2 _ _ ha))), .inl (.inl (g2.ex _ _ (e2 _ _ hb))), ?_⟩
              rw [ra.length, rb.length, List.length_zipWith]
              omega
  · exact h1.elim
end
end DL
end
section
set_option Elab.async false
set_option linter.all false
set_option maxRecDepth 100000
set_option maxHeartbeats 4000000
/-! DLd: several names at once, +=, displays of dicts, xs[::-1], repr, calls by a contract. -/
namespace DL
open PySem PySem.Spec PyProof.Rows L2

section
variable {X : Cx} {pos : Pos}
theorem dp_par {i j : Nat} {x y : Str} {a b : Expr} {ta : DTA} {px py pt : Pos} {kt k2 pt2} (hc : X.calm = true) (hN : X.N.Nodup) (hi : X.N[i]? = some x := by rfl) (hj : X.N[j]? = some y := by rfl) (hij : i ≠ j := by decide)
    (hx : X.env.scope.names.lookup x = some .local := by rfl) (hy : X.env.scope.names.lookup y = some .local := by rfl) (ha : DA X [a, b] ta)
    (hw : swappedStores [.Tuple [.Name x px, .Name y py] kt pt] (.Tuple [a, b] k2 pt2) X.env = pure (some [x, y]) := by rfl)
    (hs : swapsWithSole [.Tuple [.Name x px, .Name y py] kt pt] (.Tuple [a, b] k2 pt2) pos.line X.env = pure false := by rfl) :
    DP X (.Assign [.Tuple [.Name x px, .Name y py] kt pt] (.Tuple [a, b] k2 pt2) pos) (dPar i j ta) := by
  obtain ⟨t, p, r⟩ := ha.ex
  refine ⟨_, ps_par hc hN hi hj hij hx hy p hw hs, fun F H σ S G o D' h D0 k => ?_⟩
  refine r F H σ S G o _ h _ fun F1 H1 vs ds G1 e1 g1 q1 h1 => ?_
  dsimp only at h1
  split at h1
  · cases q1 with
    | cons a1 b1 =>
      cases b1 with
      | cons a2 b2 =>
        cases b2
        exact ⟨_, _, rfl, k.nx F1 H1 _ _ G1 e1 ⟨g1, (((o.s.mono e1.ex).set a1 i).set a2 j)⟩ h1⟩
  · exact h1.elim
def dPar3 (i j l : Nat) (ta : DTA) : DTS := fun D' S G => ta S G fun ds G1 => match ds with
  | [x, y, z] => D'.nx (((S.set i (some x)).set j (some y)).set l (some z)) G1
  | _ => False
theorem dp_par3 {i j l : Nat} {x y z : Str} {a b c : Expr} {ta : DTA} {px py pz pt : Pos} {kt k2 pt2} (hc : X.calm = true) (hN : X.N.Nodup) (hi : X.N[i]? = some x := by rfl) (hj : X.N[j]? = some y := by rfl) (hl : X.N[l]? = some z := by rfl) (hij : i ≠ j := by decide) (hil : i ≠ l := by decide) (hjl : j ≠ l := by decide)
    (hx : X.env.scope.names.lookup x = some .local := by rfl) (hy : X.env.scope.names.lookup y = some .local := by rfl) (hz : X.env.scope.names.lookup z = some .local := by rfl) (ha : DA X [a, b, c] ta)
    (hw : swappedStores [.Tuple [.Name x px, .Name y py, .Name z pz] kt pt] (.Tuple [a, b, c] k2 pt2) X.env = pure (some [x, y, z]) := by rfl)
    (hs : swapsWithSole [.Tuple [.Name x px, .Name y py, .Name z pz] kt pt] (.Tuple [a, b, c] k2 pt2) pos.line X.env = pure false := by rfl) :
    DP X (.Assign [.Tuple [.Name x px, .Name y py, .Name z pz] kt pt] (.Tuple [a, b, c] k2 pt2) pos) (dPar3 i j l ta) := by
  obtain ⟨t, p, r⟩ := ha.ex
  refine ⟨_, ps_par3 hc hN hi hj hl hij hil hjl hx hy hz p hw hs, fun F H σ S G o D' h D0 k => ?_⟩
  refine r F H σ S G o _ h _ fun F1 H1 vs ds G1 e1 g1 q1 h1 => ?_
  dsimp only at h1
  split at h1
  · cases q1 with
    | cons a1 b1 =>
      cases b1 with
      | cons a2 b2 =>
        cases b2 with
        | cons a3 b3 =>
          cases b3
          exact ⟨_, _, _, rfl, k.nx F1 H1 _ _ G1 e1 ⟨g1, ((((o.s.mono e1.ex).set a1 i).set a2 j).set a3 l)⟩ h1⟩
  · exact h1.elim
/-- x += e, whole numbers -/
def dAug (i : Nat) (te : DTE) (f : Int → Int → Int) : DTS := fun D' S G => match S[i]? with
  | some (some (.int a)) => te S G fun d G1 => (match d with
    | .int b => D'.nx (S.set i (some (.int (f a b)))) G1
    | _ => False)
  | _ => False
theorem dp_aug {i : Nat} {x : Str} {e : Expr} {te : DTE} {op : Operator} {f : Int → Int → Int} {pos' : Pos} (hN : X.N.Nodup) (ho : PIp X op (ipI f)) (he : DE X e te) (hi : X.N[i]? = some x := by rfl) (hx : Loc X.env.scope x := by first | exact Or.inl rfl | exact Or.inr rfl) (hf : X.fn x = true ∨ X.env.scope.names.lookup x = some .local := by first | exact .inl rfl | exact .inr rfl | assumption) :
    DP X (.AugAssign (.Name x pos') op e pos) (dAug i te f) := by
  obtain ⟨t, p, r⟩ := he.ex
  refine ⟨_, ps_aug hN hi hx p ho hf, fun F H σ S G o D' h D0 k => ?_⟩
  unfold dAug at h
  split at h
  · rename_i a ea
    obtain ⟨v, hv, rv⟩ := o.s.get ea
    cases rv
    refine ⟨_, hv, r F H σ S G o _ h _ fun F1 H1 u d G1 e1 g1 q1 h1 => ?_⟩
    dsimp only at h1
    split at h1
    · cases q1
      exact ⟨_, _, rfl, rfl, k.nx F1 H1 _ _ G1 e1 ⟨g1, (o.s.mono e1.ex).set (.int _) i⟩ h1⟩
    · exact h1.elim
  · exact h.elim
/-! xs[::-1] -/
def dRevL (te : DTE) : DTE := fun S G Q => te S G fun d G1 => match d.cur G1 with
  | .lst xs => Q (.lst xs.reverse) G1
  | _ => False
theorem de_revL {e : Expr} {te : DTE} {k : Nat} {p1 p2 p3 : Pos} (he : DE X e te) : DE X (.Subscript e (.Slice none none (some (.UnaryOp .USub (.Constant (.int 1) k p1) p2)) p3) pos) (dRevL te) := by
  obtain ⟨t, p, r⟩ := he.ex
  refine ⟨_, pe_revL p, fun F H σ S G o Q' h Q kk => ?_⟩
  refine r F H σ S G o _ h _ fun F1 H1 v d G1 e1 g1 q1 h1 => ?_
  dsimp only at h1
  split at h1
  · rename_i xs ex
    obtain ⟨a, vs, rfl, ha, rs⟩ := cur_list g1 q1 ex
    refine ⟨a, vs, rfl, .inl (.inl ha), fun p hp => ?_⟩
    have gr := Gr.new (u := .lst vs.reverse) g1.ex hp
    exact kk _ _ _ _ G1 (e1.trans gr.go) (g1.grow gr) (.lst upd_same (rs.reverse.mono gr.ff)) h1
  · exact h1.elim
def dRevLM (te : DTE) : DTE := fun S G Q => te S G fun d G1 => match d.cur G1 with
  | .lst xs => ∀ p, G1 p = none → Q (.rf p) (gput G1 p (.lst xs.reverse))
  | _ => False
theorem de_revLM {e : Expr} {te : DTE} {k : Nat} {p1 p2 p3 : Pos} (he : DE X e te) : DE X (.Subscript e (.Slice none none (some (.UnaryOp .USub (.Constant (.int 1) k p1) p2)) p3) pos) (dRevLM te) := by
  obtain ⟨t, p, r⟩ := he.ex
  refine ⟨_, pe_revL p, fun F H σ S G o Q' h Q kk => ?_⟩
  refine r F H σ S G o _ h _ fun F1 H1 v d G1 e1 g1 q1 h1 => ?_
  dsimp only at h1
  split at h1
  · rename_i xs ex
    obtain ⟨a, vs, rfl, ha, rs⟩ := cur_list g1 q1 ex
    refine ⟨a, vs, rfl, .inl (.inl ha), fun p hp => ?_⟩
    exact kk _ _ _ _ _ (e1.trans (Go.alloc hp)) (g1.alloc (o := .lst xs.reverse) hp rfl ⟨_, upd_same, rs.reverse⟩) (.rf p) (h1 p (g1.free hp))
  · exact h1.elim
/-! ### displays of dicts -/
abbrev DTP := DS → GH → (List (D × D) → GH → Prop) → Prop
inductive RepP (K : PySem.W.Frag) (F : Hp) : List (V × V) → List (D × D) → Prop
  | nil : RepP K F [] []
  | cons {a b : V} {c d : D} {ps : List (V × V)} {qs : List (D × D)} : Rep K F a c → Rep K F b d → RepP K F ps qs → RepP K F ((a, b) :: ps) ((c, d) :: qs)
theorem RepP.mono {K : PySem.W.Frag} {F F' : Hp} (e : Ex F F') : ∀ {ps : List (V × V)} {qs : List (D × D)}, RepP K F ps qs → RepP K F' ps qs
  | _, _, .nil => .nil
  | _, _, .cons a b t => .cons (a.mono e) (b.mono e) (RepP.mono e t)
structure DPp (X : Cx) (pos : Pos) (keys : List (Option Expr)) (values : List Expr) (t' : DTP) : Prop where
  ex : ∃ trs, PPs X pos keys values trs ∧ ∀ F H σ S G, Ok X.K F H σ S G → ∀ Q', t' S G Q' → ∀ Q : List (V × V) → Hp → Prop, (∀ F' H' ps qs G', Go F H G F' H' G' → Gok X.K F' H' G' → RepP X.K F' ps qs → Q' qs G' → Q ps H') → tPairs trs σ H Q
def dpNil : DTP := fun _ G Q => Q [] G
def dpCons (tk tv : DTE) (tr : DTP) : DTP := fun S G Q => tk S G fun k G1 => tv S G1 fun v G2 => tr S G2 fun qs G3 => Q ((k, v) :: qs) G3
theorem dpp_nil : DPp X pos [] [] dpNil := ⟨_, pps_nil, fun F H σ S G o Q' h Q k => k F H [] [] G Go.refl o.g .nil h⟩
theorem dpp_cons {k v : Expr} {ks : List (Option Expr)} {vs : List Expr} {tk tv : DTE} {tr : DTP} (hk : DE X k tk) (hv : DE X v tv) (hr : DPp X pos ks vs tr) : DPp X pos (some k :: ks) (v :: vs) (dpCons tk tv tr) := by
  obtain ⟨t1, p1, r1⟩ := hk.ex
  obtain ⟨t2, p2, r2⟩ := hv.ex
  obtain ⟨t3, p3, r3⟩ := hr.ex
  refine ⟨_, pps_cons p1 p2 p3, fun F H σ S G o Q' h Q kk => ?_⟩
  refine r1 F H σ S G o _ h _ fun F1 H1 v1 d1 G1 e1 g1 q1 h1 => ?_
  refine r2 F1 H1 σ S G1 (o.go e1 g1) _ h1 _ fun F2 H2 v2 d2 G2 e2 g2 q2 h2 => ?_
  refine r3 F2 H2 σ S G2 ((o.go e1 g1).go e2 g2) _ h2 _ fun F3 H3 ps qs G3 e3 g3 q3 h3 => ?_
  exact kk F3 H3 _ _ G3 ((e1.trans e2).trans e3) g3 (.cons ((q1.mono e2.ex).mono e3.ex) (q2.mono e3.ex) q3) h3
def keyed : List (D × D) → Option (List (Key × D))
  | [] => some []
  | (k, v) :: r => match k.key, keyed r with
    | some k, some r => some ((k, v) :: r)
    | _, _ => none
theorem keyed_rep {K : PySem.W.Frag} {F : Hp} : ∀ {ps : List (V × V)} {qs : List (D × D)} {kds : List (Key × D)}, RepP K F ps qs → keyed qs = some kds → ∃ kvs : List (Key × V), ps = kvs.map (fun kv => (kV kv.1, kv.2)) ∧ KR K F kvs kds
  | _, _, _, .nil, h => by cases h; exact ⟨[], rfl, .nil⟩
  | _, _, kds, .cons (c := c) (d := d) (qs := qs) a b t, h => by
    unfold keyed at h
    cases e1 : c.key with
    | none => simp [e1] at h
    | some k =>
      cases e2 : keyed qs with
      | none => simp [e1, e2] at h
      | some r =>
        simp only [e1, e2] at h
        cases h
        obtain ⟨kvs, rfl, kr⟩ := keyed_rep t e2
        have := a.key e1
        subst this
        exact ⟨(k, _) :: kvs, rfl, .cons b kr⟩
def mergeD (kds more : List (Key × D)) : List (Key × D) := more.foldl (fun acc kv => putD acc kv.1 kv.2) kds
theorem KR.merge {K : PySem.W.Frag} {F : Hp} : ∀ {more : List (Key × D)} {mv : List (Key × V)} {kds : List (Key × D)} {kvs : List (Key × V)}, KR K F mv more → KR K F kvs kds → KR K F (mergeK kvs mv) (mergeD kds more)
  | [], mv, kds, kvs, h, r => by
    obtain rfl := h.unnil
    exact r
  | (k, d) :: more, mv, kds, kvs, h, r => by
    obtain ⟨v, mv', rfl, rv, t⟩ := h.uncons
    show KR K F (mergeK (putK kvs k v) mv') (mergeD (putD kds k d) more)
    exact KR.merge t (r.put rv)
def dDisp (tp : DTP) : DTE := fun S G Q => tp S G fun qs G1 => match keyed qs with
  | some kds => kds.length ≤ 15 ∧ Q (.dK (mergeD [] kds)) G1
  | none => False
theorem disp_core {keys : List (Option Expr)} {values : List Expr} {tp : DTP} (h : DPp X pos keys values tp) (hall : keys.all (·.isSome) = true) (hl : keys.length = values.length) (h0 : keys ≠ []) (h15 : keys.length ≤ 15) :
    ∃ t, PE X (.Dict keys values pos) t ∧ ∀ F H σ S G, Ok X.K F H σ S G → ∀ Q' : List (Key × D) → GH → Prop, (tp S G fun qs G1 => match keyed qs with | some kds => kds.length ≤ 15 ∧ Q' (mergeD [] kds) G1 | none => False) → ∀ Q : VK,
      (∀ F' H' G' p kvs kds, H p = none → Go F H G F' H' G' → Gok X.K F' H' G' → F' p = none → G' p = none → KR X.K F' kvs kds → Q' kds G' → H' p = some (.dK []) → Q (.ref p) (upd H' p (.dK kvs))) → t σ H Q := by
  obtain ⟨trs, p1, r⟩ := h.ex
  refine ⟨_, pe_disp p1 hall hl h0 h15, fun F H σ S G o Q' h Q k => ?_⟩
  intro p hp
  have gp : G p = none := o.g.free hp
  have fp : F p = none := o.g.ex.nope hp
  have gr : Gr F H F (upd H p (.dK [])) := Gr.only o.g.ex hp
  refine r F _ σ S G ⟨o.g.grow gr, o.s⟩ _ h _ fun F1 H1 ps qs G1 e1 g1 q1 h1 => ?_
  split at h1
  · rename_i kds ek
    obtain ⟨kvs, rfl, kr⟩ := keyed_rep q1 ek
    have fr := e1.fr p _ upd_same gp
    refine ⟨fr.1, kvs, rfl, by rw [kr.len]; exact h1.1, ?_⟩
    exact k F1 H1 G1 p _ _ hp ((gr.go (G := G)).trans e1) g1 (e1.no p _ upd_same gp fp (fun _ z => nomatch z)) fr.2 (KR.merge kr .nil) h1.2 fr.1
  · exact h1.elim
theorem de_disp {keys : List (Option Expr)} {values : List Expr} {tp : DTP} (h : DPp X pos keys values tp) (hall : keys.all (·.isSome) = true := by rfl) (hl : keys.length = values.length := by rfl) (h0 : keys ≠ [] := by intro z; cases z) (h15 : keys.length ≤ 15 := by decide) : DE X (.Dict keys values pos) (dDisp tp) := by
  obtain ⟨t, p1, r⟩ := disp_core h hall hl h0 h15
  refine ⟨t, p1, fun F H σ S G o Q' h Q k => ?_⟩
  refine r F H σ S G o (fun kds G' => Q' (.dK kds) G') h Q fun F' H' G' p kvs kds hp go g fp gp kr q hd => ?_
  have g2 : Gok X.K (upd F' p (.dK kvs)) (upd H' p (.dK kvs)) G' := by
    refine ⟨g.ex.upds _, fun a w e => ?_, g.one⟩
    have nq : a ≠ p := fun y => by rw [y, gp] at e; cases e
    obtain ⟨f, m⟩ := g.at_ a w e
    refine ⟨by rw [upd_ne nq]; exact f, m.move (Ex.new fp) (fun b u hb hc => ?_) fun c z => z⟩
    have n2 : b ≠ p := fun z => by
      rcases hc with hc | hc
      · exact nq (hc ▸ z)
      · rw [z, gp] at hc; cases hc
    rw [upd_ne n2]; exact hb
  have go2 : Go F H G (upd F' p (.dK kvs)) (upd H' p (.dK kvs)) G' := by
    refine ⟨go.ex.trans (Ex.new fp), fun b u hb gb => ?_, fun b u hb gb fb t => ?_, fun b z => go.st b (upd_none z)⟩
    · have n2 : b ≠ p := fun z => by rw [z, hp] at hb; cases hb
      rw [upd_ne n2]; exact go.fr b u hb gb
    · have n2 : b ≠ p := fun z => by rw [z, hp] at hb; cases hb
      rw [upd_ne n2]; exact go.no b u hb gb fb t
  have kr2 := kr.mono (Ex.new (o := .dK kvs) fp)
  exact k _ _ _ _ G' go2 g2 (.dK upd_same kr2.ks kr2.vs) q
def dDispM (tp : DTP) : DTE := fun S G Q => tp S G fun qs G1 => match keyed qs with
  | some kds => kds.length ≤ 15 ∧ ∀ p, G1 p = none → Q (.rf p) (gput G1 p (.dK (mergeD [] kds)))
  | none => False
theorem de_dispM {keys : List (Option Expr)} {values : List Expr} {tp : DTP} (h : DPp X pos keys values tp) (hall : keys.all (·.isSome) = true := by rfl) (hl : keys.length = values.length := by rfl) (h0 : keys ≠ [] := by intro z; cases z) (h15 : keys.length ≤ 15 := by decide) : DE X (.Dict keys values pos) (dDispM tp) := by
  obtain ⟨t, p1, r⟩ := disp_core h hall hl h0 h15
  refine ⟨t, p1, fun F H σ S G o Q' h Q k => ?_⟩
  refine r F H σ S G o (fun kds G' => ∀ p, G' p = none → Q' (.rf p) (gput G' p (.dK kds))) h Q fun F' H' G' p kvs kds hp go g fp gp kr q hd => ?_
  have g2 : Gok X.K F' (upd H' p (.dK kvs)) (gput G' p (.dK kds)) := by
    refine ⟨g.ex.updR fp, fun a w e => ?_, fun a b k1 k2 k3 n j1 j2 j3 m e1 e2 => ?_⟩
    · by_cases nq : a = p
      · subst nq
        rw [gput_same] at e; cases e
        exact ⟨fp, _, upd_same, kr.ks, kr.vs⟩
      · rw [gput_ne nq] at e
        obtain ⟨f, m⟩ := g.at_ a w e
        refine ⟨f, m.move (Ex.refl F') (fun b u hb hc => ?_) fun c z => ?_⟩
        · have n2 : b ≠ p := fun z => by
            rcases hc with hc | hc
            · exact nq (hc ▸ z)
            · rw [z, gp] at hc; cases hc
          rw [upd_ne n2]; exact hb
        · have n2 : c ≠ p := fun y => by rw [y, gp] at z; cases z
          rw [gput_ne n2]; exact z
    · have ha : a ≠ p := fun y => by rw [y, gput_same] at e1; cases e1
      have hb : b ≠ p := fun y => by rw [y, gput_same] at e2; cases e2
      rw [gput_ne ha] at e1; rw [gput_ne hb] at e2
      exact g.one a b k1 k2 k3 n j1 j2 j3 m e1 e2
  have go2 : Go F H G F' (upd H' p (.dK kvs)) (gput G' p (.dK kds)) := by
    refine ⟨go.ex, fun b u hb gb => ?_, go.no, fun b z => go.st b (upd_none z)⟩
    have n2 : b ≠ p := fun z => by rw [z, hp] at hb; cases hb
    rw [upd_ne n2, gput_ne n2]; exact go.fr b u hb gb
  exact k _ _ _ _ _ go2 g2 (.rf p) (q p gp)
/-! ### repr of data -/
def okR (d : D) : Bool := d.pl && d.py.showable && decide (d.py.depth ≤ 60)
def D.shown (d : D) : Str := d.py.shown
theorem plain_noDict : ∀ d : PyData, d.plain = true → d.hasDict = false := by
  intro d h
  have aux : ∀ n : Nat, (∀ d : PyData, sizeOf d ≤ n → d.plain = true → d.hasDict = false) ∧ (∀ ds : List PyData, sizeOf ds ≤ n → PyData.plainAll ds = true → PyData.hasDictAll ds = false) := by
    intro n
    induction n with
    | zero =>
      refine ⟨fun d hd => ?_, fun ds hd => ?_⟩
      · cases d <;> simp at hd
      · cases ds <;> simp at hd
    | succ n ih =>
      refine ⟨fun d hd hp => ?_, fun ds hd hp => ?_⟩
      · cases d with
        | list xs => exact ih.2 xs (by simp at hd; omega) hp
        | tuple xs => exact ih.2 xs (by simp at hd; omega) hp
        | dict kvs => cases hp
        | _ => rfl
      · cases ds with
        | nil => rfl
        | cons x xs =>
          have hp' : x.plain = true ∧ PyData.plainAll xs = true := by simpa [PyData.plainAll] using hp
          simp only [PyData.hasDictAll, ih.1 x (by simp at hd; omega) hp'.1, ih.2 xs (by simp at hd; omega) hp'.2, Bool.or_self]
  exact (aux (sizeOf d)).1 d (Nat.le_refl _) h
def rReprD (ds : List D) (G : GH) (Q : DQ) : Prop := match ds with
  | [d] => (match d.cur G with
    | .lst xs => okR (.lst xs) = true ∧ (D.shown (.lst xs)).length ≤ sizeLine ∧ Q (.str (D.shown (.lst xs))) G
    | .tup xs => okR (.tup xs) = true ∧ (D.shown (.tup xs)).length ≤ sizeLine ∧ Q (.str (D.shown (.tup xs))) G
    | _ => False)
  | _ => False
def rReprP (K : PySem.W.Frag) : List V → Hp → VK → Prop := fun vs H Q => ∃ a d, vs = [.ref a] ∧ Dp K H (.ref a) d ∧ d.plain = true ∧ d.showable = true ∧ d.depth ≤ 60 ∧ d.shown.length ≤ sizeLine ∧ Q (.str d.shown) H
theorem cr_repr (hu : X.A.units + 100 < cLine) (hA : X.A.guards = some []) : CallR X (.builtin "repr") (rReprP X.K) := by
  intro pins s σ H vs us Q I r h
  obtain ⟨a, d, rfl, hd, hp, hs, hde, hz, q⟩ := h
  cases r with
  | cons r rr =>
    cases rr
    obtain ⟨as, rd⟩ := Dp.reads I d _ _ hd r
    cases r
    refine repr_of_reads' (h₀ := s.heap) rd hs (fun z => by rw [plain_noDict d hp] at z; cases z) hA (by omega) (fun _ _ z => z) (fun h' u tk hk => ?_) hz
    exact ⟨.str _, H, I.kept (t' := tk) hk, ⟨_, rfl⟩, q⟩
theorem okR_of {d : D} (h : okR d = true) : d.pl = true ∧ d.py.showable = true ∧ d.py.depth ≤ 60 := by
  unfold okR at h
  simp only [Bool.and_eq_true, decide_eq_true_eq] at h
  exact ⟨h.1.1, h.1.2, h.2⟩
theorem cd_repr (hu : X.A.units + 100 < cLine) (hA : X.A.guards = some []) : CallD X (.builtin "repr") rReprD := by
  refine ⟨_, cr_repr hu hA, fun F H G vs ds g rs Q' h Q k => ?_⟩
  unfold rReprD at h
  split at h
  · rename_i d
    cases rs with
    | cons r b =>
      cases b
      split at h
      · rename_i xs ex
        obtain ⟨h1, h2, h3⟩ := h
        obtain ⟨p1, p2, p3⟩ := okR_of h1
        have hd := cur_dp g r (by rw [ex]; exact p1)
        rw [ex] at hd
        obtain ⟨a, vs, rfl, ha, _⟩ := cur_list g r ex
        exact ⟨a, _, rfl, hd, D.py_plain _ p1, p2, p3, h2, k F H _ _ G Go.refl g (.str _) h3⟩
      · rename_i xs ex
        obtain ⟨h1, h2, h3⟩ := h
        obtain ⟨p1, p2, p3⟩ := okR_of h1
        have hd := cur_dp g r (by rw [ex]; exact p1)
        rw [ex] at hd
        obtain ⟨a, vs, rfl, ha, _⟩ := cur_tup r ex
        exact ⟨a, _, rfl, hd, D.py_plain _ p1, p2, p3, h2, k F H _ _ G Go.refl g (.str _) h3⟩
      · exact h.elim
  · exact h.elim
/-! ### a def by its contract -/
structure Cal (P : Program) (w : World) (K : PySem.W.Frag) (mg : Str → Option Value) (base : Heap) (x : Str) (k : Nat) (ps : List Str) (sp : SpD) : Prop where
  ex : ∃ f fd, FnG P w K mg base CX0 k f fd ps (SpOf K sp) ∧ mg x = some (.ref f) ∧ PySem.W.keepIn K (.ref f) = true ∧ Binds K fd ps []
theorem de_cal {x : Str} {k : Nat} {ps : List Str} {sp : SpD} {p : Pos} {e : Expr} {es : List Expr} {ta : DTA} (c : Cal X.prog X.w X.K X.mg X.base x k ps sp) (hA : X.A.guards = some []) (hr : Room k X.A) (ha : DA X (e :: es) ta) (hg : Gl X x := by rfl) (hdb : (x == ("__debug__" : Str)) = false := by decide)
    (he : starEach (e :: es) X.env = (false, eval e X.env) :: starEach es X.env := by rfl) (hpl : (backTo pos (starEach es X.env)).any (·.1) = false := by rfl) : DE X (.Call (.Name x p) (e :: es) [] pos) (dCall sp ta) := by
  obtain ⟨f, fd, Fn, hm, hk, hb⟩ := c.ex
  exact de_call Fn hA hr hg hm hk hb ha hdb he hpl
theorem de_cal0 {x : Str} {k : Nat} {ps : List Str} {sp : SpD} {p : Pos} (c : Cal X.prog X.w X.K X.mg X.base x k ps sp) (hA : X.A.guards = some []) (hr : Room k X.A) (hg : Gl X x := by rfl) (hdb : (x == ("__debug__" : Str)) = false := by decide) : DE X (.Call (.Name x p) [] [] pos) (dCall sp dNil) := by
  obtain ⟨f, fd, Fn, hm, hk, hb⟩ := c.ex
  exact de_call0 Fn hA hr hg hm hk hb hdb
end
structure Def (K : PySem.W.Frag) (mg : Str → Option Value) (x : Str) (st : Stmt) : Prop where
  ex : ∃ f fd, Fun K x x st f fd ∧ mg x = some (.ref f)
theorem cal_mk {P : Program} {w : World} {K : PySem.W.Frag} {mg : Str → Option Value} {base : Heap} {x : Str} {st : Stmt} {N ps : List Str} {k : Nat} {sp : SpD} (d : Def K mg x st) (sc : FnScope N ps (defScope st)) (len : ∀ ds G Q, sp ds G Q → ds.length = ps.length)
    (bi : ∀ (kV doc pm : Value) (an : Option Addr) (cdv ct : Value) (us : List Value), us.length = ps.length → bindArgs (PySem.W.fnOf x x (defArgs st) (defBody st) (defScope st) .none kV doc pm an cdv ct) ⟨us, []⟩ = pure (ps.zip us))
    (hb : ∀ (f : Addr) (cdv : Value) (A : Around) (outer : List Env) (s : Shared) (H : Hp) (E : XK), A.guards = some [] → Room k (A.deeper (envOfC x (defScope st) s.heap.objs.size f cdv)) →
      ∃ t', DPs (cxOf CX0 P w K mg base N x (defScope st) f cdv A outer s H E).nox (defBody st) t' ∧ ∀ ds G Q, sp ds G Q → t' (fin Q) (dstart N ds) G) : Cal P w K mg base x (k + 1) ps sp := by
  obtain ⟨f, fd, Fu, hm⟩ := d.ex
  exact ⟨f, fd, fn_mk Fu sc len (hb f), hm, Fu.kp, Fu.binds bi⟩
end DL
end
section
set_option Elab.async false
set_option linter.all false
set_option maxRecDepth 100000
/-! DLx: what each transformer is at all its arguments; the tactic dx. -/
namespace DL
open PySem PySem.Spec PyProof.Rows L2
/-- the loop of a for over what is known -/
def ForB (ds : List D) (gd : GH → Prop) (g : DTG) (tb : DTS) (D' : DEnds) (S : DS) (G1 : GH) : Prop := ∃ W : Nat → DS → GH → Prop, W 0 S G1 ∧ (∀ i S G, W i S G → gd G) ∧
  (∀ i S G d, W i S G → ds[i]? = some d → g d S G fun S2 G2 => tb { D' with nx := W (i + 1), ct := W (i + 1), bk := D'.nx } S2 G2) ∧ (∀ S G, W ds.length S G → D'.nx S G)
def WhB (c : DTT) (tb : DTS) (D' : DEnds) (S : DS) (G : GH) : Prop := ∃ W : Nat → DS → GH → Prop, (∃ m, W m S G) ∧ ∀ m S G, W m S G →
  c S G fun b G1 => if b = true then tb { D' with nx := fun S' G' => ∃ m', m' < m ∧ W m' S' G', ct := fun S' G' => ∃ m', m' < m ∧ W m' S' G', bk := D'.nx } S G1 else D'.nx S G1
def LcB (ds : List D) (gd : GH → Prop) (p : Pat) (tt : DTT) (te : DTE) (vs : List Nat) (S : DS) (G1 : GH) (Q : DQ) : Prop := ds.length ≤ sizeLine ∧ ∃ W : Nat → List D → GH → Prop, W 0 [] G1 ∧ (∀ i acc G, W i acc G → gd G) ∧
  (∀ i acc G d, W i acc G → ds[i]? = some d → ∃ S2, p.put d (dwipe S vs) = some S2 ∧ tt S2 G fun b G2 => if b = true then te S2 G2 fun y G3 => W (i + 1) (acc ++ [y]) G3 else W (i + 1) acc G2) ∧
  ∀ acc G, W ds.length acc G → Q (.lst acc) G
theorem x_var (i : Nat) (S : DS) (G : GH) (Q : DQ) : dVar i S G Q = (match S[i]? with | some (some d) => Q d G | _ => False) := rfl
theorem x_C (d : D) (S : DS) (G : GH) (Q : DQ) : dC d S G Q = Q d G := rfl
theorem x_nil (S : DS) (G : GH) (Q : List D → GH → Prop) : dNil S G Q = Q [] G := rfl
theorem x_cons (ta : DTE) (tr : DTA) (S : DS) (G : GH) (Q : List D → GH → Prop) : dCons ta tr S G Q = (ta S G fun d G1 => tr S G1 fun ds G2 => Q (d :: ds) G2) := rfl
theorem x_tup (ta : DTA) (S : DS) (G : GH) (Q : DQ) : dTup ta S G Q = (ta S G fun ds G1 => ds.length ≤ sizeLine ∧ Q (.tup ds) G1) := rfl
theorem x_lst (ta : DTA) (S : DS) (G : GH) (Q : DQ) : dLst ta S G Q = (ta S G fun ds G1 => ds.length ≤ sizeLine ∧ Q (.lst ds) G1) := rfl
theorem x_lstM (ta : DTA) (S : DS) (G : GH) (Q : DQ) : dLstM ta S G Q = (ta S G fun ds G1 => ds.length ≤ sizeLine ∧ ∀ p, G1 p = none → Q (.rf p) (gput G1 p (.lst ds))) := rfl
theorem x_op (r : DR2) (ta tb : DTE) (S : DS) (G : GH) (Q : DQ) : dOp r ta tb S G Q = (ta S G fun x G1 => tb S G1 fun y G2 => r x y G2 Q) := rfl
theorem x_un (r : DR1) (ta : DTE) (S : DS) (G : GH) (Q : DQ) : dUn r ta S G Q = (ta S G fun x G1 => r x G1 Q) := rfl
theorem x_test (ta : DTE) (S : DS) (G : GH) (Q : Bool → GH → Prop) : dTest ta S G Q = (ta S G fun d G1 => match d with | .bl b => Q b G1 | _ => False) := rfl
theorem x_not (t : DTT) (S : DS) (G : GH) (Q : Bool → GH → Prop) : dNot t S G Q = (t S G fun b G1 => Q (!b) G1) := rfl
theorem x_and (t u : DTT) (S : DS) (G : GH) (Q : Bool → GH → Prop) : dAnd t u S G Q = (t S G fun b G1 => if b = true then u S G1 Q else Q false G1) := rfl
theorem x_or (t u : DTT) (S : DS) (G : GH) (Q : Bool → GH → Prop) : dOr t u S G Q = (t S G fun b G1 => if b = true then Q true G1 else u S G1 Q) := rfl
theorem x_if (t : DTT) (ta tb : DTE) (S : DS) (G : GH) (Q : DQ) : dIf t ta tb S G Q = (t S G fun b G1 => if b = true then ta S G1 Q else tb S G1 Q) := rfl
theorem x_andV (ta tb : DTE) (S : DS) (G : GH) (Q : DQ) : dAndV ta tb S G Q = (ta S G fun d G1 => match d with | .bl b => if b = true then tb S G1 Q else Q (.bl false) G1 | _ => False) := rfl
theorem x_orV (ta tb : DTE) (S : DS) (G : GH) (Q : DQ) : dOrV ta tb S G Q = (ta S G fun d G1 => match d with | .bl b => if b = true then Q (.bl true) G1 else tb S G1 Q | _ => False) := rfl
theorem x_notV (ta : DTE) (S : DS) (G : GH) (Q : DQ) : dNotV ta S G Q = (ta S G fun d G1 => match d with | .bl b => Q (.bl (!b)) G1 | _ => False) := rfl
theorem x_gname (i : Nat) (d : D) (S : DS) (G : GH) (Q : DS → GH → Prop) : dgName i d S G Q = Q (S.set i (some d)) G := rfl
theorem x_gtup (n : Nat) (u : DTGs) (ds : List D) (S : DS) (G : GH) (Q : DS → GH → Prop) : dgTup n u (.tup ds) S G Q = (ds.length = n ∧ u ds S G Q) := rfl
theorem x_gnil (S : DS) (G : GH) (Q : DS → GH → Prop) : dgNil [] S G Q = Q S G := rfl
theorem x_gcons (t : DTG) (u : DTGs) (d : D) (ds : List D) (S : DS) (G : GH) (Q : DS → GH → Prop) : dgCons t u (d :: ds) S G Q = (t d S G fun S1 G1 => u ds S1 G1 Q) := rfl
theorem x_next (D' : DEnds) (S : DS) (G : GH) : dNext D' S G = D'.nx S G := rfl
theorem x_seq (t u : DTS) (D' : DEnds) (S : DS) (G : GH) : dSeq t u D' S G = t { D' with nx := u D' } S G := rfl
theorem x_asg (te : DTE) (g : DTG) (D' : DEnds) (S : DS) (G : GH) : dAsg te g D' S G = (te S G fun d G1 => g d S G1 D'.nx) := rfl
theorem x_drop (te : DTE) (D' : DEnds) (S : DS) (G : GH) : dDrop te D' S G = (te S G fun _ G1 => D'.nx S G1) := rfl
theorem x_ret (te : DTE) (D' : DEnds) (S : DS) (G : GH) : dRet te D' S G = te S G D'.rt := rfl
theorem x_retN (D' : DEnds) (S : DS) (G : GH) : dRetN D' S G = D'.rt .non G := rfl
theorem x_ifS (c : DTT) (t u : DTS) (D' : DEnds) (S : DS) (G : GH) : dIfS c t u D' S G = (c S G fun b G1 => if b = true then t D' S G1 else u D' S G1) := rfl
theorem x_never (D' : DEnds) (S : DS) (G : GH) : dNever D' S G = False := rfl
theorem x_break (D' : DEnds) (S : DS) (G : GH) : dBreak D' S G = D'.bk S G := rfl
theorem x_cont (D' : DEnds) (S : DS) (G : GH) : dCont D' S G = D'.ct S G := rfl
theorem x_call (sp : SpD) (ta : DTA) (S : DS) (G : GH) (Q : DQ) : dCall sp ta S G Q = (ta S G fun ds G1 => sp ds G1 Q) := rfl
theorem x_cb (r : List D → GH → DQ → Prop) (ta : DTA) (S : DS) (G : GH) (Q : DQ) : dCB r ta S G Q = (ta S G fun ds G1 => r ds G1 Q) := rfl
theorem x_bm (T : String) (r : D → List D → GH → DQ → Prop) (to : DTE) (ta : DTA) (S : DS) (G : GH) (Q : DQ) : dBM T r to ta S G Q = (to S G fun x G1 => D.hasTy T (x.cur G1) = true ∧ ta S G1 fun ds G2 => r x ds G2 Q) := rfl
theorem x_bm0 (T : String) (r : D → List D → GH → DQ → Prop) (to : DTE) (S : DS) (G : GH) (Q : DQ) : dBM0 T r to S G Q = (to S G fun x G1 => D.hasTy T (x.cur G1) = true ∧ r x [] G1 Q) := rfl
theorem x_nopart (S : DS) (G : GH) (Q : Option Int → GH → Prop) : dNoPart S G Q = Q none G := rfl
theorem x_part (ta : DTE) (S : DS) (G : GH) (Q : Option Int → GH → Prop) : dPart ta S G Q = (ta S G fun d G1 => match d with | .int i => Q (some i) G1 | _ => False) := rfl
theorem x_slice (ta : DTE) (tl th : DTO) (S : DS) (G : GH) (Q : DQ) : dSlice ta tl th S G Q = (ta S G fun x G1 => tl S G1 fun lo G2 => th S G2 fun hi G3 => rSlice x lo hi G3 Q) := rfl
theorem x_newK (S : DS) (G : GH) (Q : DQ) : dNewK S G Q = (∀ p, G p = none → Q (.rf p) (gput G p (.dK []))) := rfl
theorem x_newT (S : DS) (G : GH) (Q : DQ) : dNewT S G Q = (∀ p, G p = none → Q (.rf p) (gput G p (.dT []))) := rfl
theorem x_yes (S : DS) (G : GH) (Q : Bool → GH → Prop) : dYes S G Q = Q true G := rfl
theorem x_pnil (S : DS) (G : GH) (Q : List (D × D) → GH → Prop) : dpNil S G Q = Q [] G := rfl
theorem x_pcons (tk tv : DTE) (tr : DTP) (S : DS) (G : GH) (Q : List (D × D) → GH → Prop) : dpCons tk tv tr S G Q = (tk S G fun k G1 => tv S G1 fun v G2 => tr S G2 fun qs G3 => Q ((k, v) :: qs) G3) := rfl
theorem x_dCold (ta : DTE) (S : DS) (G : GH) (Q : DQ) : dCold ta S G Q = (ta S G fun d G1 => match d with
  | .rf a => (match G1 a with
    | some o => (match o.cold with
      | some d => Q d (gdel G1 a)
      | none => False)
    | none => False)
  | d => Q d G1) := rfl
theorem x_dFld (C : Addr) (f : Str) (ta : DTE) (S : DS) (G : GH) (Q : DQ) : dFld C f ta S G Q = (ta S G fun d G1 => match d.cur G1 with
  | .obj C' fs => C' = C ∧ (match fs.lookup f with
    | some v => Q v G1
    | none => False)
  | _ => False) := rfl
theorem x_dSetFld (C : Addr) (f : Str) (ta tv : DTE) (D' : DEnds) (S : DS) (G : GH) : dSetFld C f ta tv D' S G = (tv S G fun y G1 => ta S G1 fun x G2 => match x with
  | .rf a => (match G2 a with
    | some (.ins C' fs) => C' = C ∧ fs.length < 1000 ∧ D'.nx S (gput G2 a (.ins C (putFD f y fs)))
    | _ => False)
  | _ => False) := rfl
theorem x_dSetSub (to ti : DTE) (v : D) (S : DS) (G : GH) (Q : DS → GH → Prop) : dSetSub to ti v S G Q = (to S G fun x G1 => ti S G1 fun i G2 => match x with
  | .rf a => (match G2 a with
    | some (.lst xs) => (match i with
      | .int j => (match ixN xs.length j with
        | some n => Q S (gput G2 a (.lst (xs.set n v)))
        | none => False)
      | _ => False)
    | some (.dK kds) => (match i.key with
      | some k => kds.length < sizeLine ∧ Q S (gput G2 a (.dK (putD kds k v)))
      | none => False)
    | some (.dT kds) => (match i with
      | .tup ds => (match D.keys ds with
        | some k => kds.length < sizeLine ∧ Q S (gput G2 a (.dT (putD kds k v)))
        | none => False)
      | _ => False)
    | _ => False)
  | _ => False) := rfl
theorem x_dMeth (C : Addr) (m : Str) (sp : SpD) (ta : DTE) (tr : DTA) (S : DS) (G : GH) (Q : DQ) : dMeth C m sp ta tr S G Q = (ta S G fun d G1 => match d.cur G1 with
  | .obj C' fs => C' = C ∧ fs.lookup m = none ∧ tr S G1 fun ds G2 => sp (d :: ds) G2 Q
  | _ => False) := rfl
theorem x_dMake (C : Addr) (sp : SpD) (tr : DTA) (S : DS) (G : GH) (Q : DQ) : dMake C sp tr S G Q = (tr S G fun ds G1 => ∀ y, G1 y = none → sp (.rf y :: ds) (gput G1 y (.ins C [])) fun d G2 => match d with
  | .non => Q (.rf y) G2
  | _ => False) := rfl
theorem x_diTup (te : DTE) (S : DS) (G : GH) (R : List D → (GH → Prop) → GH → Prop) : diTup te S G R = (te S G fun d G1 => match d with
  | .tup ds => R ds dNoGuard G1
  | _ => False) := rfl
theorem x_diList (te : DTE) (S : DS) (G : GH) (R : List D → (GH → Prop) → GH → Prop) : diList te S G R = (te S G fun d G1 => match d with
  | .lst ds => R ds dNoGuard G1
  | .rf a => (match G1 a with
    | some (.lst ds) => R ds (fun G => G a = some (.lst ds)) G1
    | _ => False)
  | _ => False) := rfl
theorem x_diStr (te : DTE) (S : DS) (G : GH) (R : List D → (GH → Prop) → GH → Prop) : diStr te S G R = (te S G fun d G1 => match d with
  | .str x => R (signs x) dNoGuard G1
  | _ => False) := rfl
theorem x_diRange1 (ta : DTA) (S : DS) (G : GH) (R : List D → (GH → Prop) → GH → Prop) : diRange1 ta S G R = (ta S G fun ds G1 => match ds with
  | [.int n] => -(2 ^ 62) ≤ n ∧ n < 2 ^ 62 ∧ R ((List.range n.toNat).map fun i => .int (i : Nat)) dNoGuard G1
  | _ => False) := rfl
theorem x_diRange2 (ta : DTA) (S : DS) (G : GH) (R : List D → (GH → Prop) → GH → Prop) : diRange2 ta S G R = (ta S G fun ds G1 => match ds with
  | [.int m, .int n] => (-(2 ^ 62) ≤ m ∧ m < 2 ^ 62 ∧ -(2 ^ 62) ≤ n ∧ n < 2 ^ 62) ∧ R ((List.range (n - m).toNat).map fun i => .int (m + (i : Nat))) dNoGuard G1
  | _ => False) := rfl
theorem x_dLcM (wi : DTI) (p : Pat) (tt : DTT) (te : DTE) (vs : List Nat) (S : DS) (G : GH) (Q : DQ) : dLcM wi p tt te vs S G Q = (dLc wi p tt te vs S G fun d G' => match d with
  | .lst acc => ∀ a, G' a = none → Q (.rf a) (gput G' a (.lst acc))
  | _ => False) := rfl
theorem x_dGet1 (td ty : DTE) (S : DS) (G : GH) (Q : DQ) : dGet1 td ty S G Q = (td S G fun x G1 => D.hasTy "dict" (x.cur G1) = true ∧ ty S G1 fun y G2 => match (x.cur G2).look y with
  | some o => Q (o.getD .non) G2
  | none => False) := rfl
theorem x_dGet2 (td ty tx : DTE) (S : DS) (G : GH) (Q : DQ) : dGet2 td ty tx S G Q = (td S G fun x G1 => D.hasTy "dict" (x.cur G1) = true ∧ ty S G1 fun y G2 => tx S G2 fun z G3 => match (x.cur G3).look y with
  | some o => Q (o.getD z) G3
  | none => False) := rfl
theorem x_diEnumT (ta : DTA) (S : DS) (G : GH) (R : List D → (GH → Prop) → GH → Prop) : diEnumT ta S G R = (ta S G fun ds G1 => match ds with
  | [.tup xs] => R (xs.mapIdx fun i x => .tup [.int (i : Nat), x]) dNoGuard G1
  | _ => False) := rfl
theorem x_diZipS (ta : DTA) (S : DS) (G : GH) (R : List D → (GH → Prop) → GH → Prop) : diZipS ta S G R = (ta S G fun ds G1 => match ds with
  | [.str x, .str y] => R (List.zipWith (fun a b => .tup [.str (sgn a), .str (sgn b)]) x.cps.toList y.cps.toList) dNoGuard G1
  | _ => False) := rfl
theorem x_diZipT (ta : DTA) (S : DS) (G : GH) (R : List D → (GH → Prop) → GH → Prop) : diZipT ta S G R = (ta S G fun ds G1 => match ds with
  | [.tup xs, .tup ys] => R (List.zipWith (fun a b => .tup [a, b]) xs ys) dNoGuard G1
  | _ => False) := rfl
theorem x_dPar (i j : Nat) (ta : DTA) (D' : DEnds) (S : DS) (G : GH) : dPar i j ta D' S G = (ta S G fun ds G1 => match ds with
  | [x, y] => D'.nx ((S.set i (some x)).set j (some y)) G1
  | _ => False) := rfl
theorem x_dPar3 (i j l : Nat) (ta : DTA) (D' : DEnds) (S : DS) (G : GH) : dPar3 i j l ta D' S G = (ta S G fun ds G1 => match ds with
  | [x, y, z] => D'.nx (((S.set i (some x)).set j (some y)).set l (some z)) G1
  | _ => False) := rfl
theorem x_dAug (i : Nat) (te : DTE) (f : Int → Int → Int) (D' : DEnds) (S : DS) (G : GH) : dAug i te f D' S G = (match S[i]? with
  | some (some (.int a)) => te S G fun d G1 => (match d with
    | .int b => D'.nx (S.set i (some (.int (f a b)))) G1
    | _ => False)
  | _ => False) := rfl
theorem x_dRevL (te : DTE) (S : DS) (G : GH) (Q : DQ) : dRevL te S G Q = (te S G fun d G1 => match d.cur G1 with
  | .lst xs => Q (.lst xs.reverse) G1
  | _ => False) := rfl
theorem x_dRevLM (te : DTE) (S : DS) (G : GH) (Q : DQ) : dRevLM te S G Q = (te S G fun d G1 => match d.cur G1 with
  | .lst xs => ∀ p, G1 p = none → Q (.rf p) (gput G1 p (.lst xs.reverse))
  | _ => False) := rfl
theorem x_dDisp (tp : DTP) (S : DS) (G : GH) (Q : DQ) : dDisp tp S G Q = (tp S G fun qs G1 => match keyed qs with
  | some kds => kds.length ≤ 15 ∧ Q (.dK (mergeD [] kds)) G1
  | none => False) := rfl
theorem x_dDispM (tp : DTP) (S : DS) (G : GH) (Q : DQ) : dDispM tp S G Q = (tp S G fun qs G1 => match keyed qs with
  | some kds => kds.length ≤ 15 ∧ ∀ p, G1 p = none → Q (.rf p) (gput G1 p (.dK (mergeD [] kds)))
  | none => False) := rfl
theorem x_dChain (r r' : DR2) (ta tb tc : DTE) (S : DS) (G : GH) (Q : DQ) : dChain r r' ta tb tc S G Q = (ta S G fun x G1 => tb S G1 fun y G2 => r x y G2 fun z G3 => match z with
  | .bl k => if k = true then tc S G3 fun w G4 => r' y w G4 Q else Q (.bl false) G3
  | _ => False) := rfl
theorem x_for (wi : DTI) (g : DTG) (tb : DTS) (D' : DEnds) (S : DS) (G : GH) : dFor wi g tb D' S G = (wi S G fun ds gd G1 => ForB ds gd g tb D' S G1) := rfl
theorem x_while (c : DTT) (tb : DTS) (D' : DEnds) (S : DS) (G : GH) : dWhile c tb D' S G = WhB c tb D' S G := rfl
theorem x_lc (wi : DTI) (p : Pat) (tt : DTT) (te : DTE) (vs : List Nat) (S : DS) (G : GH) (Q : DQ) : dLc wi p tt te vs S G Q = (wi S G fun ds gd G1 => LcB ds gd p tt te vs S G1 Q) := rfl
theorem x_curK (G : GH) (a : Addr) : D.cur G (.rf a) = (match G a with
    | some (.lst xs) => .lst xs
    | some (.dK kds) => .dK kds
    | some (.dT kds) => .dT kds
    | some (.ins C kds) => .obj C kds
    | _ => .rf a) := rfl
theorem x_cur_non (G : GH)  : D.cur G (.non ) = .non  := rfl
theorem x_cur_bl (G : GH) (b : Bool) : D.cur G (.bl b) = .bl b := rfl
theorem x_cur_int (G : GH) (i : Int) : D.cur G (.int i) = .int i := rfl
theorem x_cur_str (G : GH) (x : Str) : D.cur G (.str x) = .str x := rfl
theorem x_ty_str (T : String) (x : Str) : D.hasTy T (.str x) = (T == "str") := rfl
theorem x_cur_ty (G : GH) (n : String) : D.cur G (.ty n) = .ty n := rfl
theorem x_cur_tup (G : GH) (xs : List D) : D.cur G (.tup xs) = .tup xs := rfl
theorem x_cur_lst (G : GH) (xs : List D) : D.cur G (.lst xs) = .lst xs := rfl
theorem x_ty_lst (T : String) (xs : List D) : D.hasTy T (.lst xs) = (T == "list") := rfl
theorem x_cur_dK (G : GH) (kvs : List (Key × D)) : D.cur G (.dK kvs) = .dK kvs := rfl
theorem x_ty_dK (T : String) (kvs : List (Key × D)) : D.hasTy T (.dK kvs) = (T == "dict") := rfl
theorem x_cur_dT (G : GH) (kvs : List (List Key × D)) : D.cur G (.dT kvs) = .dT kvs := rfl
theorem x_ty_dT (T : String) (kvs : List (List Key × D)) : D.hasTy T (.dT kvs) = (T == "dict") := rfl
theorem x_cur_obj (G : GH) (C : Addr) (fs : List (Str × D)) : D.cur G (.obj C fs) = .obj C fs := rfl
theorem x_cur_scr (G : GH) (ns : List Int) : D.cur G (.scr ns) = .scr ns := rfl
theorem x_item (x y : D) (G : GH) (Q : DQ) : rItem x y G Q = (match D.item (x.cur G) y with | some d => Q d G | none => False) := rfl
theorem x_set0 {α : Type} (a b : α) (l : List α) : (a :: l).set 0 b = b :: l := rfl
theorem x_int (C : Int → Int → Prop) (f : Int → Int → Int) (i j : Int) (G : GH) (Q : DQ) : rIntD C f (.int i) (.int j) G Q = (C i j ∧ Q (.int (f i j)) G) := rfl
theorem x_neg (i : Int) (G : GH) (Q : DQ) : rNegD (.int i) G Q = Q (.int (-i)) G := rfl
theorem dxs : (((((((∀ (i : Nat) (S : DS) (G : GH) (Q : DQ), dVar i S G Q = (match S[i]? with | some (some d) => Q d G | _ => False)) ∧
 (∀ (d : D) (S : DS) (G : GH) (Q : DQ), dC d S G Q = Q d G)) ∧
 ((∀ (S : DS) (G : GH) (Q : List D → GH → Prop), dNil S G Q = Q [] G) ∧
 ((∀ (ta : DTE) (tr : DTA) (S : DS) (G : GH) (Q : List D → GH → Prop), dCons ta tr S G Q = (ta S G fun d G1 => tr S G1 fun ds G2 => Q (d :: ds) G2)) ∧
 (∀ (ta : DTA) (S : DS) (G : GH) (Q : DQ), dTup ta S G Q = (ta S G fun ds G1 => ds.length ≤ sizeLine ∧ Q (.tup ds) G1))))) ∧
 (((∀ (ta : DTA) (S : DS) (G : GH) (Q : DQ), dLst ta S G Q = (ta S G fun ds G1 => ds.length ≤ sizeLine ∧ Q (.lst ds) G1)) ∧
 ((∀ (ta : DTA) (S : DS) (G : GH) (Q : DQ), dLstM ta S G Q = (ta S G fun ds G1 => ds.length ≤ sizeLine ∧ ∀ p, G1 p = none → Q (.rf p) (gput G1 p (.lst ds)))) ∧
 (∀ (r : DR2) (ta tb : DTE) (S : DS) (G : GH) (Q : DQ), dOp r ta tb S G Q = (ta S G fun x G1 => tb S G1 fun y G2 => r x y G2 Q)))) ∧
 ((∀ (r : DR1) (ta : DTE) (S : DS) (G : GH) (Q : DQ), dUn r ta S G Q = (ta S G fun x G1 => r x G1 Q)) ∧
 ((∀ (ta : DTE) (S : DS) (G : GH) (Q : Bool → GH → Prop), dTest ta S G Q = (ta S G fun d G1 => match d with | .bl b => Q b G1 | _ => False)) ∧
 (∀ (t : DTT) (S : DS) (G : GH) (Q : Bool → GH → Prop), dNot t S G Q = (t S G fun b G1 => Q (!b) G1)))))) ∧
 ((((∀ (t u : DTT) (S : DS) (G : GH) (Q : Bool → GH → Prop), dAnd t u S G Q = (t S G fun b G1 => if b = true then u S G1 Q else Q false G1)) ∧
 (∀ (t u : DTT) (S : DS) (G : GH) (Q : Bool → GH → Prop), dOr t u S G Q = (t S G fun b G1 => if b = true then Q true G1 else u S G1 Q))) ∧
 ((∀ (t : DTT) (ta tb : DTE) (S : DS) (G : GH) (Q : DQ), dIf t ta tb S G Q = (t S G fun b G1 => if b = true then ta S G1 Q else tb S G1 Q)) ∧
 ((∀ (ta tb : DTE) (S : DS) (G : GH) (Q : DQ), dAndV ta tb S G Q = (ta S G fun d G1 => match d with | .bl b => if b = true then tb S G1 Q else Q (.bl false) G1 | _ => False)) ∧
 (∀ (ta tb : DTE) (S : DS) (G : GH) (Q : DQ), dOrV ta tb S G Q = (ta S G fun d G1 => match d with | .bl b => if b = true then Q (.bl true) G1 else tb S G1 Q | _ => False))))) ∧
 (((∀ (ta : DTE) (S : DS) (G : GH) (Q : DQ), dNotV ta S G Q = (ta S G fun d G1 => match d with | .bl b => Q (.bl (!b)) G1 | _ => False)) ∧
 ((∀ (i : Nat) (d : D) (S : DS) (G : GH) (Q : DS → GH → Prop), dgName i d S G Q = Q (S.set i (some d)) G) ∧
 (∀ (n : Nat) (u : DTGs) (ds : List D) (S : DS) (G : GH) (Q : DS → GH → Prop), dgTup n u (.tup ds) S G Q = (ds.length = n ∧ u ds S G Q)))) ∧
 ((∀ (S : DS) (G : GH) (Q : DS → GH → Prop), dgNil [] S G Q = Q S G) ∧
 ((∀ (t : DTG) (u : DTGs) (d : D) (ds : List D) (S : DS) (G : GH) (Q : DS → GH → Prop), dgCons t u (d :: ds) S G Q = (t d S G fun S1 G1 => u ds S1 G1 Q)) ∧
 (∀ (D' : DEnds) (S : DS) (G : GH), dNext D' S G = D'.nx S G)))))) ∧
 (((((∀ (t u : DTS) (D' : DEnds) (S : DS) (G : GH), dSeq t u D' S G = t { D' with nx := u D' } S G) ∧
 (∀ (te : DTE) (g : DTG) (D' : DEnds) (S : DS) (G : GH), dAsg te g D' S G = (te S G fun d G1 => g d S G1 D'.nx))) ∧
 ((∀ (te : DTE) (D' : DEnds) (S : DS) (G : GH), dDrop te D' S G = (te S G fun _ G1 => D'.nx S G1)) ∧
 ((∀ (te : DTE) (D' : DEnds) (S : DS) (G : GH), dRet te D' S G = te S G D'.rt) ∧
 (∀ (D' : DEnds) (S : DS) (G : GH), dRetN D' S G = D'.rt .non G)))) ∧
 (((∀ (c : DTT) (t u : DTS) (D' : DEnds) (S : DS) (G : GH), dIfS c t u D' S G = (c S G fun b G1 => if b = true then t D' S G1 else u D' S G1)) ∧
 ((∀ (D' : DEnds) (S : DS) (G : GH), dNever D' S G = False) ∧
 (∀ (D' : DEnds) (S : DS) (G : GH), dBreak D' S G = D'.bk S G))) ∧
 ((∀ (D' : DEnds) (S : DS) (G : GH), dCont D' S G = D'.ct S G) ∧
 ((∀ (sp : SpD) (ta : DTA) (S : DS) (G : GH) (Q : DQ), dCall sp ta S G Q = (ta S G fun ds G1 => sp ds G1 Q)) ∧
 (∀ (r : List D → GH → DQ → Prop) (ta : DTA) (S : DS) (G : GH) (Q : DQ), dCB r ta S G Q = (ta S G fun ds G1 => r ds G1 Q)))))) ∧
 ((((∀ (T : String) (r : D → List D → GH → DQ → Prop) (to : DTE) (ta : DTA) (S : DS) (G : GH) (Q : DQ), dBM T r to ta S G Q = (to S G fun x G1 => D.hasTy T (x.cur G1) = true ∧ ta S G1 fun ds G2 => r x ds G2 Q)) ∧
 ((∀ (T : String) (r : D → List D → GH → DQ → Prop) (to : DTE) (S : DS) (G : GH) (Q : DQ), dBM0 T r to S G Q = (to S G fun x G1 => D.hasTy T (x.cur G1) = true ∧ r x [] G1 Q)) ∧
 (∀ (S : DS) (G : GH) (Q : Option Int → GH → Prop), dNoPart S G Q = Q none G))) ∧
 ((∀ (ta : DTE) (S : DS) (G : GH) (Q : Option Int → GH → Prop), dPart ta S G Q = (ta S G fun d G1 => match d with | .int i => Q (some i) G1 | _ => False)) ∧
 ((∀ (ta : DTE) (tl th : DTO) (S : DS) (G : GH) (Q : DQ), dSlice ta tl th S G Q = (ta S G fun x G1 => tl S G1 fun lo G2 => th S G2 fun hi G3 => rSlice x lo hi G3 Q)) ∧
 (∀ (S : DS) (G : GH) (Q : DQ), dNewK S G Q = (∀ p, G p = none → Q (.rf p) (gput G p (.dK []))))))) ∧
 (((∀ (S : DS) (G : GH) (Q : DQ), dNewT S G Q = (∀ p, G p = none → Q (.rf p) (gput G p (.dT [])))) ∧
 ((∀ (S : DS) (G : GH) (Q : Bool → GH → Prop), dYes S G Q = Q true G) ∧
 (∀ (S : DS) (G : GH) (Q : List (D × D) → GH → Prop), dpNil S G Q = Q [] G))) ∧
 ((∀ (tk tv : DTE) (tr : DTP) (S : DS) (G : GH) (Q : List (D × D) → GH → Prop), dpCons tk tv tr S G Q = (tk S G fun k G1 => tv S G1 fun v G2 => tr S G2 fun qs G3 => Q ((k, v) :: qs) G3)) ∧
 ((∀ (ta : DTE) (S : DS) (G : GH) (Q : DQ), dCold ta S G Q = (ta S G fun d G1 => match d with
  | .rf a => (match G1 a with
    | some o => (match o.cold with
      | some d => Q d (gdel G1 a)
      | none => False)
    | none => False)
  | d => Q d G1)) ∧
 (∀ (C : Addr) (f : Str) (ta : DTE) (S : DS) (G : GH) (Q : DQ), dFld C f ta S G Q = (ta S G fun d G1 => match d.cur G1 with
  | .obj C' fs => C' = C ∧ (match fs.lookup f with
    | some v => Q v G1
    | none => False)
  | _ => False)))))))) ∧
 ((((((∀ (C : Addr) (f : Str) (ta tv : DTE) (D' : DEnds) (S : DS) (G : GH), dSetFld C f ta tv D' S G = (tv S G fun y G1 => ta S G1 fun x G2 => match x with
  | .rf a => (match G2 a with
    | some (.ins C' fs) => C' = C ∧ fs.length < 1000 ∧ D'.nx S (gput G2 a (.ins C (putFD f y fs)))
    | _ => False)
  | _ => False)) ∧
 (∀ (to ti : DTE) (v : D) (S : DS) (G : GH) (Q : DS → GH → Prop), dSetSub to ti v S G Q = (to S G fun x G1 => ti S G1 fun i G2 => match x with
  | .rf a => (match G2 a with
    | some (.lst xs) => (match i with
      | .int j => (match ixN xs.length j with
        | some n => Q S (gput G2 a (.lst (xs.set n v)))
        | none => False)
      | _ => False)
    | some (.dK kds) => (match i.key with
      | some k => kds.length < sizeLine ∧ Q S (gput G2 a (.dK (putD kds k v)))
      | none => False)
    | some (.dT kds) => (match i with
      | .tup ds => (match D.keys ds with
        | some k => kds.length < sizeLine ∧ Q S (gput G2 a (.dT (putD kds k v)))
        | none => False)
      | _ => False)
    | _ => False)
  | _ => False))) ∧
 ((∀ (C : Addr) (m : Str) (sp : SpD) (ta : DTE) (tr : DTA) (S : DS) (G : GH) (Q : DQ), dMeth C m sp ta tr S G Q = (ta S G fun d G1 => match d.cur G1 with
  | .obj C' fs => C' = C ∧ fs.lookup m = none ∧ tr S G1 fun ds G2 => sp (d :: ds) G2 Q
  | _ => False)) ∧
 ((∀ (C : Addr) (sp : SpD) (tr : DTA) (S : DS) (G : GH) (Q : DQ), dMake C sp tr S G Q = (tr S G fun ds G1 => ∀ y, G1 y = none → sp (.rf y :: ds) (gput G1 y (.ins C [])) fun d G2 => match d with
  | .non => Q (.rf y) G2
  | _ => False)) ∧
 (∀ (te : DTE) (S : DS) (G : GH) (R : List D → (GH → Prop) → GH → Prop), diTup te S G R = (te S G fun d G1 => match d with
  | .tup ds => R ds dNoGuard G1
  | _ => False))))) ∧
 (((∀ (te : DTE) (S : DS) (G : GH) (R : List D → (GH → Prop) → GH → Prop), diList te S G R = (te S G fun d G1 => match d with
  | .lst ds => R ds dNoGuard G1
  | .rf a => (match G1 a with
    | some (.lst ds) => R ds (fun G => G a = some (.lst ds)) G1
    | _ => False)
  | _ => False)) ∧
 ((∀ (te : DTE) (S : DS) (G : GH) (R : List D → (GH → Prop) → GH → Prop), diStr te S G R = (te S G fun d G1 => match d with
  | .str x => R (signs x) dNoGuard G1
  | _ => False)) ∧
 (∀ (ta : DTA) (S : DS) (G : GH) (R : List D → (GH → Prop) → GH → Prop), diRange1 ta S G R = (ta S G fun ds G1 => match ds with
  | [.int n] => -(2 ^ 62) ≤ n ∧ n < 2 ^ 62 ∧ R ((List.range n.toNat).map fun i => .int (i : Nat)) dNoGuard G1
  | _ => False)))) ∧
 ((∀ (ta : DTA) (S : DS) (G : GH) (R : List D → (GH → Prop) → GH → Prop), diRange2 ta S G R = (ta S G fun ds G1 => match ds with
  | [.int m, .int n] => (-(2 ^ 62) ≤ m ∧ m < 2 ^ 62 ∧ -(2 ^ 62) ≤ n ∧ n < 2 ^ 62) ∧ R ((List.range (n - m).toNat).map fun i => .int (m + (i : Nat))) dNoGuard G1
  | _ => False)) ∧
 ((∀ (wi : DTI) (p : Pat) (tt : DTT) (te : DTE) (vs : List Nat) (S : DS) (G : GH) (Q : DQ), dLcM wi p tt te vs S G Q = (dLc wi p tt te vs S G fun d G' => match d with
  | .lst acc => ∀ a, G' a = none → Q (.rf a) (gput G' a (.lst acc))
  | _ => False)) ∧
 (∀ (td ty : DTE) (S : DS) (G : GH) (Q : DQ), dGet1 td ty S G Q = (td S G fun x G1 => D.hasTy "dict" (x.cur G1) = true ∧ ty S G1 fun y G2 => match (x.cur G2).look y with
  | some o => Q (o.getD .non) G2
  | none => False)))))) ∧
 ((((∀ (td ty tx : DTE) (S : DS) (G : GH) (Q : DQ), dGet2 td ty tx S G Q = (td S G fun x G1 => D.hasTy "dict" (x.cur G1) = true ∧ ty S G1 fun y G2 => tx S G2 fun z G3 => match (x.cur G3).look y with
  | some o => Q (o.getD z) G3
  | none => False)) ∧
 (∀ (ta : DTA) (S : DS) (G : GH) (R : List D → (GH → Prop) → GH → Prop), diEnumT ta S G R = (ta S G fun ds G1 => match ds with
  | [.tup xs] => R (xs.mapIdx fun i x => .tup [.int (i : Nat), x]) dNoGuard G1
  | _ => False))) ∧
 ((∀ (ta : DTA) (S : DS) (G : GH) (R : List D → (GH → Prop) → GH → Prop), diZipS ta S G R = (ta S G fun ds G1 => match ds with
  | [.str x, .str y] => R (List.zipWith (fun a b => .tup [.str (sgn a), .str (sgn b)]) x.cps.toList y.cps.toList) dNoGuard G1
  | _ => False)) ∧
 ((∀ (ta : DTA) (S : DS) (G : GH) (R : List D → (GH → Prop) → GH → Prop), diZipT ta S G R = (ta S G fun ds G1 => match ds with
  | [.tup xs, .tup ys] => R (List.zipWith (fun a b => .tup [a, b]) xs ys) dNoGuard G1
  | _ => False)) ∧
 (∀ (i j : Nat) (ta : DTA) (D' : DEnds) (S : DS) (G : GH), dPar i j ta D' S G = (ta S G fun ds G1 => match ds with
  | [x, y] => D'.nx ((S.set i (some x)).set j (some y)) G1
  | _ => False))))) ∧
 (((∀ (i j l : Nat) (ta : DTA) (D' : DEnds) (S : DS) (G : GH), dPar3 i j l ta D' S G = (ta S G fun ds G1 => match ds with
  | [x, y, z] => D'.nx (((S.set i (some x)).set j (some y)).set l (some z)) G1
  | _ => False)) ∧
 ((∀ (i : Nat) (te : DTE) (f : Int → Int → Int) (D' : DEnds) (S : DS) (G : GH), dAug i te f D' S G = (match S[i]? with
  | some (some (.int a)) => te S G fun d G1 => (match d with
    | .int b => D'.nx (S.set i (some (.int (f a b)))) G1
    | _ => False)
  | _ => False)) ∧
 (∀ (te : DTE) (S : DS) (G : GH) (Q : DQ), dRevL te S G Q = (te S G fun d G1 => match d.cur G1 with
  | .lst xs => Q (.lst xs.reverse) G1
  | _ => False)))) ∧
 ((∀ (te : DTE) (S : DS) (G : GH) (Q : DQ), dRevLM te S G Q = (te S G fun d G1 => match d.cur G1 with
  | .lst xs => ∀ p, G1 p = none → Q (.rf p) (gput G1 p (.lst xs.reverse))
  | _ => False)) ∧
 ((∀ (tp : DTP) (S : DS) (G : GH) (Q : DQ), dDisp tp S G Q = (tp S G fun qs G1 => match keyed qs with
  | some kds => kds.length ≤ 15 ∧ Q (.dK (mergeD [] kds)) G1
  | none => False)) ∧
 (∀ (tp : DTP) (S : DS) (G : GH) (Q : DQ), dDispM tp S G Q = (tp S G fun qs G1 => match keyed qs with
  | some kds => kds.length ≤ 15 ∧ ∀ p, G1 p = none → Q (.rf p) (gput G1 p (.dK (mergeD [] kds)))
  | none => False))))))) ∧
 (((((∀ (r r' : DR2) (ta tb tc : DTE) (S : DS) (G : GH) (Q : DQ), dChain r r' ta tb tc S G Q = (ta S G fun x G1 => tb S G1 fun y G2 => r x y G2 fun z G3 => match z with
  | .bl k => if k = true then tc S G3 fun w G4 => r' y w G4 Q else Q (.bl false) G3
  | _ => False)) ∧
 (∀ (wi : DTI) (g : DTG) (tb : DTS) (D' : DEnds) (S : DS) (G : GH), dFor wi g tb D' S G = (wi S G fun ds gd G1 => ForB ds gd g tb D' S G1))) ∧
 ((∀ (c : DTT) (tb : DTS) (D' : DEnds) (S : DS) (G : GH), dWhile c tb D' S G = WhB c tb D' S G) ∧
 ((∀ (wi : DTI) (p : Pat) (tt : DTT) (te : DTE) (vs : List Nat) (S : DS) (G : GH) (Q : DQ), dLc wi p tt te vs S G Q = (wi S G fun ds gd G1 => LcB ds gd p tt te vs S G1 Q)) ∧
 (∀ (G : GH) (a : Addr), D.cur G (.rf a) = (match G a with
    | some (.lst xs) => .lst xs
    | some (.dK kds) => .dK kds
    | some (.dT kds) => .dT kds
    | some (.ins C kds) => .obj C kds
    | _ => .rf a))))) ∧
 (((∀ (G : GH), D.cur G (.non ) = .non) ∧
 ((∀ (G : GH) (b : Bool), D.cur G (.bl b) = .bl b) ∧
 (∀ (G : GH) (i : Int), D.cur G (.int i) = .int i))) ∧
 ((∀ (G : GH) (x : Str), D.cur G (.str x) = .str x) ∧
 ((∀ (G : GH) (n : String), D.cur G (.ty n) = .ty n) ∧
 (∀ (G : GH) (xs : List D), D.cur G (.tup xs) = .tup xs))))) ∧
 ((((∀ (G : GH) (xs : List D), D.cur G (.lst xs) = .lst xs) ∧
 ((∀ (G : GH) (kvs : List (Key × D)), D.cur G (.dK kvs) = .dK kvs) ∧
 (∀ (G : GH) (kvs : List (List Key × D)), D.cur G (.dT kvs) = .dT kvs))) ∧
 ((∀ (G : GH) (C : Addr) (fs : List (Str × D)), D.cur G (.obj C fs) = .obj C fs) ∧
 ((∀ (G : GH) (ns : List Int), D.cur G (.scr ns) = .scr ns) ∧
 (∀ (T : String) (xs : List D), D.hasTy T (.lst xs) = (T == "list"))))) ∧
 (((∀ (T : String) (x : Str), D.hasTy T (.str x) = (T == "str")) ∧
 ((∀ (T : String) (kvs : List (Key × D)), D.hasTy T (.dK kvs) = (T == "dict")) ∧
 (∀ (T : String) (kvs : List (List Key × D)), D.hasTy T (.dT kvs) = (T == "dict")))) ∧
 ((∀ (x y : D) (G : GH) (Q : DQ), rItem x y G Q = (match D.item (x.cur G) y with | some d => Q d G | none => False)) ∧
 ((∀ (C : Int → Int → Prop) (f : Int → Int → Int) (i j : Int) (G : GH) (Q : DQ), rIntD C f (.int i) (.int j) G Q = (C i j ∧ Q (.int (f i j)) G)) ∧
 (∀ (i : Int) (G : GH) (Q : DQ), rNegD (.int i) G Q = Q (.int (-i)) G)))))))) :=
 ⟨⟨⟨⟨⟨⟨@x_var, @x_C⟩, ⟨@x_nil, ⟨@x_cons, @x_tup⟩⟩⟩, ⟨⟨@x_lst, ⟨@x_lstM, @x_op⟩⟩, ⟨@x_un, ⟨@x_test, @x_not⟩⟩⟩⟩, ⟨⟨⟨@x_and, @x_or⟩, ⟨@x_if, ⟨@x_andV, @x_orV⟩⟩⟩, ⟨⟨@x_notV, ⟨@x_gname, @x_gtup⟩⟩, ⟨@x_gnil, ⟨@x_gcons, @x_next⟩⟩⟩⟩⟩, ⟨⟨⟨⟨@x_seq, @x_asg⟩, ⟨@x_drop, ⟨@x_ret, @x_retN⟩⟩⟩, ⟨⟨@x_ifS, ⟨@x_never, @x_break⟩⟩, ⟨@x_cont, ⟨@x_call, @x_cb⟩⟩⟩⟩, ⟨⟨⟨@x_bm, ⟨@x_bm0, @x_nopart⟩⟩, ⟨@x_part, ⟨@x_slice, @x_newK⟩⟩⟩, ⟨⟨@x_newT, ⟨@x_yes, @x_pnil⟩⟩, ⟨@x_pcons, ⟨@x_dCold, @x_dFld⟩⟩⟩⟩⟩⟩, ⟨⟨⟨⟨⟨@x_dSetFld, @x_dSetSub⟩, ⟨@x_dMeth, ⟨@x_dMake, @x_diTup⟩⟩⟩, ⟨⟨@x_diList, ⟨@x_diStr, @x_diRange1⟩⟩, ⟨@x_diRange2, ⟨@x_dLcM, @x_dGet1⟩⟩⟩⟩, ⟨⟨⟨@x_dGet2, @x_diEnumT⟩, ⟨@x_diZipS, ⟨@x_diZipT, @x_dPar⟩⟩⟩, ⟨⟨@x_dPar3, ⟨@x_dAug, @x_dRevL⟩⟩, ⟨@x_dRevLM, ⟨@x_dDisp, @x_dDispM⟩⟩⟩⟩⟩, ⟨⟨⟨⟨@x_dChain, @x_for⟩, ⟨@x_while, ⟨@x_lc, @x_curK⟩⟩⟩, ⟨⟨@x_cur_non, ⟨@x_cur_bl, @x_cur_int⟩⟩, ⟨@x_cur_str, ⟨@x_cur_ty, @x_cur_tup⟩⟩⟩⟩, ⟨⟨⟨@x_cur_lst, ⟨@x_cur_dK, @x_cur_dT⟩⟩, ⟨@x_cur_obj, ⟨@x_cur_scr, @x_ty_lst⟩⟩⟩, ⟨⟨@x_ty_str, ⟨@x_ty_dK, @x_ty_dT⟩⟩, ⟨@x_item, ⟨@x_int, @x_neg⟩⟩⟩⟩⟩⟩⟩
theorem gs {α : Type} (a : α) (l : List α) : (a :: l)[0]? = some a := rfl
theorem dl : (∀ (G : GH) (a : Addr) (o : MO), gput G a o a = some o) ∧ (∀ (α : Type) (a : α) (l : List α), (a :: l)[0]? = some a) ∧ (∀ (α : Type) (a : α) (l : List α) (i : Nat), (a :: l)[i + 1]? = l[i]?) ∧
  (∀ (α : Type) (a b : α) (l : List α), (a :: l).set 0 b = b :: l) ∧ (∀ (α : Type) (a b : α) (l : List α) (i : Nat), (a :: l).set (i + 1) b = a :: l.set i b) ∧ (∀ (α : Type) (a : α) (l : List α), (a :: l).length = l.length + 1) ∧ (∀ (α : Type), ([] : List α).length = 0) :=
  ⟨fun _ _ _ => gput_same, fun _ _ _ => rfl, fun _ _ _ _ => rfl, fun _ _ _ _ => rfl, fun _ _ _ _ _ => rfl, fun _ _ _ => rfl, fun _ => rfl⟩
end DL
end
section
set_option Elab.async false
set_option linter.all false
set_option maxRecDepth 100000
/-! DLy: equality and order of data in plain words. -/
namespace DL
open PySem PySem.Spec PyProof.Rows L2
theorem okE_str (a b : Str) : okE (.str a) (.str b) = true := rfl
theorem eqv_str (a b : Str) : D.eqv (.str a) (.str b) = (a == b) := by simp [D.eqv, D.py, PyData.eqv]
theorem okE_int (a b : Int) : okE (.int a) (.int b) = true := rfl
theorem eqv_int (a b : Int) : D.eqv (.int a) (.int b) = (a == b) := by simp [D.eqv, D.py, PyData.eqv]
theorem okL_int (a b : Int) : okL (.int a) (.int b) = true := rfl
theorem okL_str (a b : Str) : okL (.str a) (.str b) = true := rfl
theorem lt_int (a b : Int) : D.lt (.int a) (.int b) = decide (a < b) := PySem.W.dataLt_int a b
theorem lt_str (a b : Str) : D.lt (.str a) (.str b) = decide (a.cps.toList < b.cps.toList) := PySem.W.dataLt_str a b
mutual
def D.si : D → Bool
  | .non | .int _ | .str _ => true
  | .tup xs | .lst xs => D.sis xs
  | _ => false
def D.sis : List D → Bool
  | [] => true
  | x :: xs => D.si x && D.sis xs
end
mutual
theorem D.si_pl : ∀ d : D, d.si = true → d.pl = true
  | .non, _ => rfl
  | .int _, _ => rfl
  | .str _, _ => rfl
  | .tup xs, h => D.sis_pls xs h
  | .lst xs, h => D.sis_pls xs h
  | .bl _, h => by cases h
  | .ty _, h => by cases h
  | .dK _, h => by cases h
  | .dT _, h => by cases h
  | .obj _ _, h => by cases h
  | .rf _, h => by cases h
  | .scr _, h => by cases h
theorem D.sis_pls : ∀ xs : List D, D.sis xs = true → D.pls xs = true
  | [], _ => rfl
  | x :: xs, h => by
    simp only [D.sis, Bool.and_eq_true] at h
    simp only [D.pls, Bool.and_eq_true]
    exact ⟨D.si_pl x h.1, D.sis_pls xs h.2⟩
end
mutual
theorem D.si_eqv : ∀ x y : D, x.si = true → y.si = true → (D.eqv x y = true ↔ x = y)
  | .non, y, _, h => by cases y <;> first | (cases h; done) | simp [D.eqv, D.py, PyData.eqv]
  | .int _, y, _, h => by cases y <;> first | (cases h; done) | simp [D.eqv, D.py, PyData.eqv]
  | .str _, y, _, h => by cases y <;> first | (cases h; done) | simp [D.eqv, D.py, PyData.eqv]
  | .tup xs, .tup ys, hx, hy => by
    have := D.sis_eqv xs ys hx hy
    simp only [D.eqv, D.py, PyData.eqv, D.tup.injEq]
    exact this
  | .lst xs, .lst ys, hx, hy => by
    have := D.sis_eqv xs ys hx hy
    simp only [D.eqv, D.py, PyData.eqv, D.lst.injEq]
    exact this
  | .tup xs, .non, _, _ => by simp [D.eqv, D.py, PyData.eqv]
  | .tup xs, .int _, _, _ => by simp [D.eqv, D.py, PyData.eqv]
  | .tup xs, .str _, _, _ => by simp [D.eqv, D.py, PyData.eqv]
  | .tup xs, .lst _, _, _ => by simp [D.eqv, D.py, PyData.eqv]
  | .lst xs, .non, _, _ => by simp [D.eqv, D.py, PyData.eqv]
  | .lst xs, .int _, _, _ => by simp [D.eqv, D.py, PyData.eqv]
  | .lst xs, .str _, _, _ => by simp [D.eqv, D.py, PyData.eqv]
  | .lst xs, .tup _, _, _ => by simp [D.eqv, D.py, PyData.eqv]
  | .tup _, .bl _, _, h => by cases h
  | .tup _, .ty _, _, h => by cases h
  | .tup _, .dK _, _, h => by cases h
  | .tup _, .dT _, _, h => by cases h
  | .tup _, .obj _ _, _, h => by cases h
  | .tup _, .rf _, _, h => by cases h
  | .tup _, .scr _, _, h => by cases h
  | .lst _, .bl _, _, h => by cases h
  | .lst _, .ty _, _, h => by cases h
  | .lst _, .dK _, _, h => by cases h
  | .lst _, .dT _, _, h => by cases h
  | .lst _, .obj _ _, _, h => by cases h
  | .lst _, .rf _, _, h => by cases h
  | .lst _, .scr _, _, h => by cases h
  | .bl _, _, h, _ => by cases h
  | .ty _, _, h, _ => by cases h
  | .dK _, _, h, _ => by cases h
  | .dT _, _, h, _ => by cases h
  | .obj _ _, _, h, _ => by cases h
  | .rf _, _, h, _ => by cases h
  | .scr _, _, h, _ => by cases h
theorem D.sis_eqv : ∀ xs ys : List D, D.sis xs = true → D.sis ys = true → (PyData.eqvAll (D.pys xs) (D.pys ys) = true ↔ xs = ys)
  | [], [], _, _ => by simp [D.pys, PyData.eqvAll]
  | [], _ :: _, _, _ => by simp [D.pys, PyData.eqvAll]
  | _ :: _, [], _, _ => by simp [D.pys, PyData.eqvAll]
  | x :: xs, y :: ys, hx, hy => by
    simp only [D.sis, Bool.and_eq_true] at hx hy
    have h1 := D.si_eqv x y hx.1 hy.1
    have h2 := D.sis_eqv xs ys hx.2 hy.2
    simp only [D.eqv] at h1
    simp only [D.pys, PyData.eqvAll, Bool.and_eq_true, h1, h2, List.cons.injEq]
end
mutual
def D.dp : D → Nat
  | .tup xs | .lst xs => D.dps xs + 1
  | _ => 0
def D.dps : List D → Nat
  | [] => 0
  | x :: xs => max (D.dp x) (D.dps xs)
end
mutual
theorem D.dp_ok : ∀ d : D, d.py.depth ≤ d.dp
  | .non => by simp [D.py, PyData.depth]
  | .bl _ => by simp [D.py, PyData.depth]
  | .int _ => by simp [D.py, PyData.depth]
  | .str _ => by simp [D.py, PyData.depth]
  | .tup xs => by have := D.dps_ok xs; simp only [D.py, PyData.depth, D.dp]; omega
  | .lst xs => by have := D.dps_ok xs; simp only [D.py, PyData.depth, D.dp]; omega
  | .ty _ => by simp [D.py, PyData.depth]
  | .dK _ => by simp [D.py, PyData.depth]
  | .dT _ => by simp [D.py, PyData.depth]
  | .obj _ _ => by simp [D.py, PyData.depth]
  | .rf _ => by simp [D.py, PyData.depth]
  | .scr _ => by simp [D.py, PyData.depth]
theorem D.dps_ok : ∀ xs : List D, PyData.depthAll (D.pys xs) ≤ D.dps xs
  | [] => by simp [D.pys, PyData.depthAll]
  | x :: xs => by have := D.dp_ok x; have := D.dps_ok xs; simp only [D.pys, PyData.depthAll, D.dps]; omega
end
theorem dps_le {xs : List D} {n : Nat} (h : ∀ x ∈ xs, x.dp ≤ n) : D.dps xs ≤ n := by
  induction xs with
  | nil => simp [D.dps]
  | cons x xs ih =>
    have h1 := h x (by simp)
    have h2 := ih fun y hy => h y (by simp [hy])
    simp only [D.dps]; omega
theorem sis_all {xs : List D} : D.sis xs = true ↔ ∀ x ∈ xs, x.si = true := by
  induction xs with
  | nil => simp [D.sis]
  | cons x xs ih => simp [D.sis, ih]
theorem okE_si {x y : D} (hx : x.si = true) (hy : y.si = true) (hd : x.dp ≤ 60) : okE x y = true := by
  have := D.dp_ok x
  simp only [okE, Bool.and_eq_true, decide_eq_true_eq]
  exact ⟨⟨D.si_pl x hx, D.si_pl y hy⟩, by omega⟩
theorem eqv_si {x y : D} (hx : x.si = true) (hy : y.si = true) : D.eqv x y = true ↔ x = y := D.si_eqv x y hx hy
theorem isIn_si {x : D} {ys : List D} (hx : x.si = true) (hy : D.sis ys = true) : D.isIn x ys = true ↔ x ∈ ys := by
  induction ys with
  | nil => simp [D.isIn, D.pys]
  | cons y ys ih =>
    simp only [D.sis, Bool.and_eq_true] at hy
    have h1 := D.si_eqv y x hy.1 hx
    have h2 := ih hy.2
    simp only [D.eqv] at h1
    simp only [D.isIn, D.pys, List.any_cons, Bool.or_eq_true, h1, List.mem_cons] at h2 ⊢
    rw [h2]
    exact ⟨fun h => h.imp Eq.symm id, fun h => h.imp Eq.symm id⟩
theorem okI_si {x : D} {ys : List D} (hx : x.si = true) (hy : D.sis ys = true) (hd : x.dp ≤ 60) : okI x ys = true := by
  have := D.dp_ok x
  simp only [okI, Bool.and_eq_true, decide_eq_true_eq]
  exact ⟨⟨D.si_pl x hx, D.sis_pls ys hy⟩, by omega⟩
end DL
end
section
set_option Elab.async false
set_option linter.all false
set_option maxRecDepth 100000
set_option maxHeartbeats 4000000
/-! DLs: sorted(set(l)) of a list of ints. -/
namespace DL
open PySem PySem.Spec PyProof.Rows L2
abbrev eSet (w : World) : Obj := { cls := .type "set", dict := none, data := .set #[] 0 (.fresh 0 0 (!w.params.followText "set-order")) }
section
variable {P : Program} {w : World} {A : Around} {E : Value → Shared → Prop} {s : Shared}
theorem call_set_lstI {l : Addr} {its : Array Value} (ns : List Int) {Q : Value → Shared → Prop} (zh : A.handled = none) (zl : s.heap.IsList l its) (zit : IntsAre its.toList ns) (zb : ns.length + 1 < scanBound)
    (h : ∀ (h' : Heap) (tk1 c : Nat), SetR w h' s.heap.objs.size (fun j => decide (j ∈ ns)) c → c ≤ ns.length → (∀ b o, s.heap.get? b = some o → h'.get? b = some o) → Q (.ref s.heap.objs.size) { s with heap := h', toks := tk1 }) : wpAny (model P w) A (call (.type "set") [.ref l]) Q E s := by
  have zsz : its.size = ns.length := by
    have q := IntsAre.length zit
    rw [Array.length_toList] at q
    exact q
  obtain ⟨c, tl, zmro⟩ := F.called_set.mro
  have zmade := F.called_set.made
  have zsub := F.called_set.sub
  (refine wpAny_call (codeAny_of_tree ?_))
  (show wpAny _ _ (callAny (.type "set") _) _ _ _)
  (refine wpAny_pure ⟨Code.quiet_builtin _ (by decide +kernel), codeAny_builtin F.entry_type_call ?_⟩)
  (rw [Around.under_plain (weight_type_call_type "set" [.ref l] []) rfl])
  have z1 := F.called_set.notType
  have z2 := F.called_set.canCreate
  have zct := F.typeCall_set_1 (.ref l)
  (repeat (any_goals (first | assumption | wp_step)))
  refine codeAny_mono (code_set_led1 (.ref l) (E := E) (Q₁ := fun ob s1 => ob = .ref s.heap.objs.size ∧ s1 = { s with heap := s.heap.push (eSet w) }) ⟨rfl, rfl⟩) fun r s1 zr => ?_
  cases r with
  | error e => exact zr
  | ok fl1 =>
    cases fl1 with
    | ret ob =>
      obtain ⟨rfl, rfl⟩ := zr
      have zS : (s.heap.push (eSet w)).get? s.heap.objs.size = some (eSet w) := Heap.get?_push_size _ rfl
      have zT : Shared.TypeIs { s with heap := s.heap.push (eSet w) } (.ref s.heap.objs.size) "set" := ⟨_, zS, rfl⟩
      have zli := F.called_set.init.lookup
      have zbi := F.called_set.init.bind (.ref s.heap.objs.size)
      (repeat (any_goals (first | assumption | wp_step)))
      refine codeAny_mono (codeAny_call_builtin (R := wants (fun r s2 => r = .none ∧ ∃ h' tk1 c, s2 = { s with heap := h', toks := tk1 } ∧ SetR w h' s.heap.objs.size (fun j => decide (j ∈ ns)) c ∧ c ≤ ns.length ∧
          (∀ b o, s.heap.get? b = some o → h'.get? b = some o)) E) F.called_set.init.plain F.entry_set_init (check_set_init_1 zT ?_)) fun r2 s2 zr2 => ?_
      · obtain ⟨zo, zol, zcl, zn, zdl⟩ := zl
        obtain ⟨zc1, zc2, zc3, zc4⟩ := zo
        simp only at zcl zdl
        subst zcl; subst zdl
        have zol' : (s.heap.push (eSet w)).get? l = some { cls := .type "list", dict := zc2, data := .seq its zn, slots := zc4 } := Heap.get?_push_of_some _ zol
        have zs1 := F.sub_list_set
        have zs2 := F.sub_list_frozenset
        have zne : (Value.type "list" == Value.type "dict") = false := by decide
        have zl1 : (s.heap.push (eSet w)).IsList l its := ⟨_, zol', rfl, zn, rfl⟩
        (unfold Builtin.«set.__init__» noKeywords Builtin.Frozenset.updateFrom)
        generalize zPI : pyIter = ZI
        wp_walk
        subst zPI
        refine wpAny_pyIter_list zl1 ?_
        (refine wpAny_bind (wpAny_runValue ?_))
        have zlS : l < s.heap.objs.size := Heap.lt_size zol
        have zh3 : A.in1.in1.in1.handled = none := by simp [zh]
        have zz1 : (s.heap.push (eSet w)).objs.size = s.heap.objs.size + 1 := Heap.size_push ..
        have zneI : l ≠ (s.heap.push (eSet w)).objs.size := by
          rw [Heap.size_push]; exact Nat.ne_of_lt (Nat.lt_succ_of_lt zlS)
        have zSf : s.heap.objs.size ∉ [(s.heap.push (eSet w)).objs.size, l] := by
          (rw [Heap.size_push]; simp only [List.mem_cons, List.mem_singleton, List.not_mem_nil, or_false, not_or])
          exact ⟨Nat.ne_of_lt (Nat.lt_succ_self _), Nat.ne_of_gt zlS⟩
        have zval : ∀ (i : Nat) (v : Value), its[i]? = some v → ∃ k t, ns[i]? = some k ∧ v = .int k t := fun i v zv => by
          have zi : i < ns.length := by rw [← zsz]; exact (Array.getElem?_eq_some_iff.mp zv).1
          obtain ⟨t, e⟩ := PyProof.Rows.IntsAre.int_at zit i v (by rw [Array.getElem?_toList]; exact zv)
          refine ⟨ns[i], t, List.getElem?_eq_getElem zi, ?_⟩
          rw [e, List.getD_eq_getElem?_getD, List.getElem?_eq_getElem zi] <;> rfl
        refine set_update_ints ((Walks.list zh3 _ l zneI its).toS) s.heap.objs.size
          zSf ns zsz zb zval (its.size - 0) 0 _ (by omega) (Nat.zero_le _)
          ⟨⟨_, Heap.get?_push_size _ rfl, rfl, rfl⟩, (zl1.push _)⟩ ?hS0 ?hR
        case hS0 =>
          have zget : ((s.heap.push (eSet w)).push { cls := .type "list_iterator", data := .fields #[.ref l, .int 0 0] }).get? s.heap.objs.size
              = some (eSet w) := Heap.get?_push_of_some _ zS
          exact ⟨0, Nat.le_refl 0, setR_new_at zget⟩
        case hR =>
          intro s' c' zm zc' zS'
          obtain ⟨h', q2, q3, q4, q5⟩ := s'
          have y1 : q2 = s.gens := zm.gens
          have y2 : q3 = s.drawn := zm.drawn
          have y3 : q5 = s.os := zm.os
          subst y1; subst y2; subst y3
          show wpAny _ _ _ _ _ _
          refine wpAny_pure ?_
          (show wpAny _ _ (ret Value.none) _ _ _)
          rw [zsz] at zc'
          refine wpAny_pure ⟨rfl, h', q4, c', rfl, zS', zc', fun b o e => ?_⟩
          have y4 : b < s.heap.objs.size := Heap.lt_size e
          have y5 : b ≠ s.heap.objs.size := Nat.ne_of_lt y4
          have y6 : b ≠ (s.heap.push (eSet w)).objs.size := by
            rw [Heap.size_push]; exact Nat.ne_of_lt (Nat.lt_succ_of_lt y4)
          exact zm.heap b o (by simp only [List.mem_cons, List.mem_singleton, List.not_mem_nil, or_false, not_or]; exact ⟨y5, y6⟩) (Heap.get?_push_of_some _ (Heap.get?_push_of_some _ e))
      · cases r2 with
        | error e => exact zr2
        | ok fl2 =>
          cases fl2 with
          | ret r =>
            obtain ⟨rfl, h', tk1, c', rfl, zS', zc', zk'⟩ := zr2
            (repeat (any_goals (first | assumption | wp_step)))
            exact h _ _ _ zS' zc' zk'
          | _ => exact zr2.elim
    | _ => exact zr.elim
end
/-- set(l), l a list of ints -/
def rSetL (w : World) (K : PySem.W.Frag) : List V → Hp → VK → Prop := fun vs H Q => ∃ (a : Addr) (ns : List Int), vs = [.ref a] ∧ SqL K H a (ns.map V.int) ∧ ns.length ≤ 1000 ∧
  ∀ p c, H p = none → c ≤ ns.length → Q (.ref p) (upd H p (SetO w p (fun j => decide (j ∈ ns)) c))
section
variable {X : Cx} {pos : Pos}
theorem cr_setL (hc : X.calm = true) : CallR X (.type "set") (rSetL X.w X.K) := by
  intro pins s σ H vs us Q I r h
  obtain ⟨a, ns, rfl, ha, hl, q⟩ := h
  rw [Vals.ref1 r]
  obtain ⟨its, rv, pl, hz⟩ := I.list ha
  refine call_set_lstI ns (I.ok.hd hc) pl.isList (by simpa using ints_of_vals rv) (by unfold scanBound; omega) fun h' tk c R hcn k => ?_
  exact ⟨.ref _, _, I.laid (t' := tk) k (Nat.le_refl _) (setO_new R), rfl, q _ c (I.hok.fresh (Nat.le_refl _)) hcn⟩
end
end DL
end
section
set_option Elab.async false
set_option linter.all false
set_option maxRecDepth 100000
set_option maxHeartbeats 4000000
/-! DLt: sorted(set(l)) at the level of data. -/
namespace DL
open PySem PySem.Spec PyProof.Rows L2
section
variable {α : Type} [DecidableEq α]
/-- each at its first time -/
def addF (ks : List α) (t : α) : List α := if t ∈ ks then ks else ks ++ [t]
def firstsF (ts : List α) : List α := ts.foldl addF []
theorem addF_nodup {ks : List α} {t : α} (h : ks.Nodup) : (addF ks t).Nodup := by
  unfold addF
  split
  · exact h
  · rename_i ht
    rw [List.nodup_append]
    refine ⟨h, by simp, fun a ha b hb => ?_⟩
    simp at hb
    subst hb
    exact fun e => ht (e ▸ ha)
theorem addF_mem {ks : List α} {t k : α} : k ∈ addF ks t ↔ k ∈ ks ∨ k = t := by
  unfold addF
  split
  · rename_i h
    exact ⟨.inl, fun q => q.elim id fun e => e ▸ h⟩
  · simp
theorem foldl_addF_nodup : ∀ (ts ks : List α), ks.Nodup → (ts.foldl addF ks).Nodup
  | [], _, h => h
  | t :: ts, _, h => foldl_addF_nodup ts _ (addF_nodup h)
theorem foldl_addF_mem {k : α} : ∀ (ts ks : List α), k ∈ ts.foldl addF ks ↔ k ∈ ks ∨ k ∈ ts
  | [], ks => by simp
  | t :: ts, ks => by
    rw [List.foldl_cons, foldl_addF_mem ts, addF_mem, List.mem_cons, or_assoc]
theorem firstsF_nodup (ts : List α) : (firstsF ts).Nodup := foldl_addF_nodup ts [] List.nodup_nil
theorem firstsF_mem {ts : List α} {k : α} : k ∈ firstsF ts ↔ k ∈ ts := by
  unfold firstsF
  rw [foldl_addF_mem]
  simp
end
section
variable {X : Cx} {pos : Pos}
def intsD : List D → Option (List Int)
  | [] => some []
  | .int n :: r => (intsD r).map (n :: ·)
  | _ :: _ => none
theorem intsD_rep {K : PySem.W.Frag} {F : Hp} : ∀ {ds : List D} {ns : List Int} {vs : List V}, intsD ds = some ns → Reps K F vs ds → vs = ns.map V.int
  | [], ns, _, h, .nil => by cases h; rfl
  | .int n :: r, ns, _, h, .cons a b => by
    unfold intsD at h
    cases e : intsD r with
    | none => rw [e] at h; cases h
    | some m =>
      rw [e] at h
      cases h
      rw [intsD_rep e b]
      cases a
      rfl
theorem intsD_map (ns : List Int) : intsD (ns.map D.int) = some ns := by
  induction ns with
  | nil => rfl
  | cons n ns ih => simp [intsD, ih]
/-- each once, in order -/
def isort1 (ns : List Int) : List Int := (firstsF ns).mergeSort (· ≤ ·)
theorem isort1_uniq {ns ms : List Int} (s : ms.Pairwise (· < ·)) (h : ∀ k, k ∈ ms ↔ k ∈ ns) : ms = isort1 ns := by
  have nd : ms.Nodup := s.imp fun h => by omega
  have pm : ms.Perm (firstsF ns) := (List.perm_ext_iff_of_nodup nd (firstsF_nodup ns)).mpr fun k => by rw [h k, firstsF_mem]
  exact isort_uniq pm (s.imp fun h => by omega)
def dSortSet (te : DTE) : DTE := fun S G Q => te S G fun d G1 => match d.cur G1 with
  | .lst xs => (match intsD xs with
    | some ns => ns.length < 64 ∧ Q (.lst ((isort1 ns).map .int)) G1
    | none => False)
  | _ => False
theorem de_sortSet {e : Expr} {te : DTE} {p q p2 : Pos} (hc : X.calm = true) (hg : Gl X "sorted") (hm : X.mg "sorted" = none) (hg2 : Gl X "set") (hm2 : X.mg "set" = none) (ha : DE X e te)
    (na : starEach [e] X.env = (false, eval e X.env) :: starEach [] X.env := by rfl)
    (nb : starEach [.Call (.Name "set" p2) [e] [] q] X.env = (false, eval (.Call (.Name "set" p2) [e] [] q) X.env) :: starEach [] X.env := by rfl) : DE X (.Call (.Name "sorted" p) [.Call (.Name "set" p2) [e] [] q] [] pos) (dSortSet te) := by
  obtain ⟨t, p1, r1⟩ := ha.ex
  have ps := pe_callTy (pos := q) (p := p2) (cr_setL hc) hg2 hm2 PyProof.Rows.boot_set (pa_cons p1 pa_nil na) (by decide) (by decide) na (by rfl)
  have pp := pe_callB (pos := pos) (p := p) (cr_sortedSet hc) hg hm PyProof.Rows.boot_sorted (pa_cons ps pa_nil nb) (by decide) (by decide) nb (by rfl)
  refine ⟨_, pp, fun F H σ S G o Q' h Q k => ?_⟩
  refine r1 F H σ S G o _ h _ fun F1 H1 v d G1 e1 g1 q1 h1 => ?_
  dsimp only at h1
  split at h1
  · rename_i xs ex
    split at h1
    · rename_i ns en
      obtain ⟨a, vs, rfl, ha, rs⟩ := cur_list g1 q1 ex
      rw [intsD_rep en rs] at ha
      refine ⟨a, ns, rfl, .inl (.inl ha), by omega, fun z c hz hcn => ?_⟩
      refine ⟨z, _, c, rfl, upd_same, by omega, fun ms z2 hs hk hl hz2 => ?_⟩
      have em : ms = isort1 ns := isort1_uniq hs fun j => by rw [hk j]; simp
      subst em
      have gr1 : Gr F1 H1 F1 (upd H1 z (SetO X.w z (fun j => decide (j ∈ ns)) c)) := ⟨Ex.refl _, g1.ex.trans (Ex.new hz), Ex.new hz, fun _ _ _ w => w⟩
      have g2 := g1.grow gr1
      have gr2 := Gr.new (u := .lst ((isort1 ns).map V.int)) g2.ex hz2
      exact k _ _ _ _ G1 (e1.trans (gr1.go.trans gr2.go)) (g2.grow gr2) (.lst upd_same (Reps.ints _)) h1.2
    · exact h1.elim
  · exact h1.elim
end
end DL
end
section
set_option Elab.async false
set_option linter.all false
set_option maxRecDepth 100000
set_option maxHeartbeats 4000000
/-! DLu: a display {tuple: v}; int(n). -/
namespace DL
open PySem PySem.Spec PyProof.Rows L2
def tDispT (tk tv : TE) : TE := fun σ H Q => ∀ p, H p = none → tPairs [(tk, tv)] σ (upd H p (.dT [])) fun ps H2 => H2 p = some (.dT []) ∧ ∃ k b v, ps = [(.ref b, v)] ∧ H2 b = some (.tup (k.map kV)) ∧ Q (.ref p) (upd H2 p (.dT [(k, v)]))
section
variable {X : Cx} {pos : Pos}
theorem pe_dispT {ke ve : Expr} {tk tv : TE} (hu : X.A.units + 1 < cLine) (hk : PE X ke tk) (hv : PE X ve tv) : PE X (.Dict [some ke] [ve] pos) (tDispT tk tv) := by
  refine ⟨fun pins s σ H Q I q => ?_⟩
  have hn := I.hok.fresh (Nat.le_refl s.heap.objs.size)
  have I1 := I.laid (a := s.heap.objs.size) (o := .dT []) (h' := s.heap.push { cls := .type "dict", data := .dict #[] }) (t' := s.toks) (fun _ _ q => Heap.get?_push_of_some _ q) (Nat.le_refl _) (dt_empty s.heap I.big)
  have hp := pps_cons (pos := pos) hk hv (pps_nil (X := X))
  have hzip := zip_pairTrees [some ke] [ve] X.env pos rfl rfl
  have hlen := pairTrees_length [some ke] [ve] X.env pos rfl rfl
  rw [arm_eval_Dict, hzip, dictDisplay_pairs _ (by intro z; rw [z] at hlen; cases hlen) (by rw [hlen]; exact (by decide : 1 < 17))]
  refine wpAny_bind (wpAny_standAt (wpAny_bind (wpAny_subDictH (knd := tupleKind (mixKind X.prog X.w)) (Q := fun d s' => wpAny (model X.prog X.w) X.A (pure (Value.ref d)) _ X.xe s') (by show X.A.units < cLine; omega) (by rw [hlen]; exact (by decide : 1 ≤ 15)) ?_)))
  refine thn (hp.run pins _ σ _ _ I1 (q _ hn)) fun ws s2 ⟨ps, H2, I2, rel, e, k, b, v, ep, hb, q2⟩ => ?_
  subst ep
  obtain ⟨z, hd, vs0, r0, dd⟩ := dt_of I2.hok e
  cases r0
  cases rel with
  | cons r1 r2 =>
    cases r2
    rename_i w0 _
    obtain ⟨u1, u2⟩ := w0
    obtain ⟨ra, rv⟩ := r1
    cases (show u1 = Value.ref b from ra)
    refine ⟨[(k, b, u2)], ⟨rfl, rfl, key_of I2.hok hb, trivial⟩, dd, fun h' tk' dd' hs => wpAny_pure ⟨.ref s.heap.objs.size, _, ?_, rfl, q2⟩⟩
    obtain ⟨q', es, ep, hq, h2, h3, h4, _, h5⟩ := dd'
    refine d_write I2 (by rw [e]; exact True.intro) hs ⟨q', hq⟩ ⟨by show 1 ≤ sizeLine; rw [sizeLine_eq]; decide, hd, [(k, b, u2)], .cons ⟨rfl, ?_, rv⟩ .nil, q', es, ep, hq, h2, h3, h4, h5⟩
    rw [upd_ne (ne_of hb e (fun z => nomatch z))]
    exact hb
/-- a new thing that may change, laid out before others -/
theorem own_later {K : PySem.W.Frag} {F H F' H' : Hp} {G G' : GH} {p : Addr} {u : HO} {o : MO} (hp : H p = none) (go : Go F H G F' H' G') (g : Gok K F' H' G') (fp : F' p = none) (gp : G' p = none) (hd : o.isDeck = false) (m0 : MRep K F' (upd H' p u) (gput G' p o) p o) :
    Gok K F' (upd H' p u) (gput G' p o) ∧ Go F H G F' (upd H' p u) (gput G' p o) := by
  constructor
  · refine ⟨g.ex.updR fp, fun a w e => ?_, fun a b k1 k2 k3 n j1 j2 j3 m e1 e2 => ?_⟩
    · by_cases nq : a = p
      · subst nq
        rw [gput_same] at e; cases e
        exact ⟨fp, m0⟩
      · rw [gput_ne nq] at e
        obtain ⟨f, m⟩ := g.at_ a w e
        refine ⟨f, m.move (Ex.refl F') (fun b u hb hc => ?_) fun c z => ?_⟩
        · have n2 : b ≠ p := fun z => by
            rcases hc with hc | hc
            · exact nq (hc ▸ z)
            · rw [z, gp] at hc; cases hc
          rw [upd_ne n2]; exact hb
        · have n2 : c ≠ p := fun y => by rw [y, gp] at z; cases z
          rw [gput_ne n2]; exact z
    · have ha : a ≠ p := fun y => by rw [y, gput_same] at e1; cases e1; cases hd
      have hb : b ≠ p := fun y => by rw [y, gput_same] at e2; cases e2; cases hd
      rw [gput_ne ha] at e1; rw [gput_ne hb] at e2
      exact g.one a b k1 k2 k3 n j1 j2 j3 m e1 e2
  · refine ⟨go.ex, fun b u hb gb => ?_, go.no, fun b z => go.st b (upd_none z)⟩
    have n2 : b ≠ p := fun z => by rw [z, hp] at hb; cases hb
    rw [upd_ne n2, gput_ne n2]; exact go.fr b u hb gb
def dDispT (tk tv : DTE) : DTE := fun S G Q => tk S G fun k G1 => tv S G1 fun v G2 => match k with
  | .tup ds => (match D.keys ds with
    | some ks => ∀ p, G2 p = none → Q (.rf p) (gput G2 p (.dT [(ks, v)]))
    | none => False)
  | _ => False
theorem de_dispT {ke ve : Expr} {tk tv : DTE} (hu : X.A.units + 100 < cLine) (hk : DE X ke tk) (hv : DE X ve tv) : DE X (.Dict [some ke] [ve] pos) (dDispT tk tv) := by
  obtain ⟨t1, p1, r1⟩ := hk.ex
  obtain ⟨t2, p2, r2⟩ := hv.ex
  refine ⟨_, pe_dispT (by omega) p1 p2, fun F H σ S G o Q' h Q kk => ?_⟩
  intro p hp
  have gp : G p = none := o.g.free hp
  have fp : F p = none := o.g.ex.nope hp
  have gr : Gr F H F (upd H p (.dT [])) := Gr.only o.g.ex hp
  refine r1 F _ σ S G ⟨o.g.grow gr, o.s⟩ _ h _ fun F1 H1 v1 d1 G1 e1 g1 q1 h1 => ?_
  refine r2 F1 H1 σ S G1 (Ok.go ⟨o.g.grow gr, o.s⟩ e1 g1) _ h1 _ fun F2 H2 v2 d2 G2 e2 g2 q2 h2 => ?_
  have e12 := e1.trans e2
  have fr := e12.fr p _ upd_same gp
  refine ⟨fr.1, ?_⟩
  dsimp only at h2
  split at h2
  · rename_i ds
    split at h2
    · rename_i ks ek
      cases q1 with
      | tup hb rs =>
        have hvs := rs.keys ek
        subst hvs
        refine ⟨ks, _, v2, rfl, g2.ex _ _ (e2.ex _ _ hb), ?_⟩
        have hz := own_later (K := X.K) (u := .dT [(ks, v2)]) (o := .dT [(ks, d2)]) hp ((gr.go (G := G)).trans e12) g2 (e12.no p _ upd_same gp fp (fun _ z => nomatch z)) fr.2 rfl ⟨[(ks, v2)], upd_same, rfl, .cons q2 .nil⟩
        exact kk _ _ _ _ _ hz.2 hz.1 (.rf p) (h2 p fr.2)
    · exact h2.elim
  · exact h2.elim
/-- int(n) -/
def rIntC (ds : List D) (G : GH) (Q : DQ) : Prop := match ds with
  | [.int i] => Q (.int i) G
  | _ => False
theorem cd_int : CallD X (.type "int") rIntC := by
  refine ⟨_, call_int1, fun F H G vs ds g rs Q' h Q k => ?_⟩
  unfold rIntC at h
  split at h
  · rename_i i
    cases rs with
    | cons r b =>
      cases b
      cases r
      exact .inl ⟨i, rfl, k _ _ _ _ G Go.refl g (.int i) h⟩
  · exact h.elim
end
end DL
end
section
set_option Elab.async false
set_option linter.all false
set_option maxRecDepth 100000
set_option maxHeartbeats 4000000
/-! DLv: calls with keywords. -/
namespace DL
open PySem PySem.Spec PyProof.Rows L2
structure DK (X : Cx) (kws : List Keyword) (t' : DTA) : Prop where
  ex : ∃ t, PK X kws t ∧ ∀ F H σ S G, Ok X.K F H σ S G → ∀ Q', t' S G Q' → ∀ Q, KpA X.K F H G Q' Q → t σ H Q
/-- the arguments in the order of the parameters -/
def perm {α : Type} (z : α) (js : List Nat) (us ws : List α) : List α := js.map fun j => (us ++ ws)[j]?.getD z
structure CalK (P : Program) (w : World) (K : PySem.W.Frag) (mg : Str → Option Value) (base : Heap) (x : Str) (k : Nat) (ps : List Str) (sp : SpD) (n : Nat) (ks : List Str) (js : List Nat) : Prop where
  ex : ∃ f fd, FnG P w K mg base CX0 k f fd ps (SpOf K sp) ∧ mg x = some (.ref f) ∧ PySem.W.keepIn K (.ref f) = true ∧
    ∀ (s : Shared) (us ws : List Value), us.length = n → ws.length = ks.length → BindsTo s fd ⟨us, ks.zip ws⟩ (ps.zip (perm .none js us ws))
section
variable {X : Cx} {pos kpos : Pos} {nm : Option Str}
theorem dk_nil : DK X [] dNil := ⟨_, pk_nil, fun F H σ S G o Q' h Q k => k F H [] [] G Go.refl o.g .nil h⟩
theorem dk_cons {e : Expr} {kws : List Keyword} {ta : DTE} {tr : DTA} (ha : DE X e ta) (hr : DK X kws tr) : DK X (⟨nm, e, kpos⟩ :: kws) (dCons ta tr) := by
  obtain ⟨t1, p1, r1⟩ := ha.ex
  obtain ⟨t2, p2, r2⟩ := hr.ex
  refine ⟨_, pk_cons p1 p2, fun F H σ S G o Q' h Q k => ?_⟩
  refine r1 F H σ S G o _ h _ fun F1 H1 v d G1 e1 g1 q1 h1 => ?_
  refine r2 F1 H1 σ S G1 (o.go e1 g1) _ h1 _ fun F2 H2 vs ds G2 e2 g2 q2 h2 => ?_
  exact k F2 H2 _ _ G2 (e1.trans e2) g2 (.cons (q1.mono e2.ex) q2) h2
def dCallK (sp : SpD) (n m : Nat) (js : List Nat) (ta tk : DTA) : DTE := fun S G Q => ta S G fun ds G1 => tk S G1 fun zs G2 => (ds.length = n ∧ zs.length = m) ∧ sp (perm .non js ds zs) G2 Q
theorem vals_at {vs : List V} {us : List Value} (r : Vals vs us) (j : Nat) : RelV (vs[j]?.getD .non) (us[j]?.getD .none) := by
  induction r generalizing j with
  | nil => rfl
  | cons a t ih => cases j with
    | zero => exact a
    | succ j => simpa using ih j
theorem reps_at {K : PySem.W.Frag} {F : Hp} {vs : List V} {ds : List D} (r : Reps K F vs ds) (j : Nat) : Rep K F (vs[j]?.getD .non) (ds[j]?.getD .non) := by
  induction ds generalizing vs j with
  | nil => cases r; exact .non
  | cons d ds ih => cases r with
    | cons a t => cases j with
      | zero => exact a
      | succ j => simpa using ih t j
theorem vals_perm {vs zs : List V} {us ws : List Value} (r : Vals vs us) (q : Vals zs ws) : ∀ js : List Nat, Vals (perm .non js vs zs) (perm .none js us ws)
  | [] => .nil
  | j :: js => .cons (vals_at (r.append q) j) (vals_perm r q js)
theorem reps_app {K : PySem.W.Frag} {F : Hp} : ∀ {vs zs : List V} {ds es : List D}, Reps K F vs ds → Reps K F zs es → Reps K F (vs ++ zs) (ds ++ es)
  | _, _, _, _, .nil, q => q
  | _, _, _, _, .cons a t, q => .cons a (reps_app t q)
theorem reps_perm {K : PySem.W.Frag} {F : Hp} {vs zs : List V} {ds es : List D} (r : Reps K F vs ds) (q : Reps K F zs es) : ∀ js : List Nat, Reps K F (perm .non js vs zs) (perm .non js ds es)
  | [] => .nil
  | j :: js => .cons (reps_at (reps_app r q) j) (reps_perm r q js)
/-- f(e, .., k = v, ..) -/
theorem de_calK {x : Str} {k : Nat} {ps : List Str} {sp : SpD} {n : Nat} {ks : List Str} {js : List Nat} {p : Pos} {e : Expr} {es : List Expr} {kws : List Keyword} {ta tk : DTA} (c : CalK X.prog X.w X.K X.mg X.base x k ps sp n ks js) (hA : X.A.guards = some []) (hr : Room k X.A) (ha : DA X (e :: es) ta) (hw : DK X kws tk)
    (hg : Gl X x := by rfl) (hall : (backToKw pos (keywordEach kws X.env)).all (·.1.isSome) = true := by rfl) (hks : (backToKw pos (keywordEach kws X.env)).filterMap (·.1) = ks := by rfl)
    (hdb : (x == ("__debug__" : Str)) = false := by decide) (he : starEach (e :: es) X.env = (false, eval e X.env) :: starEach es X.env := by rfl)
    (hpl : ((backTo pos (starEach (e :: es) X.env)).any (·.1) || (backToKw pos (keywordEach kws X.env)).any (·.1.isNone)) = false := by rfl) : DE X (.Call (.Name x p) (e :: es) kws pos) (dCallK sp n ks.length js ta tk) := by
  obtain ⟨f, fd, Fn, hm, hk, hb⟩ := c.ex
  obtain ⟨t1, p1, r1⟩ := ha.ex
  obtain ⟨t2, p2, r2⟩ := hw.ex
  refine ⟨fun σ H Q => t1 σ H fun vs H1 => t2 σ H1 fun zs H2 => vs.length = n ∧ zs.length = ks.length ∧ SpOf X.K sp (perm .non js vs zs) H2 Q (fun _ _ _ => False), ?_, fun F H σ S G o Q' h Q kk => ?_⟩
  · constructor
    intro pins s σ H Q I h
    apply wpAny_Call_Name_kw
    refine ld_glob I hg hm ?_ hdb
    refine PySem.W.callWith_KW (h₀ := X.base) I.ok.mod.kin hk hall (thn (p1.run pos pins s σ H _ I h) ?_) hpl he
    rintro us s1 ⟨vs, H1, I1, r, q⟩
    refine thn (p2.run pos pins s1 σ H1 _ I1 q) ?_
    rintro ws s2 ⟨zs, H2, I2, rz, l1, l2, q2⟩
    refine ⟨I2.kIn, ?_⟩
    rw [hks]
    exact goes_fn Fn hA hr _ (fun s3 i l => hb s3 us ws (by rw [← r.length]; exact l1) (by rw [← rz.length]; exact l2)) pass0 I2 (vals_perm r rz js) q2
  · refine r1 F H σ S G o _ h _ fun F1 H1 vs ds G1 e1 g1 q1 h1 => ?_
    refine r2 F1 H1 σ S G1 (o.go e1 g1) _ h1 _ fun F2 H2 zs es G2 e2 g2 q2 h2 => ?_
    refine ⟨by rw [q1.length]; exact h2.1.1, by rw [q2.length]; exact h2.1.2, F2, G2, _, Q', g2, reps_perm (q1.mono e2.ex) q2 js, h2.2, kk.mono (e1.trans e2)⟩
/-- f(k = v, ..) -/
theorem de_calK0 {x : Str} {k : Nat} {ps : List Str} {sp : SpD} {ks : List Str} {js : List Nat} {p : Pos} {kws : List Keyword} {tk : DTA} (c : CalK X.prog X.w X.K X.mg X.base x k ps sp 0 ks js) (hA : X.A.guards = some []) (hr : Room k X.A) (hw : DK X kws tk)
    (hg : Gl X x := by rfl) (hall : (backToKw pos (keywordEach kws X.env)).all (·.1.isSome) = true := by rfl) (hks : (backToKw pos (keywordEach kws X.env)).filterMap (·.1) = ks := by rfl)
    (hdb : (x == ("__debug__" : Str)) = false := by decide)
    (hpl : ((backTo pos (starEach [] X.env)).any (·.1) || (backToKw pos (keywordEach kws X.env)).any (·.1.isNone)) = false := by rfl) : DE X (.Call (.Name x p) [] kws pos) (dCallK sp 0 ks.length js dNil tk) := by
  obtain ⟨f, fd, Fn, hm, hk, hb⟩ := c.ex
  obtain ⟨t2, p2, r2⟩ := hw.ex
  refine ⟨fun σ H Q => t2 σ H fun zs H2 => zs.length = ks.length ∧ SpOf X.K sp (perm .non js [] zs) H2 Q (fun _ _ _ => False), ?_, fun F H σ S G o Q' h Q kk => ?_⟩
  · constructor
    intro pins s σ H Q I h
    apply wpAny_Call_Name_kw
    refine ld_glob I hg hm ?_ hdb
    refine PySem.W.callWith_KW0 (h₀ := X.base) I.ok.mod.kin hk hall (thn (p2.run pos pins s σ H _ I h) ?_) hpl
    rintro ws s2 ⟨zs, H2, I2, rz, l2, q2⟩
    refine ⟨I2.kIn, ?_⟩
    rw [hks]
    exact goes_fn (us := []) Fn hA hr _ (fun s3 i l => hb s3 [] ws rfl (by rw [← rz.length]; exact l2)) pass0 I2 (vals_perm .nil rz js) q2
  · refine r2 F H σ S G o _ h _ fun F2 H2 zs es G2 e2 g2 q2 h2 => ?_
    exact ⟨by rw [q2.length]; exact h2.1.2, F2, G2, _, Q', g2, reps_perm .nil q2 js, h2.2, kk.mono e2⟩
end
theorem cal_mkK {P : Program} {w : World} {K : PySem.W.Frag} {mg : Str → Option Value} {base : Heap} {x : Str} {st : Stmt} {N ps : List Str} {k : Nat} {sp : SpD} {n : Nat} {ks : List Str} {js : List Nat} (d : Def K mg x st) (sc : FnScope N ps (defScope st)) (len : ∀ ds G Q, sp ds G Q → ds.length = ps.length)
    (bi : ∀ (kV doc pm : Value) (an : Option Addr) (cdv ct : Value) (us : List Value), us.length = ps.length → bindArgs (PySem.W.fnOf x x (defArgs st) (defBody st) (defScope st) .none kV doc pm an cdv ct) ⟨us, []⟩ = pure (ps.zip us))
    (bk : ∀ (kV doc pm : Value) (an : Option Addr) (cdv ct : Value) (us ws : List Value), us.length = n → ws.length = ks.length → bindArgs (PySem.W.fnOf x x (defArgs st) (defBody st) (defScope st) .none kV doc pm an cdv ct) ⟨us, ks.zip ws⟩ = pure (ps.zip (perm .none js us ws)))
    (hb : ∀ (f : Addr) (cdv : Value) (A : Around) (outer : List Env) (s : Shared) (H : Hp) (E : XK), A.guards = some [] → Room k (A.deeper (envOfC x (defScope st) s.heap.objs.size f cdv)) →
      ∃ t', DPs (cxOf CX0 P w K mg base N x (defScope st) f cdv A outer s H E).nox (defBody st) t' ∧ ∀ ds G Q, sp ds G Q → t' (fin Q) (dstart N ds) G) : Cal P w K mg base x (k + 1) ps sp ∧ CalK P w K mg base x (k + 1) ps sp n ks js := by
  obtain ⟨f, fd, Fu, hm⟩ := d.ex
  have fn := fn_mk (P := P) (w := w) (mg := mg) (base := base) Fu sc len (hb f)
  refine ⟨⟨f, fd, fn, hm, Fu.kp, Fu.binds bi⟩, f, fd, fn, hm, Fu.kp, fun s us ws h1 h2 => ?_⟩
  obtain ⟨oc, od, kV, doc, pm, an, cdv, ct, osl, rfl, lk, hcd⟩ := Fu.ex
  exact .of_eq (bk kV doc pm an cdv ct us ws h1 h2)
end DL
end
section
set_option Elab.async false
set_option linter.all false
set_option maxRecDepth 100000
set_option maxHeartbeats 4000000
/-! DLw: over the keys of a dict with tuple keys, locked meanwhile. -/
namespace DL
open PySem PySem.Spec PyProof.Rows L2
def keyD : Key → D
  | .inl n => .int n
  | .inr x => .str x
def ktD (ks : List Key) : D := .tup (ks.map keyD)
theorem keyD_rep {K : PySem.W.Frag} {F : Hp} (k : Key) : Rep K F (kV k) (keyD k) := by
  cases k with
  | inl n => exact .int n
  | inr x => exact .str x
theorem keysD_rep {K : PySem.W.Frag} {F : Hp} : ∀ ks : List Key, Reps K F (ks.map kV) (ks.map keyD)
  | [] => .nil
  | k :: ks => .cons (keyD_rep k) (keysD_rep ks)
theorem keyD_key (k : Key) : (keyD k).key = some k := by cases k <;> rfl
theorem keysD_keys : ∀ ks : List Key, D.keys (ks.map keyD) = some ks
  | [] => rfl
  | k :: ks => by simp [D.keys, keyD_key, keysD_keys ks]
theorem MRep.noTup {K : PySem.W.Frag} {F H : Hp} {G : GH} {a : Addr} {o : MO} {vs : List V} (m : MRep K F H G a o) : H a ≠ some (.tup vs) := by
  intro z
  cases o with
  | lst xs => obtain ⟨_, e, _⟩ := m; rw [e] at z; cases z
  | dK kds => obtain ⟨_, e, _⟩ := m; rw [e] at z; cases z
  | dT kds => obtain ⟨_, e, _⟩ := m; rw [e] at z; cases z
  | ins C kds => obtain ⟨_, _, e, _⟩ := m; rw [e] at z; cases z
  | deck k1 k2 k3 n => obtain ⟨_, _, _, _, e, _⟩ := m; rw [e] at z; cases z
  | dcell => obtain ⟨_, e⟩ := m; rw [e] at z; cases z
  | lkT o kvs kds => rw [m.1] at z; cases z
  | dN w kds => obtain ⟨xs, e, _⟩ := m; rw [e] at z; cases z
/-- a tuple that stands there is frozen -/
theorem Gok.tupF {K : PySem.W.Frag} {F H : Hp} {G : GH} (g : Gok K F H G) {q : Addr} {vs : List V} {ds : List D} (hq : H q = some (.tup vs)) (rs : ∀ F', Reps K F' vs ds) : ∃ F', Go F H G F' H G ∧ Gok K F' H G ∧ Rep K F' (.ref q) (.tup ds) := by
  have ex : Ex F (upd F q (.tup vs)) := fun a o e => by
    by_cases z : a = q
    · subst z
      have := g.ex _ _ e
      rw [hq] at this; cases this
      exact upd_same
    · rw [upd_ne z]; exact e
  refine ⟨upd F q (.tup vs), ⟨ex, fun _ _ h gh => ⟨h, gh⟩, fun b u hb gb fb t => ?_, fun _ z => z⟩, ⟨fun a o e => ?_, fun a o e => ?_, g.one⟩, .tup upd_same (rs _)⟩
  · have z : b ≠ q := fun z => by rw [z, hq] at hb; cases hb; exact t vs rfl
    rw [upd_ne z]; exact fb
  · by_cases z : a = q
    · subst z; rw [upd_same] at e; cases e; exact hq
    · rw [upd_ne z] at e; exact g.ex _ _ e
  · obtain ⟨f, m⟩ := g.at_ a o e
    have z : a ≠ q := fun z => m.noTup (z ▸ hq)
    exact ⟨by rw [upd_ne z]; exact f, m.move ex (fun _ _ h _ => h) fun _ h => h⟩
section
variable {X : Cx} {pos : Pos} {tg : Expr}
def diKeysT (te : DTE) : DTI := fun S G R => te S G fun d G1 => match d with
  | .rf p => (match G1 p with
    | some (.lkT o kvs kds) => R (kds.map fun kv => ktD kv.1) (fun G => G p = some (.lkT o kvs kds)) G1
    | _ => False)
  | _ => False
theorem di_keysT {e : Expr} {te : DTE} (h : DE X e te) : DI X tg e (diKeysT te) := by
  obtain ⟨t, p, r⟩ := h.ex
  refine ⟨_, pi_keys p, fun F H σ S G o R' h R k => ?_⟩
  refine r F H σ S G o _ h _ fun F1 H1 v d G1 e1 g1 q1 h1 => ?_
  dsimp only at h1
  split at h1
  · rename_i a
    split at h1
    · rename_i ob kvs kds ea
      cases q1
      obtain ⟨_, hh, hk, hr⟩ := g1.at_ a _ ea
      refine ⟨a, ob, rfl, .inr ⟨kvs, hh, k F1 H1 G1 _ _ _ e1 g1 ⟨fun F2 H2 G2 i d e2 g2 gd hd => ?_, fun F2 H2 G2 e2 g2 gd => ?_⟩ h1⟩⟩
      · obtain ⟨_, hh2, hk2, _⟩ := g2.at_ a _ gd
        rw [List.getElem?_map] at hd
        have hlen : kvs.length = kds.length := by simpa using congrArg List.length hk2
        cases ei : kds[i]? with
        | none => rw [ei] at hd; cases hd
        | some kv =>
          rw [ei] at hd
          cases hd
          have hi := (List.getElem?_eq_some_iff.mp ei).1
          refine ⟨⟨hh2, by omega⟩, fun x H3 hy => ?_⟩
          obtain ⟨rfl, kk, vv, q, hkv, rfl, hq⟩ := hy
          have ek : kk = kv.1 := by
            have z := congrArg (fun l => l[i]?) hk2
            simp only [List.getElem?_map, hkv, ei, Option.map_some, Option.some.injEq] at z
            exact z
          subst ek
          exact g2.tupF hq fun F' => keysD_rep _
      · obtain ⟨_, hh2, hk2, _⟩ := g2.at_ a _ gd
        have hlen : kvs.length = kds.length := by simpa using congrArg List.length hk2
        exact ⟨hh2, by simp; omega⟩
    · exact h1.elim
  · exact h1.elim
/-- the dict at p is locked while e is worked out -/
def dLock (t : DTE) : DTE := fun S G Q => ∃ p kds, G p = some (.dT kds) ∧ ∀ o kvs, t S (gput G p (.lkT o kvs kds)) fun d G' => G' p = some (.lkT o kvs kds) ∧ Q d (gput G' p (.dT kds))
theorem de_lock {e : Expr} {t' : DTE} (h : DE X e t') : DE X e (dLock t') := by
  obtain ⟨t, p, r⟩ := h.ex
  refine ⟨_, pe_lock p, fun F H σ S G o Q' h Q k => ?_⟩
  obtain ⟨a, kds, ga, h⟩ := h
  obtain ⟨fa, kvs, ha, hk, hr⟩ := o.g.at_ a _ ga
  refine ⟨a, .dT kvs, ha, trivial, fun od => ?_⟩
  have g1 : Gok X.K F (upd H a (.frz od (.dT kvs))) (gput G a (.lkT od kvs kds)) := o.g.put ga rfl rfl ⟨upd_same, hk, hr⟩
  refine r F _ σ S _ ⟨g1, o.s⟩ _ (h od kvs) _ fun F' H' v d G' go g2 rv q => ?_
  obtain ⟨ga2, q⟩ := q
  obtain ⟨fa2, hh2, hk2, hr2⟩ := g2.at_ a _ ga2
  refine ⟨hh2, ?_⟩
  have g3 : Gok X.K F' (upd H' a (.dT kvs)) (gput G' a (.dT kds)) := g2.put ga2 rfl rfl ⟨kvs, upd_same, hk2, hr2⟩
  refine k F' _ v d _ ?_ g3 rv q
  exact ((Go.put (u := .frz od (.dT kvs)) ga).trans go).trans (Go.put ga2)
def rItemL : DR2 := fun x y G Q => match x with
  | .rf p => (match G p with
    | some (.lkT _ _ kds) => (match y with
      | .tup ds => (match D.keys ds with
        | some k => (match valD kds k with
          | some d => Q d G
          | none => False)
        | none => False)
      | _ => False)
    | _ => False)
  | _ => False
theorem de_ixL {a b : Expr} {ta tb : DTE} (hu : X.A.units + 100 < cLine) (ha : DE X a ta) (hb : DE X b tb) (hs : PlainIx b := by intro _ _; rfl) : DE X (.Subscript a b pos) (dOp rItemL ta tb) := by
  obtain ⟨t1, p1, r1⟩ := ha.ex
  obtain ⟨t2, p2, r2⟩ := hb.ex
  refine ⟨_, pe_ix (ix_dict hu) p1 p2 hs, dop_of (a := a) (b := b) ?_ r1 r2⟩
  intro F H G x y dx dy g rx ry Q' h Q k
  unfold rItemL at h
  split at h
  · rename_i p
    split at h
    · rename_i o kvs kds gp
      split at h
      · rename_i ds
        split at h
        · rename_i ks ek
          split at h
          · rename_i d ed
            obtain ⟨_, hh, hk, hr⟩ := g.at_ p _ gp
            cases rx
            cases ry with
            | tup hb rs =>
              have eb := rs.keys ek
              subst eb
              have kr : KR X.K F kvs kds := ⟨hk, hr⟩
              obtain ⟨z, h1, h2⟩ := kr.val.1 d ed
              exact ⟨p, z, rfl, .inr ⟨kvs, ks, _, .inr ⟨o, hh⟩, rfl, g.ex _ _ hb, h1.symm⟩, k F H _ _ G Go.refl g h2 h⟩
          · exact h.elim
        · exact h.elim
      · exact h.elim
    · exact h.elim
  · exact h.elim
end
end DL
end
section
set_option Elab.async false
set_option linter.all false
set_option maxRecDepth 100000
set_option maxHeartbeats 4000000
/-! DLz: dict(list of pairs with tuple keys). -/
namespace DL
open PySem PySem.Spec PyProof.Rows L2
structure PT where
  p : Addr
  k : List Key
  b : Addr
  v : V
def mergeT (kvs : List (List Key × V)) (es : List PT) : List (List Key × V) := es.foldl (fun acc e => putK acc e.k e.v) kvs
section
variable {X : Cx} {pos : Pos}
theorem pts_of {pins : List (Addr × Obj)} {σ : L2.St} {H : Hp} {s : Shared} (I : Inv X pins σ H s) : ∀ {es : List PT}, (∀ e ∈ es, H e.p = some (.tup [.ref e.b, e.v])) →
    ∃ ws : List (PT × Value), ws.map (·.1) = es ∧ ∀ x ∈ ws, IsTup s.heap x.1.p #[.ref x.1.b, x.2] ∧ RelV x.1.v x.2
  | [], _ => ⟨[], rfl, fun x hx => by simp at hx⟩
  | e :: es, h => by
    obtain ⟨ws, hw, hx⟩ := pts_of I (es := es) fun y hy => h y (by simp [hy])
    obtain ⟨its, rv, ht, _⟩ := I.tuple (.inl (.inl (h e (by simp))))
    obtain ⟨u, y, ei, ru, ry⟩ := vals2 rv
    subst ei
    cases (show u = Value.ref e.b from ru)
    refine ⟨(e, y) :: ws, by simp [hw], fun x hm => ?_⟩
    rcases List.mem_cons.mp hm with rfl | hm
    · exact ⟨ht, ry⟩
    · exact hx x hm
theorem KT_all {H : Hp} : ∀ {ws : List (PT × Value)} {kvs : List (List Key × V)} {xs : List (List Key × Addr × Value)}, KT H kvs xs → (∀ x ∈ ws, H x.1.b = some (.tup (x.1.k.map kV)) ∧ RelV x.1.v x.2) →
    KT H (mergeT kvs (ws.map (·.1))) (storedAllH xs (ws.map fun x => (x.1.k, x.1.b, x.2)))
  | [], kvs, xs, r, _ => r
  | w :: ws, kvs, xs, r, h => by
    obtain ⟨h1, h2⟩ := h w (by simp)
    exact KT_all (ws := ws) (r.put w.1.k h1 h2) fun x hx => h x (by simp [hx])
theorem mergeT_len : ∀ (es : List PT) (kvs : List (List Key × V)), (mergeT kvs es).length ≤ kvs.length + es.length
  | [], kvs => by simp [mergeT]
  | e :: es, kvs => by
    have h1 := mergeT_len es (putK kvs e.k e.v)
    have h2 := length_putK kvs e.k e.v
    have : mergeT kvs (e :: es) = mergeT (putK kvs e.k e.v) es := rfl
    rw [this, List.length_cons]
    omega
theorem cr_dictT (hc : X.calm = true) (hu : X.A.units + 100 < cLine) : CallR X (.type "dict") (fun xs H Q => ∃ (a : Addr) (es : List PT), xs = [.ref a] ∧ SqL X.K H a (es.map fun e => V.ref e.p) ∧ (∀ e ∈ es, H e.p = some (.tup [.ref e.b, e.v])) ∧ (∀ e ∈ es, H e.b = some (.tup (e.k.map kV))) ∧
    ∀ p, H p = none → Q (.ref p) (upd H p (.dT (mergeT [] es)))) := by
  intro pins s σ H xs us Q I r q
  obtain ⟨a, es, ex, hq, hp, hb, q⟩ := q
  subst ex
  obtain ⟨u, eu, rx⟩ := vals1 r
  subst eu
  cases rx
  obtain ⟨its, rv, pl, hz⟩ := I.list hq
  have ei := refs_at (ps := es.map (·.p)) (by rw [List.map_map]; exact rv)
  subst ei
  rw [List.length_map] at hz
  obtain ⟨ws, hw, hx⟩ := pts_of I hp
  subst hw
  obtain ⟨o, n, ho, hcl, hd, hdat⟩ := pl
  have hitems : PairItems s.heap (((ws.map (·.1)).map (·.p)).map Value.ref).toArray (fun j => ((ws.map fun x => x.1.p)[j]?).getD 0) (ws.map fun x => (Value.ref x.1.b, x.2)) := by
    refine ⟨by simp, fun j k v hj => ?_⟩
    rw [List.getElem?_map] at hj
    cases e : ws[j]? with
    | none => rw [e] at hj; cases hj
    | some x =>
      rw [e] at hj; cases hj
      refine ⟨by simp [e], .inl ?_⟩
      have hh := (hx x (List.mem_of_getElem? e)).1
      have e' : ((ws.map fun x => x.1.p)[j]?).getD 0 = x.1.p := by simp [e]
      show s.heap.IsTuple (((ws.map fun x => x.1.p)[j]?).getD 0) _
      rw [e']
      exact hh
  refine call_dict_pairsH (knd := tupleKind (mixKind X.prog X.w)) (ps := ws.map fun x => (x.1.k, x.1.b, x.2)) (PairArg.list a _ _ _) (I.ok.hd hc) (by show X.A.in1.in1.units < cLine; simp; omega) ⟨⟨o, n, ho, hcl, hd, hdat⟩, hitems⟩ ⟨by simp, fun i key v hr => ?_⟩ (fun h' hk x hxm => ?_) (by simpa using hz) fun h' tk hd' k => ?_
  · rw [PairRel, List.getElem?_map] at hr
    cases e : ws[i]? with
    | none => rw [e] at hr; cases hr
    | some x => rw [e] at hr; cases hr; exact ⟨x.1.k, x.1.b, by simp [e], rfl⟩
  · obtain ⟨y, hy, rfl⟩ := List.mem_map.mp hxm
    have hby := hb y.1 (List.mem_map.mpr ⟨y, hy, rfl⟩)
    obtain ⟨oo, items, n2, h1, h2, h3, h4⟩ := key_of I.hok hby
    have hlt := Heap.lt_size h1
    exact ⟨oo, items, n2, hk _ _ (Nat.ne_of_lt hlt) (by simp) h1, h2, h3, h4⟩
  · have hm : (s.heap.objs.size == sysModules) = false := beq_eq_false_iff_ne.mpr (Nat.ne_of_gt I.big)
    have hn := I.hok.fresh (Nat.le_refl s.heap.objs.size)
    have hlen : (mergeT [] (ws.map (·.1))).length ≤ sizeLine := by
      have := mergeT_len (ws.map (·.1)) []
      simp at this hz
      simp
      omega
    obtain ⟨q', es', ep, hq', h2, h3, h4, _, h5⟩ := hd'
    have kt : KT H (mergeT [] (ws.map (·.1))) (storedAllH [] (ws.map fun x => (x.1.k, x.1.b, x.2))) := KT_all .nil fun x hxm => ⟨hb x.1 (List.mem_map.mpr ⟨x, hxm, rfl⟩), (hx x hxm).2⟩
    refine ⟨.ref s.heap.objs.size, upd H s.heap.objs.size (.dT (mergeT [] (ws.map (·.1)))), I.laid (t' := tk) (fun b ob e => k b ob (by simp) e) (Nat.le_refl _) ⟨hlen, hm, _, kt.keeps fun c ys ec => ?_, q', es', ep, hq', h2, h3, h4, h5⟩, rfl, q _ hn⟩
    rw [upd_ne (ne_of_none ec hn)]
    exact ec
/-- pairs with tuple keys -/
def prsT : List D → Option (List (List Key × D))
  | [] => some []
  | .tup [.tup ks, v] :: r => (match D.keys ks, prsT r with
    | some k, some m => some ((k, v) :: m)
    | _, _ => none)
  | _ :: _ => none
def mergeDT (kds more : List (List Key × D)) : List (List Key × D) := more.foldl (fun acc kv => putD acc kv.1 kv.2) kds
theorem prsT_rep {K : PySem.W.Frag} {F : Hp} : ∀ {xs : List D} {ms : List (List Key × D)} {vs : List V}, prsT xs = some ms → Reps K F vs xs →
    ∃ es : List PT, vs = es.map (fun e => V.ref e.p) ∧ (∀ e ∈ es, F e.p = some (.tup [.ref e.b, e.v])) ∧ (∀ e ∈ es, F e.b = some (.tup (e.k.map kV))) ∧ es.map (·.k) = ms.map (·.1) ∧ Reps K F (es.map (·.v)) (ms.map (·.2))
  | [], ms, _, h, .nil => by
    cases h
    exact ⟨[], rfl, fun e he => by simp at he, fun e he => by simp at he, rfl, .nil⟩
  | x :: r, ms, _, h, .cons a b => by
    unfold prsT at h
    split at h
    · rename_i h1; cases h1
    · rename_i ks v r' h1
      cases h1
      split at h
      · rename_i k m ek em
        cases h
        obtain ⟨es, h2, h3, h4, h5, h6⟩ := prsT_rep em b
        cases a with
        | tup ha rs =>
          rename_i p ws
          cases rs with
          | cons r1 r2 =>
            cases r2 with
            | cons r3 r4 =>
              cases r4
              cases r1 with
              | tup hb rk =>
                rename_i bb wk
                have hk := rk.keys ek
                subst hk
                rename_i vv
                refine ⟨⟨p, k, bb, _⟩ :: es, by rw [h2]; rfl, fun e he => ?_, fun e he => ?_, by simp [h5], .cons r3 h6⟩
                · rcases List.mem_cons.mp he with rfl | he
                  · exact ha
                  · exact h3 e he
                · rcases List.mem_cons.mp he with rfl | he
                  · exact hb
                  · exact h4 e he
      · cases h
    · cases h
theorem KR_mergeT {K : PySem.W.Frag} {F : Hp} : ∀ {es : List PT} {ms : List (List Key × D)} {kvs : List (List Key × V)} {kds : List (List Key × D)}, es.map (·.k) = ms.map (·.1) → Reps K F (es.map (·.v)) (ms.map (·.2)) → KR K F kvs kds → KR K F (mergeT kvs es) (mergeDT kds ms)
  | [], [], kvs, kds, _, _, r => r
  | e :: es, m :: ms, kvs, kds, h, rs, r => by
    simp only [List.map_cons, List.cons.injEq] at h
    cases rs with
    | cons a b =>
      have : mergeT kvs (e :: es) = mergeT (putK kvs e.k e.v) es := rfl
      rw [this]
      show KR K F _ (mergeDT (putD kds m.1 m.2) ms)
      refine KR_mergeT h.2 b ?_
      rw [h.1]
      exact r.put a
  | [], _ :: _, _, _, h, _, _ => by simp at h
  | _ :: _, [], _, _, h, _, _ => by simp at h
def rDictT (ds : List D) (G : GH) (Q : DQ) : Prop := match ds with
  | [d] => (match d.cur G with
    | .lst xs => (match prsT xs with
      | some ms => Q (.dT (mergeDT [] ms)) G
      | none => False)
    | _ => False)
  | _ => False
theorem cd_dictT (hc : X.calm = true) (hu : X.A.units + 100 < cLine) : CallD X (.type "dict") rDictT := by
  refine ⟨_, cr_dictT hc hu, fun F H G vs ds g rs Q' h Q k => ?_⟩
  unfold rDictT at h
  split at h
  · rename_i d
    cases rs with
    | cons r b =>
      cases b
      split at h
      · rename_i xs ex
        split at h
        · rename_i ms em
          obtain ⟨a, ws, rfl, ha, rw'⟩ := cur_list g r ex
          obtain ⟨es, rfl, h3, h4, h5, h6⟩ := prsT_rep em rw'
          refine ⟨a, es, rfl, .inl (.inl ha), fun e he => g.ex _ _ (h3 e he), fun e he => g.ex _ _ (h4 e he), fun p hp => ?_⟩
          have gr := Gr.new (u := .dT (mergeT [] es)) g.ex hp
          have kr : KR X.K F (mergeT [] es) (mergeDT [] ms) := KR_mergeT h5 h6 ⟨rfl, .nil⟩
          have kr2 := kr.mono gr.ff
          exact k _ _ _ _ G gr.go (g.grow gr) (.dT upd_same kr2.ks kr2.vs) h
        · exact h.elim
      · exact h.elim
  · exact h.elim
end
end DL
end
section
set_option Elab.async false
set_option linter.all false
set_option maxRecDepth 100000
set_option maxHeartbeats 4000000
/-! DLp: another view of the things that change; the deck opened and closed. -/
namespace DL
open PySem PySem.Spec PyProof.Rows L2
/-- what is known of the heap by G is known by some G' x, too -/
def Cv (G : GH) {α : Type} (P : α → Prop) (G' : α → GH) : Prop := ∀ K F H, Gok K F H G → ∃ x, P x ∧ Gok K F H (G' x) ∧ ∀ b, G b = none → G' x b = none
def Cv1 (G G' : GH) : Prop := ∀ K F H, Gok K F H G → Gok K F H G' ∧ ∀ b, G b = none → G' b = none
theorem go_view {F H : Hp} {G G' : GH} (h : ∀ b, G b = none → G' b = none) : Go F H G F H G' := ⟨Ex.refl F, fun b u e g => ⟨e, h b g⟩, fun _ _ _ _ f _ => f, fun _ z => z⟩
section
variable {X : Cx} {pos : Pos}
def dIn (t : DTS) : DTS := fun D' S G => ∃ (α : Type) (P : α → Prop) (G' : α → GH), Cv G P G' ∧ ∀ x, P x → t D' S (G' x)
theorem dps_in {body : List Stmt} {t' : DTS} (h : DPs X body t') : DPs X body (dIn t') := by
  obtain ⟨t, p, r⟩ := h.ex
  refine ⟨t, p, fun F H σ S G o D' h D0 k => ?_⟩
  obtain ⟨α, P, G', cv, h⟩ := h
  obtain ⟨x, px, g, fr⟩ := cv X.K F H o.g
  exact r F H σ S (G' x) ⟨g, o.s⟩ D' (h x px) D0 (k.mono (go_view fr))
def outE (D' : DEnds) : DEnds := { nx := fun S G => ∃ G2, Cv1 G G2 ∧ D'.nx S G2, rt := fun d G => ∃ G2, Cv1 G G2 ∧ D'.rt d G2, bk := fun S G => ∃ G2, Cv1 G G2 ∧ D'.bk S G2, ct := fun S G => ∃ G2, Cv1 G G2 ∧ D'.ct S G2 }
def dOut (t : DTS) : DTS := fun D' S G => t (outE D') S G
theorem dps_out {body : List Stmt} {t' : DTS} (h : DPs X body t') : DPs X body (dOut t') := by
  obtain ⟨t, p, r⟩ := h.ex
  refine ⟨t, p, fun F H σ S G o D' h D0 k => r F H σ S G o (outE D') h D0 ⟨?_, ?_, ?_, ?_⟩⟩
  · rintro F1 H1 σ1 S1 G1 e1 o1 ⟨G2, cv, q⟩
    obtain ⟨g, fr⟩ := cv X.K F1 H1 o1.g
    exact k.nx F1 H1 σ1 S1 G2 (e1.trans (go_view fr)) ⟨g, o1.s⟩ q
  · rintro F1 H1 v d G1 e1 g1 r1 ⟨G2, cv, q⟩
    obtain ⟨g, fr⟩ := cv X.K F1 H1 g1
    exact k.rt F1 H1 v d G2 (e1.trans (go_view fr)) g r1 q
  · rintro F1 H1 σ1 S1 G1 e1 o1 ⟨G2, cv, q⟩
    obtain ⟨g, fr⟩ := cv X.K F1 H1 o1.g
    exact k.bk F1 H1 σ1 S1 G2 (e1.trans (go_view fr)) ⟨g, o1.s⟩ q
  · rintro F1 H1 σ1 S1 G1 e1 o1 ⟨G2, cv, q⟩
    obtain ⟨g, fr⟩ := cv X.K F1 H1 o1.g
    exact k.ct F1 H1 σ1 S1 G2 (e1.trans (go_view fr)) ⟨g, o1.s⟩ q
end
/-- what may stand in an open deck -/
structure Deck where
  c : Addr
  g : Int
  t : Int
  ns : List Int
def Deck.ok (x : Deck) (n : Nat) : Prop := 0 ≤ x.t ∧ x.t + n ≤ 1099511627776 ∧ 0 ≤ x.g ∧ x.g < 4294967296 ∧ x.ns.length ≤ 63
def openG (G : GH) (p : Addr) (k1 k2 k3 : Str) (x : Deck) : GH := gput (gput G x.c (.lst (x.ns.map .int))) p (.dK [(.inr k1, .rf x.c), (.inr k2, .int x.g), (.inr k3, .int x.t)])
theorem MRep.other {K : PySem.W.Frag} {F H : Hp} {G G' : GH} {a : Addr} {o : MO} (h : MRep K F H G a o) (nd : ∀ k1 k2 k3 n, o ≠ .deck k1 k2 k3 n) : MRep K F H G' a o := by
  cases o with
  | deck k1 k2 k3 n => exact absurd rfl (nd k1 k2 k3 n)
  | _ => exact h
theorem ints_vs {K : PySem.W.Frag} {F : Hp} {ns : List Int} {vs : List V} (r : Reps K F vs (ns.map .int)) : vs = ns.map V.int := by
  induction ns generalizing vs with
  | nil => cases r; rfl
  | cons n ns ih => cases r with
    | cons a b => cases a; rw [ih b]; rfl
theorem deck_open {G : GH} {p : Addr} {k1 k2 k3 : Str} {n : Nat} (h : G p = some (.deck k1 k2 k3 n)) : Cv G (fun x : Deck => x.ok n ∧ G x.c = some .dcell ∧ x.c ≠ p ∧ ∀ a, a ≠ p → ∀ j1 j2 j3 m, G a ≠ some (.deck j1 j2 j3 m)) (openG G p k1 k2 k3) := by
  intro K F H g
  obtain ⟨fp, c, g0, t, ns, hp, hc, gc, h1, h2, h3, h4, h5⟩ := g.at_ p _ h
  have ne : c ≠ p := fun z => by rw [z, h] at gc; cases gc
  refine ⟨⟨c, g0, t, ns⟩, ⟨⟨h1, h2, h3, h4, h5⟩, gc, ne, fun a na j1 j2 j3 m z => na (g.one a p _ _ _ _ _ _ _ _ z h)⟩, ⟨g.ex, fun a o e => ?_, fun a b j1 j2 j3 m i1 i2 i3 m2 e1 e2 => ?_⟩, fun b hb => ?_⟩
  · unfold openG at e
    by_cases q : a = p
    · subst q
      rw [gput_same] at e; cases e
      exact ⟨fp, _, hp, rfl, .cons (.rf c) (.cons (.int _) (.cons (.int _) .nil))⟩
    · rw [gput_ne q] at e
      by_cases q2 : a = c
      · subst q2
        rw [gput_same] at e; cases e
        exact ⟨(g.at_ a _ gc).1, _, hc, Reps.ints ns⟩
      · rw [gput_ne q2] at e
        obtain ⟨f, m⟩ := g.at_ a o e
        refine ⟨f, m.other fun j1 j2 j3 m z => ?_⟩
        subst z
        exact q (g.one a p _ _ _ _ _ _ _ _ e h)
  · have n1 : ∀ a j1 j2 j3 m, openG G p k1 k2 k3 ⟨c, g0, t, ns⟩ a ≠ some (.deck j1 j2 j3 m) := fun a j1 j2 j3 m z => by
      unfold openG at z
      by_cases q : a = p
      · subst q; rw [gput_same] at z; cases z
      · rw [gput_ne q] at z
        by_cases q2 : a = c
        · subst q2; rw [gput_same] at z; cases z
        · rw [gput_ne q2] at z
          exact q (g.one a p _ _ _ _ _ _ _ _ z h)
    exact absurd e1 (n1 a j1 j2 j3 m)
  · have q : b ≠ p := fun z => by rw [z, h] at hb; cases hb
    have q2 : b ≠ c := fun z => by rw [z, gc] at hb; cases hb
    unfold openG
    rw [gput_ne q, gput_ne q2]; exact hb
def NoDeck (G : GH) : Prop := ∀ a k1 k2 k3 n, G a ≠ some (.deck k1 k2 k3 n)
/-- shut: budget n -/
def shutG (G : GH) (p c : Addr) (k1 k2 k3 : Str) (n : Nat) : GH := gput (gput G c .dcell) p (.deck k1 k2 k3 n)
theorem deck_shut {G : GH} {p : Addr} {k1 k2 k3 : Str} {n : Nat} {x : Deck} (nd : NoDeck G) (hp : G p = some (.dK [(.inr k1, .rf x.c), (.inr k2, .int x.g), (.inr k3, .int x.t)])) (hc : G x.c = some (.lst (x.ns.map .int))) (ok : x.ok n) : Cv1 G (shutG G p x.c k1 k2 k3 n) := by
  intro K F H g
  obtain ⟨fp, kvs, e1, e2, e3⟩ := g.at_ p _ hp
  obtain ⟨fc, vs, f1, f2⟩ := g.at_ x.c _ hc
  have ne : x.c ≠ p := fun z => by rw [z, hp] at hc; cases hc
  have ev := ints_vs f2
  subst ev
  have ek : kvs = [(.inr k1, .ref x.c), (.inr k2, .int x.g), (.inr k3, .int x.t)] := by
    match kvs, e2, e3 with
    | [(a1, b1), (a2, b2), (a3, b3)], e2, e3 =>
      simp only [List.map_cons, List.map_nil, List.cons.injEq, and_true] at e2
      obtain ⟨rfl, rfl, rfl⟩ := e2
      cases e3 with
      | cons r1 r2 => cases r2 with
        | cons r3 r4 => cases r4 with
          | cons r5 r6 => cases r1; cases r3; cases r5; rfl
  subst ek
  obtain ⟨o1, o2, o3, o4, o5⟩ := ok
  refine ⟨⟨g.ex, fun a o e => ?_, fun a b j1 j2 j3 m i1 i2 i3 m2 z1 z2 => ?_⟩, fun b hb => ?_⟩
  · unfold shutG at e
    by_cases q : a = p
    · subst q
      rw [gput_same] at e; cases e
      refine ⟨fp, x.c, x.g, x.t, x.ns, e1, f1, ?_, o1, o2, o3, o4, o5⟩
      unfold shutG
      rw [gput_ne ne, gput_same]
    · rw [gput_ne q] at e
      by_cases q2 : a = x.c
      · subst q2
        rw [gput_same] at e; cases e
        exact ⟨fc, _, f1⟩
      · rw [gput_ne q2] at e
        obtain ⟨f, m⟩ := g.at_ a o e
        exact ⟨f, m.other fun j1 j2 j3 m z => nd a j1 j2 j3 m (z ▸ e)⟩
  · have n1 : ∀ a j1 j2 j3 m, shutG G p x.c k1 k2 k3 n a = some (.deck j1 j2 j3 m) → a = p := fun a j1 j2 j3 m z => by
      unfold shutG at z
      by_cases q : a = p
      · exact q
      · rw [gput_ne q] at z
        by_cases q2 : a = x.c
        · subst q2; rw [gput_same] at z; cases z
        · rw [gput_ne q2] at z; exact absurd z (nd a j1 j2 j3 m)
    rw [n1 _ _ _ _ _ z1, n1 _ _ _ _ _ z2]
  · have q : b ≠ p := fun z => by rw [z, hp] at hb; cases hb
    have q2 : b ≠ x.c := fun z => by rw [z, hc] at hb; cases hb
    unfold shutG
    rw [gput_ne q, gput_ne q2]; exact hb
/-- one draw taken -/
theorem shut_open {G : GH} {p c : Addr} {k1 k2 k3 : Str} {m n : Nat} {o1 o2 : MO} (h : G p = some (.deck k1 k2 k3 m)) (hc : G c = some .dcell) (ne : c ≠ p) : shutG (gput (gput G c o1) p o2) p c k1 k2 k3 n = gput G p (.deck k1 k2 k3 n) := by
  funext b
  unfold shutG
  by_cases q : b = p
  · subst q; rw [gput_same, gput_same]
  · rw [gput_ne q, gput_ne q]
    by_cases q2 : b = c
    · subst q2; rw [gput_same, hc]
    · rw [gput_ne q2, gput_ne q, gput_ne q2]
theorem open_nodeck {G : GH} {p : Addr} {k1 k2 k3 : Str} {x : Deck} (nd : ∀ a, a ≠ p → ∀ j1 j2 j3 m, G a ≠ some (.deck j1 j2 j3 m)) : NoDeck (openG G p k1 k2 k3 x) := by
  intro a j1 j2 j3 m z
  unfold openG at z
  by_cases q : a = p
  · subst q; rw [gput_same] at z; cases z
  · rw [gput_ne q] at z
    by_cases q2 : a = x.c
    · subst q2; rw [gput_same] at z; cases z
    · rw [gput_ne q2] at z; exact nd a q j1 j2 j3 m z
theorem deck_close {G : GH} {p : Addr} {k1 k2 k3 : Str} {m n : Nat} {x : Deck} (h : G p = some (.deck k1 k2 k3 m)) (gc : G x.c = some .dcell) (ne : x.c ≠ p) (nd : ∀ a, a ≠ p → ∀ j1 j2 j3 m, G a ≠ some (.deck j1 j2 j3 m)) (ok : x.ok n) :
    Cv1 (openG G p k1 k2 k3 x) (gput G p (.deck k1 k2 k3 n)) := by
  have := deck_shut (G := openG G p k1 k2 k3 x) (p := p) (k1 := k1) (k2 := k2) (k3 := k3) (n := n) (x := x) (open_nodeck nd) gput_same (by unfold openG; rw [gput_ne ne, gput_same]) ok
  unfold openG at this
  rw [shut_open h gc ne] at this
  exact this
end DL
end
section
set_option Elab.async false
set_option linter.all false
set_option maxRecDepth 100000
/-! DLq: the later transformers at all their arguments. -/
namespace DL
open PySem PySem.Spec PyProof.Rows L2
theorem dx2 : (∀ (tk tv : DTE) (S : DS) (G : GH) (Q : DQ), dDispT tk tv S G Q = (tk S G fun k G1 => tv S G1 fun v G2 => match k with
    | .tup ds => (match D.keys ds with
      | some ks => ∀ p, G2 p = none → Q (.rf p) (gput G2 p (.dT [(ks, v)]))
      | none => False)
    | _ => False)) ∧
  (∀ (te : DTE) (S : DS) (G : GH) (Q : DQ), dSortSet te S G Q = (te S G fun d G1 => match d.cur G1 with
    | .lst xs => (match intsD xs with
      | some ns => ns.length < 64 ∧ Q (.lst ((isort1 ns).map .int)) G1
      | none => False)
    | _ => False)) ∧
  (∀ (sp : SpD) (n m : Nat) (js : List Nat) (ta tk : DTA) (S : DS) (G : GH) (Q : DQ), dCallK sp n m js ta tk S G Q = (ta S G fun ds G1 => tk S G1 fun zs G2 => (ds.length = n ∧ zs.length = m) ∧ sp (perm .non js ds zs) G2 Q)) ∧
  (∀ (t : DTS) (D' : DEnds) (S : DS) (G : GH), dOut t D' S G = t (outE D') S G) ∧
  (∀ (te : DTE) (S : DS) (G : GH) (R : List D → (GH → Prop) → GH → Prop), diKeysT te S G R = (te S G fun d G1 => match d with
    | .rf p => (match G1 p with
      | some (.lkT o kvs kds) => R (kds.map fun kv => ktD kv.1) (fun G => G p = some (.lkT o kvs kds)) G1
      | _ => False)
    | _ => False)) := ⟨fun _ _ _ _ _ => rfl, fun _ _ _ _ => rfl, fun _ _ _ _ _ _ _ _ _ => rfl, fun _ _ _ _ => rfl, fun _ _ _ _ => rfl⟩
theorem gput_comm {G : GH} {a b : Addr} {o o' : MO} (h : a ≠ b) : gput (gput G a o) b o' = gput (gput G b o') a o := by
  funext c
  by_cases q : c = a
  · subst q; rw [gput_ne h, gput_same, gput_same]
  · rw [gput_ne q]
    by_cases q2 : c = b
    · subst q2; rw [gput_same, gput_same]
    · rw [gput_ne q2, gput_ne q2, gput_ne q]
/-- a thing changed under another -/
theorem gput_under {G : GH} {a b : Addr} {o o' o2 : MO} (h : a ≠ b) : gput (gput (gput G a o) b o') a o2 = gput (gput G a o2) b o' := by
  rw [gput_comm h, gput_gput, ← gput_comm h]
theorem sub_new2 {G : GH} {p z : Addr} {o o' : MO} (hp : G p = none) (hz : G z = none) (ne : z ≠ p) (h1 : o.isDeck = false) (h2 : o'.isDeck = false) : Sub G (gput (gput G p o) z o') :=
  (sub_new hp h1).trans (sub_new (by rw [gput_ne ne]; exact hz) h2)
theorem item_dT (kds : List (List Key × D)) (ds : List D) : D.item (.dT kds) (.tup ds) = ((D.keys ds).map (valD kds)).join := rfl
theorem item_dKs (kds : List (Key × D)) (x : Str) : D.item (.dK kds) (.str x) = valD kds (.inr x) := rfl
theorem item_dKi (kds : List (Key × D)) (n : Int) : D.item (.dK kds) (.int n) = valD kds (.inl n) := rfl
theorem item_tup (xs : List D) (n : Int) : D.item (.tup xs) (.int n) = atI xs n := rfl
theorem item_lst (xs : List D) (n : Int) : D.item (.lst xs) (.int n) = atI xs n := rfl
theorem inn_dT (kds : List (List Key × D)) (ds : List D) : D.inn (.tup ds) (.dT kds) = ((D.keys ds).map (valD kds)).map Option.isSome := rfl
/-- a comprehension that only looks -/
theorem lc_some {ds : List D} {gd : GH → Prop} {p : Pat} {tt : DTT} {te : DTE} {vs : List Nat} {S : DS} {G : GH} {Q : DQ} (b : D → Bool) (f : D → D) (hz : ds.length ≤ sizeLine) (hg : gd G)
    (h : ∀ d ∈ ds, ∃ S2, p.put d (dwipe S vs) = some S2 ∧ (∀ Q : Bool → GH → Prop, Q (b d) G → tt S2 G Q) ∧ (b d = true → ∀ Q : DQ, Q (f d) G → te S2 G Q)) (q : Q (.lst ((ds.filter b).map f)) G) : LcB ds gd p tt te vs S G Q := by
  refine ⟨hz, fun i acc G' => G' = G ∧ acc = ((ds.take i).filter b).map f, ⟨rfl, by simp⟩, fun _ _ _ z => z.1 ▸ hg, ?_, ?_⟩
  · rintro i acc G' d ⟨rfl, rfl⟩ hd
    obtain ⟨S2, h1, h2, h3⟩ := h d (List.mem_of_getElem? hd)
    have e : ds.take (i + 1) = ds.take i ++ [d] := by rw [List.take_add_one, hd]; rfl
    refine ⟨S2, h1, h2 _ ?_⟩
    cases hb : b d with
    | true =>
      rw [if_pos rfl]
      refine h3 hb _ ⟨rfl, ?_⟩
      rw [e, List.filter_append, List.map_append]
      simp [hb]
    | false =>
      rw [if_neg Bool.false_ne_true]
      refine ⟨rfl, ?_⟩
      rw [e, List.filter_append, List.map_append]
      simp [hb]
  · rintro acc G' ⟨rfl, rfl⟩
    rw [List.take_length]
    exact q
theorem lc_map {ds : List D} {gd : GH → Prop} {p : Pat} {te : DTE} {vs : List Nat} {S : DS} {G : GH} {Q : DQ} (f : D → D) (hz : ds.length ≤ sizeLine) (hg : gd G)
    (h : ∀ d ∈ ds, ∃ S2, p.put d (dwipe S vs) = some S2 ∧ ∀ Q : DQ, Q (f d) G → te S2 G Q) (q : Q (.lst (ds.map f)) G) : LcB ds gd p dYes te vs S G Q := by
  refine lc_some (fun _ => true) f hz hg (fun d hd => ?_) (by rw [show ds.filter (fun _ => true) = ds from List.filter_eq_self.mpr fun _ _ => rfl]; exact q)
  obtain ⟨S2, h1, h2⟩ := h d hd
  exact ⟨S2, h1, fun Q z => z, fun _ => h2⟩
/-! ### a class by its contract -/
structure Mak (P : Program) (w : World) (K : PySem.W.Frag) (mg : Str → Option Value) (base : Heap) (x : Str) (C : Addr) (k : Nat) (ps : List Str) (sp : SpD) : Prop where
  ex : ∃ f fd, Mk K C f ∧ FnG P w K mg base CX0 k f fd ps (SpOf K sp) ∧ mg x = some (.ref C) ∧ Binds K fd ps []
theorem de_mak {X : Cx} {pos : Pos} {x : Str} {C : Addr} {k : Nat} {ps : List Str} {sp : SpD} {p : Pos} {e : Expr} {es : List Expr} {ta : DTA} (c : Mak X.prog X.w X.K X.mg X.base x C k ps sp) (hA : X.A.guards = some []) (hr : Room (k + 1) X.A) (ha : DA X (e :: es) ta) (hg : Gl X x := by rfl) (hdb : (x == ("__debug__" : Str)) = false := by decide)
    (he : starEach (e :: es) X.env = (false, eval e X.env) :: starEach es X.env := by rfl) (hpl : (backTo pos (starEach es X.env)).any (·.1) = false := by rfl) : DE X (.Call (.Name x p) (e :: es) [] pos) (dCold (dMake C sp ta)) := by
  obtain ⟨f, fd, M, Fn, hm, hb⟩ := c.ex
  exact de_cold (de_make M Fn hA hr hg hm hb ha hdb he hpl)
/-- the __init__ of the class at C -/
structure DefI (K : PySem.W.Frag) (C : Addr) (qual : Str) (st : Stmt) : Prop where
  ex : ∃ f fd, Fun K "__init__" qual st f fd ∧ Mk K C f
theorem mak_mk {P : Program} {w : World} {K : PySem.W.Frag} {mg : Str → Option Value} {base : Heap} {x qual : Str} {C : Addr} {st : Stmt} {N ps : List Str} {k : Nat} {sp : SpD} (d : DefI K C qual st) (hm : mg x = some (.ref C)) (sc : FnScope N ps (defScope st)) (len : ∀ ds G Q, sp ds G Q → ds.length = ps.length)
    (bi : ∀ (kV doc pm : Value) (an : Option Addr) (cdv ct : Value) (us : List Value), us.length = ps.length → bindArgs (PySem.W.fnOf "__init__" qual (defArgs st) (defBody st) (defScope st) .none kV doc pm an cdv ct) ⟨us, []⟩ = pure (ps.zip us))
    (hb : ∀ (f : Addr) (cdv : Value) (A : Around) (outer : List Env) (s : Shared) (H : Hp) (E : XK), A.guards = some [] → Room k (A.deeper (envOfC qual (defScope st) s.heap.objs.size f cdv)) →
      ∃ t', DPs (cxOf CX0 P w K mg base N qual (defScope st) f cdv A outer s H E).nox (defBody st) t' ∧ ∀ ds G Q, sp ds G Q → t' (fin Q) (dstart N ds) G) : Mak P w K mg base x C (k + 1) ps sp := by
  obtain ⟨f, fd, Fu, M⟩ := d.ex
  exact ⟨f, fd, M, fn_mk Fu sc len (hb f), hm, Fu.binds bi⟩
theorem dx3 : (∀ (x : Str) (G : GH) (Q : DQ), rIsiD [.str x, .ty "str"] G Q = Q (.bl true) G) ∧ (∀ (x : Int) (G : GH) (Q : DQ), rIsiD [.int x, .ty "int"] G Q = Q (.bl true) G) ∧ (∀ (x : Int) (G : GH) (Q : DQ), rIsiD [.int x, .ty "bool"] G Q = Q (.bl false) G) ∧
  (∀ (xs : List D) (G : GH) (Q : DQ), rIsiD [.tup xs, .ty "tuple"] G Q = Q (.bl true) G) ∧
  (∀ (xs : List D) (G : GH) (Q : DQ), rTupleD [.lst xs] G Q = Q (.tup xs) G) ∧ (∀ (xs : List D) (G : GH) (Q : DQ), rTupleD [.tup xs] G Q = Q (.tup xs) G) ∧
  (∀ (xs : List D) (G : GH) (Q : DQ), rLenD [.lst xs] G Q = Q (.int (xs.length : Nat)) G) ∧ (∀ (xs : List D) (G : GH) (Q : DQ), rLenD [.tup xs] G Q = Q (.int (xs.length : Nat)) G) ∧
  (∀ (i : Int) (G : GH) (Q : DQ), rIntC [.int i] G Q = Q (.int i) G) ∧
  (∀ (x : Str) (lo hi : Option Int) (G : GH) (Q : DQ), rSlice (.str x) lo hi G Q = (x.length ≤ sizeLine ∧ Q (.str (cutS x lo hi)) G)) ∧
  (∀ (xs : List D) (lo hi : Option Int) (G : GH) (Q : DQ), rSlice (.tup xs) lo hi G Q = Q (.tup (DL.cutD xs lo hi)) G) ∧
  (∀ (xs : List D) (lo hi : Option Int) (G : GH) (Q : DQ), rSlice (.lst xs) lo hi G Q = Q (.lst (DL.cutD xs lo hi)) G) ∧
  (∀ (ns : List Int) (lo hi : Option Int) (G : GH) (Q : DQ), rSlice (.scr ns) lo hi G Q = Q (.lst ((DL.cutD ns lo hi).map .int)) G) ∧
  (∀ (i j : Int) (G : GH) (Q : DQ), rAddD (.int i) (.int j) G Q = Q (.int (i + j)) G) ∧
  (∀ (a b : Str) (G : GH) (Q : DQ), rAddD (.str a) (.str b) G Q = (a.length + b.length ≤ sizeLine ∧ Q (.str (a ++ b)) G)) ∧
  (∀ (a b : List D) (G : GH) (Q : DQ), rAddD (.tup a) (.tup b) G Q = (a.length + b.length ≤ sizeLine ∧ Q (.tup (a ++ b)) G)) ∧
  (∀ (i j : Int) (G : GH) (Q : DQ), rMulD (.int i) (.int j) G Q = (CMul i j ∧ Q (.int (i * j)) G)) ∧
  (∀ (b : Bool), (!(!b)) = b) ∧ (∀ (x y : D), okE x y = true ∧ True ↔ okE x y = true) :=
  ⟨fun _ _ _ => rfl, fun _ _ _ => rfl, fun _ _ _ => rfl, fun _ _ _ => rfl, fun _ _ _ => rfl, fun _ _ _ => rfl, fun _ _ _ => rfl, fun _ _ _ => rfl, fun _ _ _ => rfl, fun _ _ _ _ _ => rfl, fun _ _ _ _ _ => rfl, fun _ _ _ _ _ => rfl, fun _ _ _ _ _ => rfl, fun _ _ _ _ => rfl, fun _ _ _ _ => rfl, fun _ _ _ _ => rfl, fun _ _ _ _ => rfl, fun b => by cases b <;> rfl, fun _ _ => by simp⟩
theorem len_str {x : Str} (h : x.length ≤ sizeLine) (G : GH) (Q : DQ) : rLenD [.str x] G Q = Q (.int (x.length : Nat)) G := by
  simp [rLenD, D.cur, D.len, h]
theorem all_map {α : Type} (f : α → Bool) (l : List α) (G : GH) (Q : DQ) : rAllD [.lst (l.map fun x => .bl (f x))] G Q = Q (.bl (l.all f)) G := by
  have e : bools (l.map fun x => D.bl (f x)) = some (l.map f) := by
    rw [← bools_map, List.map_map]; rfl
  show (match bools (l.map fun x => D.bl (f x)) with | some bs => Q (.bl (bs.all id)) G | none => False) = _
  rw [e]
  simp [List.all_map]
theorem inn_str (x z : Str) : D.inn (.str x) (.str z) = some (strIn x z) := rfl
theorem lc_someA {α : Type} {ds : List D} {gd : GH → Prop} {p : Pat} {tt : DTT} {te : DTE} {vs : List Nat} {S : DS} {G : GH} {Q : DQ} (l : List α) (g : α → D) (b : α → Bool) (f : α → D) (e0 : ds = l.map g) (hz : l.length ≤ sizeLine) (hg : gd G)
    (h : ∀ a ∈ l, ∃ S2, p.put (g a) (dwipe S vs) = some S2 ∧ (∀ Q : Bool → GH → Prop, Q (b a) G → tt S2 G Q) ∧ (b a = true → ∀ Q : DQ, Q (f a) G → te S2 G Q)) (q : Q (.lst ((l.filter b).map f)) G) : LcB ds gd p tt te vs S G Q := by
  subst e0
  refine ⟨by simpa using hz, fun i acc G' => G' = G ∧ acc = ((l.take i).filter b).map f, ⟨rfl, by simp⟩, fun _ _ _ z => z.1 ▸ hg, ?_, ?_⟩
  · rintro i acc G' d ⟨rfl, rfl⟩ hd
    rw [List.getElem?_map] at hd
    cases ei : l[i]? with
    | none => rw [ei] at hd; cases hd
    | some a =>
      rw [ei] at hd
      cases hd
      obtain ⟨S2, h1, h2, h3⟩ := h a (List.mem_of_getElem? ei)
      have e : l.take (i + 1) = l.take i ++ [a] := by rw [List.take_add_one, ei]; rfl
      refine ⟨S2, h1, h2 _ ?_⟩
      cases hb : b a with
      | true =>
        rw [if_pos rfl]
        refine h3 hb _ ⟨rfl, ?_⟩
        rw [e, List.filter_append, List.map_append]
        simp [hb]
      | false =>
        rw [if_neg Bool.false_ne_true]
        refine ⟨rfl, ?_⟩
        rw [e, List.filter_append, List.map_append]
        simp [hb]
  · rintro acc G' ⟨rfl, rfl⟩
    rw [List.length_map, List.take_length]
    exact q
theorem lc_mapA {α : Type} {ds : List D} {gd : GH → Prop} {p : Pat} {te : DTE} {vs : List Nat} {S : DS} {G : GH} {Q : DQ} (l : List α) (g : α → D) (f : α → D) (e0 : ds = l.map g) (hz : l.length ≤ sizeLine) (hg : gd G)
    (h : ∀ a ∈ l, ∃ S2, p.put (g a) (dwipe S vs) = some S2 ∧ ∀ Q : DQ, Q (f a) G → te S2 G Q) (q : Q (.lst (l.map f)) G) : LcB ds gd p dYes te vs S G Q := by
  refine lc_someA l g (fun _ => true) f e0 hz hg (fun a ha => ?_) (by rw [show l.filter (fun _ => true) = l from List.filter_eq_self.mpr fun _ _ => rfl]; exact q)
  obtain ⟨S2, h1, h2⟩ := h a ha
  exact ⟨S2, h1, fun Q z => z, fun _ => h2⟩
theorem zip_map {α β γ : Type} (f : α → β → γ) : ∀ (l : List α) (m : List β), List.zipWith f l m = (l.zip m).map fun p => f p.1 p.2
  | [], _ => by simp
  | _ :: _, [] => by simp
  | a :: l, b :: m => by simp [zip_map f l m]
end DL
end
section
set_option Elab.async false
set_option linter.all false
set_option maxRecDepth 100000
set_option maxHeartbeats 4000000
/-! R0: the data of rules; states behind a letter. -/
namespace Pace
open PySem PySem.Spec PyProof.Rows L2 DL
/-- a move: heard letter, written letter (codes), state -/
structure Mv where
  h : Nat
  c : Nat
  t : Nat
  deriving DecidableEq
def Mv.d (m : Mv) : D := .tup [.str (sgn m.h), .str (sgn m.c), .int (m.t : Int)]
def rowD (r : List Mv) : D := .tup (r.map Mv.d)
def rowsD (rs : List (List Mv)) : D := .tup (rs.map rowD)
def natsD (ns : List Nat) : List D := ns.map fun (n : Nat) => D.int (n : Int)
structure Rul where
  heard : Str
  written : Str
  rows : List (List Mv)
def stepsD (rs : List (List Mv)) : D := .lst (rs.map fun r => .dT (r.map fun m => ([.inr (sgn m.h), .inr (sgn m.c)], .int (m.t : Int))))
def rulF (R : Rul) : List (Str × D) := [("heard", .str R.heard), ("written", .str R.written), ("rows", rowsD R.rows), ("steps", stepsD R.rows)]
def rulD (C : Addr) (R : Rul) : D := .obj C (rulF R)
theorem rulF_heard (R : Rul) : (rulF R).lookup ("heard" : Str) = some (.str R.heard) := rfl
theorem rulF_written (R : Rul) : (rulF R).lookup ("written" : Str) = some (.str R.written) := rfl
theorem rulF_rows (R : Rul) : (rulF R).lookup ("rows" : Str) = some (rowsD R.rows) := rfl
theorem rulF_steps (R : Rul) : (rulF R).lookup ("steps" : Str) = some (stepsD R.rows) := rfl
/-- what Python's rules ask, as far as the walk needs it -/
structure Rul.Ok (R : Rul) : Prop where
  few : R.rows.length ≤ 1000
  at_ : ∀ r ∈ R.rows, r.length ≤ 1000 ∧ ∀ m ∈ r, m.t < R.rows.length
def hits (rs : List (List Mv)) (s c : Nat) : List Nat := ((rs.getD s []).filter fun m => m.h == c).map (·.t)
def nins (a : Nat) : List Nat → List Nat
  | [] => [a]
  | b :: l => if a ≤ b then a :: b :: l else b :: nins a l
def nsort : List Nat → List Nat
  | [] => []
  | a :: l => nins a (nsort l)
theorem nins_perm (a : Nat) : ∀ l : List Nat, (nins a l).Perm (a :: l)
  | [] => .refl _
  | b :: l => by
    unfold nins
    split
    · exact .refl _
    · exact ((nins_perm a l).cons b).trans (.swap a b l)
theorem nsort_perm : ∀ l : List Nat, (nsort l).Perm l
  | [] => .refl _
  | a :: l => (nins_perm a (nsort l)).trans ((nsort_perm l).cons a)
theorem nins_le (a : Nat) : ∀ l : List Nat, l.Pairwise (· ≤ ·) → (nins a l).Pairwise (· ≤ ·)
  | [], _ => by simp [nins]
  | b :: l, h => by
    unfold nins
    rw [List.pairwise_cons] at h
    split
    · rename_i hab
      refine List.pairwise_cons.mpr ⟨fun c hc => ?_, List.pairwise_cons.mpr h⟩
      rcases List.mem_cons.mp hc with rfl | hc
      · exact hab
      · have := h.1 c hc; omega
    · rename_i hab
      refine List.pairwise_cons.mpr ⟨fun c hc => ?_, nins_le a l h.2⟩
      rcases List.mem_cons.mp ((nins_perm a l).mem_iff.mp hc) with rfl | hc
      · omega
      · exact h.1 c hc
theorem nsort_le : ∀ l : List Nat, (nsort l).Pairwise (· ≤ ·)
  | [] => .nil
  | a :: l => nins_le a _ (nsort_le l)
/-- the states behind a letter -/
def behind (rs : List (List Mv)) (ss : List Nat) (c : Nat) : List Nat := nsort (firstsF (ss.flatMap fun s => hits rs s c))

theorem addF_lt {n : Nat} {ks : List Nat} {t : Nat} (h : ∀ k ∈ ks, k < n) (ht : t < n) : ∀ k ∈ addF ks t, k < n := by
  unfold addF
  split
  · exact h
  · intro k hk
    rcases List.mem_append.mp hk with hk | hk
    · exact h k hk
    · simp at hk; omega
/-- the pairs of the dict -/
def kds (ks : List Nat) : List (Key × D) := ks.map fun (t : Nat) => (.inl (t : Int), .bl true)
theorem kds_put (ks : List Nat) (t : Nat) : putD (kds ks) (.inl (t : Int)) (.bl true) = kds (addF ks t) := by
  have e : ((kds ks).any fun kv => decide (kv.1 = (Sum.inl (t : Int) : Key))) = decide (t ∈ ks) := by
    unfold kds
    rw [List.any_map]
    rw [Bool.eq_iff_iff]
    simp only [List.any_eq_true, Function.comp, decide_eq_true_eq]
    constructor
    · rintro ⟨x, hx, e⟩
      have e' : (x : Int) = (t : Int) := Sum.inl.inj e
      have : x = t := by omega
      exact this ▸ hx
    · intro h
      exact ⟨t, h, rfl⟩
  unfold putD addF
  rw [e]
  by_cases h : t ∈ ks
  · rw [if_pos (decide_eq_true h), if_pos h]
    unfold kds
    rw [List.map_map]
    apply List.map_congr_left
    intro x hx
    simp only [Function.comp]
    split
    · rfl
    · rfl
  · rw [if_neg (by simp [h]), if_neg h]
    simp [kds]
theorem kds_ints (ks : List Nat) : intKeys (kds ks) = some (ks.map fun (t : Nat) => (t : Int)) := by
  induction ks with
  | nil => rfl
  | cons t ks ih =>
    have : kds (t :: ks) = (.inl (t : Int), .bl true) :: kds ks := rfl
    rw [this]
    simp [intKeys, ih]
theorem isort_nat (ks : List Nat) : ((ks.map fun (t : Nat) => (t : Int)).mergeSort (· ≤ ·)).map D.int = natsD (nsort ks) := by
  have e : (nsort ks).map (fun (t : Nat) => (t : Int)) = (ks.map fun (t : Nat) => (t : Int)).mergeSort (· ≤ ·) := by
    refine isort_uniq ((nsort_perm ks).map _) ?_
    rw [List.pairwise_map]
    exact (nsort_le ks).imp fun h => by omega
  rw [← e, List.map_map]
  rfl
theorem nodup_lt_len {n : Nat} {ks : List Nat} (h : ks.Nodup) (hl : ∀ k ∈ ks, k < n) : ks.length ≤ n := by
  have := List.Nodup.length_le_of_subset h (l₂ := List.range n) (fun k hk => List.mem_range.mpr (hl k hk))
  simpa using this
theorem natsD_get {ns : List Nat} {i : Nat} {d : D} (h : (natsD ns)[i]? = some d) : ∃ n, ns[i]? = some n ∧ d = .int (n : Int) := by
  unfold natsD at h
  rw [List.getElem?_map] at h
  cases e : ns[i]? with
  | none => rw [e] at h; cases h
  | some n => rw [e] at h; cases h; exact ⟨n, rfl, rfl⟩
theorem sgn_inj {a b : Nat} (h : sgn a = sgn b) : a = b := by
  have : (sgn a).cps.toList = (sgn b).cps.toList := by rw [h]
  simpa [sgn] using this
theorem sgn_beq (a b : Nat) : (sgn a == sgn b) = (a == b) := by
  rw [Bool.eq_iff_iff]
  simp only [beq_iff_eq]
  exact ⟨sgn_inj, fun h => by rw [h]⟩
theorem hu100 {k : Nat} {A : Around} (hr : Room k A) : A.units + 100 < cLine := by have := hr.un; omega
end Pace
end
section
set_option Elab.async false
set_option linter.all false
set_option maxRecDepth 100000
set_option maxHeartbeats 4000000
/-! M0: speeches that have no caption, by breadth; plain. -/
namespace Pace
open PySem PySem.Spec PyProof.Rows L2 DL
theorem sz {n : Nat} (h : n ≤ 5000) : n ≤ sizeLine := by rw [sizeLine_eq]; omega
theorem szl {n : Nat} (h : n ≤ 5000) : n < sizeLine := by rw [sizeLine_eq]; omega
/-- what is reached by a speech -/
def run (rs : List (List Mv)) (ss : List Nat) (cs : List Nat) : List Nat := cs.foldl (behind rs) ss
theorem behind_mem {rs : List (List Mv)} {ss : List Nat} {c k : Nat} : k ∈ behind rs ss c ↔ ∃ s ∈ ss, ∃ m ∈ rs.getD s [], m.h = c ∧ m.t = k := by
  unfold behind
  rw [(nsort_perm _).mem_iff, firstsF_mem]
  simp [hits, and_assoc]
theorem behind_lt {rs : List (List Mv)} {n : Nat} (h : ∀ r ∈ rs, ∀ m ∈ r, m.t < n) {ss : List Nat} {c : Nat} : ∀ k ∈ behind rs ss c, k < n := by
  intro k hk
  obtain ⟨s, _, m, hm, _, rfl⟩ := behind_mem.mp hk
  cases e : rs[s]? with
  | none => simp [List.getD, e] at hm
  | some r =>
    simp [List.getD, e] at hm
    exact h r (List.mem_of_getElem? e) m hm
theorem lt_of_le_nd : ∀ {l : List Nat}, l.Pairwise (· ≤ ·) → l.Nodup → l.Pairwise (· < ·)
  | [], _, _ => .nil
  | a :: l, h, nd => by
    rw [List.pairwise_cons] at h
    rw [List.nodup_cons] at nd
    refine List.pairwise_cons.mpr ⟨fun b hb => ?_, lt_of_le_nd h.2 nd.2⟩
    have h1 := h.1 b hb
    have h2 : a ≠ b := fun e => nd.1 (e ▸ hb)
    omega
theorem behind_sorted {rs : List (List Mv)} {ss : List Nat} {c : Nat} : (behind rs ss c).Pairwise (· < ·) := by
  unfold behind
  refine lt_of_le_nd (nsort_le _) ?_
  exact (nsort_perm _).nodup_iff.mpr (firstsF_nodup _)
/-- the sets of numbers below n -/
def subs : Nat → List (List Nat)
  | 0 => [[]]
  | n + 1 => subs n ++ (subs n).map (· ++ [n])
theorem subs_len : ∀ n, (subs n).length = 2 ^ n
  | 0 => rfl
  | n + 1 => by simp [subs, subs_len n]; omega
theorem subs_mem : ∀ (n : Nat) (l : List Nat), l.Pairwise (· < ·) → (∀ k ∈ l, k < n) → l ∈ subs n
  | 0, l, _, h => by
    cases l with
    | nil => simp [subs]
    | cons a l => exact absurd (h a (by simp)) (by omega)
  | n + 1, l, hp, h => by
    rcases List.eq_nil_or_concat l with rfl | ⟨l', a, rfl⟩
    · exact List.mem_append.mpr (.inl (subs_mem n [] .nil (by simp)))
    · rw [List.concat_eq_append] at *
      rw [List.pairwise_append] at hp
      obtain ⟨h1, _, h3⟩ := hp
      have ha := h a (by simp)
      by_cases e : a = n
      · subst e
        refine List.mem_append.mpr (.inr (List.mem_map.mpr ⟨l', subs_mem a l' h1 fun k hk => h3 k hk a (by simp), rfl⟩))
      · refine List.mem_append.mpr (.inl (subs_mem n _ (List.pairwise_append.mpr ⟨h1, by simp, h3⟩) fun k hk => ?_))
        rcases List.mem_append.mp hk with hk | hk
        · have := h3 k hk a (by simp); omega
        · simp at hk; omega
theorem sets_len {ls : List (List Nat)} {n : Nat} (nd : ls.Nodup) (h : ∀ l ∈ ls, l.Pairwise (· < ·) ∧ ∀ k ∈ l, k < n) : ls.length ≤ 2 ^ n := by
  rw [← subs_len n]
  exact List.Nodup.length_le_of_subset nd fun l hl => subs_mem n l (h l hl).1 (h l hl).2

/-- sets met, each with its speech -/
abbrev Ord := List (List Nat × List Nat)
def stepL (rs : List (List Mv)) (here : List Nat × List Nat) : Ord → List Nat → List Nat ⊕ Ord
  | ord, [] => .inr ord
  | ord, c :: cs => if behind rs here.1 c = [] then .inl (here.2 ++ [c]) else if behind rs here.1 c ∈ ord.map (·.1) then stepL rs here ord cs else stepL rs here (ord ++ [(behind rs here.1 c, here.2 ++ [c])]) cs
theorem stepL_nil {rs : List (List Mv)} {here : List Nat × List Nat} {ord : Ord} : stepL rs here ord [] = .inr ord := rfl
theorem stepL_cons {rs : List (List Mv)} {here : List Nat × List Nat} {ord : Ord} {c : Nat} {cs : List Nat} : stepL rs here ord (c :: cs) = if behind rs here.1 c = [] then .inl (here.2 ++ [c]) else if behind rs here.1 c ∈ ord.map (·.1) then stepL rs here ord cs else stepL rs here (ord ++ [(behind rs here.1 c, here.2 ++ [c])]) cs := rfl
def bfs (rs : List (List Mv)) (hs : List Nat) : Nat → Nat → Ord → Option (List Nat)
  | 0, _, _ => none
  | f + 1, i, ord => match ord[i]? with
    | none => none
    | some here => match stepL rs here ord hs with
      | .inl p => some p
      | .inr ord' => bfs rs hs f (i + 1) ord'
def muteOf (rs : List (List Mv)) (hs : List Nat) : Option (List Nat) := bfs rs hs (2 ^ rs.length) 0 [([0], [])]
structure OrdOk (rs : List (List Mv)) (hs : List Nat) (ord : Ord) : Prop where
  nd : (ord.map (·.1)).Nodup
  st : ∀ x ∈ ord, x.1.Pairwise (· < ·) ∧ ∀ k ∈ x.1, k < rs.length
  ln : ∀ (i : Nat) (x : List Nat × List Nat), ord[i]? = some x → x.2.length ≤ i
  rn : ∀ x ∈ ord, run rs [0] x.2 = x.1 ∧ x.1 ≠ [] ∧ ∀ c ∈ x.2, c ∈ hs
theorem OrdOk.len {rs : List (List Mv)} {hs : List Nat} {ord : Ord} (h : OrdOk rs hs ord) : ord.length ≤ 2 ^ rs.length := by
  have := sets_len (ls := ord.map (·.1)) (n := rs.length) h.nd fun l hl => by
    obtain ⟨x, hx, rfl⟩ := List.mem_map.mp hl
    exact h.st x hx
  simpa using this
theorem OrdOk.start {rs : List (List Mv)} {hs : List Nat} (h : 0 < rs.length) : OrdOk rs hs [([0], [])] where
  nd := by simp
  st := fun x hx => by simp at hx; subst hx; exact ⟨by simp, by simpa using h⟩
  ln := fun i x hx => by
    cases i with
    | zero => simp at hx; subst hx; simp
    | succ i => simp at hx
  rn := fun x hx => by simp at hx; subst hx; exact ⟨rfl, by simp, by simp⟩
theorem run_lt {rs : List (List Mv)} {n : Nat} (h : ∀ r ∈ rs, ∀ m ∈ r, m.t < n) {ss : List Nat} (hs : ∀ k ∈ ss, k < n) : ∀ {cs : List Nat}, ∀ k ∈ run rs ss cs, k < n := by
  intro cs
  rcases List.eq_nil_or_concat cs with rfl | ⟨l, a, rfl⟩
  · exact hs
  · intro k hk
    rw [List.concat_eq_append] at hk
    have : run rs ss (l ++ [a]) = behind rs (run rs ss l) a := by simp [run]
    rw [this] at hk
    exact behind_lt h k hk
/-- a text of codes -/
def strOf (cs : List Nat) : Str := ⟨cs.toArray⟩
theorem strOf_app (a b : List Nat) : strOf a ++ strOf b = strOf (a ++ b) := by
  show (⟨a.toArray ++ b.toArray⟩ : Str) = ⟨(a ++ b).toArray⟩
  simp
theorem strOf_sgn (a : List Nat) (c : Nat) : strOf a ++ sgn c = strOf (a ++ [c]) := strOf_app a [c]
theorem strOf_len (a : List Nat) : (strOf a).length = a.length := by
  show a.toArray.size = _
  simp
theorem strOf_inj {a b : List Nat} (h : strOf a = strOf b) : a = b := by
  have : (strOf a).cps.toList = (strOf b).cps.toList := by rw [h]
  simpa [strOf] using this
theorem signs_get {cs : List Nat} {i : Nat} {d : D} (h : (DL.signs (strOf cs))[i]? = some d) : ∃ c, cs[i]? = some c ∧ d = .str (sgn c) := by
  unfold DL.signs strOf at h
  rw [List.getElem?_map] at h
  simp only at h
  cases e : cs[i]? with
  | none => rw [e] at h; cases h
  | some c => rw [e] at h; cases h; exact ⟨c, rfl, rfl⟩
theorem signs_len (cs : List Nat) : (DL.signs (strOf cs)).length = cs.length := by simp [DL.signs, strOf]
theorem run_snoc {rs : List (List Mv)} {ss cs : List Nat} {c : Nat} : run rs ss (cs ++ [c]) = behind rs (run rs ss cs) c := by simp [run]
theorem OrdOk.add {rs : List (List Mv)} {hs : List Nat} {ord : Ord} (h : OrdOk rs hs ord) (tl : ∀ r ∈ rs, ∀ m ∈ r, m.t < rs.length) {i : Nat} {here : List Nat × List Nat} (hi : ord[i]? = some here) {c : Nat} (hc : c ∈ hs) (h1 : behind rs here.1 c ≠ []) (h2 : behind rs here.1 c ∉ ord.map (·.1)) :
    OrdOk rs hs (ord ++ [(behind rs here.1 c, here.2 ++ [c])]) where
  nd := by
    rw [List.map_append, List.nodup_append]
    refine ⟨h.nd, by simp, fun a ha b hb => ?_⟩
    simp at hb
    subst hb
    exact fun e => h2 (e ▸ ha)
  st := fun x hx => by
    rcases List.mem_append.mp hx with hx | hx
    · exact h.st x hx
    · simp at hx; subst hx; exact ⟨behind_sorted, behind_lt tl⟩
  ln := fun j x hx => by
    by_cases hj : j < ord.length
    · rw [List.getElem?_append_left hj] at hx; exact h.ln j x hx
    · rw [List.getElem?_append_right (by omega)] at hx
      have hj' : j - ord.length = 0 := by
        cases e : j - ord.length with
        | zero => rfl
        | succ k => rw [e] at hx; simp at hx
      rw [hj'] at hx
      simp at hx
      subst hx
      have := h.ln i here hi
      have := (List.getElem?_eq_some_iff.mp hi).1
      simp; omega
  rn := fun x hx => by
    rcases List.mem_append.mp hx with hx | hx
    · exact h.rn x hx
    · simp at hx; subst hx
      obtain ⟨a, b, d⟩ := h.rn here (List.mem_of_getElem? hi)
      refine ⟨by rw [run_snoc, a], h1, fun e he => ?_⟩
      rcases List.mem_append.mp he with he | he
      · exact d e he
      · simp at he; subst he; exact hc
/-- a speech that ends the way -/
def MutP (rs : List (List Mv)) (hs : List Nat) (p : List Nat) : Prop := ∃ q c, p = q ++ [c] ∧ c ∈ hs ∧ (∀ x ∈ q, x ∈ hs) ∧ run rs [0] q ≠ [] ∧ run rs [0] p = [] ∧ q.length ≤ 2 ^ rs.length
theorem stepL_ok {rs : List (List Mv)} {hs : List Nat} (tl : ∀ r ∈ rs, ∀ m ∈ r, m.t < rs.length) {i : Nat} {here : List Nat × List Nat} : ∀ (cs : List Nat) (ord : Ord), (∀ c ∈ cs, c ∈ hs) → OrdOk rs hs ord → ord[i]? = some here →
    (∀ p, stepL rs here ord cs = .inl p → MutP rs hs p) ∧ ∀ ord', stepL rs here ord cs = .inr ord' → OrdOk rs hs ord'
  | [], ord, _, h, hi => ⟨fun p e => by simp [stepL] at e, fun o e => by simp [stepL] at e; exact e ▸ h⟩
  | c :: cs, ord, hc, h, hi => by
    unfold stepL
    obtain ⟨a, b, d⟩ := h.rn here (List.mem_of_getElem? hi)
    split
    · rename_i e
      refine ⟨fun p q => ?_, fun o q => by cases q⟩
      cases q
      exact ⟨here.2, c, rfl, hc c (by simp), d, by rw [a]; exact b, by rw [run_snoc, a]; exact e, by have h1 := h.ln i here hi; have h2 := h.len; have h3 := (List.getElem?_eq_some_iff.mp hi).1; omega⟩
    · rename_i e
      split
      · exact stepL_ok tl cs ord (fun x hx => hc x (by simp [hx])) h hi
      · rename_i e2
        refine stepL_ok (i := i) tl cs _ (fun x hx => hc x (by simp [hx])) (h.add tl hi (hc c (by simp)) e e2) ?_
        rw [List.getElem?_append_left (List.getElem?_eq_some_iff.mp hi).1]
        exact hi
theorem bfs_some {rs : List (List Mv)} {hs : List Nat} (tl : ∀ r ∈ rs, ∀ m ∈ r, m.t < rs.length) : ∀ (f i : Nat) (ord : Ord) (p : List Nat), OrdOk rs hs ord → bfs rs hs f i ord = some p → MutP rs hs p
  | 0, _, _, _, _, e => by simp [bfs] at e
  | f + 1, i, ord, p, h, e => by
    unfold bfs at e
    split at e
    · cases e
    · rename_i here hi
      have hs2 := stepL_ok (hs := hs) tl hs ord (fun _ z => z) h hi
      split at e
      · rename_i p' e'
        cases e
        exact hs2.1 _ e'
      · rename_i o' e'
        exact bfs_some tl f (i + 1) o' p (hs2.2 _ e') e
theorem muteOf_some {rs : List (List Mv)} {hs : List Nat} (tl : ∀ r ∈ rs, ∀ m ∈ r, m.t < rs.length) (h0 : 0 < rs.length) {p : List Nat} (h : muteOf rs hs = some p) : MutP rs hs p := bfs_some tl _ _ _ _ (.start h0) h
/-- the two things that mute keeps -/
def ordL (ord : Ord) : List D := ord.map fun x => .tup (natsD x.1)
def ordT (ord : Ord) : List (List Key × D) := ord.map fun x => (x.1.map fun (n : Nat) => (.inl (n : Int)), .str (strOf x.2))
theorem natsD_keys : ∀ ns : List Nat, D.keys (natsD ns) = some (ns.map fun (n : Nat) => (.inl (n : Int)))
  | [] => rfl
  | n :: ns => by
    show D.keys (.int (n : Int) :: natsD ns) = _
    simp [D.keys, D.key, natsD_keys ns]
theorem nkey_inj {a b : List Nat} (h : (a.map fun (n : Nat) => (Sum.inl (n : Int) : Key)) = b.map fun (n : Nat) => (.inl (n : Int))) : a = b := by
  refine List.map_inj_right (f := fun (n : Nat) => (Sum.inl (n : Int) : Key)) (fun x y e => ?_) |>.mp h
  have : (x : Int) = (y : Int) := Sum.inl.inj e
  omega
theorem natsD_inj {a b : List Nat} (h : natsD a = natsD b) : a = b := by
  refine List.map_inj_right (f := fun (n : Nat) => D.int (n : Int)) (fun x y e => ?_) |>.mp h
  have : (x : Int) = (y : Int) := D.int.inj e
  omega
theorem natsD_si (ns : List Nat) : D.sis (natsD ns) = true := by
  rw [sis_all]
  intro x hx
  obtain ⟨n, _, rfl⟩ := List.mem_map.mp hx
  rfl
theorem natsD_dps (ns : List Nat) : D.dps (natsD ns) ≤ 0 := dps_le fun x hx => by
  obtain ⟨n, _, rfl⟩ := List.mem_map.mp hx
  simp [D.dp]
theorem natsD_eqv (a b : List Nat) : D.eqv (.tup (natsD a)) (.tup (natsD b)) = decide (a = b) := by
  rw [Bool.eq_iff_iff, eqv_si (x := .tup (natsD a)) (y := .tup (natsD b)) (natsD_si a) (natsD_si b)]
  simp only [D.tup.injEq, decide_eq_true_eq]
  exact ⟨natsD_inj, fun e => by rw [e]⟩
theorem natsD_okE (a b : List Nat) : okE (.tup (natsD a)) (.tup (natsD b)) = true := okE_si (natsD_si a) (natsD_si b) (by have := natsD_dps a; simp only [D.dp]; omega)
theorem natsD_eqvL (a b : List Nat) : D.eqv (.lst (natsD a)) (.lst (natsD b)) = decide (a = b) := by
  rw [Bool.eq_iff_iff, eqv_si (x := .lst (natsD a)) (y := .lst (natsD b)) (natsD_si a) (natsD_si b)]
  simp only [D.lst.injEq, decide_eq_true_eq]
  exact ⟨natsD_inj, fun e => by rw [e]⟩
theorem natsD_okEL (a b : List Nat) : okE (.lst (natsD a)) (.lst (natsD b)) = true := okE_si (natsD_si a) (natsD_si b) (by have := natsD_dps a; simp only [D.dp]; omega)
theorem find_key {β : Type} {f : List Nat × List Nat → β} {ord : Ord} {l : List Nat} (h : l ∉ ord.map (·.1)) : (ord.map fun x => ((x.1.map fun (n : Nat) => (Sum.inl (n : Int) : Key)), f x)).find? (fun kv => decide (kv.1 = l.map fun (n : Nat) => (.inl (n : Int)))) = none := by
  rw [List.find?_eq_none]
  intro x hx
  obtain ⟨y, hy, rfl⟩ := List.mem_map.mp hx
  simp only [decide_eq_true_eq]
  intro e
  exact h (nkey_inj e ▸ List.mem_map.mpr ⟨y, hy, rfl⟩)
theorem val_no {f : List Nat × List Nat → D} {ord : Ord} {l : List Nat} (h : l ∉ ord.map (·.1)) : valD (ord.map fun x => ((x.1.map fun (n : Nat) => (Sum.inl (n : Int) : Key)), f x)) (l.map fun (n : Nat) => (.inl (n : Int))) = none := by
  unfold valD
  rw [find_key h]
  rfl
theorem val_at {f : List Nat × List Nat → D} : ∀ {ord : Ord} {i : Nat} {x : List Nat × List Nat}, (ord.map (·.1)).Nodup → ord[i]? = some x → valD (ord.map fun x => ((x.1.map fun (n : Nat) => (Sum.inl (n : Int) : Key)), f x)) (x.1.map fun (n : Nat) => (.inl (n : Int))) = some (f x)
  | [], _, _, _, h => by simp at h
  | y :: ord, i, x, nd, h => by
    rw [List.map_cons, List.nodup_cons] at nd
    cases i with
    | zero =>
      simp at h; subst h
      simp [valD]
    | succ i =>
      simp at h
      have hne : ¬ ((y.1.map fun (n : Nat) => (Sum.inl (n : Int) : Key)) = x.1.map fun (n : Nat) => (.inl (n : Int))) := fun e => nd.1 (nkey_inj e ▸ List.mem_map.mpr ⟨x, List.mem_of_getElem? h, rfl⟩)
      have ih := val_at (f := f) nd.2 h
      unfold valD at ih ⊢
      rw [List.map_cons, List.find?_cons]
      simp only [hne, decide_false]
      exact ih
theorem val_isSome {f : List Nat × List Nat → D} {ord : Ord} {l : List Nat} (nd : (ord.map (·.1)).Nodup) : (valD (ord.map fun x => ((x.1.map fun (n : Nat) => (Sum.inl (n : Int) : Key)), f x)) (l.map fun (n : Nat) => (.inl (n : Int)))).isSome = decide (l ∈ ord.map (·.1)) := by
  by_cases h : l ∈ ord.map (·.1)
  · obtain ⟨x, hx, rfl⟩ := List.mem_map.mp h
    obtain ⟨i, hi⟩ := List.mem_iff_getElem?.mp hx
    rw [val_at nd hi]
    simp [h]
  · rw [val_no h]; simp [h]
theorem put_new {κ : Type} [DecidableEq κ] {kds : List (κ × D)} {k : κ} {d : D} (h : valD kds k = none) : putD kds k d = kds ++ [(k, d)] := by
  unfold putD
  rw [if_neg]
  intro z
  unfold valD at h
  rw [Option.map_eq_none_iff, List.find?_eq_none] at h
  rw [List.any_eq_true] at z
  obtain ⟨x, hx, e⟩ := z
  exact h x hx e
theorem natsD_eqv0 (a : List Nat) : D.eqv (.tup (natsD a)) (.tup []) = decide (a = []) := natsD_eqv a []
theorem natsD_okE0 (a : List Nat) : okE (.tup (natsD a)) (.tup []) = true := natsD_okE a []
theorem ordL_at {ord : Ord} {i : Nat} {x : List Nat × List Nat} (h : ord[i]? = some x) : atI (ordL ord) (i : Int) = some (.tup (natsD x.1)) := atI_nat (by rw [ordL, List.getElem?_map, h]; rfl)
theorem ordL_len (ord : Ord) : (ordL ord).length = ord.length := by simp [ordL]
theorem ordT_len (ord : Ord) : (ordT ord).length = ord.length := by simp [ordT]
theorem ordT_at {ord : Ord} {i : Nat} {x : List Nat × List Nat} (nd : (ord.map (·.1)).Nodup) (h : ord[i]? = some x) : valD (ordT ord) (x.1.map fun (n : Nat) => (.inl (n : Int))) = some (.str (strOf x.2)) := val_at (f := fun x => .str (strOf x.2)) nd h
theorem ordT_is {ord : Ord} {l : List Nat} (nd : (ord.map (·.1)).Nodup) : (valD (ordT ord) (l.map fun (n : Nat) => (.inl (n : Int)))).isSome = decide (l ∈ ord.map (·.1)) := val_isSome (f := fun x => .str (strOf x.2)) nd
theorem ordT_put {ord : Ord} {l p : List Nat} (h : l ∉ ord.map (·.1)) : putD (ordT ord) (l.map fun (n : Nat) => (.inl (n : Int))) (.str (strOf p)) = ordT (ord ++ [(l, p)]) := by
  have h1 : valD (ordT ord) (l.map fun (n : Nat) => (.inl (n : Int))) = none := val_no (f := fun x => .str (strOf x.2)) h
  rw [put_new h1]
  simp [ordT]
theorem ordL_put {ord : Ord} {l p : List Nat} : ordL ord ++ [.tup (natsD l)] = ordL (ord ++ [(l, p)]) := by simp [ordL]
end Pace
end
section
set_option Elab.async false
set_option linter.all false
set_option maxRecDepth 100000
set_option maxHeartbeats 4000000
/-! M1: letters, moves, rows that are right; plain. -/
namespace Pace
open PySem PySem.Spec PyProof.Rows L2 DL
theorem strIn_sgn (c : Nat) (a : List Nat) : strIn (sgn c) (strOf a) = decide (c ∈ a) := by
  exact (StrLaws.found_one (strOf a) c).trans (decide_eq_decide.mpr (by simp [strOf]))
theorem cut_last {α : Type} (xs : List α) : DL.cutD xs none (some (-1)) = xs.dropLast := by
  unfold DL.cutD
  rw [HT.sIx_none, List.drop_zero, Nat.sub_zero, List.dropLast_eq_take]
  congr 1
  show (if (-1 : Int) < 0 then ((-1 : Int) + (xs.length : Int)).toNat else min (-1 : Int).toNat xs.length) = _
  rw [if_pos (by decide)]
  omega
theorem cut_tail {α : Type} (xs : List α) : DL.cutD xs (some 1) none = xs.tail := by
  unfold DL.cutD
  have e : HT.sIx xs.length 0 (some 1) = min 1 xs.length := HT.sIx_nat xs.length 0 1
  rw [HT.sIx_none, e]
  cases xs with
  | nil => rfl
  | cons x xs =>
    have : min 1 (x :: xs).length = 1 := by simp
    rw [this]
    simp
theorem cutS_strOf (cs : List Nat) (lo hi : Option Int) : cutS (strOf cs) lo hi = strOf (DL.cutD cs lo hi) := by
  unfold cutS DL.cutD
  rw [strOf_len]
  simp [strOf]
def abc : List Nat := [97, 98, 99, 100, 101, 102, 103, 104, 105, 106, 107, 108, 109, 110, 111, 112, 113, 114, 115, 116, 117, 118, 119, 120, 121, 122]
theorem abc_str : (Str.ofString "abcdefghijklmnopqrstuvwxyz") = strOf abc := by decide +kernel
/-- neighbours -/
def nbr {α : Type} (r : α → α → Bool) (l : List α) : Bool := (List.zipWith r l.dropLast l.tail).all id
def lettersB (cs : List Nat) : Bool := !cs.isEmpty && cs.all (fun c => decide (c ∈ abc)) && nbr (fun a b => decide (a < b)) cs
def mvB (hs ws : List Nat) (n : Nat) (m : Mv) : Bool := decide (m.h ∈ hs) && decide (m.c ∈ ws) && decide (m.t < n)
def mvLt (a b : Mv) : Bool := decide (a.h < b.h ∨ (a.h = b.h ∧ a.c < b.c))
def rowB (hs ws : List Nat) (n : Nat) (r : List Mv) : Bool := r.all (mvB hs ws n) && nbr mvLt r
theorem sgn_lt (a b : Nat) : D.lt (.str (sgn a)) (.str (sgn b)) = decide (a < b) := by
  rw [DL.lt_str]
  refine decide_eq_decide.mpr ?_
  simp [sgn, List.cons_lt_cons_iff]
theorem mv_lt (a b : Mv) : D.lt (.tup [.str (sgn a.h), .str (sgn a.c)]) (.tup [.str (sgn b.h), .str (sgn b.c)]) = mvLt a b := by
  have e : D.lt (.tup [.str (sgn a.h), .str (sgn a.c)]) (.tup [.str (sgn b.h), .str (sgn b.c)]) = PySem.W.dataLt (.tuple [.str (sgn a.h), .str (sgn a.c)]) (.tuple [.str (sgn b.h), .str (sgn b.c)]) := rfl
  rw [e, PySem.W.dataLt_pair rfl rfl]
  have e1 : ∀ x y : Nat, PyData.eqv (.str (sgn x)) (.str (sgn y)) = (x == y) := fun x y => by
    have := eqv_str (sgn x) (sgn y)
    rw [sgn_beq] at this
    exact this
  have e2 : ∀ x y : Nat, PySem.W.dataLt (.str (sgn x)) (.str (sgn y)) = decide (x < y) := fun x y => sgn_lt x y
  rw [e1, e1, e2, e2]
  unfold mvLt
  by_cases h : a.h = b.h
  · rw [if_pos (by simp [h])]
    by_cases h2 : a.c = b.c
    · rw [if_pos (by simp [h2])]; simp [h, h2]
    · rw [if_neg (by simp [h2])]; simp [h]
  · rw [if_neg (by simp [h])]; simp [h]
theorem mv_okL (a b : Mv) : okL (.tup [.str (sgn a.h), .str (sgn a.c)]) (.tup [.str (sgn b.h), .str (sgn b.c)]) = true := rfl
theorem bools_of {α : Type} (f : α → Bool) (l : List α) : bools (l.map fun x => D.bl (f x)) = some (l.map f) := by
  rw [← bools_map, List.map_map]
  rfl
theorem zip_bools {α : Type} (g : α → α → D) (r : α → α → Bool) (f : D → D) (h : ∀ a b, f (g a b) = .bl (r a b)) : ∀ l m : List α, (List.zipWith g l m).map f = (List.zipWith r l m).map .bl
  | [], _ => by simp
  | _ :: _, [] => by simp
  | a :: l, b :: m => by simp [h, zip_bools g r f h l m]
theorem str_nil : Str.ofString "" = strOf [] := by decide +kernel
theorem mv0 (m : Mv) : D.item (.tup [.str (sgn m.h), .str (sgn m.c), .int (m.t : Int)]) (.int 0) = some (.str (sgn m.h)) := rfl
theorem mv1 (m : Mv) : D.item (.tup [.str (sgn m.h), .str (sgn m.c), .int (m.t : Int)]) (.int 1) = some (.str (sgn m.c)) := rfl
theorem mv2 (m : Mv) : D.item (.tup [.str (sgn m.h), .str (sgn m.c), .int (m.t : Int)]) (.int 2) = some (.int (m.t : Int)) := rfl
theorem mv_cut (m : Mv) : DL.cutD [.str (sgn m.h), .str (sgn m.c), .int (m.t : Int)] none (some 2) = [D.str (sgn m.h), .str (sgn m.c)] := rfl
theorem nbr_cons {α : Type} (r : α → α → Bool) (a b : α) (l : List α) : nbr r (a :: b :: l) = (r a b && nbr r (b :: l)) := by
  unfold nbr
  simp [List.dropLast]
theorem nbr_pair {α : Type} {r : α → α → Bool} (tr : ∀ a b c, r a b = true → r b c = true → r a c = true) : ∀ l : List α, nbr r l = true → l.Pairwise fun a b => r a b = true
  | [], _ => .nil
  | [a], _ => by simp
  | a :: b :: l, h => by
    rw [nbr_cons, Bool.and_eq_true] at h
    have ih := nbr_pair tr (b :: l) h.2
    refine List.pairwise_cons.mpr ⟨fun c hc => ?_, ih⟩
    rcases List.mem_cons.mp hc with rfl | hc
    · exact h.1
    · exact tr a b c h.1 ((List.pairwise_cons.mp ih).1 c hc)
theorem mvLt_tr (a b c : Mv) (h1 : mvLt a b = true) (h2 : mvLt b c = true) : mvLt a c = true := by
  unfold mvLt at *
  simp only [decide_eq_true_eq] at *
  omega
/-- a row's keys -/
def mvK (m : Mv) : List Key × D := ([.inr (sgn m.h), .inr (sgn m.c)], .int (m.t : Int))
theorem mvK_ne {a b : Mv} (h : mvLt a b = true) : (mvK a).1 ≠ (mvK b).1 := by
  intro e
  simp only [mvK, List.cons.injEq, Sum.inr.injEq, and_true] at e
  have h1 := sgn_inj e.1
  have h2 := sgn_inj e.2
  unfold mvLt at h
  simp only [decide_eq_true_eq] at h
  omega
theorem merge_row : ∀ (r : List Mv) (acc : List (List Key × D)), (∀ m ∈ r, ∀ x ∈ acc, x.1 ≠ (mvK m).1) → r.Pairwise (fun a b => mvLt a b = true) → mergeDT acc (r.map mvK) = acc ++ r.map mvK
  | [], acc, _, _ => by simp [mergeDT]
  | m :: r, acc, h, hp => by
    rw [List.pairwise_cons] at hp
    have hv : valD acc (mvK m).1 = none := by
      unfold valD
      rw [Option.map_eq_none_iff, List.find?_eq_none]
      intro x hx
      simpa using h m (by simp) x hx
    show mergeDT (putD acc (mvK m).1 (mvK m).2) (r.map mvK) = _
    rw [put_new hv, merge_row r _ (fun m' hm' x hx => ?_) hp.2]
    · simp
    · rcases List.mem_append.mp hx with hx | hx
      · exact h m' (by simp [hm']) x hx
      · simp at hx; subst hx
        exact mvK_ne (hp.1 m' hm')
theorem merge_rowB {hs ws : List Nat} {n : Nat} {r : List Mv} (h : rowB hs ws n r = true) : mergeDT [] (r.map mvK) = r.map mvK := by
  unfold rowB at h
  rw [Bool.and_eq_true] at h
  have := merge_row r [] (fun _ _ x hx => by simp at hx) (nbr_pair mvLt_tr r h.2)
  simpa using this
theorem prsT_row : ∀ r : List Mv, prsT (r.map fun m => .tup [.tup [.str (sgn m.h), .str (sgn m.c)], .int (m.t : Int)]) = some (r.map mvK)
  | [] => rfl
  | m :: r => by
    simp only [List.map_cons, prsT, D.keys, D.key, prsT_row r]
    rfl
theorem stepsD_eq (rs : List (List Mv)) : stepsD rs = .lst (rs.map fun r => .dT (r.map mvK)) := rfl
/-- rules that Rules takes -/
structure RulV (hs ws : List Nat) (rs : List (List Mv)) : Prop where
  lh : lettersB hs = true
  lw : lettersB ws = true
  sh : hs.length ≤ 1000
  sw : ws.length ≤ 1000
  n1 : 1 ≤ rs.length
  n2 : rs.length ≤ 999
  row : ∀ r ∈ rs, rowB hs ws rs.length r = true ∧ r.length ≤ 1000
def mkR (hs ws : List Nat) (rs : List (List Mv)) : Rul := ⟨strOf hs, strOf ws, rs⟩
theorem RulV.ok {hs ws : List Nat} {rs : List (List Mv)} (h : RulV hs ws rs) : (mkR hs ws rs).Ok where
  few := by have := h.n2; show rs.length ≤ 1000; omega
  at_ := fun r hr => by
    obtain ⟨a, b⟩ := h.row r hr
    refine ⟨b, fun m hm => ?_⟩
    unfold rowB at a
    rw [Bool.and_eq_true, List.all_eq_true] at a
    have := a.1 m hm
    unfold mvB at this
    simp only [Bool.and_eq_true, decide_eq_true_eq] at this
    exact this.2
theorem pf1 (a : D) : putFD "heard" a [] = [(("heard" : Str), a)] := rfl
theorem pf2 (a b : D) : putFD "written" b [(("heard" : Str), a)] = [(("heard" : Str), a), (("written" : Str), b)] := rfl
theorem pf3 (a b c : D) : putFD "rows" c [(("heard" : Str), a), (("written" : Str), b)] = [(("heard" : Str), a), (("written" : Str), b), (("rows" : Str), c)] := rfl
theorem pf4 (a b c d : D) : putFD "steps" d [(("heard" : Str), a), (("written" : Str), b), (("rows" : Str), c)] = [(("heard" : Str), a), (("written" : Str), b), (("rows" : Str), c), (("steps" : Str), d)] := rfl
end Pace
end
section
set_option Elab.async false
set_option linter.all false
set_option maxRecDepth 100000
set_option maxHeartbeats 4000000
/-! M2: the law's own dict of rules. -/
namespace Pace
open PySem PySem.Spec PyProof.Rows L2 DL
def wD (hs ws : List Nat) (rs : List (List Mv)) : D := .dK [(.inr "heard", .str (strOf hs)), (.inr "written", .str (strOf ws)), (.inr "rows", rowsD rs)]
theorem wD_cur (G : GH) (hs ws : List Nat) (rs : List (List Mv)) : D.cur G (wD hs ws rs) = wD hs ws rs := rfl
theorem wD_heard (hs ws : List Nat) (rs : List (List Mv)) : D.item (wD hs ws rs) (.str "heard") = some (.str (strOf hs)) := rfl
theorem wD_written (hs ws : List Nat) (rs : List (List Mv)) : D.item (wD hs ws rs) (.str "written") = some (.str (strOf ws)) := rfl
theorem wD_rows (hs ws : List Nat) (rs : List (List Mv)) : D.item (wD hs ws rs) (.str "rows") = some (rowsD rs) := rfl
theorem rowsD_cur (G : GH) (rs : List (List Mv)) : D.cur G (rowsD rs) = rowsD rs := rfl
theorem rowsD_at {rs : List (List Mv)} {i : Nat} {r : List Mv} (h : rs[i]? = some r) : D.item (rowsD rs) (.int (i : Int)) = some (rowD r) := atI_nat (by rw [List.getElem?_map, h]; rfl)
/-- a move without what is heard -/
def ctD (m : Mv) : D := .tup [.str (sgn m.c), .int (m.t : Int)]
/-- few enough for the set of what is reached -/
structure Few (rs : List (List Mv)) : Prop where
  few : ∃ B, (∀ r ∈ rs, r.length ≤ B) ∧ rs.length * B < 64
theorem flat_len {α β : Type} (f : α → List β) (B : Nat) : ∀ l : List α, (∀ a ∈ l, (f a).length ≤ B) → (l.flatMap f).length ≤ l.length * B
  | [], _ => by simp
  | a :: l, h => by
    have h1 := h a (by simp)
    have h2 := flat_len f B l fun b hb => h b (by simp [hb])
    simp only [List.flatMap_cons, List.length_append, List.length_cons]
    rw [Nat.add_mul]
    omega
theorem hits_len {rs : List (List Mv)} {B : Nat} (h : ∀ r ∈ rs, r.length ≤ B) (s c : Nat) : (hits rs s c).length ≤ B := by
  unfold hits
  rw [List.length_map]
  refine Nat.le_trans (List.length_filter_le _ _) ?_
  cases e : rs[s]? with
  | none => simp [List.getD, e]
  | some r => simpa [List.getD, e] using h r (List.mem_of_getElem? e)
theorem Few.len {rs : List (List Mv)} (h : Few rs) {ss : List Nat} (nd : ss.Nodup) (hl : ∀ s ∈ ss, s < rs.length) (c : Nat) : (ss.flatMap fun s => hits rs s c).length < 64 := by
  obtain ⟨B, h1, h2⟩ := h.few
  have h3 := flat_len (fun s => hits rs s c) B ss fun s _ => hits_len h1 s c
  have h4 := nodup_lt_len nd hl
  have h5 := Nat.mul_le_mul_right B h4
  omega
theorem isort1_nat (ts : List Nat) : (isort1 (ts.map fun (t : Nat) => (t : Int))).map D.int = natsD (nsort (firstsF ts)) := by
  have e : firstsF (ts.map fun (t : Nat) => (t : Int)) = (firstsF ts).map fun (t : Nat) => (t : Int) := by
    have aux : ∀ (l acc : List Nat), (l.map fun (t : Nat) => (t : Int)).foldl addF (acc.map fun (t : Nat) => (t : Int)) = (l.foldl addF acc).map fun (t : Nat) => (t : Int) := by
      intro l
      induction l with
      | nil => intro acc; rfl
      | cons t l ih =>
        intro acc
        rw [List.map_cons, List.foldl_cons, List.foldl_cons, ← ih]
        congr 1
        unfold addF
        have : ((t : Int) ∈ acc.map fun (t : Nat) => (t : Int)) ↔ t ∈ acc := by
          rw [List.mem_map]
          constructor
          · rintro ⟨a, ha, e⟩
            have : a = t := by omega
            exact this ▸ ha
          · exact fun h => ⟨t, h, rfl⟩
        by_cases h : t ∈ acc
        · rw [if_pos (this.mpr h), if_pos h]
        · rw [if_neg (fun z => h (this.mp z)), if_neg h]; simp
    exact aux ts []
  unfold isort1
  rw [e, isort_nat]
theorem intsD_nats (ts : List Nat) : intsD (natsD ts) = some (ts.map fun (t : Nat) => (t : Int)) := by
  have := intsD_map (ts.map fun (t : Nat) => (t : Int))
  rw [List.map_map] at this
  exact this
theorem behind_nodup {rs : List (List Mv)} {ss : List Nat} {c : Nat} : (behind rs ss c).Nodup := behind_sorted.imp fun h => by omega
theorem run_nodup {rs : List (List Mv)} {ss : List Nat} (h : ss.Nodup) : ∀ {cs : List Nat}, (run rs ss cs).Nodup := by
  intro cs
  rcases List.eq_nil_or_concat cs with rfl | ⟨l, a, rfl⟩
  · exact h
  · rw [List.concat_eq_append, run_snoc]; exact behind_nodup
def ordLw (ord : Ord) : List D := ord.map fun x => .tup [.lst (natsD x.1), .str (strOf x.2)]
def ordTw (ord : Ord) : List (List Key × D) := ord.map fun x => (x.1.map fun (n : Nat) => (.inl (n : Int)), .bl true)
theorem ordLw_at {ord : Ord} {i : Nat} {x : List Nat × List Nat} (h : ord[i]? = some x) : atI (ordLw ord) (i : Int) = some (.tup [.lst (natsD x.1), .str (strOf x.2)]) := atI_nat (by rw [ordLw, List.getElem?_map, h]; rfl)
theorem ordLw_len (ord : Ord) : (ordLw ord).length = ord.length := by simp [ordLw]
theorem ordTw_len (ord : Ord) : (ordTw ord).length = ord.length := by simp [ordTw]
theorem ordTw_is {ord : Ord} {l : List Nat} (nd : (ord.map (·.1)).Nodup) : (valD (ordTw ord) (l.map fun (n : Nat) => (.inl (n : Int)))).isSome = decide (l ∈ ord.map (·.1)) := val_isSome (f := fun _ => .bl true) nd
theorem ordTw_put {ord : Ord} {l p : List Nat} (h : l ∉ ord.map (·.1)) : putD (ordTw ord) (l.map fun (n : Nat) => (.inl (n : Int))) (.bl true) = ordTw (ord ++ [(l, p)]) := by
  have h1 : valD (ordTw ord) (l.map fun (n : Nat) => (.inl (n : Int))) = none := val_no (f := fun _ => .bl true) h
  rw [put_new h1]
  simp [ordTw]
theorem ordLw_put {ord : Ord} {l p : List Nat} : ordLw ord ++ [.tup [.lst (natsD l), .str (strOf p)]] = ordLw (ord ++ [(l, p)]) := by simp [ordLw]
theorem natsD_len (a : List Nat) : (natsD a).length = a.length := by simp [natsD]
theorem natsD_app (a b : List Nat) : natsD a ++ natsD b = natsD (a ++ b) := by simp [natsD]
theorem natsD_eqvL0 (a : List Nat) : D.eqv (.lst (natsD a)) (.lst []) = decide (a = []) := natsD_eqvL a []
theorem natsD_okEL0 (a : List Nat) : okE (.lst (natsD a)) (.lst []) = true := natsD_okEL a []
theorem pr0 (a b : D) : D.item (.tup [a, b]) (.int 0) = some a := rfl
theorem pr1 (a b : D) : D.item (.tup [a, b]) (.int 1) = some b := rfl
def pageD : Option (List Nat) → D
  | none => .non
  | some p => .str (strOf p)
end Pace
end
section
set_option Elab.async false
set_option linter.all false
set_option maxRecDepth 100000
set_option maxHeartbeats 4000000
/-! M3: rows drawn by the law. -/
namespace Pace
open PySem PySem.Spec PyProof.Rows L2 DL
/-- a lot: states, moves -/
abbrev Lot := List (Nat × Mv)
def lotK (x : Nat × Mv) : List Key := [.inl (x.1 : Int), .inr (sgn x.2.h), .inr (sgn x.2.c)]
def lotD (lot : Lot) : List (List Key × D) := lot.map fun x => (lotK x, .int (x.2.t : Int))
def lt3 (a b : Mv) : Bool := if a.h == b.h then (if a.c == b.c then decide (a.t < b.t) else decide (a.c < b.c)) else decide (a.h < b.h)
def le3 (a b : Mv) : Bool := !lt3 b a
theorem mvD_lt (a b : Mv) : D.lt (Mv.d a) (Mv.d b) = lt3 a b := by
  have e1 : ∀ x y : Nat, PyData.eqv (.str (sgn x)) (.str (sgn y)) = (x == y) := fun x y => by
    have := eqv_str (sgn x) (sgn y)
    rw [sgn_beq] at this
    exact this
  have e2 : ∀ x y : Nat, PySem.W.dataLt (.str (sgn x)) (.str (sgn y)) = decide (x < y) := fun x y => sgn_lt x y
  have e : D.lt (Mv.d a) (Mv.d b) = PySem.W.dataLt (.tuple [.str (sgn a.h), .str (sgn a.c), .int (a.t : Int)]) (.tuple [.str (sgn b.h), .str (sgn b.c), .int (b.t : Int)]) := rfl
  rw [e, PySem.W.dataLt_tuple, PySem.W.dataLt_cons rfl, PySem.W.dataLt_cons rfl, PySem.W.dataLt_cons rfl, e1, e1, e2, e2, PySem.W.dataLt_int]
  unfold lt3
  split
  · split
    · by_cases h : a.t = b.t
      · have : PyData.eqv (.int (a.t : Int)) (.int (b.t : Int)) = true := by simp [PyData.eqv, h]
        rw [if_pos this, ← PySem.W.dataLt_tuple, PySem.W.dataLt_self]
        simp [h]
      · have : ¬ PyData.eqv (.int (a.t : Int)) (.int (b.t : Int)) = true := by
          intro z
          simp [PyData.eqv] at z
          omega
        rw [if_neg this]
        simp
    · rfl
  · rfl
theorem mvD_le (a b : Mv) : D.le (Mv.d a) (Mv.d b) = le3 a b := by
  have := mvD_lt b a
  unfold le3
  rw [← this]
  rfl
theorem lt3_iff (a b : Mv) : lt3 a b = true ↔ a.h < b.h ∨ (a.h = b.h ∧ (a.c < b.c ∨ (a.c = b.c ∧ a.t < b.t))) := by
  unfold lt3
  by_cases h : a.h = b.h
  · rw [if_pos (by simp [h])]
    by_cases h2 : a.c = b.c
    · rw [if_pos (by simp [h2])]; simp [h, h2]
    · rw [if_neg (by simp [h2])]; simp [h, h2]
  · rw [if_neg (by simp [h])]; simp [h]
theorem le3_tr (a b c : Mv) (h1 : le3 a b = true) (h2 : le3 b c = true) : le3 a c = true := by
  unfold le3 at *
  simp only [Bool.not_eq_true', Bool.eq_false_iff, ne_eq, lt3_iff] at *
  omega
theorem le3_tot (a b : Mv) : (le3 a b || le3 b a) = true := by
  unfold le3
  rw [Bool.or_eq_true, Bool.not_eq_true', Bool.not_eq_true', Bool.eq_false_iff, Bool.eq_false_iff, ne_eq, ne_eq, lt3_iff, lt3_iff]
  omega
def rowOf (lot : Lot) (s : Nat) : List Mv := ((lot.filter fun x => x.1 == s).map (·.2)).mergeSort le3
def rowsOf (lot : Lot) (n : Nat) : List (List Mv) := (List.range n).map (rowOf lot)
theorem sortD_mv (ms : List Mv) : sortD (ms.map Mv.d) = (ms.mergeSort le3).map Mv.d := by
  unfold sortD
  exact (PySem.W.sort_maps (r := le3) (s := D.le) Mv.d (l := ms) fun a _ b _ => (mvD_le a b).symm).symm
theorem okS_mv (ms : List Mv) : okS (ms.map Mv.d) = true := by
  unfold okS
  simp only [Bool.and_eq_true, Bool.or_eq_true, List.all_map, List.all_eq_true, Function.comp]
  refine ⟨⟨⟨?_, fun x _ y _ => rfl⟩, fun x _ => rfl⟩, .inl fun x _ => rfl⟩
  rw [D.pls_all]
  simp only [List.all_map, List.all_eq_true, Function.comp]
  exact fun x _ => rfl
theorem rowOf_mem {lot : Lot} {s : Nat} {m : Mv} : m ∈ rowOf lot s ↔ (s, m) ∈ lot := by
  unfold rowOf
  rw [(List.mergeSort_perm _ _).mem_iff, List.mem_map]
  constructor
  · rintro ⟨x, hx, rfl⟩
    rw [List.mem_filter] at hx
    have : x.1 = s := by simpa using hx.2
    rw [← this]
    exact hx.1
  · exact fun h => ⟨(s, m), List.mem_filter.mpr ⟨h, by simp⟩, rfl⟩
theorem rowOf_len (lot : Lot) (s : Nat) : (rowOf lot s).length ≤ lot.length := by
  unfold rowOf
  rw [List.length_mergeSort, List.length_map]
  exact List.length_filter_le _ _
/-- keys are met once -/
def LotNd (lot : Lot) : Prop := (lot.map fun x => (x.1, x.2.h, x.2.c)).Nodup
theorem lotK_inj {x y : Nat × Mv} (h : lotK x = lotK y) : (x.1, x.2.h, x.2.c) = (y.1, y.2.h, y.2.c) := by
  unfold lotK at h
  simp only [List.cons.injEq, Sum.inl.injEq, Sum.inr.injEq, and_true] at h
  have h1 : x.1 = y.1 := by omega
  rw [h1, sgn_inj h.2.1, sgn_inj h.2.2]
theorem nbr_of_pair {α : Type} {r : α → α → Bool} : ∀ {l : List α}, l.Pairwise (fun a b => r a b = true) → nbr r l = true
  | [], _ => rfl
  | [a], _ => rfl
  | a :: b :: l, h => by
    rw [nbr_cons, Bool.and_eq_true]
    rw [List.pairwise_cons] at h
    exact ⟨h.1 b (by simp), nbr_of_pair h.2⟩
theorem rowOf_lt {lot : Lot} (nd : LotNd lot) (s : Nat) : (rowOf lot s).Pairwise fun a b => mvLt a b = true := by
  have h1 : (rowOf lot s).Pairwise fun a b => le3 a b = true := List.pairwise_mergeSort (le := le3) le3_tr le3_tot _
  have h2 : (rowOf lot s).Pairwise fun a b => (a.h, a.c) ≠ (b.h, b.c) := by
    have pm : (rowOf lot s).Perm ((lot.filter fun x => x.1 == s).map (·.2)) := List.mergeSort_perm _ _
    refine (pm.pairwise_iff fun h => fun e => h e.symm).mpr ?_
    rw [List.pairwise_map]
    have h3 : lot.Pairwise fun x y => (x.1, x.2.h, x.2.c) ≠ (y.1, y.2.h, y.2.c) := by
      unfold LotNd at nd
      rw [List.nodup_iff_pairwise_ne, List.pairwise_map] at nd
      exact nd
    have h4 := h3.sublist (List.filter_sublist (p := fun x => x.1 == s))
    refine h4.imp_of_mem fun {x y} hx hy h e => h ?_
    rw [List.mem_filter] at hx hy
    have e1 : x.1 = s := by simpa using hx.2
    have e2 : y.1 = s := by simpa using hy.2
    simp only [Prod.mk.injEq] at e
    rw [e1, e2, e.1, e.2]
  refine (h1.and h2).imp fun {a b} h => ?_
  obtain ⟨h, n⟩ := h
  unfold le3 at h
  rw [Bool.not_eq_true', Bool.eq_false_iff, ne_eq, lt3_iff] at h
  unfold mvLt
  simp only [decide_eq_true_eq]
  simp only [ne_eq, Prod.mk.injEq] at n
  omega
theorem val_lot {lot : Lot} (nd : LotNd lot) {x : Nat × Mv} (h : x ∈ lot) : valD (lotD lot) (lotK x) = some (.int (x.2.t : Int)) := by
  induction lot with
  | nil => simp at h
  | cons y lot ih =>
    unfold LotNd at nd
    rw [List.map_cons, List.nodup_cons] at nd
    rcases List.mem_cons.mp h with rfl | h
    · simp [valD, lotD]
    · have hne : ¬ lotK y = lotK x := fun e => nd.1 (by rw [lotK_inj e]; exact List.mem_map.mpr ⟨x, h, rfl⟩)
      have := ih nd.2 h
      unfold valD lotD at this ⊢
      rw [List.map_cons, List.find?_cons]
      simp only [hne, decide_false]
      exact this
theorem nat_beq (a b : Nat) : ((a : Int) == (b : Int)) = (a == b) := by
  rw [Bool.eq_iff_iff, beq_iff_eq, beq_iff_eq]
  omega
theorem rows_eq (lot : Lot) (n : Nat) : D.tup ((List.range n).map fun s => rowD (rowOf lot s)) = rowsD (rowsOf lot n) := by simp [rowsD, rowsOf]
theorem intL_si (ns : List Int) : D.sis (ns.map D.int) = true := by
  rw [sis_all]
  intro x hx
  obtain ⟨n, _, rfl⟩ := List.mem_map.mp hx
  rfl
theorem intL_ok (ns : List Int) : okE (.lst (ns.map D.int)) (.lst []) = true := by
  refine okE_si (x := .lst (ns.map D.int)) (y := .lst []) (intL_si ns) rfl ?_
  have : D.dps (ns.map D.int) ≤ 0 := dps_le fun x hx => by
    obtain ⟨n, _, rfl⟩ := List.mem_map.mp hx
    simp [D.dp]
  simp only [D.dp]
  omega
theorem intL_eqv (ns : List Int) : D.eqv (.lst (ns.map D.int)) (.lst []) = decide (ns = []) := by
  rw [Bool.eq_iff_iff, eqv_si (x := .lst (ns.map D.int)) (y := .lst []) (intL_si ns) rfl]
  simp
theorem pop_last (ns : List Int) (a : Int) : ((ns ++ [a]).map D.int)[((ns ++ [a]).map D.int).length - 1]? = some (.int a) := by simp
theorem pop_rest (ns : List Int) (a : Int) : ((ns ++ [a]).map D.int).dropLast = ns.map D.int := by simp
end Pace
end
section
set_option Elab.async false
set_option linter.all false
set_option maxRecDepth 100000
set_option maxHeartbeats 4000000
/-! M4: the rules that the law knows. -/
namespace Pace
open PySem PySem.Spec PyProof.Rows L2 DL
theorem s_a : Str.ofString "a" = sgn 97 := by decide +kernel
theorem s_b : Str.ofString "b" = sgn 98 := by decide +kernel
theorem s_x : Str.ofString "x" = sgn 120 := by decide +kernel
theorem s_a' : sgn 97 = strOf [97] := rfl
theorem s_ab : Str.ofString "ab" = strOf [97, 98] := by decide +kernel
theorem s_abx : Str.ofString "abx" = strOf [97, 98, 120] := by decide +kernel
theorem s_xy : Str.ofString "xy" = strOf [120, 121] := by decide +kernel
theorem s_abc : Str.ofString "abc" = strOf [97, 98, 99] := by decide +kernel
def kTop : List Mv := [⟨97, 97, 1⟩, ⟨97, 98, 2⟩, ⟨98, 97, 1⟩, ⟨98, 98, 2⟩]
def kLate : List (List Mv) := [kTop, [⟨97, 97, 1⟩, ⟨97, 98, 2⟩], [⟨98, 97, 1⟩, ⟨98, 98, 2⟩]]
def kVow : List (List Mv) := [kTop, [⟨97, 97, 1⟩], [⟨97, 97, 2⟩, ⟨98, 97, 2⟩]]
def kTurn : List (List Mv) := [kTop, [⟨97, 97, 0⟩, ⟨97, 98, 0⟩], [⟨98, 97, 0⟩, ⟨98, 98, 0⟩]]
def kFar : List (List Mv) := [kTop ++ [⟨120, 97, 1⟩, ⟨120, 98, 2⟩], [⟨97, 97, 3⟩, ⟨120, 97, 1⟩], [⟨98, 97, 3⟩, ⟨120, 97, 2⟩], [⟨97, 97, 3⟩, ⟨98, 97, 3⟩, ⟨120, 97, 3⟩]]
def knownT : List (List Nat × List (List Mv)) := [([97, 98], kLate), ([97, 98], kVow), ([97, 98], kTurn), ([97, 98, 120], kFar)]
theorem known_mute : ∀ k ∈ knownT, muteOf k.2 k.1 = none := by decide +kernel
theorem known_val : ∀ k ∈ knownT, (lettersB k.1 && lettersB [97, 98] && decide (k.1.length ≤ 1000) && decide (1 ≤ k.2.length) && decide (k.2.length ≤ 4) && k.2.all fun r => rowB k.1 [97, 98] k.2.length r && decide (r.length ≤ 6)) = true := by decide +kernel
/-- what the law's rules are like -/
structure Some_ (top : Nat) (hs ws : List Nat) (rs : List (List Mv)) : Prop where
  val : RulV hs ws rs
  mute : muteOf rs hs = none
  few : Few rs
  n : rs.length ≤ top
theorem known_some {k : List Nat × List (List Mv)} (h : k ∈ knownT) : Some_ 4 k.1 [97, 98] k.2 := by
  have := known_val k h
  simp only [Bool.and_eq_true, decide_eq_true_eq, List.all_eq_true] at this
  obtain ⟨⟨⟨⟨⟨h1, h2⟩, h3⟩, h4⟩, h5⟩, h6⟩ := this
  exact ⟨⟨h1, h2, h3, by decide, h4, by omega, fun r hr => ⟨(h6 r hr).1, by have := (h6 r hr).2; omega⟩⟩, known_mute k h, ⟨6, fun r hr => (h6 r hr).2, by omega⟩, h5⟩
theorem texts_sgn : ∀ cs : List Nat, texts (cs.map fun c => .str (sgn c)) = some (cs.map sgn)
  | [] => rfl
  | c :: cs => by simp [texts, texts_sgn cs]
theorem join_sgn : ∀ cs : List Nat, Txt.join (Str.ofString "") (cs.map sgn) = strOf cs := by
  have hn : ∀ x : Str, Str.ofString "" ++ x = x := fun x => by
    rw [str_nil]
    show (⟨#[] ++ x.cps⟩ : Str) = x
    simp
  intro cs
  rw [TL.join_eq]
  induction cs with
  | nil => rw [← str_nil]; rfl
  | cons c cs ih =>
    cases cs with
    | nil => rfl
    | cons d cs =>
      show sgn c ++ Str.ofString "" ++ Str.join (Str.ofString "") ((d :: cs).map sgn) = _
      rw [ih]
      have : sgn c ++ Str.ofString "" = sgn c := by
        rw [str_nil]
        show (⟨#[c] ++ #[]⟩ : Str) = _
        rfl
      rw [this]
      exact strOf_app [c] (d :: cs)
theorem sgn_sum (cs : List Nat) : ((cs.map sgn).map (·.length)).sum = cs.length := by
  induction cs with
  | nil => rfl
  | cons c cs ih =>
    simp only [List.map_cons, List.sum_cons, ih, List.length_cons]
    have : (sgn c).length = 1 := rfl
    omega
end Pace
end
section
set_option Elab.async false
set_option linter.all false
set_option maxRecDepth 100000
set_option maxHeartbeats 4000000
/-! M5: a lot grows. -/
namespace Pace
open PySem PySem.Spec PyProof.Rows L2 DL
def key3 (x : Nat × Mv) : Nat × Nat × Nat := (x.1, x.2.h, x.2.c)
def lotPut (lot : Lot) (x : Nat × Mv) : Lot := if lot.any (fun y => decide (key3 y = key3 x)) then lot.map (fun y => if key3 y = key3 x then x else y) else lot ++ [x]
structure LotOk (sz : Nat) (hs ws : List Nat) (lot : Lot) : Prop where
  nd : LotNd lot
  at_ : ∀ x ∈ lot, x.1 < sz ∧ x.2.h ∈ hs ∧ x.2.c ∈ ws ∧ x.2.t < sz
theorem lotK_iff (x y : Nat × Mv) : lotK x = lotK y ↔ key3 x = key3 y := by
  constructor
  · exact lotK_inj
  · intro h
    unfold key3 at h
    simp only [Prod.mk.injEq] at h
    unfold lotK
    rw [h.1, h.2.1, h.2.2]
theorem lotD_put (lot : Lot) (x : Nat × Mv) : putD (lotD lot) (lotK x) (.int (x.2.t : Int)) = lotD (lotPut lot x) := by
  have e : ((lotD lot).any fun kv => decide (kv.1 = lotK x)) = lot.any fun y => decide (key3 y = key3 x) := by
    unfold lotD
    rw [List.any_map]
    congr 1
    funext y
    exact decide_eq_decide.mpr (lotK_iff y x)
  unfold putD lotPut
  rw [e]
  split
  · unfold lotD
    rw [List.map_map, List.map_map]
    refine List.map_congr_left fun y _ => ?_
    simp only [Function.comp]
    by_cases h : key3 y = key3 x
    · rw [if_pos ((lotK_iff y x).mpr h), if_pos h]
      rw [(lotK_iff y x).mpr h]
    · rw [if_neg (fun z => h ((lotK_iff y x).mp z)), if_neg h]
  · simp [lotD]
theorem lotPut_keys (lot : Lot) (x : Nat × Mv) : (lotPut lot x).map key3 = if lot.any (fun y => decide (key3 y = key3 x)) then lot.map key3 else lot.map key3 ++ [key3 x] := by
  unfold lotPut
  split
  · rw [List.map_map]
    refine List.map_congr_left fun y _ => ?_
    simp only [Function.comp]
    split
    · rename_i h; exact h.symm
    · rfl
  · simp
theorem lotPut_mem {lot : Lot} {x y : Nat × Mv} (h : y ∈ lotPut lot x) : y ∈ lot ∨ y = x := by
  unfold lotPut at h
  split at h
  · obtain ⟨z, hz, rfl⟩ := List.mem_map.mp h
    split
    · exact .inr rfl
    · exact .inl hz
  · rcases List.mem_append.mp h with h | h
    · exact .inl h
    · simp at h; exact .inr h
theorem LotOk.put {sz : Nat} {hs ws : List Nat} {lot : Lot} (h : LotOk sz hs ws lot) {x : Nat × Mv} (hx : x.1 < sz ∧ x.2.h ∈ hs ∧ x.2.c ∈ ws ∧ x.2.t < sz) : LotOk sz hs ws (lotPut lot x) where
  nd := by
    have e := lotPut_keys lot x
    have n0 : (lot.map key3).Nodup := h.nd
    show ((lotPut lot x).map key3).Nodup
    rw [e]
    split
    · exact n0
    · rename_i hn
      rw [List.nodup_append]
      refine ⟨n0, by simp, fun a ha b hb => ?_⟩
      simp at hb
      subst hb
      intro e
      subst e
      obtain ⟨y, hy, e2⟩ := List.mem_map.mp ha
      exact hn (List.any_eq_true.mpr ⟨y, hy, by simpa using e2⟩)
  at_ := fun y hy => by
    rcases lotPut_mem hy with hy | rfl
    · exact h.at_ y hy
    · exact hx
theorem prod_len (a b : List Nat) : (a.flatMap fun x => b.map fun y => (x, y)).length = a.length * b.length := by
  induction a with
  | nil => simp
  | cons x a ih => simp only [List.flatMap_cons, List.length_append, List.length_map, ih, List.length_cons, Nat.add_mul]; omega
theorem row_few {sz : Nat} {hs ws : List Nat} {lot : Lot} (h : LotOk sz hs ws lot) (s : Nat) : (rowOf lot s).length ≤ hs.length * ws.length := by
  have hp := rowOf_lt h.nd s
  have nd : ((rowOf lot s).map fun m => (m.h, m.c)).Nodup := by
    rw [List.nodup_iff_pairwise_ne, List.pairwise_map]
    refine hp.imp fun {a b} hab e => ?_
    unfold mvLt at hab
    simp only [decide_eq_true_eq] at hab
    simp only [Prod.mk.injEq] at e
    omega
  have := List.Nodup.length_le_of_subset nd (l₂ := hs.flatMap fun x => ws.map fun y => (x, y)) fun p hp => by
    obtain ⟨m, hm, rfl⟩ := List.mem_map.mp hp
    obtain ⟨_, h2, h3, _⟩ := h.at_ _ (rowOf_mem.mp hm)
    exact List.mem_flatMap.mpr ⟨m.h, h2, List.mem_map.mpr ⟨m.c, h3, rfl⟩⟩
  rw [List.length_map, prod_len] at this
  exact this
theorem lot_few {sz : Nat} {hs ws : List Nat} {lot : Lot} (h : LotOk sz hs ws lot) : lot.length ≤ sz * (hs.length * ws.length) := by
  have nd : (lot.map key3).Nodup := h.nd
  have := List.Nodup.length_le_of_subset nd (l₂ := (List.range sz).flatMap fun s => (hs.flatMap fun x => ws.map fun y => (x, y)).map fun p => (s, p)) fun p hp => by
    obtain ⟨x, hx, rfl⟩ := List.mem_map.mp hp
    obtain ⟨h1, h2, h3, _⟩ := h.at_ _ hx
    exact List.mem_flatMap.mpr ⟨x.1, List.mem_range.mpr h1, List.mem_map.mpr ⟨(x.2.h, x.2.c), List.mem_flatMap.mpr ⟨x.2.h, h2, List.mem_map.mpr ⟨x.2.c, h3, rfl⟩⟩, rfl⟩⟩
  have e : ((List.range sz).flatMap fun s => (hs.flatMap fun x => ws.map fun y => (x, y)).map fun p => (s, p)).length ≤ sz * (hs.length * ws.length) := by
    have := flat_len (fun s => (hs.flatMap fun x => ws.map fun y => (x, y)).map fun p => (s, p)) (hs.length * ws.length) (List.range sz) fun s _ => by rw [List.length_map, prod_len]; exact Nat.le_refl _
    simpa using this
  rw [List.length_map] at this
  omega
theorem rowsOf_len (lot : Lot) (n : Nat) : (rowsOf lot n).length = n := by simp [rowsOf]
theorem rowsOf_at {lot : Lot} {n s : Nat} (h : s < n) : (rowsOf lot n).getD s [] = rowOf lot s := by simp [rowsOf, List.getD, h]
theorem rowsOf_val {sz : Nat} {hs ws : List Nat} {lot : Lot} (h : LotOk sz hs ws lot) (lh : lettersB hs = true) (lw : lettersB ws = true) (s1 : 1 ≤ sz) (s4 : sz ≤ 4) (h2 : hs.length ≤ 2) (w3 : ws.length ≤ 3) : RulV hs ws (rowsOf lot sz) where
  lh := lh
  lw := lw
  sh := by omega
  sw := by omega
  n1 := by rw [rowsOf_len]; exact s1
  n2 := by rw [rowsOf_len]; omega
  row := fun r hr => by
    obtain ⟨s, _, rfl⟩ := List.mem_map.mp hr
    have h6 := row_few h s
    have h7 : hs.length * ws.length ≤ 2 * 3 := Nat.mul_le_mul h2 w3
    refine ⟨?_, by omega⟩
    rw [rowsOf_len]
    unfold rowB
    rw [Bool.and_eq_true, List.all_eq_true]
    refine ⟨fun m hm => ?_, nbr_of_pair (rowOf_lt h.nd s)⟩
    obtain ⟨_, a, b, c⟩ := h.at_ _ (rowOf_mem.mp hm)
    unfold mvB
    simp [a, b, c]
theorem rowsOf_few {sz : Nat} {hs ws : List Nat} {lot : Lot} (h : LotOk sz hs ws lot) (s4 : sz ≤ 4) (h2 : hs.length ≤ 2) (w3 : ws.length ≤ 3) : Few (rowsOf lot sz) := by
  have h7 : hs.length * ws.length ≤ 2 * 3 := Nat.mul_le_mul h2 w3
  refine ⟨6, fun r hr => ?_, by rw [rowsOf_len]; omega⟩
  obtain ⟨s, _, rfl⟩ := List.mem_map.mp hr
  have := row_few h s
  omega
theorem rowsOf_ok {sz : Nat} {hs ws : List Nat} {lot : Lot} (h : LotOk sz hs ws lot) (h2 : hs.length ≤ 2) (w3 : ws.length ≤ 3) : ∀ r ∈ rowsOf lot sz, r.length ≤ 1000 ∧ ∀ m ∈ r, m.t < (rowsOf lot sz).length := by
  intro r hr
  have h7 : hs.length * ws.length ≤ 2 * 3 := Nat.mul_le_mul h2 w3
  obtain ⟨s, _, rfl⟩ := List.mem_map.mp hr
  have := row_few h s
  refine ⟨by omega, fun m hm => ?_⟩
  rw [rowsOf_len]
  exact (h.at_ _ (rowOf_mem.mp hm)).2.2.2
/-- states and letters without a move -/
def missing (sz : Nat) (hs : List Nat) (lot : Lot) : Nat := (((List.range sz).flatMap fun s => hs.map fun h => (s, h)).filter fun p => !lot.any fun x => decide ((x.1, x.2.h) = p)).length
theorem missing_le (sz : Nat) (hs : List Nat) (lot : Lot) : missing sz hs lot ≤ sz * hs.length := by
  unfold missing
  refine Nat.le_trans (List.length_filter_le _ _) ?_
  rw [prod_len, List.length_range]
  exact Nat.le_refl _
theorem any_put (lot : Lot) (x : Nat × Mv) (p : Nat × Nat) : ((lotPut lot x).any fun y => decide ((y.1, y.2.h) = p)) = ((lot.any fun y => decide ((y.1, y.2.h) = p)) || decide ((x.1, x.2.h) = p)) := by
  have e : ∀ l : Lot, (l.any fun y => decide ((y.1, y.2.h) = p)) = (l.map key3).any fun k => decide ((k.1, k.2.1) = p) := fun l => by
    rw [List.any_map]; rfl
  rw [e, e, lotPut_keys]
  split
  · rename_i hx
    obtain ⟨y, hy, e2⟩ := List.any_eq_true.mp hx
    have e3 : key3 y = key3 x := of_decide_eq_true e2
    rw [Bool.eq_iff_iff, Bool.or_eq_true]
    constructor
    · exact .inl
    · rintro (h | h)
      · exact h
      · refine List.any_eq_true.mpr ⟨key3 x, e3 ▸ List.mem_map.mpr ⟨y, hy, rfl⟩, ?_⟩
        exact h
  · rw [List.any_append]
    simp [key3]
theorem missing_put {sz : Nat} {hs : List Nat} {lot : Lot} {x : Nat × Mv} (h1 : x.1 < sz) (h2 : x.2.h ∈ hs) (h3 : ∀ m, (x.1, m) ∈ lot → m.h ≠ x.2.h) : missing sz hs (lotPut lot x) < missing sz hs lot := by
  unfold missing
  have e : (((List.range sz).flatMap fun s => hs.map fun h => (s, h)).filter fun p => !(lotPut lot x).any fun y => decide ((y.1, y.2.h) = p)) =
      ((((List.range sz).flatMap fun s => hs.map fun h => (s, h)).filter fun p => !lot.any fun y => decide ((y.1, y.2.h) = p)).filter fun p => !decide ((x.1, x.2.h) = p)) := by
    rw [List.filter_filter]
    congr 1
    funext p
    rw [any_put]
    cases (lot.any fun y => decide ((y.1, y.2.h) = p)) <;> cases decide ((x.1, x.2.h) = p) <;> rfl
  rw [e]
  refine List.length_filter_lt_length_iff_exists.mpr ⟨(x.1, x.2.h), ?_, by simp⟩
  refine List.mem_filter.mpr ⟨List.mem_flatMap.mpr ⟨x.1, List.mem_range.mpr h1, List.mem_map.mpr ⟨x.2.h, h2, rfl⟩⟩, ?_⟩
  rw [Bool.not_eq_true', Bool.eq_false_iff]
  intro z
  obtain ⟨y, hy, e2⟩ := List.any_eq_true.mp z
  have e3 := of_decide_eq_true e2
  simp only [Prod.mk.injEq] at e3
  obtain ⟨a, m⟩ := y
  simp only at e3 hy
  exact h3 m (e3.1 ▸ hy) e3.2
theorem no_move {sz : Nat} {hs : List Nat} {lot : Lot} {q : List Nat} {c s : Nat} (hr : run (rowsOf lot sz) [0] (q ++ [c]) = []) (hs' : s ∈ run (rowsOf lot sz) [0] q) (h1 : s < sz) : ∀ m, (s, m) ∈ lot → m.h ≠ c := by
  intro m hm e
  rw [run_snoc] at hr
  have : m.t ∈ behind (rowsOf lot sz) (run (rowsOf lot sz) [0] q) c := behind_mem.mpr ⟨s, hs', m, by rw [rowsOf_at h1]; exact rowOf_mem.mpr hm, e, rfl⟩
  rw [hr] at this
  simp at this
theorem last_sgn {q : List Nat} {c : Nat} (h : (strOf (q ++ [c])).length ≤ sizeLine) : D.item (.str (strOf (q ++ [c]))) (.int (-1)) = some (.str (sgn c)) := by
  show (if (strOf (q ++ [c])).length ≤ sizeLine then (atI (strOf (q ++ [c])).cps.toList (-1)).map _ else _) = _
  rw [if_pos h]
  have : atI (strOf (q ++ [c])).cps.toList (-1) = some c := by
    have e : (strOf (q ++ [c])).cps.toList = q ++ [c] := by simp [strOf]
    rw [e]
    unfold atI
    have e2 : ixN (q ++ [c]).length (-1) = some q.length := by
      unfold ixN
      simp
      omega
    rw [e2]
    simp
  rw [this]
  rfl
end Pace
end
section
set_option Elab.async false
set_option linter.all false
set_option maxRecDepth 100000
set_option maxHeartbeats 4000000
/-! DLsa: sorted(set(l)) of a list of texts. -/
namespace DL
open PySem PySem.Spec PyProof.Rows L2
def tkey (e : Int × Value) : Str := match e.2 with | .str k _ => k | _ => ""
def TGood (w : World) (e : Int × Value) : Prop := ∃ k tk, e.2 = Value.str k tk ∧ e.1 = hashStr w k
/-- the set of texts at a: ks its members in some order; the table rises and can be walked -/
def SetS (w : World) (h : Heap) (a : Addr) (ks : List Str) : Prop :=
  ∃ o es ep t, h.get? a = some o ∧ o.ExactSet ∧ o.data = .set es ep t ∧ (∀ e ∈ es.toList, TGood w e) ∧ (es.toList.map tkey).Perm ks ∧ ks.Nodup ∧
    es.size < scanBound ∧ t.fits es.size = true ∧ Ris t.place.toList ∧ (w.params.followText "set-order" = true ∨ t.led = true)
section
variable {P : Program} {w : World} {h h' : Heap} {a : Addr} {ks : List Str}
theorem SetS.keep (R : SetS w h a ks) (k : ∀ o, h.get? a = some o → h'.get? a = some o) : SetS w h' a ks := by
  obtain ⟨o, es, ep, t, q, r⟩ := R
  exact ⟨o, es, ep, t, k o q, r⟩
theorem tgood_elems {l : List (Int × Value)} (g : ∀ e ∈ l, TGood w e) : ElemsOf (strKind P w) l := fun e he => by
  obtain ⟨k, tk, p1, p2⟩ := g e he
  exact ⟨⟨k, by rw [p1]; exact strKind_is P w k tk, p2⟩, by rw [p1] <;> rfl⟩
theorem tgood_is {e : Int × Value} (g : TGood w e) (k : Str) : (strKind P w).is k e.2 = true ↔ tkey e = k := by
  obtain ⟨k0, tk, p1, _⟩ := g
  unfold tkey
  rw [p1]
  refine ⟨fun z => ?_, fun z => z ▸ strKind_is P w k0 tk⟩
  simpa [PySem.strKind, Value.isStrOf] using z
end
section
variable {P : Program} {w : World} {A : Around} {E : Value → Shared → Prop} {s : Shared} {a : Addr} {ks : List Str}
theorem sets_tail {g : Bool → Sem Unit} (zg : ∀ (b : Bool) (z1 : Shared) (Q' : Unit → Shared → Prop), Q' () z1 → wpAny (model P w) A (g b) Q' E z1)
    {o : Obj} {es : Array (Int × Value)} {ep : Nat} {t : SetTable} (zo : s.heap.get? a = some o) (zx : o.ExactSet) (zd : o.data = .set es ep t)
    {fs : Array (Int × Value)} {u : SetTable} (z1 : ∀ e ∈ fs.toList, TGood w e) (z2 : (fs.toList.map tkey).Perm ks) (z3 : ks.Nodup)
    (z4 : fs.size < scanBound) (z5 : u.fits fs.size = true) (z6 : Ris u.place.toList) (z7 : w.params.followText "set-order" = true ∨ u.led = true) {wd : Bool} {R : Option Bool → Shared → Prop}
    (zR : ∀ h', Heap.SameBut a s.heap h' → SetS w h' a ks → R (some true) { s with heap := h' }) :
    wpAny (model P w) A (do
        storeSet a fs u
        if (!wd && u.tooFull) = true then do
            g (relayAll u fs (SetTable.grown fs.size)).2.2
            storeSet a (relayAll u fs (SetTable.grown fs.size)).1 (relayAll u fs (SetTable.grown fs.size)).2.1
            pure (some true)
          else pure (some true)) R E s := by
  refine wpAny_bind (wpAny_storeSet_of zo zd ?_ (fits_of_scanBound z4))
  have zo1 := store_at (es' := fs) (t' := u) zo zd
  have zb1 := Heap.SameBut.update s.heap a (Obj.putSet fs u)
  by_cases zc : (!wd && u.tooFull) = true
  · rw [if_pos zc]
    have y1 := relayAll_perm u fs (SetTable.grown fs.size)
    have y2 := relayAll_fits u fs (SetTable.grown fs.size)
    have y3 := relayAll_ris u fs (SetTable.grown fs.size)
    have y4 := relayAll_led u fs (SetTable.grown fs.size)
    generalize relayAll u fs (SetTable.grown fs.size) = Z at y1 y2 y3 y4 ⊢
    obtain ⟨gs, v, gv⟩ := Z
    dsimp only at y1 y2 y3 y4 ⊢
    have ysz : gs.size = fs.size := by rw [← Array.length_toList, y1.length_eq, Array.length_toList]
    refine wpAny_bind (zg _ _ _ ?_)
    refine wpAny_bind (wpAny_storeSet_of zo1 rfl ?_ (fits_of_scanBound (by rw [ysz]; exact z4)))
    have zo2 := store_at (es' := gs) (t' := v) zo1 rfl
    refine wpAny_pure (zR _ (zb1.trans (Heap.SameBut.update _ a _)) ?_)
    exact ⟨_, gs, _, v, zo2, zx, rfl, fun e he => z1 e (y1.mem_iff.mp he), (y1.map tkey).trans z2, z3, by rw [ysz]; exact z4, y2, y3, z7.imp id fun z => by rw [y4]; exact z⟩
  · rw [if_neg zc]
    exact wpAny_pure (zR _ zb1 ⟨_, fs, _, u, zo1, zx, rfl, z1, z2, z3, z4, z5, z6, z7⟩)
theorem sets_addH {k : Str} {tk : Tok} {Q : Bool → Shared → Prop} (R : SetS w s.heap a ks) (room : ks.length + 1 < scanBound)
    (zQ : ∀ h', Heap.SameBut a s.heap h' → SetS w h' a (addF ks k) → Q (!decide (k ∈ ks)) { s with heap := h' }) :
    wpAny (model P w) A (setAddHashed a (.str k tk) ((strKind P w).hash k)) Q E s := by
  obtain ⟨o, es, ep, t, zo, zx, zd, zg, zp, zn, zb, zf, zr, zl⟩ := R
  have zk : (strKind P w).is k (.str k tk) = true := strKind_is P w k tk
  have zs : (Value.str k tk).scannable = true := rfl
  have ze : ElemsOf (strKind P w) es.toList := tgood_elems zg
  have zsz : es.size = ks.length := by rw [← Array.length_toList, ← List.length_map (f := tkey), zp.length_eq]
  unfold setAddHashed setAddHashedIn
  refine wpAny_holding (wpAny_bind (wpAny_setState_of zo zd zf ?_))
  dsimp only
  rw [byScan_of zs zb ze]
  simp only [↓reduceIte]
  unfold setAddByScan
  refine wpAny_bind ?_
  refine wpAny_bind (wpAny_rule ?_)
  refine wpAny_bind (wpAny_setScan_of zk zo zd zf ze ?_)
  cases zfi : List.findIdx? (fun e => (strKind P w).is k e.2) es.toList with
  | some j =>
    dsimp only
    obtain ⟨hj, pj, _⟩ := List.findIdx?_eq_some_iff_getElem.mp zfi
    have hin : k ∈ ks := zp.mem_iff.mp (List.mem_map.mpr ⟨es.toList[j], List.getElem_mem hj, (tgood_is (P := P) (zg _ (List.getElem_mem hj)) k).1 pj⟩)
    refine wpAny_pure (wpAny_pure ?_)
    have q := zQ s.heap (Heap.SameBut.refl a s.heap) ⟨o, es, ep, t, zo, zx, zd, zg, by rw [show addF ks k = ks from if_pos hin]; exact zp, addF_nodup zn, zb, zf, zr, zl⟩
    rw [decide_eq_true hin] at q
    exact q
  | none =>
    dsimp only
    have hout : k ∉ ks := fun z => by
      obtain ⟨e, he, q⟩ := List.mem_map.mp (zp.mem_iff.mpr z)
      have c := List.findIdx?_eq_none_iff.mp zfi e he
      rw [(tgood_is (P := P) (zg e he) k).2 q] at c
      cases c
    have zgw : ∀ (b : Bool) {z1 : Shared} {Q' : Unit → Shared → Prop}, Q' () z1 → wpAny (model P w) A (match b with | true => rule "set.scan.the-table-gave-way" | false => pure ()) Q' E z1 :=
      fun b z1 Q' q => by cases b <;> first | exact wpAny_pure q | exact wpAny_rule q
    have y1 := layNew_perm t es ((strKind P w).hash k) (.str k tk)
    have y2 := layNew_fits t es ((strKind P w).hash k) (.str k tk)
    have y3 := layNew_ris t es ((strKind P w).hash k) (.str k tk) zr
    have y4 := layNew_led t es ((strKind P w).hash k) (.str k tk)
    generalize layNew t es ((strKind P w).hash k) (.str k tk) = Z at y1 y2 y3 y4 ⊢
    obtain ⟨fs, u, wd, gv⟩ := Z
    dsimp only at y1 y2 y3 y4 ⊢
    rw [Array.toList_push] at y1
    have x1 : ∀ e ∈ fs.toList, TGood w e := fun e he => by
      rcases List.mem_append.mp (y1.mem_iff.mp he) with z | z
      · exact zg e z
      · rw [List.mem_singleton.mp z]; exact ⟨k, tk, rfl, rfl⟩
    have ea : addF ks k = ks ++ [k] := if_neg hout
    have x2 : (fs.toList.map tkey).Perm (addF ks k) := by
      have q := y1.map tkey
      rw [List.map_append] at q
      rw [ea]
      exact q.trans (List.Perm.append_right _ zp)
    have x3 : (addF ks k).Nodup := addF_nodup zn
    have x4 : fs.size < scanBound := by
      rw [← Array.length_toList, y1.length_eq, List.length_append, Array.length_toList, zsz]
      exact room
    have x7 : w.params.followText "set-order" = true ∨ u.led = true := zl.imp id fun z => by rw [y4]; exact z
    have fin : ∀ h', Heap.SameBut a s.heap h' → SetS w h' a (addF ks k) → Q true { s with heap := h' } := fun h' sb r => by
      have q := zQ h' sb r
      rw [decide_eq_false hout] at q
      exact q
    refine wpAny_bind (zgw _ ?_)
    split
    · refine wpAny_bind ?_
      rw [hashByValue_scannable 8 zs]
      refine wpAny_pure ?_
      refine sets_tail ?_ zo zx zd x1 x2 x3 x4 ?_ ?_ ?_ ?_
      · intro b z1 Q' q; cases b <;> first | exact wpAny_pure q | exact wpAny_rule q
      · first | (split <;> first | exact y2 | exact SetTable.fits_plain_off y2) | exact y2
      · first | (split <;> exact y3) | exact y3
      · first | (split <;> exact x7) | exact x7
      · intro h' sb r; dsimp only; exact wpAny_pure (fin h' sb r)
    · refine wpAny_bind (wpAny_pure ?_)
      simp only [↓reduceIte]
      refine sets_tail ?_ zo zx zd x1 x2 x3 x4 y2 y3 x7 ?_
      · intro b z1 Q' q; cases b <;> first | exact wpAny_pure q | exact wpAny_rule q
      · intro h' sb r; dsimp only; exact wpAny_pure (fin h' sb r)
theorem firstsF_snoc {α : Type} [DecidableEq α] (l : List α) (x : α) : firstsF (l ++ [x]) = addF (firstsF l) x := by simp [firstsF]
theorem addF_len {α : Type} [DecidableEq α] (l : List α) (x : α) : (addF l x).length ≤ l.length + 1 := by unfold addF; split <;> simp
theorem firstsF_len {α : Type} [DecidableEq α] (l : List α) : (firstsF l).length ≤ l.length := by
  have : ∀ (l : List α) (acc : List α), (l.foldl addF acc).length ≤ acc.length + l.length := by
    intro l
    induction l with
    | nil => intro acc; simp
    | cons x l ih =>
      intro acc
      have h1 := ih (addF acc x)
      have h2 := addF_len acc x
      simp only [List.foldl_cons, List.length_cons]
      omega
  simpa [firstsF] using this l []
theorem sets_loop {I : Addr} {fp wr : List Addr} {G : Array GenState → Array GenState → Prop} {n : Nat} {Pv : Nat → Value → Prop} {St : Nat → Shared → Prop} {R : Result → Shared → Prop}
    (W : WalksS P w A.in1 I fp wr G n Pv St) (S : Addr) (zS : S ∉ fp) (xs : List Str) (zn : n = xs.length) (zb : xs.length + 1 < scanBound) (zv : ∀ i v, Pv i v → ∃ k t, xs[i]? = some k ∧ v = .str k t) :
    ∀ (k i : Nat) (s : Shared), n - i = k → i ≤ n → St i s → SetS w s.heap S (firstsF (xs.take i)) →
      (∀ s', Moved (S :: wr) G s s' → SetS w s'.heap S (firstsF xs) → R (.ok (.ret .none)) s') →
      codeAny (model P w) A (.builtin "set.update.loop" ⟨[.ref S, .ref I], []⟩) R s := by
  have zSw : S ∉ wr := fun h => zS (W.sub _ h)
  have zsub : ∀ b ∈ wr, b ∈ S :: wr := fun b hb => List.mem_cons_of_mem _ hb
  intro k
  induction k with
  | zero =>
    intro i s e1 e2 st zH zR
    have ei : i = n := by omega
    subst ei
    refine codeAny_builtin F.entry_set_update_loop ?_
    rw [Around.under_plainId F.plain_set_update_loop _]
    show wpAny _ A.in1 (pyNext (.ref I) >>= _) _ _ s
    refine wpAny_bind (W.done s _ _ st fun s' zm => ?_)
    show wpAny _ A.in1 (ret Value.none) _ _ s'
    rw [List.take_of_length_le (by omega)] at zH
    exact wpAny_pure (zR s' (zm.mono zsub) (zH.keep fun o e => zm.heap S o zSw e))
  | succ k ih =>
    intro i s e1 e2 st zH zR
    have hlt : i < n := by omega
    refine codeAny_builtin F.entry_set_update_loop ?_
    rw [Around.under_plainId F.plain_set_update_loop _]
    show wpAny _ A.in1 (pyNext (.ref I) >>= _) _ _ s
    refine wpAny_bind (W.item i s _ _ hlt st fun v s' hP st' zm => ?_)
    obtain ⟨z, t, hz, rfl⟩ := zv i v hP
    have zH' : SetS w s'.heap S (firstsF (xs.take i)) := zH.keep fun o e => zm.heap S o zSw e
    show wpAny _ A.in1 (holding [Value.str z t] (setAdd S (.str z t)) >>= _) _ _ s'
    refine wpAny_bind (wpAny_holding ?_)
    unfold setAdd
    refine wpAny_holding ?_
    refine wpAny_bind ((strKind P w).pyHash (k := z) (strKind_is _ _ _ _) ?_)
    have hfl := firstsF_len (xs.take i)
    rw [List.length_take] at hfl
    refine sets_addH (s := { s' with toks := s'.toks + 1 }) zH' (by omega) fun h' sb zH2 => ?_
    rw [← firstsF_snoc] at zH2
    have et : xs.take (i + 1) = xs.take i ++ [z] := by rw [List.take_add_one, hz]; rfl
    rw [← et] at zH2
    refine wpAny_pure ⟨plainId_quiet F.plain_set_update_loop _, ih (i + 1) _ (by omega) hlt (W.frame _ s' _ _ st' (Nat.le_succ _) fun b hb o e => ?_) zH2 fun s2 zm2 zH3 => ?_⟩
    · rw [sb.2 b (fun h : b = S => zS (by rw [← h]; exact hb))]; exact e
    · refine zR s2 (Moved.trans W.gtrans ((zm.mono zsub).then_heap (Nat.le_succ _) fun b o hb e => ?_) zm2) zH3
      rw [sb.2 b (fun h : b = S => hb (by rw [h]; exact List.mem_cons_self))]; exact e
theorem sets_new {h : Heap} {a : Addr} (ho : h.get? a = some (eSet w)) : SetS w h a (firstsF []) := by
  refine ⟨_, #[], 0, _, ho, ⟨rfl, rfl, rfl⟩, rfl, (fun e he => by simp at he), List.Perm.nil, List.nodup_nil, (by decide), (by rfl), List.Pairwise.nil, ?_⟩
  show _ ∨ (!w.params.followText "set-order") = true
  cases w.params.followText "set-order"
  · exact .inr rfl
  · exact .inl rfl
theorem call_set_lstS {l : Addr} {its : Array Value} (ns : List Str) {Q : Value → Shared → Prop} (zh : A.handled = none) (zl : s.heap.IsList l its) (zit : StrsAre its.toList ns) (zb : ns.length + 1 < scanBound)
    (h : ∀ (h' : Heap) (tk1 : Nat), SetS w h' s.heap.objs.size (firstsF ns) → (∀ b o, s.heap.get? b = some o → h'.get? b = some o) → Q (.ref s.heap.objs.size) { s with heap := h', toks := tk1 }) : wpAny (model P w) A (call (.type "set") [.ref l]) Q E s := by
  have zsz : its.size = ns.length := by
    have q := StrsAre.length zit
    rw [Array.length_toList] at q
    exact q
  obtain ⟨c, tl, zmro⟩ := F.called_set.mro
  have zmade := F.called_set.made
  have zsub := F.called_set.sub
  (refine wpAny_call (codeAny_of_tree ?_))
  (show wpAny _ _ (callAny (.type "set") _) _ _ _)
  (refine wpAny_pure ⟨Code.quiet_builtin _ (by decide +kernel), codeAny_builtin F.entry_type_call ?_⟩)
  (rw [Around.under_plain (weight_type_call_type "set" [.ref l] []) rfl])
  have z1 := F.called_set.notType
  have z2 := F.called_set.canCreate
  have zct := F.typeCall_set_1 (.ref l)
  (repeat (any_goals (first | assumption | wp_step)))
  refine codeAny_mono (code_set_led1 (.ref l) (E := E) (Q₁ := fun ob s1 => ob = .ref s.heap.objs.size ∧ s1 = { s with heap := s.heap.push (eSet w) }) ⟨rfl, rfl⟩) fun r s1 zr => ?_
  cases r with
  | error e => exact zr
  | ok fl1 =>
    cases fl1 with
    | ret ob =>
      obtain ⟨rfl, rfl⟩ := zr
      have zS : (s.heap.push (eSet w)).get? s.heap.objs.size = some (eSet w) := Heap.get?_push_size _ rfl
      have zT : Shared.TypeIs { s with heap := s.heap.push (eSet w) } (.ref s.heap.objs.size) "set" := ⟨_, zS, rfl⟩
      have zli := F.called_set.init.lookup
      have zbi := F.called_set.init.bind (.ref s.heap.objs.size)
      (repeat (any_goals (first | assumption | wp_step)))
      refine codeAny_mono (codeAny_call_builtin (R := wants (fun r s2 => r = .none ∧ ∃ h' tk1, s2 = { s with heap := h', toks := tk1 } ∧ SetS w h' s.heap.objs.size (firstsF ns) ∧
          (∀ b o, s.heap.get? b = some o → h'.get? b = some o)) E) F.called_set.init.plain F.entry_set_init (check_set_init_1 zT ?_)) fun r2 s2 zr2 => ?_
      · obtain ⟨zo, zol, zcl, zn, zdl⟩ := zl
        obtain ⟨zc1, zc2, zc3, zc4⟩ := zo
        simp only at zcl zdl
        subst zcl; subst zdl
        have zol' : (s.heap.push (eSet w)).get? l = some { cls := .type "list", dict := zc2, data := .seq its zn, slots := zc4 } := Heap.get?_push_of_some _ zol
        have zs1 := F.sub_list_set
        have zs2 := F.sub_list_frozenset
        have zne : (Value.type "list" == Value.type "dict") = false := by decide
        have zl1 : (s.heap.push (eSet w)).IsList l its := ⟨_, zol', rfl, zn, rfl⟩
        (unfold Builtin.«set.__init__» noKeywords Builtin.Frozenset.updateFrom)
        generalize zPI : pyIter = ZI
        wp_walk
        subst zPI
        refine wpAny_pyIter_list zl1 ?_
        (refine wpAny_bind (wpAny_runValue ?_))
        have zlS : l < s.heap.objs.size := Heap.lt_size zol
        have zh3 : A.in1.in1.in1.handled = none := by simp [zh]
        have zz1 : (s.heap.push (eSet w)).objs.size = s.heap.objs.size + 1 := Heap.size_push ..
        have zneI : l ≠ (s.heap.push (eSet w)).objs.size := by
          rw [Heap.size_push]; exact Nat.ne_of_lt (Nat.lt_succ_of_lt zlS)
        have zSf : s.heap.objs.size ∉ [(s.heap.push (eSet w)).objs.size, l] := by
          (rw [Heap.size_push]; simp only [List.mem_cons, List.mem_singleton, List.not_mem_nil, or_false, not_or])
          exact ⟨Nat.ne_of_lt (Nat.lt_succ_self _), Nat.ne_of_gt zlS⟩
        have zval : ∀ (i : Nat) (v : Value), its[i]? = some v → ∃ k t, ns[i]? = some k ∧ v = .str k t := fun i v zv => by
          have zi : i < ns.length := by rw [← zsz]; exact (Array.getElem?_eq_some_iff.mp zv).1
          obtain ⟨y, t, e, ey⟩ := StrsAre.item zit i v (by rw [Array.getElem?_toList]; exact zv)
          exact ⟨y, t, ey, e⟩
        refine sets_loop ((Walks.list zh3 _ l zneI its).toS) s.heap.objs.size
          zSf ns zsz zb zval (its.size - 0) 0 _ (by omega) (Nat.zero_le _)
          ⟨⟨_, Heap.get?_push_size _ rfl, rfl, rfl⟩, (zl1.push _)⟩ ?hS0 ?hR
        case hS0 =>
          have zget : ((s.heap.push (eSet w)).push { cls := .type "list_iterator", data := .fields #[.ref l, .int 0 0] }).get? s.heap.objs.size
              = some (eSet w) := Heap.get?_push_of_some _ zS
          exact sets_new zget
        case hR =>
          intro s' zm zS'
          obtain ⟨h', q2, q3, q4, q5⟩ := s'
          have y1 : q2 = s.gens := zm.gens
          have y2 : q3 = s.drawn := zm.drawn
          have y3 : q5 = s.os := zm.os
          subst y1; subst y2; subst y3
          show wpAny _ _ _ _ _ _
          refine wpAny_pure ?_
          (show wpAny _ _ (ret Value.none) _ _ _)
          refine wpAny_pure ⟨rfl, h', q4, rfl, zS', fun b o e => ?_⟩
          have y4 : b < s.heap.objs.size := Heap.lt_size e
          have y5 : b ≠ s.heap.objs.size := Nat.ne_of_lt y4
          have y6 : b ≠ (s.heap.push (eSet w)).objs.size := by
            rw [Heap.size_push]; exact Nat.ne_of_lt (Nat.lt_succ_of_lt y4)
          exact zm.heap b o (by simp only [List.mem_cons, List.mem_singleton, List.not_mem_nil, or_false, not_or]; exact ⟨y5, y6⟩) (Heap.get?_push_of_some _ (Heap.get?_push_of_some _ e))
      · cases r2 with
        | error e => exact zr2
        | ok fl2 =>
          cases fl2 with
          | ret r =>
            obtain ⟨rfl, h', tk1, rfl, zS', zk'⟩ := zr2
            (repeat (any_goals (first | assumption | wp_step)))
            exact h _ _ zS' zk'
          | _ => exact zr2.elim
    | _ => exact zr.elim
theorem strs_of : ∀ (l : List Value), (∀ v ∈ l, ∃ k tk, v = Value.str k tk) → StrsAre l (l.map fun v => tkey (0, v))
  | [], _ => .nil
  | v :: l, h => by
    obtain ⟨k, tk, rfl⟩ := h v List.mem_cons_self
    exact .cons k tk (strs_of l fun u hu => h u (List.mem_cons_of_mem _ hu))
theorem sorted_sets {Q : Value → Shared → Prop} (R : SetS w s.heap a ks) (zh : A.handled = none)
    (zQ : ∀ s' p (out : Array Value) (c : Nat) (ys : List Str), (∀ b o, s.heap.get? b = some o → s'.heap.get? b = some o) → s'.gens = s.gens → s'.os = s.os → s.heap.objs.size ≤ p →
      s'.heap.get? p = some (seqObj "list" out c) → StrsAre out.toList ys → ys.Perm ks → sortedS ys = true → Q (.ref p) s') :
    wpAny (model P w) A (call (.builtin "sorted") [.ref a]) Q E s := by
  obtain ⟨o, es, ep, t, zo, zx, zd, zg, zp, zn, zb, zf, zr, zl⟩ := R
  refine Calls.call_function_entry kind_sorted plain_sorted entry_sorted (args_sorted1 _) ?_
  unfold Builtin.«sorted»
  refine wpAny_bind (m := checkCount "sorted" 1 1 _) (wpAny_pure ?_)
  refine wpAny_bind (collect_set (A := A.in1) zh ⟨o, zo, zx.1, zd⟩ zf zb zr zl fun s1 vs k1 hz g1 o1 pm => ?_)
  have x1 : StrsAre vs (vs.map fun v => tkey (0, v)) := strs_of vs fun v hv => by
    obtain ⟨e, he, q⟩ := List.mem_map.mp (pm.mem_iff.mp hv)
    obtain ⟨k, tk, h1, _⟩ := zg e he
    exact ⟨k, tk, by rw [← q]; exact h1⟩
  have x2 : (vs.map fun v => tkey (0, v)).Perm ks := by
    have q := pm.map fun v => tkey (0, v)
    rw [List.map_map] at q
    exact q.trans zp
  have x3 : vs.length ≤ sizeLine := by
    rw [pm.length_eq, List.length_map, Array.length_toList]
    exact fits_of_scanBound zb
  refine wpAny_bind (wpAny_newList ?_ x3)
  have x4 : (s1.heap.push (seqObj "list" vs.toArray 0)).get? s1.heap.objs.size = some (seqObj "list" vs.toArray 0) := Heap.get?_push_size _ rfl
  refine wpAny_bind (wpAny_holding (wpAny_call_entry slot_list_sort ⟨_, x4, rfl⟩ entry_list_sort (list_sort_treeKAny strKind_oneLt x4 x1.keysOf (fun v₁ v₂ rest e => keyKind_strs (by rw [← e]; exact x1)) x3 fun st' hp hs => ⟨_, rfl, ?_⟩) (args_list_sort _)))
  obtain ⟨ys, y1, y2, y3⟩ := sorted_out_str x1 hp hs
  obtain ⟨c, hc⟩ := sortedHeap_at (vs := vs) (out := (arrOf st').map (·.2)) x4
  refine wpAny_pure ⟨_, rfl, zQ _ s1.heap.objs.size _ c ys (fun b u e => ?_) g1 o1 hz hc y1 (y2.trans x2) y3⟩
  have q := k1 b u e
  have hlt := Heap.lt_size q
  show (sortedHeap (s1.heap.push (seqObj "list" vs.toArray 0)) s1.heap.objs.size vs _).get? b = some u
  rw [sortedHeap_old (Nat.ne_of_lt hlt) (by rw [size_push']; exact Nat.lt_succ_of_lt hlt)]
  exact Heap.get?_push_of_some _ q
end
end DL
end
section
set_option Elab.async false
set_option linter.all false
set_option maxRecDepth 100000
set_option maxHeartbeats 4000000
/-! DLsb: sorted(set(l)) of texts at the level of data. -/
namespace DL
open PySem PySem.Spec PyProof.Rows L2
def SetSO (w : World) (a : Addr) (ks : List Str) : HO := .ext fun h => SetS w h a ks
section
variable {X : Cx} {pos : Pos}
theorem setSO_new {w : World} {P : Program} {H : Hp} {h : Heap} {a : Addr} {ks : List Str} (R : SetS w h a ks) : ObjOk P w H h a (SetSO w a ks) := by
  have ⟨o, _, _, _, ho, _⟩ := R
  exact ⟨R, ⟨o, ho⟩, fun h1 h2 p k => SetS.keep p k⟩
theorem setSO_get {pins : List (Addr × Obj)} {σ : L2.St} {H : Hp} {s : Shared} {a : Addr} {ks : List Str} (I : Inv X pins σ H s) (ha : H a = some (SetSO X.w a ks)) : SetS X.w s.heap a ks := (I.hok a _ ha).1
def rSetLS (w : World) (K : PySem.W.Frag) : List V → Hp → VK → Prop := fun vs H Q => ∃ (a : Addr) (xs : List Str), vs = [.ref a] ∧ SqL K H a (xs.map V.str) ∧ xs.length ≤ 1000 ∧
  ∀ p, H p = none → Q (.ref p) (upd H p (SetSO w p (firstsF xs)))
theorem cr_setLS (hc : X.calm = true) : CallR X (.type "set") (rSetLS X.w X.K) := by
  intro pins s σ H vs us Q I r h
  obtain ⟨a, xs, rfl, ha, hl, q⟩ := h
  rw [Vals.ref1 r]
  obtain ⟨its, rv, pl, hz⟩ := I.list ha
  refine call_set_lstS xs (I.ok.hd hc) pl.isList (by simpa using rv.strs) (by unfold scanBound; omega) fun h' tk R k => ?_
  exact ⟨.ref _, _, I.laid (t' := tk) k (Nat.le_refl _) (setSO_new R), rfl, q _ (I.hok.fresh (Nat.le_refl _))⟩
def rSortedSS (w : World) : List V → Hp → VK → Prop := fun vs H Q => ∃ (a : Addr) (ks : List Str), vs = [V.ref a] ∧ H a = some (SetSO w a ks) ∧ ks.length ≤ 1000 ∧
  ∀ (ys : List Str) (p : Addr), ys.Perm ks → sortedS ys = true → H p = none → Q (.ref p) (upd H p (.lst (ys.map V.str)))
theorem cr_sortedSS (hc : X.calm = true) : CallR X (.builtin "sorted") (rSortedSS X.w) := by
  intro pins s σ H vs us Q I r h
  obtain ⟨a, ks, rfl, ha, h64, q⟩ := h
  have R := setSO_get I ha
  rw [Vals.ref1 r]
  refine sorted_sets R (I.ok.hd hc) fun s' p out c ys k g o hp hg hi hs hm => ?_
  have hlen : (ys.map V.str).length ≤ sizeLine := by rw [List.length_map, hs.length_eq, sizeLine_eq]; omega
  have hn : H p = none := I.hok.fresh hp
  have J : Inv X pins σ (upd H p (.lst (ys.map V.str))) { s with heap := s'.heap, gens := s'.gens, drawn := s'.drawn, toks := s'.toks } :=
    I.call (ch := []) (Un.laid k hp hn) (I.hok.laid k hp ⟨hlen, out.toList, c, vals_of_strs hi, hg⟩) (by rw [g]; exact I.bare) (fun _ z => nomatch z)
  have e : s' = { s with heap := s'.heap, gens := s'.gens, drawn := s'.drawn, toks := s'.toks } := by
    cases s'; cases s; cases o; rfl
  rw [e]
  exact ⟨.ref p, _, J, rfl, q ys p hs hm hn⟩
theorem Reps.strs {K : PySem.W.Frag} {F : Hp} : ∀ (ns : List Str), Reps K F (ns.map V.str) (ns.map D.str)
  | [] => .nil
  | n :: ns => .cons (.str n) (Reps.strs ns)
def dSortSetS (te : DTE) : DTE := fun S G Q => te S G fun d G1 => match d.cur G1 with
  | .lst xs => (match texts xs with
    | some ts => ts.length ≤ 1000 ∧ ∀ ys : List Str, ys.Perm (firstsF ts) → sortedS ys = true → Q (.lst (ys.map .str)) G1
    | none => False)
  | _ => False
theorem de_sortSetS {e : Expr} {te : DTE} {p q p2 : Pos} (hc : X.calm = true) (hg : Gl X "sorted") (hm : X.mg "sorted" = none) (hg2 : Gl X "set") (hm2 : X.mg "set" = none) (ha : DE X e te)
    (na : starEach [e] X.env = (false, eval e X.env) :: starEach [] X.env := by rfl)
    (nb : starEach [.Call (.Name "set" p2) [e] [] q] X.env = (false, eval (.Call (.Name "set" p2) [e] [] q) X.env) :: starEach [] X.env := by rfl) : DE X (.Call (.Name "sorted" p) [.Call (.Name "set" p2) [e] [] q] [] pos) (dSortSetS te) := by
  obtain ⟨t, p1, r1⟩ := ha.ex
  have ps := pe_callTy (pos := q) (p := p2) (cr_setLS hc) hg2 hm2 PyProof.Rows.boot_set (pa_cons p1 pa_nil na) (by decide) (by decide) na (by rfl)
  have pp := pe_callB (pos := pos) (p := p) (cr_sortedSS hc) hg hm PyProof.Rows.boot_sorted (pa_cons ps pa_nil nb) (by decide) (by decide) nb (by rfl)
  refine ⟨_, pp, fun F H σ S G o Q' h Q k => ?_⟩
  refine r1 F H σ S G o _ h _ fun F1 H1 v d G1 e1 g1 q1 h1 => ?_
  dsimp only at h1
  split at h1
  · rename_i xs ex
    split at h1
    · rename_i ts en
      obtain ⟨a, vs, rfl, ha, rs⟩ := cur_list g1 q1 ex
      rw [texts_rep en rs] at ha
      refine ⟨a, ts, rfl, .inl (.inl ha), h1.1, fun z hz => ?_⟩
      refine ⟨z, _, rfl, upd_same, Nat.le_trans (firstsF_len ts) h1.1, fun ys z2 hs hk hz2 => ?_⟩
      have gr1 : Gr F1 H1 F1 (upd H1 z (SetSO X.w z (firstsF ts))) := ⟨Ex.refl _, g1.ex.trans (Ex.new hz), Ex.new hz, fun _ _ _ w => w⟩
      have g2 := g1.grow gr1
      have gr2 := Gr.new (u := .lst (ys.map V.str)) g2.ex hz2
      exact k _ _ _ _ G1 (e1.trans (gr1.go.trans gr2.go)) (g2.grow gr2) (.lst upd_same (Reps.strs _)) (h1.2 ys hs hk)
    · exact h1.elim
  · exact h1.elim
/-! ### sum of ints -/
def rSumD (ds : List D) (G : GH) (Q : DQ) : Prop := match ds with
  | [d] => (match d.cur G with
    | .lst xs => (match intsD xs with
      | some ns => Q (.int ns.sum) G
      | none => False)
    | _ => False)
  | _ => False
theorem cd_sum (hc : X.calm = true) : CallD X (.builtin "sum") rSumD := by
  refine ⟨_, cr_sum hc, fun F H G vs ds g rs Q' h Q k => ?_⟩
  unfold rSumD at h
  split at h
  · rename_i d
    split at h
    · rename_i xs ex
      split at h
      · rename_i ns en
        cases rs with
        | cons a b =>
          cases b
          obtain ⟨p, us, rfl, hp, ru⟩ := cur_list g a ex
          rw [intsD_rep en ru] at hp
          exact ⟨p, ns, rfl, .inl (.inl hp), k F H _ _ G Go.refl g (.int _) h⟩
      · exact h.elim
    · exact h.elim
  · exact h.elim
/-! ### max, min of a list of ints -/
def rBestD (le : Int → Int → Prop) (ds : List D) (G : GH) (Q : DQ) : Prop := match ds with
  | [d] => (match d.cur G with
    | .lst xs => (match intsD xs with
      | some ns => 0 < ns.length ∧ ∀ m, m ∈ ns → (∀ n ∈ ns, le n m) → Q (.int m) G
      | none => False)
    | _ => False)
  | _ => False
theorem cd_max (hc : X.calm = true) : CallD X (.builtin "max") (rBestD fun n m => n ≤ m) := by
  refine ⟨_, cr_max hc, fun F H G vs ds g rs Q' h Q k => ?_⟩
  unfold rBestD at h
  split at h
  · rename_i d
    split at h
    · rename_i xs ex
      split at h
      · rename_i ns en
        cases rs with
        | cons a b =>
          cases b
          obtain ⟨p, us, rfl, hp, ru⟩ := cur_list g a ex
          rw [intsD_rep en ru] at hp
          exact ⟨p, ns, rfl, .inl (.inl hp), h.1, fun m hm hle => k F H _ _ G Go.refl g (.int _) (h.2 m hm hle)⟩
      · exact h.elim
    · exact h.elim
  · exact h.elim
/-! ### l.pop(0) -/
def rPop0D (x : D) (ds : List D) (G : GH) (Q : DQ) : Prop := match x, ds with
  | .rf a, [.int 0] => (match G a with
    | some (.lst (y :: ys)) => Q y (gput G a (.lst ys))
    | _ => False)
  | _, _ => False
end
end DL
end
section
set_option Elab.async false
set_option linter.all false
set_option maxRecDepth 100000
set_option maxHeartbeats 4000000
/-! DLsc: l.pop(0), sum(lists, []), list(d.items()), dict(pairs). -/
namespace DL
open PySem PySem.Spec PyProof.Rows L2
section
variable {X : Cx} {pos : Pos}
theorem md_pop0 : MtD X "list.pop" rPop0D := by
  refine ⟨_, mt_popAt, fun F H G x dx vs ds g rx rs Q' h Q k => ?_⟩
  unfold rPop0D at h
  split at h
  · rename_i a
    split at h
    · rename_i y ys eg
      cases rx
      cases rs with
      | cons r b =>
        cases b
        cases r
        obtain ⟨fa, ws, ha, rw'⟩ := g.at_ a _ eg
        cases rw' with
        | cons rv rt =>
          rename_i v vt
          refine ⟨a, v :: vt, 0, 0, v, rfl, rfl, ha, by decide, by decide, ?_, rfl, ?_⟩
          · simp [seqIndex?]
          · exact k F _ _ _ _ (Go.put eg) (g.put (o := .lst ys) eg rfl rfl ⟨_, upd_same, by simpa using rt⟩) rv h
    · exact h.elim
  · exact h.elim
end
/-! ### sum of lists, with a list to begin with -/
section
open PySem
variable {prog : Program} {w : World} {A : Around} {R : Result → Shared → Prop} {I : Addr} {fp wr : List Addr} {n : Nat} {P : Nat → Value → Prop} {St : Nat → Heap → Prop}
abbrev lsO (l : List Value) (m : Nat) : Obj := { cls := .type "list", dict := none, data := .seq l.toArray m, slots := #[] }
theorem codeAny_sum_loopL (W : Walks prog w A.in1 I fp wr n P St) (its : Nat → List Value) (adr : Nat → Addr) (hval : ∀ i v, P i v → v = .ref (adr i)) (S : Addr) (hSf : S ∉ fp) (hS2 : ∀ j, j < n → adr j ≠ S ∧ adr j ∉ wr) (hW : ∀ i h, St i h → ∀ b ∈ wr, b < h.objs.size) :
    ∀ (k i : Nat) (s : Shared) (T : Addr) (acc : List Value) (c m : Nat), n - i = k → i ≤ n → St i s.heap → s.heap.get? S = some { cls := .type "list", dict := none, data := .seq #[.ref T] c, slots := #[] } → s.heap.get? T = some (lsO acc m) → T ≠ S → T ∉ wr →
    (∀ j, j < n → ∃ m, s.heap.get? (adr j) = some (lsO (its j) m)) → (∀ j, j ≤ n → acc.length + ((List.range' i (j - i)).flatMap its).length ≤ sizeLine) →
    (∀ h' tk T' m', (∀ b o, b ∉ wr → b ≠ S → s.heap.get? b = some o → h'.get? b = some o) → h'.get? T' = some (lsO (acc ++ (List.range' i (n - i)).flatMap its) m') → (i = n ∧ T' = T ∨ S < T') → R (.ok (.ret (.ref T'))) { s with heap := h', toks := tk }) →
    codeAny (model prog w) A (.builtin "sum.loop" ⟨[.ref I, .ref S, rawInt 2, rawInt 0], []⟩) R s := by
  have hSw : S ∉ wr := fun h => hSf (W.sub _ h)
  intro k
  induction k with
  | zero =>
    intro i s T acc c m hk hi hst hS hT hTS hTw ha hb hR
    have hin : i = n := by omega
    subst hin
    refine codeAny_builtin F.entry_sum_loop ?_
    rw [Around.under_plainId F.plain_sum_loop _]
    show wpAny _ A.in1 (seqItems? (.ref S) >>= _) _ _ s
    refine wpAny_bind (wpAny_seqItems hS rfl ?_)
    show wpAny _ A.in1 (tryCatch (pyNext (.ref I)) _ >>= _) _ _ s
    refine wpAny_bind (wpAny_tryCatch (W.done s _ _ hst fun h' tk hk' => ?_))
    refine wpAny_pure (hR h' tk T m (fun b o hbw _ e => hk' b o hbw e) ?_ (.inl ⟨rfl, rfl⟩))
    simpa using hk' T _ hTw hT
  | succ k ih =>
    intro i s T acc c m hk hi hst hS hT hTS hTw ha hb hR
    have hlt : i < n := by omega
    refine codeAny_builtin F.entry_sum_loop ?_
    rw [Around.under_plainId F.plain_sum_loop _]
    show wpAny _ A.in1 (seqItems? (.ref S) >>= _) _ _ s
    refine wpAny_bind (wpAny_seqItems hS rfl ?_)
    show wpAny _ A.in1 (tryCatch (pyNext (.ref I)) _ >>= _) _ _ s
    refine wpAny_bind (wpAny_tryCatch (W.item i s _ _ hlt hst fun v h' tk hP hst' hk' => ?_))
    have hv := hval i v hP
    subst hv
    have hS' := hk' S _ hSw hS
    have hT' := hk' T _ hTw hT
    obtain ⟨mi, hai⟩ := ha i hlt
    have hai' := hk' _ _ (hS2 i hlt).2 hai
    have hsz := hb (i + 1) hlt
    rw [show i + 1 - i = 1 from by omega] at hsz
    simp only [List.range'_one, List.flatMap_cons, List.flatMap_nil, List.append_nil] at hsz
    show wpAny _ A.in1 ((holding [Value.ref (adr i)] (binaryOp .Add (.ref T) (.ref (adr i)))).attempt >>= _) _ _ _
    refine wpAny_bind (wpAny_attempt (wpAny_holding (PySem.P.add_list hT' hai' ?_ (by simpa using hsz))))
    have hz : h'.objs.size ≠ S := Nat.ne_of_gt (Heap.lt_size hS')
    have pushS := Heap.get?_push_of_some { cls := .type "list", data := .seq (acc.toArray ++ (its i).toArray) } hS'
    show wpAny _ A.in1 (updateSeq S (fun _ => #[.ref h'.objs.size]) >>= _) _ _ _
    refine wpAny_bind (wpAny_updateSeq pushS rfl ?_)
    have hS3 := Heap.get?_update_self (Obj.mapSeq fun _ => #[Value.ref h'.objs.size]) pushS rfl
    refine wpAny_bind (wpAny_letGo ?_)
    refine wpAny_bind ?_
    refine wpAny_updateSeq hS3 rfl (wpAny_pure ⟨plainId_quiet F.plain_sum_loop _, ih (i + 1) _ h'.objs.size (acc ++ its i) _ 0 (by omega) hlt (W.frame _ _ _ hst' fun b hb o e => ?_) (Heap.get?_update_self _ hS3 rfl) ?_ hz ?_ (fun j hj => ?_) (fun j hj => ?_) fun h'' tk'' T'' m'' hk'' hT'' hor => ?_⟩)
    · exact (Heap.get?_update_other _ _ (fun h : S = b => hSf (by rw [h]; exact hb))).trans ((Heap.get?_update_other _ _ (fun h : S = b => hSf (by rw [h]; exact hb))).trans (Heap.get?_push_of_some _ e))
    · refine (Heap.get?_update_other _ _ (Ne.symm hz)).trans ((Heap.get?_update_other _ _ (Ne.symm hz)).trans ?_)
      rw [Heap.get?_push_size _ rfl]
      simp
    · intro hm
      exact Nat.lt_irrefl _ (hW _ _ hst' _ hm)
    · obtain ⟨mj, haj⟩ := ha j hj
      refine ⟨mj, (Heap.get?_update_other _ _ (Ne.symm (hS2 j hj).1)).trans ((Heap.get?_update_other _ _ (Ne.symm (hS2 j hj).1)).trans (Heap.get?_push_of_some _ (hk' _ _ (hS2 j hj).2 haj)))⟩
    · by_cases hji : i + 1 ≤ j
      · have := hb j hj
        rw [show j - i = (j - (i + 1)) + 1 from by omega, List.range'_succ, List.flatMap_cons] at this
        simp only [List.length_append] at this ⊢
        omega
      · rw [show j - (i + 1) = 0 from by omega]
        simp only [List.range'_zero, List.flatMap_nil, List.length_nil, List.length_append]
        simpa using hsz
    · refine hR h'' tk'' T'' m'' (fun b o hbw hbS e => hk'' b o hbw hbS ((Heap.get?_update_other _ _ (Ne.symm hbS)).trans ((Heap.get?_update_other _ _ (Ne.symm hbS)).trans (Heap.get?_push_of_some _ (hk' b o hbw e))))) ?_ (.inr ?_)
      · rw [show n - i = (n - (i + 1)) + 1 from by omega, List.range'_succ, List.flatMap_cons, ← List.append_assoc]
        exact hT''
      · rcases hor with ⟨_, rfl⟩ | h
        · exact Heap.lt_size hS'
        · exact h
theorem sub_list_bytes : isSubtype (.type "list") (.type "bytes") = pure false := by rw [isSubtype_type]; kernel_rfl
theorem sub_list_bytearray : isSubtype (.type "list") (.type "bytearray") = pure false := by rw [isSubtype_type]; kernel_rfl
theorem args_sum2 (a b : Value) : argsOk "sum" ⟨[a, b], []⟩ := by unfold argsOk; kernel_rfl
end
section
open PySem
variable {prog : Program} {w : World} {A : Around} {E : Value → Shared → Prop} {s : Shared}
theorem call_sum_lists {l T : Addr} {ps : List Addr} {its : Nat → List Value} {m : Nat} {Q : Value → Shared → Prop} (hh : A.handled = none) (hl : s.heap.IsList l (ps.map Value.ref).toArray) (hT : s.heap.get? T = some (lsO [] m)) (h0 : 0 < ps.length)
    (ha : ∀ (j : Nat) (p : Addr), ps[j]? = some p → ∃ m, s.heap.get? p = some (lsO (its j) m)) (hz : ((List.range' 0 ps.length).flatMap its).length ≤ sizeLine)
    (h : ∀ h' tk T' m', (∀ b o, s.heap.get? b = some o → h'.get? b = some o) → h'.get? T' = some (lsO ((List.range' 0 ps.length).flatMap its) m') → s.heap.objs.size ≤ T' → Q (.ref T') { s with heap := h', toks := tk }) :
    wpAny (model prog w) A (call (.builtin "sum") [.ref l, .ref T]) Q E s := by
  refine call_function_tree F.kind_sum F.plain_sum F.entry_sum (args_sum2 _ _) ?_
  unfold Builtin.«sum»
  simp only [List.length_cons, List.length_nil]
  rw [if_neg (by decide)]
  refine wpAny_bind (wpAny_of_eq (show Builtin.Builtins.bindParams "sum" ["start"] 0 ⟨[.ref T], []⟩ = pure [some (.ref T)] from rfl) ?_)
  have hlt : l < s.heap.objs.size := by obtain ⟨_, e, _⟩ := hl; exact Heap.lt_size e
  refine wpAny_bind (wpAny_pyIter_list hl ?_)
  refine wpAny_bind (wpAny_pure ?_)
  simp only [List.forIn_cons, List.forIn_nil]
  have hT2 := Heap.get?_push_of_some { cls := .type "list_iterator", data := .fields #[.ref l, .int 0 0] } hT
  have ty : Shared.TypeIs { s with heap := s.heap.push { cls := .type "list_iterator", data := .fields #[.ref l, .int 0 0] } } (.ref T) "list" := ⟨_, hT2, rfl⟩
  refine wpAny_bind (wpAny_bind (wpAny_bind (wpAny_isInstance (T := "list") (b := false) ty F.sub_list_str ?_)))
  simp only [Bool.false_eq_true, if_false]
  refine wpAny_pure (wpAny_bind (wpAny_bind (wpAny_isInstance (T := "list") (b := false) ty sub_list_bytes ?_)))
  simp only [Bool.false_eq_true, if_false]
  refine wpAny_pure (wpAny_bind (wpAny_bind (wpAny_isInstance (T := "list") (b := false) ty sub_list_bytearray ?_)))
  simp only [Bool.false_eq_true, if_false]
  refine wpAny_pure (wpAny_pure ?_)
  refine wpAny_bind (wpAny_newObj_type ?_)
  have hTs := Heap.lt_size hT
  have W := Walks.list (prog := prog) (w := w) (A := A.in1) hh s.heap.objs.size l (Nat.ne_of_lt hlt) (ps.map Value.ref).toArray
  have hps : ∀ j, j < ps.length → ps[j]? = some (ps.getD j 0) := fun j hj => by simp [List.getD, hj]
  have hsz : (ps.map Value.ref).toArray.size = ps.length := by simp
  rw [hsz] at W
  have eN : (s.heap.push { cls := .type "list_iterator", data := .fields #[.ref l, .int 0 0] }).objs.size = s.heap.objs.size + 1 := Heap.size_push _ _
  have low : ∀ (b : Addr) (o : Obj), s.heap.get? b = some o → b ≠ s.heap.objs.size ∧ b ≠ (s.heap.push { cls := .type "list_iterator", data := .fields #[.ref l, .int 0 0] }).objs.size := fun b o e => by
    have h1 : b < s.heap.objs.size := Heap.lt_size e
    refine ⟨Nat.ne_of_lt h1, ?_⟩
    rw [eN]
    exact Nat.ne_of_lt (Nat.lt_succ_of_lt h1)
  have lowL : l ≠ s.heap.objs.size ∧ l ≠ (s.heap.push { cls := .type "list_iterator", data := .fields #[.ref l, .int 0 0] }).objs.size := by
    obtain ⟨_, e, _⟩ := hl
    exact low l _ e
  refine wpAny_pure ⟨plainId_quiet F.plain_sum_loop _, codeAny_sum_loopL W its (fun j => ps.getD j 0) (fun i v hv => ?_) _ ?_ (fun j hj => ?_) (fun i h st b hb => ?_) ps.length 0 _ T [] 0 m rfl (Nat.zero_le _) ?_ (Heap.get?_push_size _ rfl) (Heap.get?_push_of_some _ hT2) ?_ ?_ (fun j hj => ?_) (fun j hj => ?_) fun h' tk T' m' hk hT' hor => ?_⟩
  · simp only [List.getElem?_toArray, List.getElem?_map] at hv
    cases e : ps[i]? with
    | none => rw [e] at hv; cases hv
    | some p => rw [e] at hv; cases hv; simp [List.getD, e]
  · intro hm
    rcases List.mem_cons.mp hm with h | h
    · rw [eN] at h
      exact Nat.succ_ne_self _ h
    · rcases List.mem_cons.mp h with h | h
      · exact lowL.2 h.symm
      · cases h
  · obtain ⟨mj, haj⟩ := ha j _ (hps j hj)
    refine ⟨(low _ _ haj).2, fun hm => ?_⟩
    rcases List.mem_cons.mp hm with h | h
    · exact (low _ _ haj).1 h
    · cases h
  · simp at hb
    subst hb
    obtain ⟨_, e, _⟩ := st.1
    exact Heap.lt_size e
  · refine ⟨⟨_, Heap.get?_push_of_some _ (Heap.get?_push_size _ rfl), rfl, rfl⟩, (hl.push _).push _⟩
  · exact (low _ _ hT).2
  · intro hm
    rcases List.mem_cons.mp hm with h | h
    · exact (low _ _ hT).1 h
    · cases h
  · obtain ⟨mj, haj⟩ := ha j _ (hps j hj)
    exact ⟨mj, Heap.get?_push_of_some _ (Heap.get?_push_of_some _ haj)⟩
  · simp only [List.length_nil, Nat.zero_add, Nat.sub_zero]
    refine Nat.le_trans ?_ hz
    have e : ps.length = j + (ps.length - j) := by omega
    rw [e, ← List.range'_append_1, List.flatMap_append, List.length_append]
    omega
  · rcases hor with ⟨z, _⟩ | hor
    · rw [← z] at h0
      exact absurd h0 (Nat.lt_irrefl _)
    · refine h h' tk T' m' (fun b o e => hk b o ?_ (low _ _ e).2 (Heap.get?_push_of_some _ (Heap.get?_push_of_some _ e))) (by simpa using hT') ?_
      · intro hm
        rcases List.mem_cons.mp hm with h | h
        · exact (low _ _ e).1 h
        · cases h
      · rw [eN] at hor
        exact Nat.le_of_lt (Nat.lt_of_succ_lt hor)
end
section
variable {X : Cx} {pos : Pos}
theorem lists_of {pins : List (Addr × Obj)} {σ : L2.St} {H : Hp} {s : Shared} (I : Inv X pins σ H s) : ∀ {ps : List Addr} {yss : List (List V)}, Paired (fun p ys => H p = some (.lst ys)) ps yss →
    ∃ vss : List (List Value), vss.length = ps.length ∧ (∀ (j : Nat) (p : Addr), ps[j]? = some p → ∃ m, s.heap.get? p = some (lsO (vss.getD j []) m)) ∧ Vals yss.flatten vss.flatten
  | _, _, .nil => ⟨[], rfl, fun j p h => by simp at h, .nil⟩
  | _, _, .cons h t => by
    obtain ⟨vss, h1, h2, h3⟩ := lists_of I t
    obtain ⟨z, its, n, r, hl, e⟩ := I.lstM h
    refine ⟨its :: vss, by simp [h1], fun j p hj => ?_, ?_⟩
    · cases j with
      | zero => simp at hj; subst hj; exact ⟨n, e⟩
      | succ j => simp at hj; obtain ⟨m, e2⟩ := h2 j p hj; exact ⟨m, by simpa using e2⟩
    · rw [List.flatten_cons, List.flatten_cons]
      exact r.append h3
theorem flat_range (vss : List (List Value)) : (List.range' 0 vss.length).flatMap (fun j => vss.getD j []) = vss.flatten := by
  have e : ∀ (l : List (List Value)) (k : Nat), (List.range' k l.length).flatMap (fun j => (List.replicate k [] ++ l).getD j []) = l.flatten := by
    intro l
    induction l with
    | nil => intro k; simp
    | cons a l ih =>
      intro k
      rw [List.length_cons, List.range'_succ, List.flatMap_cons, List.flatten_cons]
      have e1 : (List.replicate k [] ++ a :: l).getD k [] = a := by simp [List.getD]
      have e2 : List.replicate k [] ++ a :: l = List.replicate (k + 1) [] ++ l ∨ True := .inr trivial
      rw [e1]
      congr 1
      rw [← ih (k + 1)]
      rw [List.flatMap_def, List.flatMap_def]
      congr 1
      refine List.map_congr_left fun j hj => ?_
      have hj2 : k + 1 ≤ j := by
        rw [List.mem_range'] at hj
        obtain ⟨i, _, rfl⟩ := hj
        omega
      simp only [List.getD]
      rw [List.getElem?_append_right (by simp; omega), List.getElem?_append_right (by simp; omega)]
      simp only [List.length_replicate]
      rw [show j - k = (j - (k + 1)) + 1 from by omega, List.getElem?_cons_succ]
  simpa using e vss 0
def rSumL : List V → Hp → VK → Prop := fun vs H Q => ∃ (a t : Addr) (ps : List Addr) (yss : List (List V)), vs = [.ref a, .ref t] ∧ H a = some (.lst (ps.map V.ref)) ∧ H t = some (.lst []) ∧ Paired (fun p ys => H p = some (.lst ys)) ps yss ∧ 0 < ps.length ∧ yss.flatten.length ≤ sizeLine ∧
  ∀ p, H p = none → Q (.ref p) (upd H p (.lst yss.flatten))
theorem cr_sumL (hc : X.calm = true) : CallR X (.builtin "sum") rSumL := by
  intro pins s σ H vs us Q I r h
  obtain ⟨a, t, ps, yss, rfl, ha, ht, hp, h0, hz, q⟩ := h
  obtain ⟨u1, u2, rfl, r1, r2⟩ := vals2 r
  cases r1; cases r2
  obtain ⟨z, its, n, rv, hl, e⟩ := I.lstM ha
  have ei := refs_at rv
  subst ei
  obtain ⟨z2, its2, n2, rv2, hl2, e2⟩ := I.lstM ht
  cases rv2
  obtain ⟨vss, h1, h2, h3⟩ := lists_of I hp
  have ef : (List.range' 0 ps.length).flatMap (fun j => vss.getD j []) = vss.flatten := by rw [← h1]; exact flat_range vss
  refine call_sum_lists (its := fun j => vss.getD j []) (I.ok.hd hc) ⟨_, e, rfl, _, rfl⟩ e2 h0 h2 (by rw [ef, ← h3.length]; exact hz) fun h' tk T' m' hk hT' hs => ?_
  rw [ef] at hT'
  exact ⟨.ref T', upd H T' (.lst yss.flatten), I.laid (t' := tk) hk hs (show ObjOk X.prog X.w _ _ _ (.lst yss.flatten) from ⟨hz, vss.flatten, m', h3, hT'⟩), rfl, q T' (I.hok.fresh hs)⟩
def lists : List D → Option (List (List D))
  | [] => some []
  | .lst x :: r => (lists r).map (x :: ·)
  | _ :: _ => none
theorem lists_map {α : Type} (f : α → List D) : ∀ l : List α, lists (l.map fun x => .lst (f x)) = some (l.map f)
  | [] => rfl
  | a :: l => by simp [lists, lists_map f l]
theorem lists_rep {K : PySem.W.Frag} {F : Hp} : ∀ {ds : List D} {xss : List (List D)} {vs : List V}, lists ds = some xss → Reps K F vs ds →
    ∃ (ps : List Addr) (yss : List (List V)), vs = ps.map V.ref ∧ Paired (fun p ys => F p = some (.lst ys)) ps yss ∧ Reps K F yss.flatten xss.flatten ∧ ps.length = xss.length ∧ yss.flatten.length = xss.flatten.length
  | [], xs, _, h, .nil => by cases h; exact ⟨[], [], rfl, .nil, .nil, rfl, rfl⟩
  | d :: r, xs, _, h, .cons a b => by
    unfold lists at h
    split at h
    · rename_i q; cases q
    · rename_i q
      cases q
      cases e : lists r with
      | none => rw [e] at h; cases h
      | some m =>
        rw [e] at h
        cases h
        obtain ⟨ps, yss, h1, h2, h3, h4, h5⟩ := lists_rep e b
        cases a with
        | lst ha rs =>
          rename_i p ws
          refine ⟨p :: ps, ws :: yss, by rw [h1]; rfl, .cons ha h2, ?_, by simp [h4], ?_⟩
          · rw [List.flatten_cons, List.flatten_cons]; exact rs.append h3
          · rw [List.flatten_cons, List.flatten_cons, List.length_append, List.length_append, rs.length, h5]
    · cases h
def rSumLD (ds : List D) (G : GH) (Q : DQ) : Prop := match ds with
  | [d, e] => (match d.cur G, e.cur G with
    | .lst xs, .lst [] => (match lists xs with
      | some ls => 0 < ls.length ∧ ls.flatten.length ≤ sizeLine ∧ Q (.lst ls.flatten) G
      | none => False)
    | _, _ => False)
  | _ => False
theorem cd_sumL (hc : X.calm = true) : CallD X (.builtin "sum") rSumLD := by
  refine ⟨_, cr_sumL hc, fun F H G vs ds g rs Q' h Q k => ?_⟩
  unfold rSumLD at h
  split at h
  · rename_i d e
    split at h
    · rename_i xs ex ey
      split at h
      · rename_i ls en
        cases rs with
        | cons a b =>
          cases b with
          | cons a2 b2 =>
            cases b2
            obtain ⟨p, us, rfl, hp, ru⟩ := cur_list g a ex
            obtain ⟨p2, us2, rfl, hp2, ru2⟩ := cur_list g a2 ey
            cases ru2
            obtain ⟨ps, yss, rfl, h2, h3, h4, h5⟩ := lists_rep en ru
            refine ⟨p, p2, ps, yss, rfl, hp, hp2, L2.Paired.mapP h2 (fun _ _ z => g.ex _ _ z), by omega, by omega, fun z hz => ?_⟩
            have gr := Gr.new (u := .lst yss.flatten) g.ex hz
            exact k _ _ _ _ G gr.go (g.grow gr) (.lst upd_same (h3.mono gr.ff)) h.2.2
      · exact h.elim
    · exact h.elim
  · exact h.elim
end
end DL
end
section
set_option Elab.async false
set_option linter.all false
set_option maxRecDepth 100000
set_option maxHeartbeats 4000000
/-! DLsd: list(d.items()), dict(pairs), == by an own __eq__, isinstance of the own class. -/
namespace DL
open PySem PySem.Spec PyProof.Rows L2
section
variable {X : Cx} {pos : Pos}
/-! ### list(d.items()) of a frozen dict -/
def kD : Key → D
  | .inl i => .int i
  | .inr x => .str x
theorem rep_kV {K : PySem.W.Frag} {F : Hp} : ∀ k : Key, Rep K F (kV k) (kD k)
  | .inl i => .int i
  | .inr x => .str x
def itemsD (kds : List (Key × D)) : List D := kds.map fun kv => .tup [kD kv.1, kv.2]
def dItems (te : DTE) : DTE := fun S G Q => te S G fun d G1 => match d.cur G1 with
  | .dK kds => Q (.lst (itemsD kds)) G1
  | _ => False
/-- the objects of a list of pairs added to the frozen part -/
theorem items_grow {K : PySem.W.Frag} {F H H' : Hp} {G : GH} (g : Gok K F H G) {p : Addr} {ts : List Addr} {kvs : List (Key × V)} {kds : List (Key × D)} (k : ∀ b o, H b = some o → H' b = some o) (hp : H p = none) (ht : ∀ t ∈ ts, H t = none) (hpt : p ∉ ts) (hl : H' p = some (.lst (ts.map V.ref)))
    (pr : Paired (fun (t : Addr) (q : Key × V) => H' t = some (.tup [kV q.1, q.2])) ts kvs) (r : KR K F kvs kds) : ∃ F', Gr F H F' H' ∧ Rep K F' (.ref p) (.lst (itemsD kds)) := by
  let F' : Hp := fun a => if a = p ∨ a ∈ ts then H' a else F a
  have fF : ∀ a, H a = none → F a = none := fun a h => g.ex.nope h
  have ff : Ex F F' := fun a o h => by
    show (if a = p ∨ a ∈ ts then H' a else F a) = some o
    rw [if_neg]
    · exact h
    · rintro (rfl | hm)
      · rw [fF _ hp] at h; cases h
      · rw [fF _ (ht a hm)] at h; cases h
  have gr : Gr F H F' H' := by
    refine ⟨ff, fun a o h => ?_, k, fun a u h f => ?_⟩
    · have h' : (if a = p ∨ a ∈ ts then H' a else F a) = some o := h
      by_cases q : a = p ∨ a ∈ ts
      · rw [if_pos q] at h'; exact h'
      · rw [if_neg q] at h'; exact k _ _ (g.ex _ _ h')
    · show (if a = p ∨ a ∈ ts then H' a else F a) = none
      rw [if_neg]
      · exact f
      · rintro (rfl | hm)
        · rw [hp] at h; cases h
        · rw [ht a hm] at h; cases h
  have inT : ∀ t, t ∈ ts → F' t = H' t := fun t hm => by
    show (if t = p ∨ t ∈ ts then H' t else F t) = _
    rw [if_pos (.inr hm)]
  have hpF : F' p = some (.lst (ts.map V.ref)) := by
    show (if p = p ∨ p ∈ ts then H' p else F p) = _
    rw [if_pos (.inl rfl)]; exact hl
  refine ⟨F', gr, .lst hpF ?_⟩
  have go : ∀ {us : List Addr} {kvs : List (Key × V)} {kds : List (Key × D)}, (∀ u ∈ us, u ∈ ts) → Paired (fun (t : Addr) (q : Key × V) => H' t = some (.tup [kV q.1, q.2])) us kvs → KR K F kvs kds → Reps K F' (us.map V.ref) (itemsD kds) := by
    intro us
    induction us with
    | nil =>
      intro kvs kds _ pr r
      cases pr
      have : kds = [] := by have := r.ks; simpa using this.symm
      subst this
      exact .nil
    | cons u us ih =>
      intro kvs kds hm pr r
      cases pr with
      | cons h t =>
        rename_i kv kvs'
        match kds, r with
        | [], r => have := r.ks; simp at this
        | (kd, d) :: kds', r =>
          obtain ⟨k1, k2⟩ := r
          simp only [List.map_cons, List.cons.injEq] at k1
          cases k2 with
          | cons r1 r2 =>
            refine .cons (.tup (by rw [inT u (hm u (by simp))]; exact h) (.cons (by rw [k1.1]; exact rep_kV _) (.cons (r1.mono ff) .nil))) (ih (fun z hz => hm z (by simp [hz])) t ⟨k1.2, r2⟩)
  exact go (fun _ z => z) pr r
theorem de_listItems {e : Expr} {te : DTE} {p apos cpos : Pos} (hc : X.calm = true) (hg : Gl X "list") (hm : X.mg "list" = none) (he : DE X e te) (hbase : attributeBase e "items" X.env (eval e X.env) = eval e X.env := by rfl) (hline : (apos.endLine == cpos.line) = true := by rfl)
    (hs : starEach [.Call (.Attribute e "items" apos) [] [] cpos] X.env = (false, eval (.Call (.Attribute e "items" apos) [] [] cpos) X.env) :: starEach [] X.env := by rfl) :
    DE X (.Call (.Name "list" p) [.Call (.Attribute e "items" apos) [] [] cpos] [] pos) (dItems te) := by
  obtain ⟨t, p1, r1⟩ := he.ex
  refine ⟨_, LiI.pe_listItems hc p1 hg hm (by decide +kernel) hbase hline hs, fun F H σ S G o Q' h Q k => ?_⟩
  refine r1 F H σ S G o _ h _ fun F1 H1 v d G1 e1 g1 q1 h1 => ?_
  dsimp only at h1
  split at h1
  · rename_i kds ex
    obtain ⟨a, kvs, rfl, ha, kr⟩ := cur_dK g1 q1 ex
    refine ⟨a, kvs, rfl, ha, fun H' p ts k1 k2 k3 k4 k5 k6 => ?_⟩
    obtain ⟨F', gr, rp⟩ := items_grow g1 k1 k2 k3 k4 k5 k6 kr
    exact k F' H' _ _ G1 (e1.trans gr.go) (g1.grow gr) rp h1
  · exact h1.elim
/-! ### dict(list of pairs) -/
def prsK : List D → Option (List (Key × D))
  | [] => some []
  | .tup [k, v] :: r => (match k.key, prsK r with
    | some k, some m => some ((k, v) :: m)
    | _, _ => none)
  | _ :: _ => none
theorem prsK_rep {K : PySem.W.Frag} {F : Hp} : ∀ {xs : List D} {ms : List (Key × D)} {vs : List V}, prsK xs = some ms → Reps K F vs xs →
    ∃ (ps : List Addr) (kvs : List (Key × V)), vs = ps.map V.ref ∧ Paired (fun p kv => F p = some (.tup [kV kv.1, kv.2])) ps kvs ∧ KR K F kvs ms
  | [], ms, _, h, .nil => by cases h; exact ⟨[], [], rfl, .nil, KR.nil⟩
  | x :: r, ms, _, h, .cons a b => by
    unfold prsK at h
    split at h
    · rename_i h1; cases h1
    · rename_i kd v r' h1
      cases h1
      split at h
      · rename_i k m ek em
        cases h
        obtain ⟨ps, kvs, h2, h3, h4⟩ := prsK_rep em b
        cases a with
        | tup ha rs =>
          rename_i p ws
          cases rs with
          | cons r1 r2 =>
            cases r2 with
            | cons r3 r4 =>
              cases r4
              rename_i v1 v2
              have hk : v1 = kV k := r1.key ek
              subst hk
              exact ⟨p :: ps, (k, v2) :: kvs, by rw [h2]; rfl, .cons ha h3, h4.cons r3⟩
      · cases h
    · cases h
def rDictK (ds : List D) (G : GH) (Q : DQ) : Prop := match ds with
  | [d] => (match d.cur G with
    | .lst xs => (match prsK xs with
      | some ms => Q (.dK (mergeD [] ms)) G
      | none => False)
    | _ => False)
  | _ => False
theorem cd_dictK (hc : X.calm = true) : CallD X (.type "dict") rDictK := by
  refine ⟨_, call_dictP hc, fun F H G vs ds g rs Q' h Q k => ?_⟩
  unfold rDictK at h
  split at h
  · rename_i d
    cases rs with
    | cons r b =>
      cases b
      split at h
      · rename_i xs ex
        split at h
        · rename_i ms em
          obtain ⟨a, ws, rfl, ha, rw'⟩ := cur_list g r ex
          obtain ⟨ps, kvs, rfl, h3, h4⟩ := prsK_rep em rw'
          refine ⟨a, ps, kvs, rfl, .inl (.inl ha), L2.Paired.mapP h3 (fun _ _ z => .inl (.inl (g.ex _ _ z))), fun p hp => ?_⟩
          have gr := Gr.new (u := .dK (mergeK [] kvs)) g.ex hp
          have kr : KR X.K F (mergeK [] kvs) (mergeD [] ms) := KR.merge h4 KR.nil
          have kr2 := kr.mono gr.ff
          exact k _ _ _ _ G gr.go (g.grow gr) (.dK upd_same kr2.ks kr2.vs) h
        · exact h.elim
      · exact h.elim
  · exact h.elim
/-! ### methods by their contracts -/
structure CalM (P : Program) (w : World) (K : PySem.W.Frag) (mg : Str → Option Value) (base : Heap) (C : Addr) (m : Str) (k : Nat) (ps : List Str) (sp : SpD) : Prop where
  ex : ∃ f fd, Meth K C m f ∧ FnG P w K mg base CX0 k f fd ps (SpOf K sp) ∧ Binds K fd ps []
theorem de_calM {pl : Sem Bool} {o e : Expr} {es : List Expr} {C : Addr} {m : Str} {k : Nat} {ps : List Str} {sp : SpD} {ta : DTE} {tr : DTA} {apos : Pos} (cl : Cls X.K C) (c : CalM X.prog X.w X.K X.mg X.base C m k ps sp) (hA : X.A.guards = some []) (hr : Room k X.A) (he : DE X o ta) (ha : DA X (e :: es) tr)
    (hst : starEach (e :: es) X.env = (false, eval e X.env) :: starEach es X.env := by rfl) (hpl : (backTo pos (starEach es X.env)).any (·.1) = false := by rfl)
    (ht : eval (.Call (.Attribute o m apos) (e :: es) [] pos) X.env = (do let ov ← eval o X.env; standAt apos.atName; let (f, first) ← holding [ov] (getMethod ov m pl); callWith pos f first (backTo pos (starEach (e :: es) X.env)) (backToKw pos (keywordEach [] X.env))) := by rfl) :
    DE X (.Call (.Attribute o m apos) (e :: es) [] pos) (dMeth C m sp ta tr) := by
  obtain ⟨f, fd, hm, Fn, hb⟩ := c.ex
  exact de_meth he cl hm Fn hA hr hb ha hst hpl ht
theorem de_calM0 {pl : Sem Bool} {o : Expr} {C : Addr} {m : Str} {k : Nat} {ps : List Str} {sp : SpD} {ta : DTE} {apos : Pos} (cl : Cls X.K C) (c : CalM X.prog X.w X.K X.mg X.base C m k ps sp) (hA : X.A.guards = some []) (hr : Room k X.A) (he : DE X o ta)
    (ht : eval (.Call (.Attribute o m apos) [] [] pos) X.env = (do let ov ← eval o X.env; standAt apos.atName; let (f, first) ← holding [ov] (getMethod ov m pl); callWith pos f first (backTo pos (starEach [] X.env)) (backToKw pos (keywordEach [] X.env))) := by rfl) :
    DE X (.Call (.Attribute o m apos) [] [] pos) (dMeth C m sp ta dNil) := by
  obtain ⟨f, fd, hm, Fn, hb⟩ := c.ex
  obtain ⟨t1, p1, r1⟩ := he.ex
  refine ⟨_, pg_meth0 p1 cl hm Fn hA hr hb .nil pass0 ht, fun F H σ S G o Q' h Q k => ?_⟩
  refine r1 F H σ S G o _ h _ fun F1 H1 v d G1 e1 g1 q1 h1 => ?_
  dsimp only at h1
  split at h1
  · rename_i C' fs ex
    obtain ⟨rfl, hl, h1⟩ := h1
    obtain ⟨a, dx, kvs, rfl, ha', kr⟩ := cur_obj g1 q1 ex
    refine ⟨a, dx, kvs, rfl, ha', kr.look.2 hl, ?_⟩
    exact ⟨F1, G1, [d], Q', g1, .cons q1 .nil, h1, k.mono e1⟩
  · exact h1.elim
structure DefM (K : PySem.W.Frag) (C : Addr) (m qual : Str) (st : Stmt) : Prop where
  ex : ∃ f fd, Fun K m qual st f fd ∧ Meth K C m f
theorem calM_mk {P : Program} {w : World} {K : PySem.W.Frag} {mg : Str → Option Value} {base : Heap} {m qual : Str} {C : Addr} {st : Stmt} {N ps : List Str} {k : Nat} {sp : SpD} (d : DefM K C m qual st) (sc : FnScope N ps (defScope st)) (len : ∀ ds G Q, sp ds G Q → ds.length = ps.length)
    (bi : ∀ (kV doc pm : Value) (an : Option Addr) (cdv ct : Value) (us : List Value), us.length = ps.length → bindArgs (PySem.W.fnOf m qual (defArgs st) (defBody st) (defScope st) .none kV doc pm an cdv ct) ⟨us, []⟩ = pure (ps.zip us))
    (hb : ∀ (f : Addr) (cdv : Value) (A : Around) (outer : List Env) (s : Shared) (H : Hp) (E : XK), A.guards = some [] → Room k (A.deeper (envOfC qual (defScope st) s.heap.objs.size f cdv)) →
      ∃ t', DPs (cxOf CX0 P w K mg base N qual (defScope st) f cdv A outer s H E).nox (defBody st) t' ∧ ∀ ds G Q, sp ds G Q → t' (fin Q) (dstart N ds) G) : CalM P w K mg base C m (k + 1) ps sp := by
  obtain ⟨f, fd, Fu, M⟩ := d.ex
  exact ⟨f, fd, M, fn_mk Fu sc len (hb f), Fu.binds bi⟩
/-! ### == by an own __eq__ -/
def rEqO (C : Addr) (sp : SpD) : DR2 := fun x y G Q => match x.cur G, y.cur G with
  | .obj C1 _, .obj C2 _ => C1 = C ∧ C2 = C ∧ sp [x, y] G fun d G' => match d with
    | .bl b => Q (.bl b) G'
    | _ => False
  | _, _ => False
def vEqO (X : Cx) (C : Addr) (sp : SpD) : R2 := fun x y H Q => ∃ a b dx dy fs gs, x = .ref a ∧ y = .ref b ∧ H a = some (.ins C dx fs) ∧ H b = some (.ins C dy gs) ∧ SpOf X.K sp [.ref a, .ref b] H (fun v H' => (∃ b, v = .bl b) ∧ Q v H') (fun _ _ _ => False)
theorem op_eqO {C : Addr} {k : Nat} {ps : List Str} {sp : SpD} (c : CalM X.prog X.w X.K X.mg X.base C "__eq__" k ps sp) (hA : X.A.guards = some []) (hr : Room k X.A) : OpR X (compareOp .Eq) (vEqO X C sp) := by
  obtain ⟨f, fd, M, Fn, hb⟩ := c.ex
  intro pins s σ H x y v u Q I rx ry hq
  obtain ⟨a, b, dx, dy, fs, gs, rfl, rfl, ha, hb', q⟩ := hq
  cases rx
  cases ry
  show wpAny (model X.prog X.w) X.A (richCompare .Eq (.ref a) (.ref b)) (EP X pins σ Q) X.xe s
  obtain ⟨mA, J, _⟩ := ins_get I.hok ha
  obtain ⟨mB, J', _⟩ := ins_get I.hok hb'
  obtain ⟨od, J, _⟩ := J.look
  obtain ⟨od', J', _⟩ := J'.look
  obtain ⟨m, hF⟩ := I.fr
  refine PySem.W.cmp_K (op := .Eq) (tb := .ref C) hr.units0 hF I.ok.mod.kin J J'.type (by simp [PySem.W.notFirst]) M.at_ M.fn ?_
  have r2 : Vals [V.ref a, V.ref b] [Value.ref a, Value.ref b] := .cons rfl (.cons rfl .nil)
  refine wpAny_mono (goes_fn (us := [.ref a, .ref b]) Fn hA hr [] (fun s2 i l => by simpa using hb s2 [.ref a, .ref b] i (by simpa using l)) pass0 I r2 q) (fun w s' z => ?_) fun _ _ z => z
  obtain ⟨v', H', I', rv, ⟨b0, rfl⟩, q'⟩ := z
  cases rv
  exact ⟨.bl b0, H', I', rfl, q'⟩
theorem od_eqO {C : Addr} {k : Nat} {ps : List Str} {sp : SpD} (c : CalM X.prog X.w X.K X.mg X.base C "__eq__" k ps sp) (hA : X.A.guards = some []) (hr : Room k X.A) : OpD X (compareOp .Eq) (rEqO C sp) := by
  refine ⟨_, op_eqO c hA hr, fun F H G x y dx dy g rx ry Q' h Q k => ?_⟩
  unfold rEqO at h
  split at h
  · rename_i C1 fs1 C2 fs2 e1 e2
    obtain ⟨rfl, rfl, h⟩ := h
    obtain ⟨a, d1, k1, rfl, ha, _⟩ := cur_obj g rx e1
    obtain ⟨b, d2, k2, rfl, hb, _⟩ := cur_obj g ry e2
    refine ⟨a, b, d1, d2, k1, k2, rfl, rfl, ha, hb, F, G, [dx, dy], _, g, .cons rx (.cons ry .nil), h, ?_⟩
    intro F' H' v d G' e1 g1 r1 h1
    split at h1
    · cases r1
      exact ⟨⟨_, rfl⟩, k F' H' _ _ G' e1 g1 (.bl _) h1⟩
    · exact h1.elim
  · exact h.elim
/-! ### isinstance(x, C) of the own class -/
def rIsC (C : Addr) (ds : List D) (G : GH) (Q : DQ) : Prop := match ds with
  | [d, .rf C'] => C' = C ∧ (match d.cur G with
    | .obj C1 _ => C1 = C ∧ Q (.bl true) G
    | _ => False)
  | _ => False
theorem cd_isC {C : Addr} (c : C8.InsC X.K C) : CallD X (.builtin "isinstance") (rIsC C) := by
  refine ⟨_, C8.call_isC c, fun F H G vs ds g rs Q' h Q k => ?_⟩
  unfold rIsC at h
  split at h
  · rename_i d C'
    obtain ⟨rfl, h⟩ := h
    split at h
    · rename_i C1 fs e1
      obtain ⟨rfl, h⟩ := h
      cases rs with
      | cons r1 rt =>
        cases rt with
        | cons r2 rt2 =>
          cases rt2
          cases r2
          obtain ⟨a, dx, kvs, rfl, ha, _⟩ := cur_obj g r1 e1
          exact ⟨a, dx, kvs, rfl, ha, k F H _ _ G Go.refl g (.bl _) h⟩
    · exact h.elim
  · exact h.elim
/-- the name of the own class -/
theorem de_cls {x : Str} {C : Addr} (hg : Gl X x) (hm : X.mg x = some (.ref C)) (hd : (x == ("__debug__" : Str)) = false := by decide) : DE X (.Name x pos) (dC (.rf C)) :=
  dc_of (pe_glob (v := .ref C) hg hm rfl hd) fun _ => .rf C
end
end DL
end
section
set_option Elab.async false
set_option linter.all false
set_option maxRecDepth 100000
set_option maxHeartbeats 4000000
/-! M6: captions of a speech, the first mute speech. -/
namespace Pace
open PySem PySem.Spec PyProof.Rows L2 DL
theorem snoc_ind {α : Type} {P : List α → Prop} (nil : P []) (snoc : ∀ l a, P l → P (l ++ [a])) (l : List α) : P l := by
  rw [← List.reverse_reverse l]
  induction l.reverse with
  | nil => exact nil
  | cons a l ih => rw [List.reverse_cons]; exact snoc _ _ ih
theorem szB {n : Nat} (h : n ≤ 1000000) : n ≤ sizeLine := by rw [sizeLine_eq]; omega
theorem szlB {n : Nat} (h : n ≤ 1000000) : n < sizeLine := by rw [sizeLine_eq]; omega
theorem map_get {α : Type} {f : α → D} {l : List α} {i : Nat} {d : D} (h : (l.map f)[i]? = some d) : ∃ a, l[i]? = some a ∧ d = f a := by
  rw [List.getElem?_map] at h
  cases e : l[i]? with
  | none => rw [e] at h; cases h
  | some a => rw [e] at h; cases h; exact ⟨a, rfl, rfl⟩
theorem take_snoc {α : Type} {l : List α} {i : Nat} {a : α} (h : l[i]? = some a) : l.take (i + 1) = l.take i ++ [a] := by rw [List.take_add_one, h]; rfl
theorem range_get {n : Nat} {i : Nat} {d : D} (h : ((List.range (n : Int).toNat).map fun (i : Nat) => D.int (i : Nat))[i]? = some d) : i < n ∧ d = .int (i : Int) := by
  obtain ⟨a, ha, rfl⟩ := map_get h
  obtain ⟨h1, h2⟩ := List.getElem?_eq_some_iff.mp ha
  rw [List.length_range, Int.toNat_natCast] at h1
  rw [List.getElem_range] at h2
  subst h2
  exact ⟨h1, rfl⟩
theorem range_len (n : Nat) : ((List.range (n : Int).toNat).map fun (i : Nat) => D.int (i : Nat)).length = n := by simp
theorem mvd_si (m : Mv) : (Mv.d m).si = true := rfl
theorem rowD_si (r : List Mv) : (rowD r).si = true := sis_all.mpr fun x hx => by obtain ⟨m, _, rfl⟩ := List.mem_map.mp hx; exact mvd_si m
theorem rowsD_si (rs : List (List Mv)) : (rowsD rs).si = true := sis_all.mpr fun x hx => by obtain ⟨m, _, rfl⟩ := List.mem_map.mp hx; exact rowD_si m
theorem rowD_dp (r : List Mv) : (rowD r).dp ≤ 2 := by
  have : D.dps (r.map Mv.d) ≤ 1 := dps_le fun x hx => by obtain ⟨m, _, rfl⟩ := List.mem_map.mp hx; exact Nat.le_refl _
  simp only [rowD, D.dp]; omega
theorem rowsD_dp (rs : List (List Mv)) : (rowsD rs).dp ≤ 3 := by
  have : D.dps (rs.map rowD) ≤ 2 := dps_le fun x hx => by obtain ⟨m, _, rfl⟩ := List.mem_map.mp hx; exact rowD_dp m
  simp only [rowsD, D.dp]; omega
theorem mvd_inj {a b : Mv} (h : Mv.d a = Mv.d b) : a = b := by
  obtain ⟨h1, c1, t1⟩ := a
  obtain ⟨h2, c2, t2⟩ := b
  simp only [Mv.d, D.tup.injEq, List.cons.injEq, D.str.injEq, D.int.injEq, and_true] at h
  obtain ⟨e1, e2, e3⟩ := h
  have i1 := sgn_inj e1
  have i2 := sgn_inj e2
  have i3 : t1 = t2 := by omega
  subst i1; subst i2; subst i3; rfl
theorem map_inj {α β : Type} {f : α → β} (hf : ∀ a b, f a = f b → a = b) : ∀ {l m : List α}, l.map f = m.map f → l = m
  | [], [], _ => rfl
  | [], _ :: _, h => by simp at h
  | _ :: _, [], h => by simp at h
  | a :: l, b :: m, h => by
    simp only [List.map_cons, List.cons.injEq] at h
    rw [hf a b h.1, map_inj hf h.2]
theorem rowD_inj {a b : List Mv} (h : rowD a = rowD b) : a = b := map_inj (fun _ _ => mvd_inj) (by simpa [rowD] using h)
theorem rowsD_inj {a b : List (List Mv)} (h : rowsD a = rowsD b) : a = b := map_inj (fun _ _ => rowD_inj) (by simpa [rowsD] using h)
def uD (hs ws : List Nat) (rs : List (List Mv)) : D := .dK [(.inr "hs", .str (strOf hs)), (.inr "cs", .str (strOf ws)), (.inr "lines", rowsD rs)]
theorem uD_cur (G : GH) (hs ws : List Nat) (rs : List (List Mv)) : D.cur G (uD hs ws rs) = uD hs ws rs := rfl
theorem uD_hs (hs ws : List Nat) (rs : List (List Mv)) : D.item (uD hs ws rs) (.str "hs") = some (.str (strOf hs)) := rfl
theorem uD_cs (hs ws : List Nat) (rs : List (List Mv)) : D.item (uD hs ws rs) (.str "cs") = some (.str (strOf ws)) := rfl
theorem uD_lines (hs ws : List Nat) (rs : List (List Mv)) : D.item (uD hs ws rs) (.str "lines") = some (rowsD rs) := rfl
def edgeOf (hs : List Nat) : Nat → List (List Nat)
  | 0 => [[]]
  | n + 1 => (edgeOf hs n).flatMap fun x => hs.map fun c => x ++ [c]
def textsOf (hs : List Nat) : Nat → List (List Nat)
  | 0 => [[]]
  | n + 1 => textsOf hs n ++ edgeOf hs (n + 1)
theorem edge_len (hs : List Nat) (h3 : hs.length ≤ 3) : ∀ n, (edgeOf hs n).length ≤ 3 ^ n
  | 0 => by simp [edgeOf]
  | n + 1 => by
    have h1 := edge_len hs h3 n
    have h2 := flat_len (fun x => hs.map fun c => x ++ [c]) 3 (edgeOf hs n) (fun a _ => by simpa using h3)
    show ((edgeOf hs n).flatMap fun x => hs.map fun c => x ++ [c]).length ≤ _
    rw [Nat.pow_succ]
    exact Nat.le_trans h2 (Nat.mul_le_mul_right 3 h1)
theorem edge_pos (hs : List Nat) (h1 : 1 ≤ hs.length) : ∀ n, 0 < (edgeOf hs n).length
  | 0 => by simp [edgeOf]
  | n + 1 => by
    have h2 := edge_pos hs h1 n
    show 0 < ((edgeOf hs n).flatMap fun x => hs.map fun c => x ++ [c]).length
    obtain ⟨x, l, e⟩ : ∃ x l, edgeOf hs n = x :: l := by
      cases e : edgeOf hs n with
      | nil => rw [e] at h2; cases h2
      | cons x l => exact ⟨x, l, rfl⟩
    rw [e]
    simp only [List.flatMap_cons, List.length_append, List.length_map]
    omega
theorem edge_word (hs : List Nat) : ∀ n, ∀ x ∈ edgeOf hs n, x.length = n ∧ ∀ c ∈ x, c ∈ hs
  | 0, x, h => by simp [edgeOf] at h; subst h; simp
  | n + 1, x, h => by
    simp only [edgeOf, List.mem_flatMap, List.mem_map] at h
    obtain ⟨y, hy, c, hc, rfl⟩ := h
    obtain ⟨h1, h2⟩ := edge_word hs n y hy
    refine ⟨by simp [h1], fun d hd => ?_⟩
    rcases List.mem_append.mp hd with hd | hd
    · exact h2 d hd
    · rw [List.mem_singleton.mp hd]; exact hc
theorem texts_word (hs : List Nat) : ∀ n, ∀ x ∈ textsOf hs n, x.length ≤ n ∧ ∀ c ∈ x, c ∈ hs
  | 0, x, h => by simp [textsOf] at h; subst h; simp
  | n + 1, x, h => by
    simp only [textsOf, List.mem_append] at h
    rcases h with h | h
    · obtain ⟨h1, h2⟩ := texts_word hs n x h
      exact ⟨by omega, h2⟩
    · obtain ⟨h1, h2⟩ := edge_word hs (n + 1) x h
      exact ⟨by omega, h2⟩
theorem texts_len (hs : List Nat) (h3 : hs.length ≤ 3) : ∀ n, (textsOf hs n).length ≤ (n + 1) * 3 ^ n
  | 0 => by simp [textsOf]
  | n + 1 => by
    have h1 := texts_len hs h3 n
    have h2 := edge_len hs h3 (n + 1)
    simp only [textsOf, List.length_append]
    have : (n + 1) * 3 ^ n ≤ (n + 1) * 3 ^ (n + 1) := Nat.mul_le_mul_left _ (Nat.pow_le_pow_right (by decide) (by omega))
    rw [show (n + 1 + 1) * 3 ^ (n + 1) = (n + 1) * 3 ^ (n + 1) + 3 ^ (n + 1) from by rw [Nat.add_mul, Nat.one_mul]]
    omega
theorem signs_map (hs : List Nat) : DL.signs (strOf hs) = hs.map fun c => .str (sgn c) := by
  simp [DL.signs, strOf]
  intro a _
  rfl
theorem cut_take {α : Type} (xs : List α) (k : Nat) : DL.cutD xs none (some (k : Int)) = xs.take k := by
  unfold DL.cutD
  rw [HT.sIx_none, HT.sIx_nat]
  simp only [List.drop_zero, Nat.sub_zero]
  by_cases h : k ≤ xs.length
  · rw [Nat.min_eq_left h]
  · rw [Nat.min_eq_right (by omega), List.take_length, List.take_of_length_le (by omega)]
theorem cut_drop {α : Type} (xs : List α) (k : Nat) : DL.cutD xs (some (k : Int)) none = xs.drop k := by
  unfold DL.cutD
  rw [HT.sIx_none, HT.sIx_nat]
  by_cases h : k ≤ xs.length
  · rw [Nat.min_eq_left h, List.take_of_length_le (by simp)]
  · rw [Nat.min_eq_right (by omega), List.drop_of_length_le (by omega), List.drop_of_length_le (by omega)]
    simp
theorem unsgn : ∀ {ys : List Str}, (∀ y ∈ ys, ∃ c, y = sgn c) → ∃ es : List Nat, ys = es.map sgn
  | [], _ => ⟨[], rfl⟩
  | y :: ys, h => by
    obtain ⟨c, rfl⟩ := h y (by simp)
    obtain ⟨es, rfl⟩ := unsgn fun z hz => h z (List.mem_cons_of_mem _ hz)
    exact ⟨c :: es, rfl⟩
theorem rising_sgn : ∀ (es : List Nat) (a : Nat), risingS (sgn a) (es.map sgn) = true → (a :: es).Nodup → nbr (fun a b => decide (a < b)) (a :: es) = true
  | [], a, _, _ => by simp [nbr]
  | b :: es, a, h, nd => by
    rw [nbr_cons]
    simp only [List.map_cons, risingS, Bool.and_eq_true] at h
    have ih := rising_sgn es b h.2 (List.nodup_cons.mp nd).2
    rw [ih, Bool.and_true]
    have h1 := h.1
    have hne : a ≠ b := fun e => by subst e; simp at nd
    have : ¬ b < a := by
      intro hlt
      have e : ltCps (sgn b).cps.toList (sgn a).cps.toList = true := by
        show ltCps [b] [a] = true
        simp [ltCps, hlt]
      rw [e] at h1
      cases h1
    simpa using (by omega : a < b)
theorem letters_of {cs es : List Nat} {ys : List Str} (hc : ∀ c ∈ cs, c ∈ abc) (h0 : 0 < cs.length) (e : ys = es.map sgn) (pm : ys.Perm (firstsF (cs.map sgn))) (so : sortedS ys = true) : lettersB es = true ∧ es.length ≤ cs.length := by
  subst e
  have nd : (es.map sgn).Nodup := pm.nodup_iff.mpr (firstsF_nodup _)
  have nde : es.Nodup := by
    rw [List.Nodup, List.pairwise_map] at nd
    exact nd.imp fun h z => h (by rw [z])
  have hl : es.length ≤ cs.length := by
    have h1 := pm.length_eq
    have h2 := firstsF_len (cs.map sgn)
    simp only [List.length_map] at h1 h2
    omega
  have hm : ∀ x ∈ es, x ∈ cs := fun x hx => by
    have h1 : sgn x ∈ cs.map sgn := firstsF_mem.mp (pm.mem_iff.mp (List.mem_map.mpr ⟨x, hx, rfl⟩))
    obtain ⟨y, hy, he⟩ := List.mem_map.mp h1
    rw [← sgn_inj he]; exact hy
  refine ⟨?_, hl⟩
  unfold lettersB
  simp only [Bool.and_eq_true]
  refine ⟨⟨?_, ?_⟩, ?_⟩
  · cases es with
    | nil =>
      exfalso
      cases cs with
      | nil => cases h0
      | cons c cs =>
        have : sgn c ∈ firstsF ((c :: cs).map sgn) := firstsF_mem.mpr (by simp)
        rw [← pm.mem_iff] at this
        cases this
    | cons a l => rfl
  · rw [List.all_eq_true]
    intro x hx
    simpa using hc x (hm x hx)
  · cases es with
    | nil => simp [nbr]
    | cons a l => exact rising_sgn l a so nde
def capD (x : List Nat × Nat) : D := .tup [.str (strOf x.1), .int (x.2 : Int)]
def capsStep (rs : List (List Mv)) (l : List (List Nat × Nat)) (c : Nat) : List (List Nat × Nat) := l.flatMap fun x => ((rs.getD x.2 []).filter fun m => m.h == c).map fun m => (x.1 ++ [m.c], m.t)
def caps (rs : List (List Mv)) (s : Nat) (cs : List Nat) : List (List Nat × Nat) := cs.foldl (capsStep rs) [([], s)]
theorem caps_snoc {rs : List (List Mv)} {s : Nat} {cs : List Nat} {c : Nat} : caps rs s (cs ++ [c]) = capsStep rs (caps rs s cs) c := by simp [caps]
theorem caps_run {rs : List (List Mv)} {s : Nat} (cs : List Nat) : ∀ k, (k ∈ (caps rs s cs).map (·.2)) ↔ k ∈ run rs [s] cs := by
  induction cs using snoc_ind with
  | nil => intro k; simp [caps, run]
  | snoc cs c ih =>
    intro k
    rw [caps_snoc, run_snoc, behind_mem]
    simp only [capsStep, List.mem_map, List.mem_flatMap, List.mem_filter]
    constructor
    · rintro ⟨y, ⟨x, hx, m, ⟨hm, he⟩, rfl⟩, rfl⟩
      exact ⟨x.2, (ih _).mp (List.mem_map.mpr ⟨x, hx, rfl⟩), m, hm, by simpa using he, rfl⟩
    · rintro ⟨t, ht, m, hm, he, rfl⟩
      obtain ⟨x, hx, rfl⟩ := List.mem_map.mp ((ih t).mpr ht)
      exact ⟨(x.1 ++ [m.c], m.t), ⟨x, hx, m, ⟨hm, by simpa using he⟩, rfl⟩, rfl⟩
theorem caps_nil {rs : List (List Mv)} {s : Nat} {cs : List Nat} (h : run rs [s] cs = []) : caps rs s cs = [] := by
  cases e : caps rs s cs with
  | nil => rfl
  | cons x l =>
    have := (caps_run (rs := rs) (s := s) cs x.2).mp (by rw [e]; simp)
    rw [h] at this
    cases this
theorem caps_lt {rs : List (List Mv)} (h : ∀ r ∈ rs, ∀ m ∈ r, m.t < rs.length) {s : Nat} (hs : s < rs.length) (cs : List Nat) : ∀ x ∈ caps rs s cs, x.2 < rs.length := fun x hx =>
  run_lt h (by simpa using hs) _ ((caps_run cs x.2).mp (List.mem_map.mpr ⟨x, hx, rfl⟩))
theorem caps_word {rs : List (List Mv)} {s : Nat} (cs : List Nat) : ∀ x ∈ caps rs s cs, x.1.length = cs.length := by
  induction cs using snoc_ind with
  | nil => intro x hx; simp [caps] at hx; subst hx; rfl
  | snoc cs c ih =>
    intro x hx
    rw [caps_snoc] at hx
    simp only [capsStep, List.mem_map, List.mem_flatMap, List.mem_filter] at hx
    obtain ⟨y, hy, m, _, rfl⟩ := hx
    simp [ih y hy]
/-- drawn rules -/
structure Wor (top : Nat) (tot : Bool) (hs ws : List Nat) (rs : List (List Mv)) : Prop where
  val : RulV hs ws rs
  n : rs.length ≤ top
  hs3 : hs.length ≤ 3
  ws3 : ws.length ≤ 3
  row : ∀ r ∈ rs, r.length ≤ 9
  full : tot = true → ∀ r ∈ rs, ∀ h ∈ hs, ∃ m ∈ r, m.h = h
/-- a row as far as its first letters -/
structure RowP (hs ws : List Nat) (n : Nat) (tot : Bool) (j : Nat) (row : List Mv) : Prop where
  mv : ∀ m ∈ row, mvB hs ws n m = true
  lt : row.Pairwise fun a b => mvLt a b = true
  le : ∀ m ∈ row, m.h ∈ hs.take j
  len : row.length ≤ 3 * j
  full : tot = true → ∀ h ∈ hs.take j, ∃ m ∈ row, m.h = h
theorem RowP.start {hs ws : List Nat} {n : Nat} {tot : Bool} : RowP hs ws n tot 0 [] := ⟨by simp, by simp, by simp, by simp, by simp⟩
theorem letters_lt {cs : List Nat} (h : lettersB cs = true) : cs.Pairwise (· < ·) := by
  unfold lettersB at h
  simp only [Bool.and_eq_true] at h
  exact (nbr_pair (r := fun a b => decide (a < b)) (fun a b c h1 h2 => by simp at h1 h2 ⊢; omega) cs h.2).imp fun h => by simpa using h
theorem letters_small {cs : List Nat} (h : lettersB cs = true) : ∀ c ∈ cs, c < 1114112 := fun c hc => by
  unfold lettersB at h
  simp only [Bool.and_eq_true, List.all_eq_true, decide_eq_true_eq] at h
  have := h.1.2 c hc
  simp only [abc, List.mem_cons, List.not_mem_nil, or_false] at this
  omega
theorem letters_pos {cs : List Nat} (h : lettersB cs = true) : 1 ≤ cs.length := by
  cases cs with
  | nil => simp [lettersB] at h
  | cons a l => simp
theorem take_lt {hs : List Nat} (h : hs.Pairwise (· < ·)) {j : Nat} {c : Nat} (hc : hs[j]? = some c) : ∀ x ∈ hs.take j, x < c := by
  intro x hx
  obtain ⟨h1, h2⟩ := List.getElem?_eq_some_iff.mp hc
  obtain ⟨i, hi, e⟩ := List.mem_iff_getElem.mp hx
  rw [List.length_take] at hi
  rw [List.getElem_take] at e
  rw [← e, ← h2]
  exact List.pairwise_iff_getElem.mp h i j (by omega) h1 (by omega)
theorem RowP.step {hs ws : List Nat} {n : Nat} {tot : Bool} {j : Nat} {row ts : List Mv} {cs : List Nat} {h : Nat} (rp : RowP hs ws n tot j row) (lh : hs.Pairwise (· < ·)) (lw : ws.Pairwise (· < ·)) (w3 : ws.length ≤ 3) (hh : hs[j]? = some h) (sl : cs.Sublist ws) (ne : tot = true → cs ≠ []) (ec : ts.map (·.c) = cs)
    (ht : ∀ t ∈ ts, t.h = h ∧ t.t < n) : RowP hs ws n tot (j + 1) (row ++ ts) where
  mv := fun m hm => by
    rcases List.mem_append.mp hm with hm | hm
    · exact rp.mv m hm
    · obtain ⟨h1, h2⟩ := ht m hm
      have h3 : m.c ∈ ws := sl.subset (by rw [← ec]; exact List.mem_map.mpr ⟨m, hm, rfl⟩)
      have h4 := List.mem_of_getElem? hh
      simp [mvB, h1, h2, h3, h4]
  lt := by
    rw [List.pairwise_append]
    refine ⟨rp.lt, ?_, fun a ha b hb => ?_⟩
    · have h1 : (ts.map (·.c)).Pairwise (· < ·) := by rw [ec]; exact lw.sublist sl
      rw [List.pairwise_map] at h1
      refine h1.imp_of_mem fun {a b} ha hb hab => ?_
      have := (ht a ha).1; have := (ht b hb).1
      simp only [mvLt, decide_eq_true_eq]
      right
      omega
    · have h1 := take_lt lh hh a.h (rp.le a ha)
      have h2 := (ht b hb).1
      simp only [mvLt, decide_eq_true_eq]
      left
      omega
  le := fun m hm => by
    rw [take_snoc hh]
    rcases List.mem_append.mp hm with hm | hm
    · exact List.mem_append_left _ (rp.le m hm)
    · rw [(ht m hm).1]; simp
  len := by
    have h1 := rp.len
    have h2 : ts.length = cs.length := by rw [← ec, List.length_map]
    have h3 := sl.length_le
    rw [List.length_append]
    omega
  full := fun ht0 x hx => by
    rw [take_snoc hh] at hx
    rcases List.mem_append.mp hx with hx | hx
    · obtain ⟨m, hm, e⟩ := rp.full ht0 x hx
      exact ⟨m, List.mem_append_left _ hm, e⟩
    · rw [List.mem_singleton] at hx
      subst hx
      have := ne ht0
      cases ts with
      | nil => rw [← ec] at this; simp at this
      | cons t l => exact ⟨t, by simp, (ht t (by simp)).1⟩
theorem RowP.row {hs ws : List Nat} {n : Nat} {tot : Bool} {row : List Mv} (rp : RowP hs ws n tot hs.length row) : rowB hs ws n row = true := by
  unfold rowB
  rw [Bool.and_eq_true, List.all_eq_true]
  exact ⟨rp.mv, nbr_of_pair rp.lt⟩
theorem Wor.few {top : Nat} {tot : Bool} {hs ws : List Nat} {rs : List (List Mv)} (w : Wor top tot hs ws rs) (h5 : top ≤ 5 := by decide) : Few rs := ⟨9, w.row, by have := w.n; omega⟩
theorem row_hits {hs ws : List Nat} {n : Nat} {r : List Mv} (h : rowB hs ws n r = true) (c : Nat) : (r.filter fun m => m.h == c).length ≤ ws.length := by
  unfold rowB at h
  rw [Bool.and_eq_true, List.all_eq_true] at h
  have pw := nbr_pair (r := mvLt) mvLt_tr r h.2
  have nd : ((r.filter fun m => m.h == c).map (·.c)).Nodup := by
    rw [List.Nodup, List.pairwise_map]
    refine (pw.sublist List.filter_sublist).imp_of_mem fun {a b} ha hb hab => ?_
    have h1 := (List.mem_filter.mp ha).2
    have h2 := (List.mem_filter.mp hb).2
    simp only [beq_iff_eq] at h1 h2
    simp only [mvLt, decide_eq_true_eq] at hab
    omega
  have := List.Nodup.length_le_of_subset (l₂ := ws) nd fun x hx => by
    obtain ⟨m, hm, rfl⟩ := List.mem_map.mp hx
    have := h.1 m (List.mem_filter.mp hm).1
    simp only [mvB, Bool.and_eq_true, decide_eq_true_eq] at this
    exact this.1.2
  simpa using this
theorem caps_len {hs ws : List Nat} {rs : List (List Mv)} (v : RulV hs ws rs) (w3 : ws.length ≤ 3) (s : Nat) (cs : List Nat) : (caps rs s cs).length ≤ 3 ^ cs.length := by
  induction cs using snoc_ind with
  | nil => simp [caps]
  | snoc cs c ih =>
    rw [caps_snoc, List.length_append, List.length_singleton, Nat.pow_succ]
    refine Nat.le_trans (flat_len _ 3 _ fun x _ => ?_) (Nat.mul_le_mul_right 3 ih)
    rw [List.length_map]
    cases e : rs[x.2]? with
    | none => simp [List.getD, e]
    | some r =>
      have := row_hits (v.row r (List.mem_of_getElem? e)).1 c
      simp only [List.getD, e, Option.getD_some]
      omega
theorem Wor.weak {top : Nat} {tot : Bool} {hs ws : List Nat} {rs : List (List Mv)} (w : Wor top tot hs ws rs) : Wor top false hs ws rs := ⟨w.val, w.n, w.hs3, w.ws3, w.row, fun z => by cases z⟩
theorem rowB_sub {hs ws : List Nat} {n : Nat} {r r' : List Mv} (h : rowB hs ws n r = true) (sb : r'.Sublist r) : rowB hs ws n r' = true := by
  unfold rowB at h ⊢
  rw [Bool.and_eq_true, List.all_eq_true] at h ⊢
  exact ⟨fun m hm => h.1 m (sb.subset hm), nbr_of_pair ((nbr_pair (r := mvLt) mvLt_tr r h.2).sublist sb)⟩
theorem Wor.less {top : Nat} {tot : Bool} {hs ws : List Nat} {rs : List (List Mv)} (w : Wor top tot hs ws rs) {s a : Nat} {r : List Mv} (h : rs[s]? = some r) : Wor top false hs ws (rs.take s ++ [r.take a ++ r.drop (a + 1)] ++ rs.drop (s + 1)) := by
  have hs1 := (List.getElem?_eq_some_iff.mp h).1
  have el : (rs.take s ++ [r.take a ++ r.drop (a + 1)] ++ rs.drop (s + 1)).length = rs.length := by
    simp only [List.length_append, List.length_take, List.length_drop, List.length_singleton]
    omega
  have sub : (r.take a ++ r.drop (a + 1)).Sublist r := by
    have e : r.drop (a + 1) = (r.drop a).drop 1 := by rw [List.drop_drop, Nat.add_comm]
    calc (r.take a ++ r.drop (a + 1)).Sublist (r.take a ++ r.drop a) := by rw [e]; exact (List.Sublist.refl _).append (List.drop_sublist _ _)
      _ = r := List.take_append_drop a r
  have mem : ∀ r' ∈ rs.take s ++ [r.take a ++ r.drop (a + 1)] ++ rs.drop (s + 1), ∃ r0 ∈ rs, r'.Sublist r0 := fun r' hr => by
    rcases List.mem_append.mp hr with hr | hr
    · rcases List.mem_append.mp hr with hr | hr
      · exact ⟨r', List.mem_of_mem_take hr, List.Sublist.refl _⟩
      · rw [List.mem_singleton.mp hr]
        exact ⟨r, List.mem_of_getElem? h, sub⟩
    · exact ⟨r', List.mem_of_mem_drop hr, List.Sublist.refl _⟩
  refine ⟨⟨w.val.lh, w.val.lw, w.val.sh, w.val.sw, by rw [el]; exact w.val.n1, by rw [el]; exact w.val.n2, fun r' hr => ?_⟩, by rw [el]; exact w.n, w.hs3, w.ws3, fun r' hr => ?_, fun z => by cases z⟩
  · obtain ⟨r0, h0, sb⟩ := mem r' hr
    obtain ⟨h1, h2⟩ := w.val.row r0 h0
    rw [el]
    exact ⟨rowB_sub h1 sb, Nat.le_trans sb.length_le h2⟩
  · obtain ⟨r0, h0, sb⟩ := mem r' hr
    exact Nat.le_trans sb.length_le (w.row r0 h0)
theorem rows_less (rs : List (List Mv)) (r : List Mv) (s a : Nat) : D.tup (List.take s (rs.map rowD) ++ [D.tup (List.take a (r.map Mv.d) ++ List.drop (a + 1) (r.map Mv.d))] ++ List.drop (s + 1) (rs.map rowD)) = rowsD (rs.take s ++ [r.take a ++ r.drop (a + 1)] ++ rs.drop (s + 1)) := by
  simp [rowsD, rowD, List.map_take, List.map_drop]
end Pace
end
section
set_option Elab.async false
set_option linter.all false
set_option maxRecDepth 100000
set_option maxHeartbeats 4000000
/-! M7: the first mute speech is the first one, by length, then as texts. -/
namespace Pace
open PySem PySem.Spec PyProof.Rows L2 DL
def sl (p q : List Nat) : Prop := p.length < q.length ∨ (p.length = q.length ∧ p < q)
def sle (p q : List Nat) : Prop := p = q ∨ sl p q
theorem lt_app : ∀ {p q : List Nat} (x y : List Nat), p.length = q.length → p < q → p ++ x < q ++ y
  | [], [], x, y, _, h => absurd h (List.not_lt_nil _)
  | [], _ :: _, x, y, h, _ => by simp at h
  | _ :: _, [], x, y, h, _ => by simp at h
  | a :: p, b :: q, x, y, h, hl => by
    rw [List.cons_append, List.cons_append, List.cons_lt_cons_iff]
    rw [List.cons_lt_cons_iff] at hl
    rcases hl with hl | ⟨e, hl⟩
    · exact .inl hl
    · exact .inr ⟨e, lt_app x y (by simpa using h) hl⟩
theorem sl.snoc {p q : List Nat} (c d : Nat) (h : sl p q) : sl (p ++ [c]) (q ++ [d]) := by
  rcases h with h | ⟨h, hl⟩
  · left; simpa using h
  · right; exact ⟨by simpa using h, lt_app _ _ h hl⟩
theorem sl.last {p : List Nat} {c d : Nat} (h : c < d) : sl (p ++ [c]) (p ++ [d]) := by
  right
  refine ⟨by simp, ?_⟩
  induction p with
  | nil => simpa [List.cons_lt_cons_iff] using h
  | cons a p ih => rw [List.cons_append, List.cons_append, List.cons_lt_cons_iff]; exact .inr ⟨rfl, ih⟩
theorem sl.trans {p q r : List Nat} (h1 : sl p q) (h2 : sl q r) : sl p r := by
  rcases h1 with h1 | ⟨e1, h1⟩ <;> rcases h2 with h2 | ⟨e2, h2⟩
  · left; omega
  · left; omega
  · left; omega
  · right; exact ⟨by omega, List.lt_trans h1 h2⟩
theorem sl.irrefl {p : List Nat} (h : sl p p) : False := by
  rcases h with h | ⟨_, h⟩
  · omega
  · exact List.lt_irrefl p h
theorem sle.trans {p q r : List Nat} (h1 : sle p q) (h2 : sle q r) : sle p r := by
  rcases h1 with rfl | h1
  · exact h2
  · rcases h2 with rfl | h2
    · exact .inr h1
    · exact .inr (h1.trans h2)
theorem sle.sl {p q r : List Nat} (h1 : sle p q) (h2 : sl q r) : Pace.sl p r := by
  rcases h1 with rfl | h1
  · exact h2
  · exact h1.trans h2
theorem sle.snoc {p q : List Nat} (c : Nat) (h : sle p q) : sle (p ++ [c]) (q ++ [c]) := by
  rcases h with rfl | h
  · exact .inl rfl
  · exact .inr (h.snoc c c)
theorem sl_snoc (p : List Nat) (c : Nat) : sl p (p ++ [c]) := by left; simp
def Done (rs : List (List Mv)) (ord : Ord) (y : List Nat × List Nat) (c : Nat) : Prop := behind rs y.1 c ≠ [] ∧ ∃ z ∈ ord, z.1 = behind rs y.1 c ∧ sle z.2 (y.2 ++ [c])
theorem Done.mono {rs : List (List Mv)} {ord more : Ord} {y : List Nat × List Nat} {c : Nat} (h : Done rs ord y c) : Done rs (ord ++ more) y c := by
  obtain ⟨h1, z, hz, h2⟩ := h
  exact ⟨h1, z, List.mem_append_left _ hz, h2⟩
theorem found {rs : List (List Mv)} {hs : List Nat} {ord : Ord} (st : ([0], []) ∈ ord) (p : List Nat) : (∀ c ∈ p, c ∈ hs) → (∀ y ∈ ord, ∀ c ∈ hs, sle (y.2 ++ [c]) p → Done rs ord y c) → ∃ z ∈ ord, z.1 = run rs [0] p ∧ sle z.2 p := by
  induction p using snoc_ind with
  | nil => intro _ _; exact ⟨_, st, rfl, .inl rfl⟩
  | snoc u c ih =>
    intro hp hd
    obtain ⟨y, hy, e1, e2⟩ := ih (fun x hx => hp x (by simp [hx])) fun y hy x hx hle => hd y hy x hx (hle.trans (.inr (sl_snoc u c)))
    obtain ⟨_, z, hz, e3, e4⟩ := hd y hy c (hp c (by simp)) (e2.snoc c)
    refine ⟨z, hz, ?_, e4.trans (e2.snoc c)⟩
    rw [e3, e1, run_snoc]
/-- what holds ahead of the entry at i -/
structure BI (rs : List (List Mv)) (hs : List Nat) (i : Nat) (pre : List Nat) (ord : Ord) : Prop where
  ok : OrdOk rs hs ord
  st : ([0], []) ∈ ord
  inc : (ord.map (·.2)).Pairwise sl
  frm : ∀ x ∈ ord, x.2 = [] ∨ ∃ (j : Nat) (y : List Nat × List Nat) (c : Nat), ord[j]? = some y ∧ x.2 = y.2 ++ [c] ∧ (j < i ∨ (j = i ∧ c ∈ pre))
  dn : ∀ (j : Nat) (y : List Nat × List Nat), j < i → ord[j]? = some y → ∀ c ∈ hs, Done rs ord y c
  dh : ∀ (y : List Nat × List Nat), ord[i]? = some y → ∀ c ∈ pre, Done rs ord y c
theorem inc_at {ord : Ord} (h : (ord.map (·.2)).Pairwise sl) {i j : Nat} {x y : List Nat × List Nat} (hi : ord[i]? = some x) (hj : ord[j]? = some y) (hij : i < j) : sl x.2 y.2 := by
  obtain ⟨h1, h2⟩ := List.getElem?_eq_some_iff.mp hi
  obtain ⟨h3, h4⟩ := List.getElem?_eq_some_iff.mp hj
  have := List.pairwise_iff_getElem.mp h i j (by simpa using h1) (by simpa using h3) hij
  simpa [h2, h4] using this
theorem BI.next {rs : List (List Mv)} {hs : List Nat} {i : Nat} {ord : Ord} (h : BI rs hs i hs ord) : BI rs hs (i + 1) [] ord where
  ok := h.ok
  st := h.st
  inc := h.inc
  frm := fun x hx => by
    rcases h.frm x hx with e | ⟨j, y, c, h1, h2, h3⟩
    · exact .inl e
    · exact .inr ⟨j, y, c, h1, h2, .inl (by omega)⟩
  dn := fun j y hj hy c hc => by
    by_cases e : j < i
    · exact h.dn j y e hy c hc
    · have : j = i := by omega
      subst this
      exact h.dh y hy c hc
  dh := fun _ _ _ hc => by cases hc
/-- all that is less than what stops is done -/
def StopAt (rs : List (List Mv)) (hs : List Nat) (d : List Nat) : Prop := ∃ ord : Ord, OrdOk rs hs ord ∧ ([0], []) ∈ ord ∧ ∀ y ∈ ord, ∀ c ∈ hs, sl (y.2 ++ [c]) d → Done rs ord y c
theorem stepL_bi {rs : List (List Mv)} {hs : List Nat} (tl : ∀ r ∈ rs, ∀ m ∈ r, m.t < rs.length) (so : hs.Pairwise (· < ·)) {i : Nat} {here : List Nat × List Nat} : ∀ (cs pre : List Nat) (ord : Ord), hs = pre ++ cs → BI rs hs i pre ord → ord[i]? = some here →
    (∀ d, stepL rs here ord cs = .inl d → StopAt rs hs d) ∧ (∀ ord', stepL rs here ord cs = .inr ord' → BI rs hs i hs ord' ∧ ord'[i]? = some here)
  | [], pre, ord, e, b, hh => by
    rw [List.append_nil] at e
    subst e
    refine ⟨fun d h => (by rw [stepL_nil] at h; cases h), fun ord' h => ?_⟩
    rw [stepL_nil] at h
    cases h
    exact ⟨b, hh⟩
  | c :: cs, pre, ord, e, b, hh => by
    have hc : c ∈ hs := by rw [e]; simp
    have pre_lt : ∀ x ∈ pre, x < c := fun x hx => by
      rw [e, List.pairwise_append] at so
      exact so.2.2 x hx c (by simp)
    have post : ∀ x ∈ hs, x < c → x ∈ pre := fun x hx hlt => by
      rw [e] at hx so
      rcases List.mem_append.mp hx with hx | hx
      · exact hx
      · exfalso
        rcases List.mem_cons.mp hx with rfl | hx
        · omega
        · have := (List.pairwise_cons.mp (List.pairwise_append.mp so).2.1).1 x hx
          omega
    rw [stepL_cons]
    by_cases h1 : behind rs here.1 c = []
    · rw [if_pos h1]
      refine ⟨fun d h => ?_, fun ord' h => by cases h⟩
      cases h
      refine ⟨ord, b.ok, b.st, fun y hy x hx hlt => ?_⟩
      obtain ⟨j, hj⟩ := List.getElem?_of_mem hy
      rcases Nat.lt_trichotomy j i with hji | rfl | hji
      · exact b.dn j y hji hj x hx
      · have ey : y = here := Option.some.inj (hj.symm.trans hh)
        subst ey
        refine b.dh y hj x (post x hx ?_)
        rcases Nat.lt_trichotomy x c with z | rfl | z
        · exact z
        · exact (sl.irrefl hlt).elim
        · exact (sl.irrefl (hlt.trans (sl.last z))).elim
      · exact (sl.irrefl (hlt.trans ((inc_at b.inc hh hj hji).snoc c x))).elim
    · rw [if_neg h1]
      by_cases h2 : behind rs here.1 c ∈ ord.map (·.1)
      · rw [if_pos h2]
        refine stepL_bi tl so cs (pre ++ [c]) ord (by simp [e]) ⟨b.ok, b.st, b.inc, fun x hx => ?_, b.dn, fun y hy x hx => ?_⟩ hh
        · rcases b.frm x hx with z | ⟨j, y, d, z1, z2, z3⟩
          · exact .inl z
          · refine .inr ⟨j, y, d, z1, z2, ?_⟩
            rcases z3 with z3 | ⟨z3, z4⟩
            · exact .inl z3
            · exact .inr ⟨z3, by simp [z4]⟩
        · rcases List.mem_append.mp hx with hx | hx
          · exact b.dh y hy x hx
          · rw [List.mem_singleton] at hx
            subst hx
            rw [hy] at hh
            cases hh
            obtain ⟨z, hz, ez⟩ := List.mem_map.mp h2
            refine ⟨h1, z, hz, ez, ?_⟩
            rcases b.frm z hz with w | ⟨j, y2, d, w1, w2, w3⟩
            · rw [w]; right; left; simp
            · right
              rw [w2]
              rcases w3 with w3 | ⟨rfl, w4⟩
              · exact (inc_at b.inc w1 hy w3).snoc d x
              · rw [hy] at w1
                cases w1
                exact sl.last (pre_lt d w4)
      · rw [if_neg h2]
        have hlt := (List.getElem?_eq_some_iff.mp hh).1
        have hh' : (ord ++ [(behind rs here.1 c, here.2 ++ [c])])[i]? = some here := by rw [List.getElem?_append_left hlt]; exact hh
        have up : ∀ {j : Nat} {y : List Nat × List Nat}, ord[j]? = some y → (ord ++ [(behind rs here.1 c, here.2 ++ [c])])[j]? = some y := fun {j y} z => by
          rw [List.getElem?_append_left (List.getElem?_eq_some_iff.mp z).1]; exact z
        refine stepL_bi tl so cs (pre ++ [c]) _ (by simp [e]) ⟨b.ok.add tl hh hc h1 h2, List.mem_append_left _ b.st, ?_, fun x hx => ?_, fun j y hj hy x hx => ?_, fun y hy x hx => ?_⟩ hh'
        · rw [List.map_append, List.pairwise_append]
          refine ⟨b.inc, by simp, fun w hw v hv => ?_⟩
          simp only [List.map_cons, List.map_nil, List.mem_singleton] at hv
          subst hv
          obtain ⟨x, hx, rfl⟩ := List.mem_map.mp hw
          rcases b.frm x hx with z | ⟨j, y2, d, w1, w2, w3⟩
          · rw [z]; left; simp
          · rw [w2]
            rcases w3 with w3 | ⟨rfl, w4⟩
            · exact (inc_at b.inc w1 hh w3).snoc d c
            · rw [hh] at w1
              cases w1
              exact sl.last (pre_lt d w4)
        · rcases List.mem_append.mp hx with hx | hx
          · rcases b.frm x hx with z | ⟨j, y, d, z1, z2, z3⟩
            · exact .inl z
            · refine .inr ⟨j, y, d, up z1, z2, ?_⟩
              rcases z3 with z3 | ⟨z3, z4⟩
              · exact .inl z3
              · exact .inr ⟨z3, by simp [z4]⟩
          · rw [List.mem_singleton] at hx
            subst hx
            exact .inr ⟨i, here, c, hh', rfl, .inr ⟨rfl, by simp⟩⟩
        · have hj2 : j < ord.length := by omega
          rw [List.getElem?_append_left hj2] at hy
          exact (b.dn j y hj hy x hx).mono
        · rw [hh'] at hy
          cases hy
          rcases List.mem_append.mp hx with hx | hx
          · exact (b.dh here hh x hx).mono
          · rw [List.mem_singleton] at hx
            subst hx
            exact ⟨h1, (behind rs here.1 x, here.2 ++ [x]), List.mem_append_right _ (by simp), rfl, .inl rfl⟩
theorem bfs_bi {rs : List (List Mv)} {hs : List Nat} (tl : ∀ r ∈ rs, ∀ m ∈ r, m.t < rs.length) (so : hs.Pairwise (· < ·)) : ∀ (f i : Nat) (ord : Ord), i + f = 2 ^ rs.length → BI rs hs i [] ord →
    (∀ d, bfs rs hs f i ord = some d → StopAt rs hs d) ∧ (bfs rs hs f i ord = none → ∃ ord : Ord, OrdOk rs hs ord ∧ ([0], []) ∈ ord ∧ ∀ y ∈ ord, ∀ c ∈ hs, Done rs ord y c)
  | 0, i, ord, e, b => by
    refine ⟨fun d h => (by cases h), fun _ => ⟨ord, b.ok, b.st, fun y hy c hc => ?_⟩⟩
    obtain ⟨j, hj⟩ := List.getElem?_of_mem hy
    have h1 := (List.getElem?_eq_some_iff.mp hj).1
    have h2 := b.ok.len
    exact b.dn j y (by omega) hj c hc
  | f + 1, i, ord, e, b => by
    unfold bfs
    cases hh : ord[i]? with
    | none =>
      simp only
      refine ⟨fun d h => (by cases h), fun _ => ⟨ord, b.ok, b.st, fun y hy c hc => ?_⟩⟩
      obtain ⟨j, hj⟩ := List.getElem?_of_mem hy
      have h1 := (List.getElem?_eq_some_iff.mp hj).1
      have h2 := List.getElem?_eq_none_iff.mp hh
      exact b.dn j y (by omega) hj c hc
    | some here =>
      simp only
      obtain ⟨s1, s2⟩ := stepL_bi tl so hs [] ord rfl b hh
      cases hst : stepL rs here ord hs with
      | inl d =>
        simp only
        exact ⟨fun d' h => (by cases h; exact s1 d hst), fun h => (by cases h)⟩
      | inr ord' =>
        simp only
        exact bfs_bi tl so f (i + 1) ord' (by omega) (s2 ord' hst).1.next
theorem mute_first {rs : List (List Mv)} {hs : List Nat} (tl : ∀ r ∈ rs, ∀ m ∈ r, m.t < rs.length) (so : hs.Pairwise (· < ·)) (h0 : 0 < rs.length) (p : List Nat) (hp : ∀ c ∈ p, c ∈ hs) (h : ∀ d, muteOf rs hs = some d → sl p d) : run rs [0] p ≠ [] := by
  have b0 : BI rs hs 0 [] [([0], [])] := ⟨.start h0, by simp, by simp, fun x hx => by simp at hx; subst hx; exact .inl rfl, fun _ _ z => by omega, fun _ _ _ z => by cases z⟩
  obtain ⟨b1, b2⟩ := bfs_bi tl so (2 ^ rs.length) 0 [([0], [])] (by omega) b0
  have key : ∃ ord : Ord, OrdOk rs hs ord ∧ ([0], []) ∈ ord ∧ ∀ y ∈ ord, ∀ c ∈ hs, sle (y.2 ++ [c]) p → Done rs ord y c := by
    cases e : muteOf rs hs with
    | none =>
      obtain ⟨ord, o1, o2, o3⟩ := b2 e
      exact ⟨ord, o1, o2, fun y hy c hc _ => o3 y hy c hc⟩
    | some d =>
      obtain ⟨ord, o1, o2, o3⟩ := b1 d e
      exact ⟨ord, o1, o2, fun y hy c hc hle => o3 y hy c hc (hle.sl (h d e))⟩
  obtain ⟨ord, o1, o2, o3⟩ := key
  obtain ⟨z, hz, e1, _⟩ := found o2 p hp o3
  rw [← e1]
  exact (o1.rn z hz).2.1
theorem full_none {rs : List (List Mv)} {hs : List Nat} (tl : ∀ r ∈ rs, ∀ m ∈ r, m.t < rs.length) (h0 : 0 < rs.length) (fl : ∀ r ∈ rs, ∀ h ∈ hs, ∃ m ∈ r, m.h = h) : muteOf rs hs = none := by
  cases e : muteOf rs hs with
  | none => rfl
  | some p =>
    obtain ⟨q, c, rfl, hc, hq, h1, h2, _⟩ := muteOf_some tl h0 e
    exfalso
    have hl := run_lt (rs := rs) (ss := [0]) (cs := q) tl (by simpa using h0)
    cases e2 : run rs [0] q with
    | nil => exact h1 e2
    | cons s l =>
      have hs0 : s < rs.length := hl s (by rw [e2]; simp)
      obtain ⟨m, hm, hmh⟩ := fl _ (List.getElem_mem hs0) c hc
      have : m.t ∈ run rs [0] (q ++ [c]) := by
        rw [run_snoc, behind_mem]
        exact ⟨s, by rw [e2]; simp, m, by simpa [List.getD, hs0] using hm, hmh, rfl⟩
      rw [h2] at this
      cases this
theorem sl_of_lt {p q : List Nat} (h : D.lt (.tup [.int (p.length : Nat), .str (strOf p)]) (.tup [.int (q.length : Nat), .str (strOf q)]) = true) : sl p q := by
  have e : D.lt (.tup [.int (p.length : Nat), .str (strOf p)]) (.tup [.int (q.length : Nat), .str (strOf q)]) = PySem.W.dataLt (.tuple [.int (p.length : Nat), .str (strOf p)]) (.tuple [.int (q.length : Nat), .str (strOf q)]) := rfl
  rw [e, PySem.W.dataLt_pair rfl rfl] at h
  have e1 : PyData.eqv (.int (p.length : Nat)) (.int (q.length : Nat)) = ((p.length : Int) == (q.length : Int)) := eqv_int _ _
  have e2 : PySem.W.dataLt (.int (p.length : Nat)) (.int (q.length : Nat)) = decide ((p.length : Int) < (q.length : Int)) := DL.lt_int _ _
  have e3 : PySem.W.dataLt (.str (strOf p)) (.str (strOf q)) = decide (p < q) := by
    have := DL.lt_str (strOf p) (strOf q)
    exact this
  have e4 : PyData.eqv (.str (strOf p)) (.str (strOf q)) = (strOf p == strOf q) := eqv_str _ _
  rw [e1, e2, e3, e4] at h
  by_cases hl : p.length = q.length
  · rw [if_pos (by simp [hl])] at h
    by_cases h2 : p = q
    · rw [if_pos (by simp [h2])] at h; cases h
    · rw [if_neg (by simpa using fun z => h2 (strOf_inj z))] at h
      right
      exact ⟨hl, by simpa using h⟩
  · rw [if_neg (by simp; omega)] at h
    left
    simpa using h
end Pace
end
section
set_option Elab.async false
set_option linter.all false
set_option maxRecDepth 100000
set_option maxHeartbeats 4000000
/-! DLse: is of bools. -/
namespace DL
open PySem PySem.Spec PyProof.Rows L2
section
variable {X : Cx} {pos : Pos}
theorem od_isB : OpD X (compareOp .Is) (fun x y G Q => match x, y with | .bl a, .bl b => Q (.bl (decide (a = b))) G | _, _ => False) := by
  refine ⟨_, op_isBl, fun F H G x y dx dy g rx ry Q' h Q k => ?_⟩
  split at h
  · cases rx; cases ry
    exact ⟨_, _, rfl, rfl, k F H _ _ G Go.refl g (.bl _) h⟩
  · exact h.elim
theorem od_notB : OpD X (compareOp .IsNot) (fun x y G Q => match x, y with | .bl a, .bl b => Q (.bl (!decide (a = b))) G | _, _ => False) := by
  refine ⟨_, op_notBl, fun F H G x y dx dy g rx ry Q' h Q k => ?_⟩
  split at h
  · cases rx; cases ry
    exact ⟨_, _, rfl, rfl, k F H _ _ G Go.refl g (.bl _) h⟩
  · exact h.elim
end
end DL
end
section
set_option Elab.async false
set_option linter.all false
set_option maxRecDepth 100000
set_option maxHeartbeats 4000000
/-! DLr: data whose repr is no trouble. -/
namespace DL
open PySem PySem.Spec PyProof.Rows L2
structure Fine (d : D) (n w : Nat) : Prop where
  pl : d.pl = true
  sh : d.py.showable = true
  dp : d.py.depth ≤ n
  ls : d.py.leavesShort 13 = true
  bk : d.py.bulk ≤ w
theorem Fine.mono {d : D} {n w n' w' : Nat} (h : Fine d n w) (h1 : n ≤ n') (h2 : w ≤ w') : Fine d n' w' := ⟨h.pl, h.sh, Nat.le_trans h.dp h1, h.ls, Nat.le_trans h.bk h2⟩
theorem fine_non {n w : Nat} : Fine .non n w := ⟨rfl, rfl, Nat.zero_le _, rfl, Nat.zero_le _⟩
theorem fine_bl {b : Bool} {n w : Nat} : Fine (.bl b) n w := ⟨rfl, rfl, Nat.zero_le _, rfl, Nat.zero_le _⟩
theorem fine_int {i : Int} {n w : Nat} (h : i.natAbs < 1000000000) : Fine (.int i) n w := by
  refine ⟨rfl, ?_, Nat.zero_le _, ?_, Nat.zero_le _⟩
  · show decide (i.natAbs.log2 < 1920) = true
    rw [decide_eq_true_eq]
    by_cases h0 : i.natAbs = 0
    · rw [h0]; decide
    · have : i.natAbs.log2 < 30 := (Nat.log2_lt h0).mpr (Nat.lt_trans h (by decide))
      omega
  · show decide ((PyData.shown (.int i)).length ≤ 13) = true
    rw [decide_eq_true_eq]
    exact PyData.shown_int_le (Nat.lt_trans h (by decide))
theorem fine_str {x : Str} {n w : Nat} (h : ∀ c ∈ x.cps.toList, c < 1114112) (hl : x.length ≤ w) : Fine (.str x) n w := by
  refine ⟨rfl, rfl, Nat.zero_le _, ?_, hl⟩
  show (x.cps.toList.all fun c => decide (c < 16 ^ 8)) = true
  rw [List.all_eq_true]
  intro c hc
  have := h c hc
  simp only [decide_eq_true_eq]
  omega
theorem fine_all {n w : Nat} : ∀ {xs : List D}, (∀ x ∈ xs, Fine x n w) → D.pls xs = true ∧ PyData.showableAll (D.pys xs) = true ∧ PyData.depthAll (D.pys xs) ≤ n ∧ PyData.leavesShortAll 13 (D.pys xs) = true ∧ PyData.bulkAll (D.pys xs) ≤ xs.length * (w + 1)
  | [], _ => ⟨rfl, rfl, Nat.zero_le _, rfl, Nat.zero_le _⟩
  | x :: xs, h => by
    obtain ⟨h1, h2, h3, h4, h5⟩ := fine_all (xs := xs) fun y hy => h y (List.mem_cons_of_mem _ hy)
    have f := h x List.mem_cons_self
    refine ⟨?_, ?_, ?_, ?_, ?_⟩
    · show (x.pl && D.pls xs) = true
      rw [f.pl, h1]; rfl
    · show (x.py.showable && PyData.showableAll (D.pys xs)) = true
      rw [f.sh, h2]; rfl
    · show max x.py.depth (PyData.depthAll (D.pys xs)) ≤ n
      exact Nat.max_le.mpr ⟨f.dp, h3⟩
    · show (x.py.leavesShort 13 && PyData.leavesShortAll 13 (D.pys xs)) = true
      rw [f.ls, h4]; rfl
    · show x.py.bulk + 1 + PyData.bulkAll (D.pys xs) ≤ (xs.length + 1) * (w + 1)
      have := f.bk
      rw [Nat.add_mul]
      omega
theorem fine_lst {n w : Nat} {xs : List D} (h : ∀ x ∈ xs, Fine x n w) : Fine (.lst xs) (n + 1) (xs.length * (w + 1)) := by
  obtain ⟨h1, h2, h3, h4, h5⟩ := fine_all h
  refine ⟨h1, h2, ?_, h4, h5⟩
  show PyData.depthAll (D.pys xs) + 1 ≤ n + 1
  omega
theorem fine_tup {n w : Nat} {xs : List D} (h : ∀ x ∈ xs, Fine x n w) : Fine (.tup xs) (n + 1) (xs.length * (w + 1)) := by
  obtain ⟨h1, h2, h3, h4, h5⟩ := fine_all h
  refine ⟨h1, h2, ?_, h4, h5⟩
  show PyData.depthAll (D.pys xs) + 1 ≤ n + 1
  omega
theorem Fine.okR {d : D} {n w : Nat} (h : Fine d n w) (hn : n ≤ 60) : okR d = true := by
  unfold DL.okR
  rw [h.pl, h.sh]
  simp only [Bool.and_self, Bool.true_and, decide_eq_true_eq]
  exact Nat.le_trans h.dp hn
theorem Fine.len {d : D} {n w : Nat} (h : Fine d n w) (hw : w ≤ 1000000) : (D.shown d).length ≤ sizeLine := PyData.shown_fits_bulk (B := 13) (by decide) (by decide) h.ls (Nat.le_trans h.bk (Nat.le_trans hw (by decide)))
theorem repr_lst {xs : List D} {n w : Nat} (h : ∀ x ∈ xs, Fine x n w) (hn : n ≤ 50) (hw : xs.length * (w + 1) ≤ 1000000) {G : GH} {Q : DQ} (q : Q (.str (D.shown (.lst xs))) G) : rReprD [.lst xs] G Q :=
  ⟨(fine_lst h).okR (by omega), (fine_lst h).len hw, q⟩
theorem repr_tup {xs : List D} {n w : Nat} (h : ∀ x ∈ xs, Fine x n w) (hn : n ≤ 50) (hw : xs.length * (w + 1) ≤ 1000000) {G : GH} {Q : DQ} (q : Q (.str (D.shown (.tup xs))) G) : rReprD [.tup xs] G Q :=
  ⟨(fine_tup h).okR (by omega), (fine_tup h).len hw, q⟩
end DL
end
section
set_option Elab.async false
set_option linter.all false
set_option maxRecDepth 100000
set_option maxHeartbeats 4000000
/-! DLh: a head's hook with one more test of the written part; isinstance of own classes. -/
namespace DL
open PySem PySem.Spec PyProof.Rows L2
abbrev AlE : Type := He.AlD × Bool
def obsE (fa : List He.Fa) (fn : List He.DefD) (ex : PySem.W.Frag → Bool) (K : PySem.W.Frag) : AlE := (He.obsD fa fn K, ex K)
def obsEG (n : Nat) (fa : List He.Fa) (fn : List He.DefD) (ex : PySem.W.Frag → Bool) (g : Addr → Option Obj) : AlE := obsE fa fn ex (He.frG g (He.asD g n))
def hookE (n : Nat) (fa : List He.Fa) (fn : List He.DefD) (ex : PySem.W.Frag → Bool) : PySem.W.Hook where
  α := AlE
  obs := fun s => obsEG n fa fn ex s.heap.get?
  val := fun _ => (He.valD fn, true)
  says := fun _ h => ∃ K : PySem.W.Frag, K.In h ∧ He.SaysD fa fn K ∧ ex K = true
  of := fun _ _ e => ⟨_, He.frG_in, congrArg Prod.fst e, congrArg Prod.snd e⟩
  keeps := fun _ _ _ ⟨K, hK, c⟩ k => ⟨K, PySem.W.Frag.In.keeps hK k, c⟩
theorem obsEG_eq {n : Nat} {fa : List He.Fa} {fn : List He.DefD} {ex : PySem.W.Frag → Bool} {g : Addr → Option Obj} {s : Shared} (h : ∀ a, g a = s.heap.get? a) : obsEG n fa fn ex g = (hookE n fa fn ex).obs s := by
  have e : g = s.heap.get? := funext h
  rw [e] <;> rfl
def insB (K : PySem.W.Frag) (C : Addr) : Bool := He.eqO (PySem.W.findIn K (.ref C) "__class__") (some (some (.builtin "object.__class__"))) && (He.eqO (PySem.W.specialIn K (.builtin "object.__class__") "__get__") (some (some (.builtin "getset_descriptor.__get__"))) &&
  (decide (PySem.W.takesIn K (.builtin "object.__class__") = some true) && (decide (PySem.W.mroIn K C (.type "object") = some true) && decide (PySem.W.kitOne K (.ref C) (.ref C) = some true))))
theorem insB_ok {K : PySem.W.Frag} {C : Addr} (c : Cls K C) (h : insB K C = true) : C8.InsC K C := by
  unfold insB at h
  simp only [Bool.and_eq_true, decide_eq_true_eq] at h
  exact ⟨c, He.eqO_ok h.1, He.eqO_ok h.2.1, h.2.2.1, h.2.2.2.1, h.2.2.2.2⟩
end DL
end
section
set_option Elab.async false
set_option linter.all false
set_option maxRecDepth 100000
set_option maxHeartbeats 4000000
/-! DLn: != by an own __eq__ (object.__ne__). -/
namespace DL
open PySem PySem.Spec PyProof.Rows L2
section
open PySem.W PySem.Builtin
variable {prog : Program} {w : World} {A : Around} {E : Value → Shared → Prop} {s : Shared} {K : PySem.W.Frag} {x C L f : Addr} {h₀ : Heap} {m : Str → Option Value} {ox : Obj} {od : Option Obj}
theorem one_bind (self : Value) : bindSpecial (.builtin "object.__ne__") self = pure (.builtin "object.__ne__", [self]) :=
  (Slot.of (T := "object") (name := "__ne__") (owner := "object") (n := "__ne__") (by rw [typeLookup_type, builtinLookup_eq_fast]; kernel_rfl) (by decide +kernel) (by decide +kernel) (by decide +kernel)
    (.inl (by decide +kernel)) (by rw [isSubtype_type]; kernel_rfl)).bind self
theorem one_plain : plainId "object.__ne__" = true := by decide +kernel
theorem ifBound_B {M : Model} {name : Str} {id : String} {args : List Value} {Q : Option Value → Shared → Prop} (X : K.In s.heap) (I : InstAt s.heap x ox C od) (hs : findIn K (.ref C) name = some (some (.builtin id))) (hb : ∀ self, bindSpecial (.builtin id) self = pure (.builtin id, [self]))
    (h : wpAny M A (call (.builtin id) (.ref x :: args)) (fun v => Q (some v)) E s) : wpAny M A (callSpecialIfBound? (.ref x) name args) Q E s := by
  simp only [callSpecialIfBound?, bindSpecialIfBound?]
  refine wpAny_holding (wpAny_bind (wpAny_bind (wpAny_bind (I.type.here ((looks_findIn X hs).here ?_)))))
  simp only [hb]
  refine wpAny_bind (wpAny_askSetting (wpAny_ite ?_))
  have fin : wpAny M A (call (.builtin id) ([.ref x] ++ args) >>= fun v => pure (some v)) Q E s := wpAny_bind (wpAny_mono h (fun v s' h' => wpAny_pure h') fun _ _ h' => h')
  split
  · exact wpAny_bind (wpAny_pure (wpAny_pure (by exact fin)))
  · exact wpAny_tryCatch (wpAny_bind (wpAny_pure (wpAny_pure (by exact fin))))
theorem ne_body {b : Value} {Q : Fin → Shared → Prop} (hu : A.units < cLine) (X : K.In s.heap) (I : InstAt s.heap x ox C od) (hs : findIn K (.ref C) "__eq__" = some (some (.ref f))) (hf : isFn K (.ref f) = true)
    (h : wpAny (model prog w) A (call (.ref f) [.ref x, b]) (fun v s' => ∃ r, v = .bool r ∧ Q (.done (.ret (.bool (!r)))) s') E s) :
    wpAny (model prog w) A (Builtin.«object.__ne__» ⟨[.ref x, b], []⟩) Q E s := by
  unfold Builtin.«object.__ne__»
  repeat (first
    | with_reducible refine wpAny_cRoomFor hu ?_
    | (refine wpAny_bind (m := callSpecialIfBound? (.ref x) (Str.ofString "__eq__") [b]) (ifBound_K X I hs hf (wpAny_mono h (fun v s' hv => by
        obtain ⟨r, rfl, hq⟩ := hv
        repeat (first | exact hq | exact wpAny_pure hq | exact wpAny_truthy_bool hq | (refine wpAny_bind (m := truthy (.bool _)) (wpAny_truthy_bool ?_)) | wp_step)) fun _ _ e => e)))
    | wp_step)
theorem ne_K {b tb : Value} {Q : Value → Shared → Prop} (hu : A.units + 1 < cLine) (F0 : Fr h₀ L s.heap m) (X₀ : K.In h₀) (I : InstAt s.heap x ox C od) (hb : Looks (model prog w) s.heap (typeOf b) tb) (hn : notFirst K C tb = true)
    (hne : findIn K (.ref C) "__ne__" = some (some (.builtin "object.__ne__"))) (hm : mroIn K C (.type "object") = some true) (hs : findIn K (.ref C) "__eq__" = some (some (.ref f))) (hf : isFn K (.ref f) = true)
    (h : wpAny (model prog w) A.in1 (call (.ref f) [.ref x, b]) (fun v s' => ∃ r, v = .bool r ∧ Q (.bool (!r)) s') E s) : wpAny (model prog w) A (richCompare .NotEq (.ref x) b) Q E s := by
  have X := X₀.keeps F0.keep
  have isO : Looks (model prog w) s.heap (isInstance (.ref x) (.type "object")) true := I.type.andThen (looks_mroIn X hm)
  have one : wpAny (model prog w) A (tryCompare (.ref x) "__ne__" b) (fun r s' => ∃ v, r = some v ∧ Q v s') E s := by
    simp only [tryCompare]
    refine wpAny_bind (ifBound_B X I hne one_bind (wpAny_call (codeAny_call_builtin one_plain F.cmpEntry_ne (check_slot F.cmpKind_ne F.cmpSplit_ne isO (F.cmpArgs_ne _ _) ?_))))
    refine ne_body (A := A.in1) hu X I hs hf (wpAny_mono h (fun v s' hv => ?_) fun _ _ e => e)
    obtain ⟨r, rfl, hq⟩ := hv
    first | exact ⟨r, rfl, wpAny_pure ⟨_, rfl, hq⟩⟩ | exact ⟨r, rfl, wpAny_pure (wpAny_pure ⟨_, rfl, hq⟩)⟩ | exact ⟨r, rfl, ⟨_, rfl, hq⟩⟩
  unfold richCompare
  simp only [oneThing_ref]
  refine wpAny_holding (wpAny_bind (wpAny_cRoomFor (Nat.lt_of_succ_lt hu) ?_))
  rw [cmpInfo_NotEq]
  dsimp only
  refine wpAny_bind (I.type.here (wpAny_bind (hb.here ?_)))
  split
  · rename_i q
    have e : subIn K tb (.ref C) = some false := by
      rcases Bool.or_eq_true_iff.mp hn with e | e
      · rw [beq_iff_eq.mp e] at q; simp at q
      · exact beq_iff_eq.mp e
    refine wpAny_bind ((looks_subIn X e).here ?_)
    simp only [Bool.false_eq_true, if_false]
    refine wpAny_bind (wpAny_mono one (fun r s' z => ?_) fun _ _ e => e)
    obtain ⟨v, rfl, hq⟩ := z
    exact wpAny_pure hq
  · refine wpAny_bind (wpAny_pure ?_)
    simp only [Bool.false_eq_true, if_false]
    refine wpAny_bind (wpAny_mono one (fun r s' z => ?_) fun _ _ e => e)
    obtain ⟨v, rfl, hq⟩ := z
    exact wpAny_pure hq
end
section
variable {X : Cx} {pos : Pos}
theorem goes_in1 {k : Nat} {f : Addr} {fd : FuncData} {ps : List Str} {sp : Sp} {E : XK} {pins : List (Addr × Obj)} {σ : L2.St} {H : Hp} {s : Shared} {Q : VK} {us : List Value} {zs : List V} (F : FnG X.prog X.w X.K X.mg X.base CX0 k f fd ps sp) (hA : X.A.guards = some []) (hr : Room (k + 1) X.A)
    (hb : Binds X.K fd ps []) (I : Inv X pins σ H s) (r : Vals zs us) (h : sp zs H Q E) : wpAny (model X.prog X.w) X.A.in1 (call (.ref f) us []) (EP X pins σ Q) X.xe s := by
  have many : us.length = ps.length := r.length ▸ F.many zs H Q E h
  have e0 : Env0 X.prog X.w X.K X.mg X.base X.A.in1 X.stack s H := by
    have e := I.env0
    exact ⟨e.frames, e.mod, e.bs, e.bsz, e.funs, e.frf, e.hok, e.bare⟩
  refine wpAny_call (codeAny_mono (F.goes X.A.in1 X.stack s H ⟨us, []⟩ us zs Q E hA hr.in1 e0 (by
    have := hb s us I.kIn (by simpa using many)
    simpa using this) r h) ?_)
  intro res s' z
  match res, z with
  | .error er, z => exact z.elim
  | .ok (.ret u), z => exact I.after z
  | .ok .next, z => exact z.elim
  | .ok .brk, z => exact z.elim
  | .ok .cont, z => exact z.elim
structure NeO (K : PySem.W.Frag) (C : Addr) : Prop where
  ne : PySem.W.findIn K (.ref C) "__ne__" = some (some (.builtin "object.__ne__"))
  hm : PySem.W.mroIn K C (.type "object") = some true
def neB (K : PySem.W.Frag) (C : Addr) : Bool := He.eqO (PySem.W.findIn K (.ref C) "__ne__") (some (some (.builtin "object.__ne__"))) && decide (PySem.W.mroIn K C (.type "object") = some true)
theorem neB_ok {K : PySem.W.Frag} {C : Addr} (h : neB K C = true) : NeO K C := by
  unfold neB at h
  simp only [Bool.and_eq_true, decide_eq_true_eq] at h
  exact ⟨He.eqO_ok h.1, h.2⟩
theorem op_neO {C : Addr} {k : Nat} {ps : List Str} {sp : SpD} (n : NeO X.K C) (c : CalM X.prog X.w X.K X.mg X.base C "__eq__" k ps sp) (hA : X.A.guards = some []) (hr : Room (k + 1) X.A) :
    OpR X (compareOp .NotEq) (fun x y H Q => ∃ a b dx dy fs gs, x = .ref a ∧ y = .ref b ∧ H a = some (.ins C dx fs) ∧ H b = some (.ins C dy gs) ∧ SpOf X.K sp [.ref a, .ref b] H (fun v H' => ∃ r, v = .bl r ∧ Q (.bl (!r)) H') (fun _ _ _ => False)) := by
  obtain ⟨f, fd, M, Fn, hb⟩ := c.ex
  intro pins s σ H x y v u Q I rx ry hq
  obtain ⟨a, b, dx, dy, fs, gs, rfl, rfl, ha, hb', q⟩ := hq
  cases rx
  cases ry
  show wpAny (model X.prog X.w) X.A (richCompare .NotEq (.ref a) (.ref b)) (EP X pins σ Q) X.xe s
  obtain ⟨mA, J, _⟩ := ins_get I.hok ha
  obtain ⟨mB, J', _⟩ := ins_get I.hok hb'
  obtain ⟨od, J, _⟩ := J.look
  obtain ⟨od', J', _⟩ := J'.look
  obtain ⟨m, hF⟩ := I.fr
  have hu := hu_of hr
  refine ne_K (tb := .ref C) hu hF I.ok.mod.kin J J'.type (by simp [PySem.W.notFirst]) n.ne n.hm M.at_ M.fn ?_
  have r2 : Vals [V.ref a, V.ref b] [Value.ref a, Value.ref b] := .cons rfl (.cons rfl .nil)
  refine wpAny_mono (goes_in1 (us := [.ref a, .ref b]) Fn hA hr hb I r2 q) (fun w s' z => ?_) fun _ _ z => z
  obtain ⟨v', H', I', rv, r, rfl, q'⟩ := z
  cases rv
  exact ⟨r, rfl, .bl (!r), H', I', rfl, q'⟩
def rNeO (C : Addr) (sp : SpD) : DR2 := fun x y G Q => match x.cur G, y.cur G with
  | .obj C1 _, .obj C2 _ => C1 = C ∧ C2 = C ∧ sp [x, y] G fun d G' => match d with
    | .bl b => Q (.bl (!b)) G'
    | _ => False
  | _, _ => False
theorem od_neO {C : Addr} {k : Nat} {ps : List Str} {sp : SpD} (n : NeO X.K C) (c : CalM X.prog X.w X.K X.mg X.base C "__eq__" k ps sp) (hA : X.A.guards = some []) (hr : Room (k + 1) X.A) : OpD X (compareOp .NotEq) (rNeO C sp) := by
  refine ⟨_, op_neO n c hA hr, fun F H G x y dx dy g rx ry Q' h Q k => ?_⟩
  unfold rNeO at h
  split at h
  · rename_i C1 fs1 C2 fs2 e1 e2
    obtain ⟨rfl, rfl, h⟩ := h
    obtain ⟨a, d1, k1, rfl, ha, _⟩ := cur_obj g rx e1
    obtain ⟨b, d2, k2, rfl, hb, _⟩ := cur_obj g ry e2
    refine ⟨a, b, d1, d2, k1, k2, rfl, rfl, ha, hb, F, G, [dx, dy], _, g, .cons rx (.cons ry .nil), h, ?_⟩
    intro F' H' v d G' e1 g1 r1 h1
    split at h1
    · cases r1
      exact ⟨_, rfl, k F' H' _ _ G' e1 g1 (.bl _) h1⟩
    · exact h1.elim
  · exact h.elim
end
end DL
end
section
set_option Elab.async false
set_option linter.all false
set_option maxRecDepth 100000
set_option maxHeartbeats 4000000
/-! DLm: methods called by keywords; repr of any plain data, of {}. -/
namespace DL
open PySem PySem.Spec PyProof.Rows L2
structure CalMK (P : Program) (w : World) (K : PySem.W.Frag) (mg : Str → Option Value) (base : Heap) (C : Addr) (m : Str) (k : Nat) (ps : List Str) (sp : SpD) (ks : List Str) (js : List Nat) : Prop where
  ex : ∃ f fd, Meth K C m f ∧ FnG P w K mg base CX0 k f fd ps (SpOf K sp) ∧
    ∀ (s : Shared) (us ws : List Value), us.length = 1 → ws.length = ks.length → BindsTo s fd ⟨us, ks.zip ws⟩ (ps.zip (perm .none js us ws))
section
variable {X : Cx} {pos kpos : Pos}
def dMethK (C : Addr) (m : Str) (sp : SpD) (n : Nat) (js : List Nat) (ta : DTE) (tk : DTA) : DTE := fun S G Q => ta S G fun d G1 => match d.cur G1 with
  | .obj C' fs => C' = C ∧ fs.lookup m = none ∧ tk S G1 fun zs G2 => zs.length = n ∧ sp (perm .non js [d] zs) G2 Q
  | _ => False
theorem de_calMK {pl : Sem Bool} {o : Expr} {C : Addr} {m : Str} {k : Nat} {ps : List Str} {sp : SpD} {ks : List Str} {js : List Nat} {kws : List Keyword} {ta : DTE} {tk : DTA} {apos : Pos} (cl : Cls X.K C) (c : CalMK X.prog X.w X.K X.mg X.base C m k ps sp ks js) (hA : X.A.guards = some []) (hr : Room k X.A) (he : DE X o ta) (hw : DK X kws tk)
    (hall : (backToKw pos (keywordEach kws X.env)).all (·.1.isSome) = true := by rfl) (hks : (backToKw pos (keywordEach kws X.env)).filterMap (·.1) = ks := by rfl)
    (hpl : ((backTo pos (starEach [] X.env)).any (·.1) || (backToKw pos (keywordEach kws X.env)).any (·.1.isNone)) = false := by rfl)
    (ht : eval (.Call (.Attribute o m apos) [] kws pos) X.env = (do let ov ← eval o X.env; standAt apos.atName; let (f, first) ← holding [ov] (getMethod ov m pl); callWith pos f first (backTo pos (starEach [] X.env)) (backToKw pos (keywordEach kws X.env))) := by rfl) :
    DE X (.Call (.Attribute o m apos) [] kws pos) (dMethK C m sp ks.length js ta tk) := by
  obtain ⟨f, fd, hm, Fn, hb⟩ := c.ex
  obtain ⟨t1, p1, r1⟩ := he.ex
  obtain ⟨t2, p2, r2⟩ := hw.ex
  refine ⟨fun σ H Q => t1 σ H fun x H1 => ∃ a dx fs, x = .ref a ∧ H1 a = some (.ins C dx fs) ∧ fs.lookup m = none ∧ t2 σ H1 fun zs H2 => zs.length = ks.length ∧ SpOf X.K sp (perm .non js [.ref a] zs) H2 Q (fun _ _ _ => False), ?_, fun F H σ S G o Q' h Q kk => ?_⟩
  · constructor
    intro pins s σ H Q I h
    refine PySem.W.methodCall_KW (pl := pl) (thn (p1.run pins s σ H _ I h) ?_) ht
    rintro u s1 ⟨y, H1, I1, rx, a, dx, fs, rfl, ea, l, q⟩
    obtain rfl : u = Value.ref a := rx
    refine getmeth_ok I1 ea cl hm l ?_
    refine PySem.W.callWith_KW0 (first := [.ref a]) (h₀ := X.base) I.ok.mod.kin hm.kp hall (thn (p2.run pos pins s1 σ H1 _ I1 q) ?_) hpl
    rintro ws s2 ⟨zs, H2, I2, rz, l2, q2⟩
    refine ⟨I2.kIn, ?_⟩
    rw [hks]
    exact goes_fn (us := [.ref a]) Fn hA hr _ (fun s3 i l => hb s3 [.ref a] ws rfl (by rw [← rz.length]; exact l2)) pass0 I2 (vals_perm (vs := [.ref a]) (us := [.ref a]) (.cons rfl .nil) rz js) q2
  · refine r1 F H σ S G o _ h _ fun F1 H1 v d G1 e1 g1 q1 h1 => ?_
    dsimp only at h1
    split at h1
    · rename_i C' fs ex
      obtain ⟨rfl, hl, h1⟩ := h1
      obtain ⟨a, dx, kvs, rfl, ha', kr⟩ := cur_obj g1 q1 ex
      refine ⟨a, dx, kvs, rfl, ha', kr.look.2 hl, ?_⟩
      refine r2 F1 H1 σ S G1 (o.go e1 g1) _ h1 _ fun F2 H2 zs es G2 e2 g2 q2 h2 => ?_
      exact ⟨by rw [q2.length]; exact h2.1, F2, G2, _, Q', g2, reps_perm (.cons (q1.mono e2.ex) .nil) q2 js, h2.2, kk.mono (e1.trans e2)⟩
    · exact h1.elim
end
theorem calMK_mk {P : Program} {w : World} {K : PySem.W.Frag} {mg : Str → Option Value} {base : Heap} {m qual : Str} {C : Addr} {st : Stmt} {N ps : List Str} {k : Nat} {sp : SpD} {ks : List Str} {js : List Nat} (d : DefM K C m qual st) (sc : FnScope N ps (defScope st)) (len : ∀ ds G Q, sp ds G Q → ds.length = ps.length)
    (bi : ∀ (kV doc pm : Value) (an : Option Addr) (cdv ct : Value) (us : List Value), us.length = ps.length → bindArgs (PySem.W.fnOf m qual (defArgs st) (defBody st) (defScope st) .none kV doc pm an cdv ct) ⟨us, []⟩ = pure (ps.zip us))
    (bk : ∀ (kV doc pm : Value) (an : Option Addr) (cdv ct : Value) (us ws : List Value), us.length = 1 → ws.length = ks.length → bindArgs (PySem.W.fnOf m qual (defArgs st) (defBody st) (defScope st) .none kV doc pm an cdv ct) ⟨us, ks.zip ws⟩ = pure (ps.zip (perm .none js us ws)))
    (hb : ∀ (f : Addr) (cdv : Value) (A : Around) (outer : List Env) (s : Shared) (H : Hp) (E : XK), A.guards = some [] → Room k (A.deeper (envOfC qual (defScope st) s.heap.objs.size f cdv)) →
      ∃ t', DPs (cxOf CX0 P w K mg base N qual (defScope st) f cdv A outer s H E).nox (defBody st) t' ∧ ∀ ds G Q, sp ds G Q → t' (fin Q) (dstart N ds) G) : CalM P w K mg base C m (k + 1) ps sp ∧ CalMK P w K mg base C m (k + 1) ps sp ks js := by
  obtain ⟨f, fd, Fu, M⟩ := d.ex
  have fn := fn_mk (P := P) (w := w) (mg := mg) (base := base) Fu sc len (hb f)
  refine ⟨⟨f, fd, M, fn, Fu.binds bi⟩, f, fd, M, fn, fun s us ws h1 h2 => ?_⟩
  obtain ⟨oc, od, kV, doc, pm, an, cdv, ct, osl, rfl, lk, hcd⟩ := Fu.ex
  exact .of_eq (bk kV doc pm an cdv ct us ws h1 h2)
section
variable {X : Cx} {pos : Pos}
/-! ### repr of any plain data -/
def rReprA (ds : List D) (G : GH) (Q : DQ) : Prop := match ds with
  | [d] => (match d.cur G with
    | .dK [] => Q (.str "{}") G
    | d' => okR d' = true ∧ (D.shown d').length ≤ sizeLine ∧ Q (.str (D.shown d')) G)
  | _ => False
theorem cr_reprA (hu : X.A.units + 100 < cLine) (hA : X.A.guards = some []) : CallR X (.builtin "repr") (fun vs H Q => ∃ v d, vs = [v] ∧ Dp X.K H v d ∧ d.plain = true ∧ d.showable = true ∧ d.depth ≤ 60 ∧ d.shown.length ≤ sizeLine ∧ Q (.str d.shown) H) := by
  intro pins s σ H vs us Q I r h
  obtain ⟨v, d, rfl, hd, hp, hs, hde, hz, q⟩ := h
  cases r with
  | cons r rr =>
    cases rr
    obtain ⟨as, rd⟩ := Dp.reads I d _ _ hd r
    have gen : ∀ {a : Addr}, Reads s.heap (.ref a) d as → wpAny (model X.prog X.w) X.A (call (.builtin "repr") [.ref a]) (EP X pins σ Q) X.xe s := fun rd => by
      refine repr_of_reads' (h₀ := s.heap) rd hs (fun z => by rw [plain_noDict d hp] at z; cases z) hA (by omega) (fun _ _ z => z) (fun h' u tk hk => ?_) hz
      exact ⟨.str _, H, I.kept (t' := tk) hk, ⟨_, rfl⟩, q⟩
    cases rd with
    | none => exact P.repr_of_none ⟨.str _, H, I.tok _, ⟨_, rfl⟩, q⟩
    | bool b => exact P.repr_of_bool ⟨.str _, H, I.tok _, ⟨_, rfl⟩, by cases b <;> exact q⟩
    | int i t => exact P.repr_of_int (of_decide_eq_true hs) ⟨.str _, H, I.tok _, ⟨_, rfl⟩, q⟩
    | str x t => exact P.repr_of_str ⟨.str _, H, I.tok _, ⟨_, rfl⟩, q⟩ hz
    | list h1 h2 h3 h4 => exact gen (.list h1 h2 h3 h4)
    | tuple h1 h2 h3 h4 => exact gen (.tuple h1 h2 h3 h4)
    | dict h1 h2 h3 h4 h5 => cases hp
theorem cr_repr0 (hu : X.A.units + 100 < cLine) (hA : X.A.guards = some []) : CallR X (.builtin "repr") (fun vs H Q => ∃ a, vs = [.ref a] ∧ H a = some (.dK []) ∧ Q (.str "{}") H) := by
  intro pins s σ H vs us Q I r h
  obtain ⟨a, rfl, ha, q⟩ := h
  rw [Vals.ref1 r]
  obtain ⟨hz, hs0, vs, kv, hdo⟩ := I.hok a _ ha
  cases kv
  have rd : Reads s.heap (.ref a) (.dict []) [a] := PyProof.V.reads_dictOf (enc := fun k : Key => match k with | .inl i => PyData.int i | .inr x => PyData.str x) (bs := []) (D := []) (fun k key h => by
    have r := relV_key (show keyIs k key = true from h)
    cases k with
    | inl i => obtain ⟨t, rfl⟩ := r; exact .int i t
    | inr x => obtain ⟨t, rfl⟩ := r; exact .str x t) hdo .nil
  refine repr_of_reads' (h₀ := s.heap) rd rfl (fun _ z => ?_) hA (by show _ + (1 + 1) < _; omega) (fun _ _ z => z) (fun h' u tk hk => ?_) (by decide)
  · rw [List.mem_singleton] at z
    rw [z] at hs0
    simp at hs0
  · exact ⟨.str _, H, I.kept (t' := tk) hk, ⟨_, rfl⟩, q⟩
theorem cd_reprA (hu : X.A.units + 100 < cLine) (hA : X.A.guards = some []) : CallD X (.builtin "repr") rReprA := by
  refine ⟨_, (cr_repr0 hu hA).or (cr_reprA hu hA), fun F H G vs ds g rs Q' h Q k => ?_⟩
  unfold rReprA at h
  split at h
  · rename_i d
    cases rs with
    | cons r b =>
      cases b
      split at h
      · rename_i e
        obtain ⟨a, kvs, rfl, ha, kr⟩ := cur_dK g r e
        have : kvs = [] := by have := kr.ks; simpa using this
        subst this
        exact .inl ⟨a, rfl, ha, k F H _ _ G Go.refl g (.str _) h⟩
      · obtain ⟨h1, h2, h3⟩ := h
        obtain ⟨p1, p2, p3⟩ := okR_of h1
        exact .inr ⟨_, _, rfl, cur_dp g r p1, D.py_plain _ p1, p2, p3, h2, k F H _ _ G Go.refl g (.str _) h3⟩
  · exact h.elim
end
end DL
end
section
set_option Elab.async false
set_option linter.all false
set_option maxRecDepth 100000
set_option maxHeartbeats 4000000
/-! DLzn: for x in zip(text, text), the pairs kept by a name. -/
namespace DL
open PySem PySem.Spec PyProof.Rows L2
abbrev ZF (h : Heap) (z TI TO : Addr) (x : Value) (f : Bool) : Prop := h.get? z = some { cls := .type "zip", dict := none, data := .fields #[x, .bool f, .bool false, .ref TI, .ref TO], slots := #[] }
def ZOut (x : Value) : Prop := x = .none ∨ ∃ T : Addr, x = rawInt T
section
open PySem.W
variable {prog : Program} {w : World} {A : Around} {E : Value → Shared → Prop} {s : Shared} {z TI TO i1 i2 : Addr} {fp1 fp2 : List Addr} {n1 n2 i : Nat} {P1 P2 : Nat → Value → Prop} {St1 St2 : Nat → Heap → Prop} {a1 a2 x : Value} {f : Bool}
theorem alive_any {a : Addr} {Q : Option Obj → Shared → Prop} (h : Q (s.heap.get? a) s) : wpAny (model prog w) A (loadIfAlive a) Q E s := fun _ _ _ => h
theorem tupleFree {Q : Bool → Shared → Prop} (hz : ZF s.heap z TI TO x f) (hx : ZOut x) (ht : Q true s) (hf : ∀ h', ZF h' z TI TO x true → Heap.SameBut z s.heap h' → Q false { s with heap := h' }) :
    wpAny (model prog w) A (Builtin.SmallTypes.ownedTupleIsFree (.ref z)) Q E s := by
  unfold Builtin.SmallTypes.ownedTupleIsFree
  refine wpAny_bind (wpAny_field hz rfl (x := x) rfl ?_)
  rcases hx with rfl | ⟨T, rfl⟩
  · exact wpAny_pure ht
  · show wpAny _ _ (loadIfAlive ((T : Int).toNat) >>= _) _ _ _
    rw [Int.toNat_natCast]
    refine wpAny_bind (alive_any ?_)
    cases s.heap.get? T with
    | none =>
      simp only [Option.isNone_none, if_true]
      exact wpAny_pure ht
    | some o =>
      simp only [Option.isNone_some, Bool.false_eq_true, if_false]
      refine wpAny_bind (wpAny_field hz rfl (x := .bool f) rfl ?_)
      cases f with
      | true =>
        rw [if_neg (show ¬ ((Value.bool true != Value.bool true) = true) from Bool.false_ne_true)]
        exact wpAny_pure (hf s.heap hz (Heap.SameBut.refl _ _))
      | false =>
        rw [if_pos (show (Value.bool false != Value.bool true) = true from rfl)]
        exact wpAny_bind (wpAny_setField_rec hz (by simp) fun h₁ hz₁ hs₁ => wpAny_pure (hf h₁ hz₁ hs₁))
theorem zipN_item {Q : Value → Shared → Prop} (S : ZipSep2 z TI TO i1 i2 fp1 fp2) (D1 : Draws prog w A i1 fp1 n1 P1 St1) (D2 : Draws prog w A i2 fp2 n2 P2 St2)
    (hz : ZF s.heap z TI TO x f) (hx : ZOut x) (hTI : IsTupOf2 s.heap TI (.ref i1) (.ref i2)) (hTO : IsTupOf2 s.heap TO a1 a2) (st1 : St1 i s.heap) (st2 : St2 i s.heap) (hlt1 : i < n1) (hlt2 : i < n2)
    (hQ : ∀ x1 x2 h' tk x' f' b1 b2, P1 i x1 → P2 i x2 → ZF h' z TI TO x' f' → ZOut x' → IsTupOf2 h' TO b1 b2 → St1 (i + 1) h' → St2 (i + 1) h' → IsTupOf2 h' s.heap.objs.size x1 x2 →
      (∀ c o, c ≠ z → c ≠ TO → c ≠ i1 → c ≠ i2 → s.heap.get? c = some o → h'.get? c = some o) → Q (.ref s.heap.objs.size) { s with heap := h', toks := tk }) :
    wpAny (model prog w) A (Builtin.«zip.__next__» ⟨[.ref z], []⟩) (fun fin s' => ∃ v, fin = .done (.ret v) ∧ Q v s') E s := by
  obtain ⟨hp, g, d, tk0, os⟩ := s
  show wpAny _ _ (field (.ref z) 2 >>= _) _ _ _
  refine wpAny_bind (wpAny_field hz rfl (x := .bool false) rfl ?_)
  show wpAny _ _ (field (.ref z) 3 >>= _) _ _ _
  refine wpAny_bind (wpAny_field hz rfl (x := .ref TI) rfl ?_)
  refine wpAny_bind (wpAny_seqItems hTI rfl ?_)
  show wpAny _ _ (Builtin.SmallTypes.ownedTupleIsFree (.ref z) >>= _) _ _ _
  refine wpAny_bind (tupleFree hz hx ?_ fun h₁ hz₁ hs₁ => ?_)
  · simp only [if_true]
    refine wpAny_bind (wpAny_rule ?_)
    refine wpAny_bind (wpAny_field hz rfl (x := .ref TO) rfl ?_)
    refine wpAny_bind (wpAny_setField_rec hz (by simp) fun g0 hz0 hs0 => ?_)
    replace hz0 : ZF g0 z TI TO .ellipsis f := hz0
    replace hs0 : Heap.SameBut z hp g0 := hs0
    refine wpAny_bind ?_
    simp only [List.zipIdx_cons, List.zipIdx_nil, List.forIn_cons, List.forIn_nil]
    refine wpAny_bind (wpAny_bind (wpAny_onRaise ?_))
    show wpAny _ _ (Builtin.SmallTypes.nextOf (.ref i1) >>= _) _ _ ⟨g0, g, d, tk0, os⟩
    refine wpAny_bind (D1.item i _ _ _ hlt1 (D1.over st1 hs0 S.zf1) fun x1 p1 tk1 hx1 sn1 hp1 => wpAny_pure ?_)
    replace hp1 : Heap.SameBut i1 g0 p1 := hp1
    have hU1 : IsTupOf2 p1 TO a1 a2 := hp1.extBut _ _ S.Ti1 (hs0.extBut _ _ S.TOz hTO)
    refine wpAny_bind (wpAny_seqItems (s := ⟨p1, g, d, tk1, os⟩) hU1 rfl ?_)
    refine wpAny_bind (updateSeq_IsTupOf2 (s := ⟨p1, g, d, tk1, os⟩) hU1 fun g1 hT1 hs1 => ?_)
    replace hT1 : IsTupOf2 g1 TO x1 a2 := hT1
    replace hs1 : Heap.SameBut TO p1 g1 := hs1
    refine wpAny_bind (wpAny_letGo (wpAny_pure ?_))
    refine wpAny_bind (wpAny_bind (wpAny_onRaise ?_))
    show wpAny _ _ (Builtin.SmallTypes.nextOf (.ref i2) >>= _) _ _ ⟨g1, g, d, tk1, os⟩
    refine wpAny_bind (D2.item i _ _ _ hlt2 (D2.over (D2.over (D2.over st2 hs0 S.zf2) hp1 S.sep1_2) hs1 S.Tf2) fun x2 p2 tk2 hx2 sn2 hp2 => wpAny_pure ?_)
    replace hp2 : Heap.SameBut i2 g1 p2 := hp2
    have hU2 : IsTupOf2 p2 TO x1 a2 := hp2.extBut _ _ S.Ti2 hT1
    refine wpAny_bind (wpAny_seqItems (s := ⟨p2, g, d, tk2, os⟩) hU2 rfl ?_)
    refine wpAny_bind (updateSeq_IsTupOf2 (s := ⟨p2, g, d, tk2, os⟩) hU2 fun g2 hT2 hs2 => ?_)
    replace hT2 : IsTupOf2 g2 TO x1 x2 := hT2
    replace hs2 : Heap.SameBut TO p2 g2 := hs2
    refine wpAny_bind (wpAny_letGo (wpAny_pure (wpAny_pure ?_)))
    refine wpAny_bind (wpAny_seqItems (s := ⟨g2, g, d, tk2, os⟩) hT2 rfl ?_)
    refine wpAny_bind (wpAny_newTuple ?_)
    have hsz : g2.objs.size = hp.objs.size := by rw [hs2.1, hp2.1, hs1.1, hp1.1, hs0.1]
    have hzz : ZF g2 z TI TO .ellipsis f := (hs2.extBut _ _ S.TOz.symm (hp2.extBut _ _ S.zi2 (hs1.extBut _ _ S.TOz.symm (hp1.extBut _ _ S.zi1 hz0))))
    have hkk : ∀ c o, c ≠ z → c ≠ TO → c ≠ i1 → c ≠ i2 → hp.get? c = some o → g2.get? c = some o := fun c o cz cT c1 c2 e =>
      (hs2.extBut _ _ cT (hp2.extBut _ _ c2 (hs1.extBut _ _ cT (hp1.extBut _ _ c1 (hs0.extBut _ _ cz e)))))
    have hj1 : St1 (i + 1) g2 := (D1.over (D1.over (D1.over sn1 hs1 S.Tf1) hp2 S.sep2_1) hs2 S.Tf1)
    have hj2 : St2 (i + 1) g2 := (D2.over sn2 hs2 S.Tf2)
    have hzlt : z < g2.objs.size := Heap.lt_size hzz
    show wpAny _ _ (Builtin.SmallTypes.ownedTupleHandOut (.ref z) (.ref g2.objs.size) >>= _) _ _ ⟨g2.push { cls := .type "tuple", data := .seq #[x1, x2] }, g, d, tk2, os⟩
    refine wpAny_bind ?_
    unfold Builtin.SmallTypes.ownedTupleHandOut
    have hz₆ : ZF (g2.push { cls := .type "tuple", data := .seq #[x1, x2] }) z TI TO .ellipsis f := Heap.get?_push_of_some _ hzz
    refine wpAny_bind (wpAny_setField_rec hz₆ (by simp) fun h₇ hz₇ hs₇ => ?_)
    replace hz₇ : ZF h₇ z TI TO (rawInt g2.objs.size) f := hz₇
    refine wpAny_setField_rec hz₇ (by simp) fun h₈ hz₈ hs₈ => ?_
    replace hz₈ : ZF h₈ z TI TO (rawInt g2.objs.size) false := hz₈
    replace hs₇ : Heap.SameBut z (g2.push { cls := .type "tuple", data := .seq #[x1, x2] }) h₇ := hs₇
    replace hs₈ : Heap.SameBut z h₇ h₈ := hs₈
    have up : ∀ c o, c ≠ z → g2.get? c = some o → h₈.get? c = some o := fun c o c1 e => hs₈.extBut _ _ c1 (hs₇.extBut _ _ c1 (Heap.get?_push_of_some _ e))
    have hT₈ : IsTupOf2 h₈ g2.objs.size x1 x2 := hs₈.extBut _ _ (Nat.ne_of_gt hzlt) (hs₇.extBut _ _ (Nat.ne_of_gt hzlt) (Heap.get?_push_size _ rfl))
    rw [hsz] at hz₈ hT₈
    refine wpAny_pure ⟨_, rfl, ?_⟩
    show Q (.ref g2.objs.size) ⟨h₈, g, d, tk2, os⟩
    rw [hsz]
    exact hQ x1 x2 h₈ tk2 _ _ _ _ hx1 hx2 hz₈ (.inr ⟨_, rfl⟩) (up _ _ S.TOz hT2) (D1.frame _ _ _ hj1 fun b hb o e => up b o (fun q => S.zf1 (q ▸ hb)) e) (D2.frame _ _ _ hj2 fun b hb o e => up b o (fun q => S.zf2 (q ▸ hb)) e) hT₈ fun c o cz cT c1 c2 e => up c o cz (hkk c o cz cT c1 c2 e)
  · simp only [Bool.false_eq_true, if_false]
    replace hs₁ : Heap.SameBut z hp h₁ := hs₁
    refine wpAny_bind ?_
    rw [← Array.forIn_toList]
    simp only [List.forIn_cons, List.forIn_nil]
    refine wpAny_bind (wpAny_bind (wpAny_holding ?_))
    show wpAny _ _ (Builtin.SmallTypes.nextOf (.ref i1) >>= _) _ _ ⟨h₁, g, d, tk0, os⟩
    refine wpAny_bind (D1.item i _ _ _ hlt1 (D1.over st1 hs₁ S.zf1) fun x1 p1 tk1 hx1 sn1 hp1 => wpAny_pure ?_)
    replace hp1 : Heap.SameBut i1 h₁ p1 := hp1
    refine wpAny_pure ?_
    refine wpAny_bind (wpAny_bind (wpAny_holding ?_))
    show wpAny _ _ (Builtin.SmallTypes.nextOf (.ref i2) >>= _) _ _ ⟨p1, g, d, tk1, os⟩
    refine wpAny_bind (D2.item i _ _ _ hlt2 (D2.over (D2.over st2 hs₁ S.zf2) hp1 S.sep1_2) fun x2 p2 tk2 hx2 sn2 hp2 => wpAny_pure ?_)
    replace hp2 : Heap.SameBut i2 p1 p2 := hp2
    refine wpAny_pure (wpAny_pure ?_)
    show wpAny _ _ (newTuple [x1, x2] >>= _) _ _ _
    refine wpAny_bind (wpAny_newTuple ?_)
    have hsz : p2.objs.size = hp.objs.size := by rw [hp2.1, hp1.1, hs₁.1]
    have hz₃ : ZF p2 z TI TO x true := hp2.extBut _ _ S.zi2 (hp1.extBut _ _ S.zi1 hz₁)
    have hk : ∀ c o, c ≠ z → c ≠ i1 → c ≠ i2 → hp.get? c = some o → p2.get? c = some o := fun c o c1 c2 c3 e => hp2.extBut _ _ c3 (hp1.extBut _ _ c2 (hs₁.extBut _ _ c1 e))
    have hj1 : St1 (i + 1) p2 := D1.over sn1 hp2 S.sep2_1
    refine wpAny_pure ⟨_, rfl, ?_⟩
    show Q (.ref p2.objs.size) _
    have hpr : IsTupOf2 (p2.push { cls := .type "tuple", data := .seq #[x1, x2] }) p2.objs.size x1 x2 := Heap.get?_push_size _ rfl
    rw [hsz] at hpr ⊢
    exact hQ x1 x2 _ tk2 _ _ _ _ hx1 hx2 (Heap.get?_push_of_some _ hz₃) hx (Heap.get?_push_of_some _ (hk _ _ S.TOz S.Ti1 S.Ti2 hTO)) (D1.frame _ _ _ hj1 fun b hb o e => Heap.get?_push_of_some _ e) (D2.frame _ _ _ sn2 fun b hb o e => Heap.get?_push_of_some _ e) hpr fun c o cz cT c1 c2 e => Heap.get?_push_of_some _ (hk c o cz c1 c2 e)
theorem zipN_end {Q : Fin → Shared → Prop} (S : ZipSep2 z TI TO i1 i2 fp1 fp2) (D1 : Draws prog w A i1 fp1 n1 P1 St1) (D2 : Draws prog w A i2 fp2 n2 P2 St2)
    (hz : ZF s.heap z TI TO x f) (hx : ZOut x) (hTI : IsTupOf2 s.heap TI (.ref i1) (.ref i2)) (hTO : IsTupOf2 s.heap TO a1 a2) (st1 : St1 i s.heap) (st2 : St2 i s.heap) (hle1 : i ≤ n1) (hle2 : i ≤ n2) (hend : i = n1 ∨ i = n2)
    (hE : ∀ h' tk e, (∀ c o, c ≠ z → c ≠ TO → c ≠ i1 → c ≠ i2 → s.heap.get? c = some o → h'.get? c = some o) → (∃ o, h'.get? e = some o ∧ o.cls = .type "StopIteration") → E (.ref e) { s with heap := h', toks := tk }) :
    wpAny (model prog w) A (Builtin.«zip.__next__» ⟨[.ref z], []⟩) Q E s := by
  obtain ⟨hp, g, d, tk0, os⟩ := s
  show wpAny _ _ (field (.ref z) 2 >>= _) _ _ _
  refine wpAny_bind (wpAny_field hz rfl (x := .bool false) rfl ?_)
  show wpAny _ _ (field (.ref z) 3 >>= _) _ _ _
  refine wpAny_bind (wpAny_field hz rfl (x := .ref TI) rfl ?_)
  refine wpAny_bind (wpAny_seqItems hTI rfl ?_)
  show wpAny _ _ (Builtin.SmallTypes.ownedTupleIsFree (.ref z) >>= _) _ _ _
  refine wpAny_bind (tupleFree hz hx ?_ fun h₁ hz₁ hs₁ => ?_)
  · simp only [if_true]
    refine wpAny_bind (wpAny_rule ?_)
    refine wpAny_bind (wpAny_field hz rfl (x := .ref TO) rfl ?_)
    refine wpAny_bind (wpAny_setField_rec hz (by simp) fun g0 hz0 hs0 => ?_)
    replace hz0 : ZF g0 z TI TO .ellipsis f := hz0
    replace hs0 : Heap.SameBut z hp g0 := hs0
    refine wpAny_bind ?_
    simp only [List.zipIdx_cons, List.zipIdx_nil, List.forIn_cons, List.forIn_nil]
    refine wpAny_bind (wpAny_bind (wpAny_onRaise ?_))
    show wpAny _ _ (Builtin.SmallTypes.nextOf (.ref i1) >>= _) _ _ ⟨g0, g, d, tk0, os⟩
    by_cases hlt1 : i < n1
    · refine wpAny_bind (D1.item i _ _ _ hlt1 (D1.over st1 hs0 S.zf1) fun x1 p1 tk1 hx1 sn1 hp1 => wpAny_pure ?_)
      replace hp1 : Heap.SameBut i1 g0 p1 := hp1
      have hU1 : IsTupOf2 p1 TO a1 a2 := hp1.extBut _ _ S.Ti1 (hs0.extBut _ _ S.TOz hTO)
      refine wpAny_bind (wpAny_seqItems (s := ⟨p1, g, d, tk1, os⟩) hU1 rfl ?_)
      refine wpAny_bind (updateSeq_IsTupOf2 (s := ⟨p1, g, d, tk1, os⟩) hU1 fun g1 hT1 hs1 => ?_)
      replace hT1 : IsTupOf2 g1 TO x1 a2 := hT1
      replace hs1 : Heap.SameBut TO p1 g1 := hs1
      refine wpAny_bind (wpAny_letGo (wpAny_pure ?_))
      have hi2 : i = n2 := by omega
      refine wpAny_bind (wpAny_bind (wpAny_onRaise ?_))
      show wpAny _ _ (Builtin.SmallTypes.nextOf (.ref i2) >>= _) _ _ ⟨g1, g, d, tk1, os⟩
      refine wpAny_bind (D2.done ⟨g1, g, d, tk1, os⟩ _ _ (by rw [← hi2]; exact (D2.over (D2.over (D2.over st2 hs0 S.zf2) hp1 S.sep1_2) hs1 S.Tf2)) fun q e hq he => ?_)
      replace hq : Heap.ExtBut i2 g1 q := hq
      obtain ⟨oe, hoe, hce⟩ := he
      replace hoe : q.get? e = some oe := hoe
      have hzq : ZF q z TI TO .ellipsis f := hq _ _ S.zi2 (hs1.extBut _ _ S.TOz.symm (hp1.extBut _ _ S.zi1 hz0))
      have hez : e ≠ z := fun x => by subst x; rw [hzq] at hoe; cases hoe; simp at hce
      refine wpAny_setField_rec (s := ⟨q, g, d, tk1, os⟩) hzq (by simp) fun q' _ hq' => ?_
      replace hq' : Heap.SameBut z q q' := hq'
      exact hE q' tk1 e (fun c o cz cT c1 c2 x => hq'.extBut _ _ cz (hq _ _ c2 (hs1.extBut _ _ cT (hp1.extBut _ _ c1 (hs0.extBut _ _ cz x))))) ⟨oe, hq'.extBut _ _ hez hoe, hce⟩
    · have hi1 : i = n1 := by omega
      refine wpAny_bind (D1.done ⟨g0, g, d, tk0, os⟩ _ _ (by rw [← hi1]; exact (D1.over st1 hs0 S.zf1)) fun q e hq he => ?_)
      replace hq : Heap.ExtBut i1 g0 q := hq
      obtain ⟨oe, hoe, hce⟩ := he
      replace hoe : q.get? e = some oe := hoe
      have hzq : ZF q z TI TO .ellipsis f := hq _ _ S.zi1 hz0
      have hez : e ≠ z := fun x => by subst x; rw [hzq] at hoe; cases hoe; simp at hce
      refine wpAny_setField_rec (s := ⟨q, g, d, tk0, os⟩) hzq (by simp) fun q' _ hq' => ?_
      replace hq' : Heap.SameBut z q q' := hq'
      exact hE q' tk0 e (fun c o cz cT c1 c2 x => hq'.extBut _ _ cz (hq _ _ c1 (hs0.extBut _ _ cz x))) ⟨oe, hq'.extBut _ _ hez hoe, hce⟩
  · simp only [Bool.false_eq_true, if_false]
    replace hs₁ : Heap.SameBut z hp h₁ := hs₁
    refine wpAny_bind ?_
    rw [← Array.forIn_toList]
    simp only [List.forIn_cons, List.forIn_nil]
    refine wpAny_bind (wpAny_bind (wpAny_holding ?_))
    show wpAny _ _ (Builtin.SmallTypes.nextOf (.ref i1) >>= _) _ _ ⟨h₁, g, d, tk0, os⟩
    by_cases hlt1 : i < n1
    · have hi2 : i = n2 := by omega
      refine wpAny_bind (D1.item i _ _ _ hlt1 (D1.over st1 hs₁ S.zf1) fun x1 p1 tk1 hx1 sn1 hp1 => wpAny_pure ?_)
      replace hp1 : Heap.SameBut i1 h₁ p1 := hp1
      refine wpAny_pure ?_
      refine wpAny_bind (wpAny_bind (wpAny_holding ?_))
      show wpAny _ _ (Builtin.SmallTypes.nextOf (.ref i2) >>= _) _ _ ⟨p1, g, d, tk1, os⟩
      refine wpAny_bind (D2.done ⟨p1, g, d, tk1, os⟩ _ _ (by rw [← hi2]; exact (D2.over (D2.over st2 hs₁ S.zf2) hp1 S.sep1_2)) fun q e hq he => ?_)
      replace hq : Heap.ExtBut i2 p1 q := hq
      exact hE q tk1 e (fun c o cz cT c1 c2 x => hq _ _ c2 (hp1.extBut _ _ c1 (hs₁.extBut _ _ cz x))) he
    · have hi1 : i = n1 := by omega
      refine wpAny_bind (D1.done ⟨h₁, g, d, tk0, os⟩ _ _ (by rw [← hi1]; exact (D1.over st1 hs₁ S.zf1)) fun q e hq he => ?_)
      replace hq : Heap.ExtBut i1 h₁ q := hq
      exact hE q tk0 e (fun c o cz cT c1 c2 x => hq _ _ c1 (hs₁.extBut _ _ cz x)) he
theorem pyNext_zipN_item {Q : Option Value → Shared → Prop} (S : ZipSep2 z TI TO i1 i2 fp1 fp2) (D1 : Draws prog w A.in1 i1 fp1 n1 P1 St1) (D2 : Draws prog w A.in1 i2 fp2 n2 P2 St2)
    (hz : ZF s.heap z TI TO x f) (hx : ZOut x) (hTI : IsTupOf2 s.heap TI (.ref i1) (.ref i2)) (hTO : IsTupOf2 s.heap TO a1 a2) (st1 : St1 i s.heap) (st2 : St2 i s.heap) (hlt1 : i < n1) (hlt2 : i < n2)
    (hQ : ∀ x1 x2 h' tk x' f' b1 b2, P1 i x1 → P2 i x2 → ZF h' z TI TO x' f' → ZOut x' → IsTupOf2 h' TO b1 b2 → St1 (i + 1) h' → St2 (i + 1) h' → IsTupOf2 h' s.heap.objs.size x1 x2 →
      (∀ c o, c ≠ z → c ≠ TO → c ≠ i1 → c ≠ i2 → s.heap.get? c = some o → h'.get? c = some o) → Q (some (.ref s.heap.objs.size)) { s with heap := h', toks := tk }) :
    wpAny (model prog w) A (pyNext (.ref z)) Q E s := by
  have hT : s.TypeIs (.ref z) "zip" := ⟨_, hz, rfl⟩
  unfold pyNext
  exact wpAny_bind (wpAny_attempt (wpAny_callSpecial?_slot (name := Str.ofString "__next__") hT F.slot_zip_next
    (wpAny_call_entry F.slot_zip_next hT F.entry_zip_next
      (zipN_item S D1 D2 hz hx hTI hTO st1 st2 hlt1 hlt2 fun x1 x2 h' tk x' f' b1 b2 y1 y2 c1 c2 d1 d2 b5 b6 b7 => wpAny_pure (hQ x1 x2 h' tk x' f' b1 b2 y1 y2 c1 c2 d1 d2 b5 b6 b7)) (F.args_zip_next_1 _))))
theorem pyNext_zipN_end {Q : Option Value → Shared → Prop} (S : ZipSep2 z TI TO i1 i2 fp1 fp2) (D1 : Draws prog w A.in1 i1 fp1 n1 P1 St1) (D2 : Draws prog w A.in1 i2 fp2 n2 P2 St2)
    (hz : ZF s.heap z TI TO x f) (hx : ZOut x) (hTI : IsTupOf2 s.heap TI (.ref i1) (.ref i2)) (hTO : IsTupOf2 s.heap TO a1 a2) (st1 : St1 i s.heap) (st2 : St2 i s.heap) (hle1 : i ≤ n1) (hle2 : i ≤ n2) (hend : i = n1 ∨ i = n2)
    (hQ : ∀ h' tk, (∀ c o, c ≠ z → c ≠ TO → c ≠ i1 → c ≠ i2 → s.heap.get? c = some o → h'.get? c = some o) → Q none { s with heap := h', toks := tk }) : wpAny (model prog w) A (pyNext (.ref z)) Q E s := by
  have hT : s.TypeIs (.ref z) "zip" := ⟨_, hz, rfl⟩
  unfold pyNext
  refine wpAny_bind (wpAny_attempt (wpAny_callSpecial?_slot (name := Str.ofString "__next__") hT F.slot_zip_next
    (wpAny_call_entry F.slot_zip_next hT F.entry_zip_next (zipN_end S D1 D2 hz hx hTI hTO st1 st2 hle1 hle2 hend fun h' tk e hk he => ?_) (F.args_zip_next_1 _))))
  obtain ⟨o, ho, hc⟩ := he
  refine wpAny_bind (wpAny_isInstance (T := "StopIteration") (b := true) ⟨o, ho, hc⟩ isSubtype_stop ?_)
  exact wpAny_pure (hQ _ _ hk)
theorem pyIter_zipN {Q : Value → Shared → Prop} (hz : ZF s.heap z TI TO x f) (h : Q (.ref z) s) : wpAny (model prog w) A (pyIter (.ref z)) Q E s := by
  have hT : s.TypeIs (.ref z) "zip" := ⟨_, hz, rfl⟩
  refine wpAny_pyIter_slot hT F.slot_zip_iter (wpAny_call_entry F.slot_zip_iter hT F.entry_zip_iter ?_ (F.args_zip_iter_1 _))
  show wpAny _ _ (ret (.ref z)) _ _ s
  exact wpAny_pure ⟨_, rfl, "zip", _, hT, F.slot_zip_next.lookup, h⟩
end
theorem turn_zipN {P : Program} {w : World} {K : PySem.W.Frag} {nm : Str} {tpos : Pos} {x y : Str} {t1 t2 : Tok} {z TI TO i1 i2 : Addr} (Sp : ZipSep2 z TI TO i1 i2 [i1] [i2]) :
    Turn P w K (.Name nm tpos) (ItZ x y) [z, TI, TO, i1, i2] z (fun i h => (∃ x f, ZF h z TI TO x f ∧ ZOut x) ∧ IsTupOf2 h TI (.ref i1) (.ref i2) ∧ (∃ a b, IsTupOf2 h TO a b) ∧ h.IsStrIter i1 (strIterType x) x t1 i ∧ h.IsStrIter i2 (strIterType y) y t2 i) where
  mem := by simp
  obj := by
    rintro i h ⟨⟨_, _, hz, _⟩, hTI, ⟨a, b, hTO⟩, ⟨o1, z1, _, d1⟩, ⟨o2, z2, _, d2⟩⟩ c hc
    have q : c = z ∨ c = TI ∨ c = TO ∨ c = i1 ∨ c = i2 := by simpa using hc
    rcases q with q | q | q | q | q <;> subst q
    · exact ⟨_, hz, fun v y => nomatch y⟩
    · exact ⟨_, hTI, fun v y => nomatch y⟩
    · exact ⟨_, hTO, fun v y => nomatch y⟩
    · exact ⟨o1, z1, fun v y => by rw [d1] at y; cases y⟩
    · exact ⟨o2, z2, fun v y => by rw [d2] at y; cases y⟩
  keep := by
    rintro i h h' ⟨⟨x0, f0, hz, hx0⟩, hTI, ⟨a, b, hTO⟩, ⟨o1, z1, r1⟩, ⟨o2, z2, r2⟩⟩ k
    exact ⟨⟨x0, f0, k z (by simp) _ hz, hx0⟩, k TI (by simp) _ hTI, ⟨a, b, k TO (by simp) _ hTO⟩, ⟨o1, k i1 (by simp) _ z1, r1⟩, ⟨o2, k i2 (by simp) _ z2, r2⟩⟩
  item := by
    intro X hP hw hK hc i pins s σ H E I hf st hg
    subst hP hw hK
    obtain ⟨⟨x0, f0, hz, hx0⟩, hTI, ⟨a0, b0, hTO⟩, s1, s2⟩ := st
    have hg' : i < min x.cps.size y.cps.size := hg
    have g1 : i < x.cps.size := by omega
    have g2 : i < y.cps.size := by omega
    have hh := I.ok.hd hc
    have zl : z < s.heap.objs.size := Heap.lt_size hz
    refine pyNext_zipN_item Sp (Draws.text (A := X.A.in1) hh i1 x t1) (Draws.text (A := X.A.in1) hh i2 y t2) hz hx0 hTI hTO s1 s2 g1 g2 ?_
    rintro u1 u2 h'' tk x' f' b1 b2 ⟨c1, k1, e1, rfl⟩ ⟨c2, k2, e2, rfl⟩ hz' hx' hTO' s1' s2' hT hk
    refine ⟨_, rfl, ?_⟩
    show wpAny _ _ (pure ()) _ _ _
    refine wpAny_pure ?_
    have nw : ObjOk X.prog X.w (upd H s.heap.objs.size (.tup [.str (sgn c1), .str (sgn c2)])) h'' s.heap.objs.size (.tup [.str (sgn c1), .str (sgn c2)]) :=
      ⟨(by decide : 2 ≤ sizeLine), [.str (sgn c1) k1, .str (sgn c2) k2], .cons ⟨_, rfl⟩ (.cons ⟨_, rfl⟩ .nil), ⟨_, hT, rfl, _, rfl⟩⟩
    have J : Inv X pins σ (upd H s.heap.objs.size (.tup [.str (sgn c1), .str (sgn c2)])) { s with heap := h'', toks := tk } := by
      refine I.turnedNew (ch := [z, TI, TO, i1, i2]) ?_ hf (Nat.le_refl _) nw
      intro c o hb q
      have b1 : c ≠ z := fun w => hb (by simp [w])
      have b3 : c ≠ TO := fun w => hb (by simp [w])
      have b4 : c ≠ i1 := fun w => hb (by simp [w])
      have b5 : c ≠ i2 := fun w => hb (by simp [w])
      exact hk c o b1 b3 b4 b5 q
    refine ⟨.ref s.heap.objs.size, _, J, rfl, ⟨_, c1, c2, rfl, I.hok.fresh (Nat.le_refl _), rfl, e1, e2⟩, ⟨⟨x', f', hz', hx'⟩, hk _ _ Sp.TIz Sp.TITO Sp.TIi1 Sp.TIi2 hTI, ⟨b1, b2, hTO'⟩, s1', s2'⟩, ?_⟩
    intro c hcm
    have lt : c < s.heap.objs.size := by
      have q : c = z ∨ c = TI ∨ c = TO ∨ c = i1 ∨ c = i2 := by simpa using hcm
      rcases q with q | q | q | q | q
      · rw [q]; exact zl
      · rw [q]; exact Heap.lt_size hTI
      · rw [q]; exact Heap.lt_size hTO
      · rw [q]; obtain ⟨_, w, _⟩ := s1; exact Heap.lt_size w
      · rw [q]; obtain ⟨_, w, _⟩ := s2; exact Heap.lt_size w
    rw [upd_ne (Nat.ne_of_lt lt)]
    exact (hf c hcm).1
  done := by
    intro X hP hw hK hc i pins s σ H E I hf st hg
    subst hP hw hK
    obtain ⟨⟨x0, f0, hz, hx0⟩, hTI, ⟨a0, b0, hTO⟩, s1, s2⟩ := st
    have hg' : i = min x.cps.size y.cps.size := hg
    have hh := I.ok.hd hc
    refine pyNext_zipN_end Sp (Draws.text (A := X.A.in1) hh i1 x t1) (Draws.text (A := X.A.in1) hh i2 y t2) hz hx0 hTI hTO s1 s2 (by omega) (by omega) (by omega) ?_
    intro h' tk hk
    refine ⟨rfl, I.turnedL (t' := tk) (ch := [z, TI, TO, i1, i2]) ?_ hf⟩
    intro c o hb q
    exact hk c o (fun w => hb (by simp [w])) (fun w => hb (by simp [w])) (fun w => hb (by simp [w])) (fun w => hb (by simp [w])) q
  self := fun A i s Q E st h => by
    obtain ⟨⟨x0, f0, hz, _⟩, _⟩ := st
    exact pyIter_zipN hz h
theorem pi_zipN {X : Cx} {e e2 : Expr} {ta : TA} {p pos tpos : Pos} {nm : Str} (hg : Gl X "zip") (hm : X.mg "zip" = none) (ha : PA X [e, e2] ta)
    (hs : starEach [e, e2] X.env = (false, eval e X.env) :: starEach [e2] X.env := by rfl) (hpl : (backTo pos (starEach [e2] X.env)).any (·.1) = false := by rfl) :
    PI X (.Name nm tpos) (.Call (.Name "zip" p) [e, e2] [] pos) (iZipS ta) := by
  constructor
  intro pins s σ H R I h
  refine Call_ (ld_blt I hg hm PyProof.Rows.boot_zip (PyProof.Rows.callWith_type1 (thn (ha.run pos pins s σ H _ I h) ?_) hs hpl))
  rintro us s1 ⟨vs, H1, I1, r1, x, y, rfl, q⟩
  cases r1 with
  | cons r rr =>
    cases rr with
    | cons r' rr =>
      cases rr
      obtain ⟨t1, rfl⟩ := r
      obtain ⟨t2, rfl⟩ := r'
      refine zip_begins2 (begins_text x t1) (begins_text y t2) trivial trivial ?_
      intro h' hz hTI hTO h1 h2 hsz hk
      refine wpAny_pyIter_zip hz ?_
      have J : Inv X pins σ H1 { s1 with heap := h' } := I1.kept (t' := s1.toks) hk
      have sep : ZipSep2 (s1.heap.objs.size + 4) (s1.heap.objs.size + 2) (s1.heap.objs.size + 3) s1.heap.objs.size (s1.heap.objs.size + 1) [s1.heap.objs.size] [s1.heap.objs.size + 1] := zip_sep2 (N := s1.heap.objs.size) (fp1 := []) (fp2 := []) (by simp) (by simp)
      refine ⟨s1.heap.objs.size + 4, [s1.heap.objs.size + 4, s1.heap.objs.size + 2, s1.heap.objs.size + 3, s1.heap.objs.size, s1.heap.objs.size + 1], _, _, H1, rfl, J, turn_zipN (x := x) (y := y) (t1 := t1) (t2 := t2) sep, ⟨⟨_, _, hz, .inl rfl⟩, hTI, ⟨_, _, hTO⟩, ⟨_, h1, rfl, rfl⟩, ⟨_, h2, rfl, rfl⟩⟩, ?_, q⟩
      refine fresh_fp I1 fun b hb => ?_
      have z : b = s1.heap.objs.size + 4 ∨ b = s1.heap.objs.size + 2 ∨ b = s1.heap.objs.size + 3 ∨ b = s1.heap.objs.size ∨ b = s1.heap.objs.size + 1 := by simpa using hb
      rcases z with z | z | z | z | z
      · rw [z]; exact Nat.le_add_right _ _
      · rw [z]; exact Nat.le_add_right _ _
      · rw [z]; exact Nat.le_add_right _ _
      · rw [z]; exact Nat.le_refl _
      · rw [z]; exact Nat.le_add_right _ _
section
variable {X : Cx} {pos : Pos}
theorem di_zipN {e e2 : Expr} {ta : DTA} {p tpos : Pos} {nm : Str} (hg : Gl X "zip") (hm : X.mg "zip" = none) (ha : DA X [e, e2] ta)
    (hs : starEach [e, e2] X.env = (false, eval e X.env) :: starEach [e2] X.env := by rfl) (hpl : (backTo pos (starEach [e2] X.env)).any (·.1) = false := by rfl) : DI X (.Name nm tpos) (.Call (.Name "zip" p) [e, e2] [] pos) (diZipS ta) := by
  obtain ⟨t, p1, r⟩ := ha.ex
  refine ⟨_, pi_zipN hg hm p1 hs hpl, fun F H σ S G o R' h R k => ?_⟩
  refine r F H σ S G o _ h _ fun F1 H1 vs ds G1 e1 g1 q1 h1 => ?_
  dsimp only at h1
  split at h1
  · rename_i x y
    cases q1 with
    | cons a b =>
      cases a
      cases b with
      | cons c d =>
        cases c; cases d
        refine ⟨x, y, rfl, k F1 H1 G1 _ _ _ e1 g1 ⟨fun F2 H2 G2 i d e2 g2 _ hd => ?_, fun F2 H2 G2 e2 g2 _ => ?_⟩ h1⟩
        · rw [List.getElem?_zipWith] at hd
          cases ea : x.cps.toList[i]? with
          | none => simp [ea] at hd
          | some a =>
            cases eb : y.cps.toList[i]? with
            | none => simp [ea, eb] at hd
            | some b =>
              simp only [ea, eb] at hd
              cases hd
              have la := (List.getElem?_eq_some_iff.mp ea).1
              have lb := (List.getElem?_eq_some_iff.mp eb).1
              rw [Array.length_toList] at la lb
              refine ⟨by show i < min _ _; omega, fun v H3 hy => ?_⟩
              obtain ⟨T, a', b', rfl, hT, rfl, ha', hb'⟩ := hy
              have za : x.cps[i]? = some a := by rw [← ea]; simp
              have zb : y.cps[i]? = some b := by rw [← eb]; simp
              rw [za] at ha'; rw [zb] at hb'
              cases ha'; cases hb'
              have gr := Gr.new (u := .tup [.str (sgn a), .str (sgn b)]) g2.ex hT
              exact ⟨_, gr.go, g2.grow gr, .tup upd_same (.cons (.str _) (.cons (.str _) .nil))⟩
        · show _ = min _ _
          simp
  · exact h1.elim
end
end DL
end
section
set_option Elab.async false
set_option linter.all false
set_option maxRecDepth 100000
set_option maxHeartbeats 4000000
/-! M8: where a caption leads a speech on. -/
namespace Pace
open PySem PySem.Spec PyProof.Rows L2 DL
def step1 (rs : List (List Mv)) (s h c : Nat) : Option Nat := ((rs.getD s []).find? fun m => m.h == h && m.c == c).map (·.t)
def ledN (rs : List (List Mv)) (s : Nat) (ks : List (Nat × Nat)) : Option Nat := ks.foldl (fun o k => o.bind fun s => step1 rs s k.1 k.2) (some s)
def ledOf (rs : List (List Mv)) (s : Nat) (p q : List Nat) : Option Nat := if p.length = q.length then ledN rs s (p.zip q) else none
def natO : Option Nat → D
  | none => .non
  | some n => .int (n : Int)
theorem ledN_snoc {rs : List (List Mv)} {s : Nat} {ks : List (Nat × Nat)} {k : Nat × Nat} : ledN rs s (ks ++ [k]) = (ledN rs s ks).bind fun s => step1 rs s k.1 k.2 := by simp [ledN]
theorem foldl_none {rs : List (List Mv)} : ∀ ks : List (Nat × Nat), ks.foldl (fun o k => o.bind fun s => step1 rs s k.1 k.2) none = none
  | [] => rfl
  | _ :: ks => foldl_none ks
theorem ledN_stop {rs : List (List Mv)} {s : Nat} {ks : List (Nat × Nat)} {i : Nat} (h : ledN rs s (ks.take i) = none) : ledN rs s ks = none := by
  rw [← List.take_append_drop i ks]
  unfold ledN at h ⊢
  rw [List.foldl_append, h]
  exact foldl_none _
theorem step1_lt {rs : List (List Mv)} (tl : ∀ r ∈ rs, ∀ m ∈ r, m.t < rs.length) {s h c t : Nat} (e : step1 rs s h c = some t) : t < rs.length := by
  unfold step1 at e
  obtain ⟨m, hm, rfl⟩ := Option.map_eq_some_iff.mp e
  have h1 := List.mem_of_find?_eq_some hm
  cases er : rs[s]? with
  | none => simp [List.getD, er] at h1
  | some r =>
    simp only [List.getD, er, Option.getD_some] at h1
    exact tl r (List.mem_of_getElem? er) m h1
theorem ledN_lt {rs : List (List Mv)} (tl : ∀ r ∈ rs, ∀ m ∈ r, m.t < rs.length) {s : Nat} (hs : s < rs.length) (ks : List (Nat × Nat)) : ∀ {t : Nat}, ledN rs s ks = some t → t < rs.length := by
  induction ks using snoc_ind with
  | nil => intro t h; simp [ledN] at h; omega
  | snoc ks k ih =>
    intro t h
    rw [ledN_snoc] at h
    obtain ⟨u, hu, h⟩ := Option.bind_eq_some_iff.mp h
    exact step1_lt tl h
theorem val_mvK (h c : Nat) : ∀ r : List Mv, valD (r.map mvK) [.inr (sgn h), .inr (sgn c)] = (r.find? fun m => m.h == h && m.c == c).map fun m => D.int (m.t : Int)
  | [] => rfl
  | m :: r => by
    have ih := val_mvK h c r
    by_cases e : m.h = h ∧ m.c = c
    · obtain ⟨rfl, rfl⟩ := e
      simp [valD, mvK]
    · have hne : (mvK m).1 ≠ [.inr (sgn h), .inr (sgn c)] := fun z => by
        simp only [mvK, List.cons.injEq, Sum.inr.injEq, and_true] at z
        exact e ⟨sgn_inj z.1, sgn_inj z.2⟩
      have hb : (m.h == h && m.c == c) = false := by
        rw [Bool.eq_false_iff]
        intro z
        simp only [Bool.and_eq_true, beq_iff_eq] at z
        exact e z
      rw [List.find?_cons, hb]
      rw [← ih]
      simp only [valD, List.map_cons, List.find?_cons]
      rw [decide_eq_false hne]
theorem zipS_eq (p q : List Nat) : List.zipWith (fun a b => D.tup [.str (sgn a), .str (sgn b)]) (strOf p).cps.toList (strOf q).cps.toList = (p.zip q).map fun k => .tup [.str (sgn k.1), .str (sgn k.2)] := by
  rw [zip_map]
  rfl
theorem stepsD_at {rs : List (List Mv)} {s : Nat} {r : List Mv} (h : rs[s]? = some r) : D.item (stepsD rs) (.int (s : Int)) = some (.dT (r.map mvK)) := by
  rw [stepsD_eq]
  exact atI_nat (by rw [List.getElem?_map, h]; rfl)
theorem step1_at {rs : List (List Mv)} {s : Nat} {r : List Mv} (h : rs[s]? = some r) (a b : Nat) : step1 rs s a b = (r.find? fun m => m.h == a && m.c == b).map (·.t) := by
  unfold step1
  simp [List.getD, h]
theorem natO_map {α : Type} (f : α → Nat) (o : Option α) : (o.map fun m => D.int (f m : Int)).getD .non = natO (o.map f) := by cases o <;> rfl
theorem natO_non (o : Option Nat) : (natO o).isNon = o.isNone := by cases o <;> rfl
theorem find_filter {α : Type} (p : α → Bool) : ∀ l : List α, l.find? p = (l.filter p).head?
  | [] => rfl
  | a :: l => by
    rw [List.find?_cons, List.filter_cons]
    cases h : p a with
    | true => simp
    | false => simpa using find_filter p l
/-- values of any kind -/
inductive AnyV : D → Prop
  | non : AnyV .non
  | bl (b : Bool) : AnyV (.bl b)
  | int (i : Int) : AnyV (.int i)
  | tup (xs : List D) : AnyV (.tup xs)
  | lst (xs : List D) : AnyV (.lst xs)
  | dK (kds : List (Key × D)) : AnyV (.dK kds)
  | str (cs : List Nat) (h : cs.length ≤ 1000) : AnyV (.str (strOf cs))
def textB (hs : List Nat) : D → Bool
  | .str x => x.cps.toList.all fun c => decide (c ∈ hs)
  | _ => false
def rightB (hs ws : List Nat) (rs : List (List Mv)) : D → D → Bool
  | .str x, .str y => (x.cps.toList.all fun c => decide (c ∈ hs)) && (y.cps.toList.all fun c => decide (c ∈ ws)) && (ledOf rs 0 x.cps.toList y.cps.toList).isSome
  | _, _ => false
theorem eqv_pair (a b c d : Nat) : D.eqv (.tup [.str (sgn a), .str (sgn b)]) (.tup [.str (sgn c), .str (sgn d)]) = (a == c && b == d) := by
  rw [Bool.eq_iff_iff, eqv_si rfl rfl]
  simp only [D.tup.injEq, List.cons.injEq, D.str.injEq, and_true, Bool.and_eq_true, beq_iff_eq]
  exact ⟨fun ⟨x, y⟩ => ⟨sgn_inj x, sgn_inj y⟩, fun ⟨x, y⟩ => ⟨by rw [x], by rw [y]⟩⟩
theorem row_eqv0 (r : List Mv) : D.eqv (rowD r) (.tup []) = decide (r = []) := by
  rw [Bool.eq_iff_iff, eqv_si (rowD_si r) rfl]
  simp [rowD]
theorem row_okE0 (r : List Mv) : okE (rowD r) (.tup []) = true := okE_si (rowD_si r) rfl (by have := rowD_dp r; omega)
theorem mv_in {hs ws : List Nat} {rs : List (List Mv)} (v : RulV hs ws rs) {r : List Mv} (hr : r ∈ rs) {m : Mv} (hm : m ∈ r) : m.h ∈ hs ∧ m.c ∈ ws ∧ m.t < rs.length := by
  have h := (v.row r hr).1
  unfold rowB at h
  rw [Bool.and_eq_true, List.all_eq_true] at h
  have := h.1 m hm
  simp only [mvB, Bool.and_eq_true, decide_eq_true_eq] at this
  exact ⟨this.1.1, this.1.2, this.2⟩
theorem ledN_in {hs ws : List Nat} {rs : List (List Mv)} (v : RulV hs ws rs) {s : Nat} (ks : List (Nat × Nat)) : ∀ {t : Nat}, ledN rs s ks = some t → ∀ k ∈ ks, k.1 ∈ hs ∧ k.2 ∈ ws := by
  induction ks using snoc_ind with
  | nil => intro t _ k hk; cases hk
  | snoc ks k0 ih =>
    intro t h k hk
    rw [ledN_snoc] at h
    obtain ⟨u, hu, h⟩ := Option.bind_eq_some_iff.mp h
    rcases List.mem_append.mp hk with hk | hk
    · exact ih hu k hk
    · rw [List.mem_singleton] at hk
      subst hk
      unfold step1 at h
      obtain ⟨m, hm, _⟩ := Option.map_eq_some_iff.mp h
      have h1 := List.mem_of_find?_eq_some hm
      have h2 := List.find?_some hm
      simp only [Bool.and_eq_true, beq_iff_eq] at h2
      cases er : rs[u]? with
      | none => simp [List.getD, er] at h1
      | some r =>
        simp only [List.getD, er, Option.getD_some] at h1
        obtain ⟨a, b, _⟩ := mv_in v (List.mem_of_getElem? er) h1
        rw [← h2.1, ← h2.2]
        exact ⟨a, b⟩
theorem right_led {hs ws : List Nat} {rs : List (List Mv)} (v : RulV hs ws rs) (p q : List Nat) : rightB hs ws rs (.str (strOf p)) (.str (strOf q)) = (ledOf rs 0 p q).isSome := by
  show ((p.all fun c => decide (c ∈ hs)) && (q.all fun c => decide (c ∈ ws)) && (ledOf rs 0 p q).isSome) = _
  cases h : ledOf rs 0 p q with
  | none => simp
  | some t =>
    unfold ledOf at h
    by_cases he : p.length = q.length
    · rw [if_pos he] at h
      have hin := ledN_in v _ h
      have e1 : (p.all fun c => decide (c ∈ hs)) = true := by
        rw [List.all_eq_true]
        intro c hc
        obtain ⟨i, hi, e⟩ := List.mem_iff_getElem.mp hc
        have := (hin (p[i], q[i]'(by omega)) (by rw [← List.getElem_zip (h := by simp; omega)]; exact List.getElem_mem _)).1
        rw [e] at this
        simpa using this
      have e2 : (q.all fun c => decide (c ∈ ws)) = true := by
        rw [List.all_eq_true]
        intro c hc
        obtain ⟨i, hi, e⟩ := List.mem_iff_getElem.mp hc
        have := (hin (p[i]'(by omega), q[i]) (by rw [← List.getElem_zip (h := by simp; omega)]; exact List.getElem_mem _)).2
        rw [e] at this
        simpa using this
      rw [e1, e2]; rfl
    · rw [if_neg he] at h; cases h
theorem rows_len_ (rs : List (List Mv)) : rLenD [rowsD rs] = fun G Q => Q (.int (rs.length : Nat)) G := by
  funext G Q
  show Q (.int ((rs.map rowD).length : Nat)) G = _
  rw [List.length_map]
theorem natO_fine {o : Option Nat} (h : ∀ n, o = some n → n < 1000) : Fine (natO o) 0 1 := by
  cases o with
  | none => exact fine_non
  | some n => exact fine_int (by have := h n rfl; simp; omega)
theorem ledOf_lt {rs : List (List Mv)} (tl : ∀ r ∈ rs, ∀ m ∈ r, m.t < rs.length) {s : Nat} (hs : s < rs.length) {p q : List Nat} {t : Nat} (h : ledOf rs s p q = some t) : t < rs.length := by
  unfold ledOf at h
  by_cases he : p.length = q.length
  · rw [if_pos he] at h; exact ledN_lt tl hs _ h
  · rw [if_neg he] at h; cases h
theorem right_nl {hs ws : List Nat} {rs : List (List Mv)} {x : D} (h : textB hs x = false) (y : D) : rightB hs ws rs x y = false := by
  cases x with
  | str a =>
    cases y with
    | str b => simp only [textB] at h; simp [rightB, h]
    | _ => rfl
  | _ => rfl
theorem right_nr {hs ws : List Nat} {rs : List (List Mv)} {y : D} (h : textB ws y = false) (x : D) : rightB hs ws rs x y = false := by
  cases x with
  | str a =>
    cases y with
    | str b => simp only [textB] at h; simp [rightB, h]
    | _ => rfl
  | _ => rfl
/-- what is no text of letters, and can be shown -/
structure OddV (hs ws : List Nat) (x : D) : Prop where
  any : AnyV x
  t1 : textB hs x = false
  t2 : textB ws x = false
  rp : ∃ s : Str, ∀ (G : GH) (Q : DQ), Q (.str s) G → rReprA [x] G Q
theorem odd_rp {x : D} {n w : Nat} (f : Fine x n w) (hn : n ≤ 60) (hw : w ≤ 1000000) (hc : ∀ (G : GH) (Q : DQ), rReprA [x] G Q = (DL.okR x = true ∧ (D.shown x).length ≤ sizeLine ∧ Q (.str (D.shown x)) G)) : ∃ s : Str, ∀ (G : GH) (Q : DQ), Q (.str s) G → rReprA [x] G Q :=
  ⟨D.shown x, fun G Q z => by rw [hc]; exact ⟨f.okR hn, f.len hw, z⟩⟩
theorem letters_abc {cs : List Nat} (h : lettersB cs = true) : ∀ c ∈ cs, 97 ≤ c ∧ c ≤ 122 := fun c hc => by
  unfold lettersB at h
  simp only [Bool.and_eq_true, List.all_eq_true, decide_eq_true_eq] at h
  have := h.1.2 c hc
  simp only [abc, List.mem_cons, List.not_mem_nil, or_false] at this
  omega
theorem text_no {hs cs : List Nat} (h : lettersB hs = true) {c : Nat} (hc : c ∈ cs) (hb : c < 97 ∨ 122 < c) : textB hs (.str (strOf cs)) = false := by
  show (cs.all fun c => decide (c ∈ hs)) = false
  rw [Bool.eq_false_iff]
  intro z
  rw [List.all_eq_true] at z
  have := letters_abc h c (by simpa using z c hc)
  omega
theorem odd_str {hs ws cs : List Nat} (lh : lettersB hs = true) (lw : lettersB ws = true) (hl : cs.length ≤ 1000) (hs' : ∀ c ∈ cs, c < 1114112) {c : Nat} (hc : c ∈ cs) (hb : c < 97 ∨ 122 < c) : OddV hs ws (.str (strOf cs)) :=
  ⟨.str cs hl, text_no lh hc hb, text_no lw hc hb, odd_rp (n := 0) (w := 1000) (fine_str (by simpa [strOf] using hs') (by rw [strOf_len]; exact hl)) (by decide) (by decide) fun _ _ => rfl⟩
end Pace
end
section
set_option Elab.async false
set_option linter.all false
set_option maxRecDepth 100000
set_option maxHeartbeats 4000000
/-! DLk: text[::-1], enumerate(text), text * int. -/
namespace DL
open PySem PySem.Spec PyProof.Rows L2
def revS (x : Str) : Str := ⟨x.cps.toList.reverse.toArray⟩
theorem rev_txt (x : Str) (u : Tok) : Txt.sliceBy x none none (-1, u) = revS x := by
  have h := step_rev_list x u
  have e : (Txt.sliceBy x none none (-1, u)).cps.toList = x.cps.toList.reverse := by
    rw [h]
    refine List.ext_getElem (by simp [Str.length]) fun i h1 h2 => ?_
    simp only [List.length_map, List.length_range] at h1
    have hx : i < x.cps.size := h1
    simp only [List.getElem_map, List.getElem_range, List.getElem_reverse, Array.getElem_toList, Array.length_toList]
    have : x.length - 1 - i < x.cps.size := by show x.cps.size - 1 - i < _; omega
    simp [Array.getD, this]
    rfl
  have e2 : (Txt.sliceBy x none none (-1, u)).cps = x.cps.toList.reverse.toArray := by rw [← e]
  cases hh : Txt.sliceBy x none none (-1, u) with
  | mk c => rw [hh] at e2; simp only at e2; rw [e2]; rfl
section
variable {X : Cx} {pos : Pos}
def tRevS (te : TE) : TE := fun σ H Q => te σ H fun x H1 => ∃ z, x = .str z ∧ z.length ≤ sizeLine ∧ Q (.str (revS z)) H1
theorem pe_revS {e : Expr} {te : TE} {k : Nat} {p1 p2 p3 pos : Pos} (he : PE X e te) (ht : ∀ (z : Str) (t : Tok) r, letTemporaryGo e (.str z t) r = pure () := by intro _ _ _; with_unfolding_all rfl) : PE X (.Subscript e (.Slice none none (some (.UnaryOp .USub (.Constant (.int 1) k p1) p2)) p3) pos) (tRevS te) := by
  refine ⟨fun pins s σ H Q I h => ?_⟩
  refine Subscript_ (thn (he.run pins s σ H _ I h) fun v s1 ⟨x, H1, I1, r1, q1⟩ => ?_)
  obtain ⟨z, ex, hz, q⟩ := q1
  subst ex
  obtain ⟨t, rfl⟩ := r1
  have hst : PO X (some (.UnaryOp .USub (.Constant (.int 1) k p1) p2)) (tPart (tUn (rU fun i => .int (-i)) (tC (.int 1)))) := po_some (pe_un un_neg pe_int)
  refine wpAny_Slice (thn (po_none.run pins s1 σ H1 (fun o H2 => o = none ∧ H2 = H1) I1 ⟨rfl, rfl⟩) fun vl s2 ⟨l, H2, I2, pl, el, e2⟩ => ?_)
  subst el e2
  refine thn (po_none.run pins s2 σ H2 (fun o H3 => o = none ∧ H3 = H2) I2 ⟨rfl, rfl⟩) fun vu s3 ⟨u, H3, I3, pu, eu, e3⟩ => ?_
  subst eu e3
  refine thn (hst.run pins s3 σ H3 (fun o H4 => o = some (-1) ∧ H4 = H3) I3 ⟨1, rfl, -1, rfl, rfl, rfl⟩) fun vs s4 ⟨o, H4, I4, ps, eo, e4⟩ => ?_
  subst eo e4
  have I5 : Inv X pins σ H4 { s4 with heap := s4.heap.push { cls := .type "slice", data := .fields #[vl, vu, vs] } } := I4.kept (t' := s4.toks) fun b ob q => Heap.get?_push_of_some _ q
  show wpAny (model X.prog X.w) X.A (subscriptTail e (.Slice none none (some (.UnaryOp .USub (.Constant (.int 1) k p1) p2)) p3) (.str z t) (.ref s4.heap.objs.size)) (EP X pins σ Q) X.xe { s4 with heap := s4.heap.push { cls := .type "slice", data := .fields #[vl, vu, vs] } }
  cases pl
  cases pu
  cases ps with
  | int _ uk =>
    refine tail_of_ItemOn ⟨"str", _, F.slot_str_getitem.lookup, typeIs_str _ _ _, wpAny_getItem_str_slice (l := none) (u := none) (st := some (-1, uk)) ⟨_, Heap.get?_push_size _ rfl, rfl, rfl⟩ (by rfl)
      (post_val_or_str ⟨Nat.le_trans (Txt.sliceBy_le z _ _ (-1, uk) (show (-1 : Int) ≠ 0 by decide)) hz, fun t' c => ?_⟩)⟩ (by with_unfolding_all rfl) (ht z t)
    have er := rev_txt z uk
    unfold Txt.sliceBy at er
    rw [er]
    exact ⟨.str _, H4, I5.tok _, ⟨_, rfl⟩, q⟩
def dRevS (te : DTE) : DTE := fun S G Q => te S G fun d G1 => match d with
  | .str z => z.length ≤ sizeLine ∧ Q (.str (revS z)) G1
  | _ => False
theorem de_revS {e : Expr} {te : DTE} {k : Nat} {p1 p2 p3 : Pos} (he : DE X e te) (ht : ∀ (z : Str) (t : Tok) r, letTemporaryGo e (.str z t) r = pure () := by intro _ _ _; with_unfolding_all rfl) : DE X (.Subscript e (.Slice none none (some (.UnaryOp .USub (.Constant (.int 1) k p1) p2)) p3) pos) (dRevS te) := by
  obtain ⟨t, p, r⟩ := he.ex
  refine ⟨_, pe_revS p ht, fun F H σ S G o Q' h Q kk => ?_⟩
  refine r F H σ S G o _ h _ fun F1 H1 v d G1 e1 g1 q1 h1 => ?_
  dsimp only at h1
  split at h1
  · cases q1
    exact ⟨_, rfl, h1.1, kk F1 H1 _ _ G1 e1 g1 (.str _) h1.2⟩
  · exact h1.elim
end
/-! ### enumerate(text) -/
def iEnumS (ta : TA) : TI := fun σ H R => ta σ H fun vs H1 => ∃ x : Str, vs = [.str x] ∧ R (ItE (x.cps.toList.map fun c => V.str (sgn c)) fun _ => True) H1
theorem pi_enumS {X : Cx} {e : Expr} {ta : TA} {p pos tpos : Pos} {elts : List Expr} {kk : Nat} (hg : Gl X "enumerate") (hm : X.mg "enumerate" = none) (ha : PA X [e] ta) (hs : starEach [e] X.env = [(false, eval e X.env)] := by rfl) :
    PI X (.Tuple elts kk tpos) (.Call (.Name "enumerate" p) [e] [] pos) (iEnumS ta) := by
  constructor
  intro pins s σ H R I h
  refine Call_ (ld_blt I hg hm boot_enumerate (PyProof.Rows.callWith_type1 (thn (ha.run pos pins s σ H _ I h) ?_) hs rfl))
  rintro us s1 ⟨vs, H1, I1, r1, x, rfl, q⟩
  cases r1 with
  | cons r rr =>
    cases rr
    obtain ⟨t, rfl⟩ := r
    refine call_enumB (begins_text x t) trivial ?_
    intro h' he hit hsz hk
    refine wpAny_pyIter_enum he ?_
    have J : Inv X pins σ H1 { s1 with heap := h' } := I1.kept (t' := s1.toks) hk
    refine ⟨s1.heap.objs.size + 1, [s1.heap.objs.size + 1, s1.heap.objs.size], _, _, H1, rfl, J, turn_enumOf (Si := fun i h => h.IsStrIter s1.heap.objs.size (strIterType x) x t i) ?_ ?_ ?_, ⟨⟨.none, he⟩, ⟨_, hit, rfl, rfl⟩, Nat.succ_ne_self _⟩, ?_, q⟩
    · rintro i h ⟨o, z, c, d⟩
      exact ⟨o, z, fun v y => by rw [d] at y; cases y⟩
    · rintro i h h' ⟨o, z, c⟩ k
      exact ⟨o, k o z, c⟩
    · intro X2 pins2 σ2 H2 s2 hP hw hK hh I2 hok
      refine ⟨[s1.heap.objs.size], fun i v => ∃ c k, x.cps[i]? = some c ∧ v = .str (sgn c) k, fun i h => h.IsStrIter s1.heap.objs.size (strIterType x) x t i, by simp, fun b hb hb2 => absurd (by simpa using hb) hb2, ?_, fun i z => z, fun i h z => z, fun i u y pu hx => ?_⟩
      · have := Draws.text (prog := X.prog) (w := X.w) (A := X2.A.in1) hh s1.heap.objs.size x t
        have ez : x.cps.size = (x.cps.toList.map fun c => V.str (sgn c)).length := by simp
        rw [← ez]
        exact this
      · obtain ⟨c, k, hc, rfl⟩ := pu
        rw [List.getElem?_map] at hx
        have : x.cps.toList[i]? = some c := by rw [← hc]; simp
        rw [this] at hx
        cases hx
        exact ⟨k, rfl⟩
    · refine fresh_fp I1 fun b hb => ?_
      have q : b = s1.heap.objs.size + 1 ∨ b = s1.heap.objs.size := by simpa using hb
      rcases q with q | q
      · rw [q]; exact Nat.le_add_right _ _
      · rw [q]; exact Nat.le_refl _
section
variable {X : Cx} {pos : Pos}
def diEnumS (ta : DTA) : DTI := fun S G R => ta S G fun ds G1 => match ds with
  | [.str x] => R ((signs x).mapIdx fun i d => .tup [.int (i : Nat), d]) dNoGuard G1
  | _ => False
theorem di_enumS {e : Expr} {ta : DTA} {p tpos : Pos} {elts : List Expr} {kk : Nat} (hg : Gl X "enumerate") (hm : X.mg "enumerate" = none) (ha : DA X [e] ta) (hs : starEach [e] X.env = [(false, eval e X.env)] := by rfl) :
    DI X (.Tuple elts kk tpos) (.Call (.Name "enumerate" p) [e] [] pos) (diEnumS ta) := by
  obtain ⟨t, p1, r⟩ := ha.ex
  refine ⟨_, pi_enumS hg hm p1 hs, fun F H σ S G o R' h R k => ?_⟩
  refine r F H σ S G o _ h _ fun F1 H1 vs ds G1 e1 g1 q1 h1 => ?_
  dsimp only at h1
  split at h1
  · rename_i x
    cases q1 with
    | cons q rest =>
      cases rest
      cases q
      refine ⟨x, rfl, k F1 H1 G1 _ _ _ e1 g1 ⟨fun F2 H2 G2 i d e2 g2 _ hd => ?_, fun F2 H2 G2 e2 g2 _ => ?_⟩ h1⟩
      · rw [List.getElem?_mapIdx] at hd
        have es : signs x = x.cps.toList.map fun c => .str (sgn c) := rfl
        rw [es, List.getElem?_map] at hd
        cases ex : x.cps.toList[i]? with
        | none => rw [ex] at hd; cases hd
        | some c =>
          rw [ex] at hd
          cases hd
          have hi := (List.getElem?_eq_some_iff.mp ex).1
          refine ⟨⟨trivial, by rw [List.length_map]; exact hi⟩, fun y H3 hy => ?_⟩
          obtain ⟨T, z, rfl, hT, rfl, hz⟩ := hy
          rw [List.getElem?_map, ex] at hz
          cases hz
          have gr := Gr.new (u := .tup [.int (i : Nat), .str (sgn c)]) g2.ex hT
          exact ⟨_, gr.go, g2.grow gr, .tup upd_same (.cons (.int _) (.cons (.str _) .nil))⟩
      · refine ⟨trivial, ?_⟩
        rw [List.length_mapIdx]
        simp [signs]
  · exact h1.elim
/-! ### text * int -/
def repS (x : Str) (n : Nat) : Str := ⟨(List.replicate n x.cps.toList).flatten.toArray⟩
def rMulS : DR2 := fun x y G Q => match x, y with
  | .str x, .int n => 2 ≤ n ∧ n < 1000 ∧ 0 < x.length ∧ x.length < 1000 ∧ Q (.str (repS x n.toNat)) G
  | _, _ => False
theorem fold_app : ∀ (n : Nat) (a acc : Array Nat), (List.replicate n a).foldl (· ++ ·) acc = (acc.toList ++ (List.replicate n a.toList).flatten).toArray
  | 0, a, acc => by simp
  | n + 1, a, acc => by
    rw [List.replicate_succ, List.foldl_cons, fold_app n a (acc ++ a), List.replicate_succ, List.flatten_cons]
    simp
theorem op_mulS : OpR X (binaryOp .Mult) (fun x y H Q => ∃ (z : Str) (n : Int), x = .str z ∧ y = .int n ∧ 2 ≤ n ∧ n < 1000 ∧ 0 < z.length ∧ z.length < 1000 ∧ Q (.str (repS z n.toNat)) H) := by
  intro pins s σ H x y v u Q I rx ry h
  obtain ⟨z, n, rfl, rfl, h1, h2, h3, h4, q⟩ := h
  obtain ⟨t, rfl⟩ := rx
  obtain ⟨t', rfl⟩ := ry
  have hb : ¬ (n == 1 || z.length == 0) = true := by
    simp only [Bool.or_eq_true, beq_iff_eq]
    omega
  have hlen : z.length * n.toNat ≤ 1000 * 1000 := Nat.mul_le_mul (by omega) (by omega)
  refine P.mul_str (by simp; omega) (fun _ _ => ?_) (fun _ _ => ?_) ?_
  · have : (1000 : Int) ≤ (2 ^ 63 - 1) / n := by
      rw [Int.le_ediv_iff_mul_le (by omega)]
      omega
    omega
  · unfold Builtin.Str.tooLong
    rw [decide_eq_false]
    rw [sizeLine_eq]
    omega
  · rw [if_neg (by omega), if_neg hb]
    have e : (⟨(List.replicate n.toNat z.cps).foldl (· ++ ·) #[]⟩ : Str) = repS z n.toNat := by
      rw [fold_app]
      simp [repS]
    rw [e]
    refine ⟨?_, .str _, H, I.tok _, ⟨_, rfl⟩, q⟩
    have : (repS z n.toNat).length = n.toNat * z.length := by
      simp [repS, Str.length]
    rw [this, Nat.mul_comm, sizeLine_eq]
    omega
theorem od_mulS : OpD X (binaryOp .Mult) rMulS := by
  refine ⟨_, op_mulS, fun F H G x y dx dy g rx ry Q' h Q k => ?_⟩
  unfold rMulS at h
  split at h
  · cases rx; cases ry
    obtain ⟨h1, h2, h3, h4, h5⟩ := h
    exact ⟨_, _, rfl, rfl, h1, h2, h3, h4, k F H _ _ G Go.refl g (.str _) h5⟩
  · exact h.elim
end
end DL
end
section
set_option Elab.async false
set_option linter.all false
set_option maxRecDepth 100000
set_option maxHeartbeats 4000000
/-! M9: how many captions lead a speech on; the first of them. -/
namespace Pace
open PySem PySem.Spec PyProof.Rows L2 DL
/-- for each state how many captions lead the letters on -/
def vec (rs : List (List Mv)) : List Nat → List Nat
  | [] => rs.map fun _ => 1
  | c :: cs => rs.map fun r => ((r.filter fun m => m.h == c).map fun m => (vec rs cs).getD m.t 0).sum
theorem vec_len (rs : List (List Mv)) : ∀ cs, (vec rs cs).length = rs.length
  | [] => by simp [vec]
  | c :: cs => by simp [vec]
theorem vec_at {rs : List (List Mv)} {s : Nat} {r : List Mv} (h : rs[s]? = some r) (c : Nat) (cs : List Nat) : (vec rs (c :: cs)).getD s 0 = ((r.filter fun m => m.h == c).map fun m => (vec rs cs).getD m.t 0).sum := by
  simp [vec, List.getD, h]
/-- the dict of a vector: its positive entries by state -/
def posE (vs : List Nat) : List (Nat × Nat) := (vs.zipIdx.filter fun x => decide (0 < x.1)).map fun x => (x.2, x.1)
def vecD (vs : List Nat) : List (Key × D) := (posE vs).map fun x => (.inl (x.1 : Int), .int (x.2 : Int))
theorem posE_mem {vs : List Nat} {x : Nat × Nat} : x ∈ posE vs ↔ vs[x.1]? = some x.2 ∧ 0 < x.2 := by
  unfold posE
  simp only [List.mem_map, List.mem_filter, decide_eq_true_eq]
  constructor
  · rintro ⟨y, ⟨h1, h2⟩, rfl⟩
    exact ⟨by simpa using List.mk_mem_zipIdx_iff_getElem?.mp h1, h2⟩
  · rintro ⟨h1, h2⟩
    exact ⟨(x.2, x.1), ⟨List.mk_mem_zipIdx_iff_getElem?.mpr h1, h2⟩, rfl⟩
theorem val_vec_aux : ∀ (l : List (Nat × Nat)) (s n : Nat), (∀ x ∈ l, ∀ y ∈ l, x.1 = y.1 → x = y) → (s, n) ∈ l → valD (l.map fun x => ((Sum.inl (x.1 : Int) : Key), D.int (x.2 : Int))) (.inl (s : Int)) = some (.int (n : Int))
  | [], s, n, _, h => by cases h
  | x :: l, s, n, hu, h => by
    by_cases e : x.1 = s
    · have : x = (s, n) := hu x (by simp) (s, n) h e
      subst this
      simp [valD]
    · have hm : (s, n) ∈ l := by
        rcases List.mem_cons.mp h with rfl | h
        · exact absurd rfl e
        · exact h
      have ih := val_vec_aux l s n (fun a ha b hb => hu a (List.mem_cons_of_mem _ ha) b (List.mem_cons_of_mem _ hb)) hm
      rw [← ih]
      simp only [valD, List.map_cons, List.find?_cons]
      rw [decide_eq_false (by simp; omega)]
theorem val_vec_none : ∀ (l : List (Nat × Nat)) (s : Nat), (∀ x ∈ l, x.1 ≠ s) → valD (l.map fun x => ((Sum.inl (x.1 : Int) : Key), D.int (x.2 : Int))) (.inl (s : Int)) = none
  | [], s, _ => rfl
  | x :: l, s, h => by
    have ih := val_vec_none l s fun y hy => h y (List.mem_cons_of_mem _ hy)
    have e := h x (by simp)
    rw [← ih]
    simp only [valD, List.map_cons, List.find?_cons]
    rw [decide_eq_false (by simp; omega)]
theorem val_vec (vs : List Nat) (s : Nat) : valD (vecD vs) (.inl (s : Int)) = if 0 < vs.getD s 0 then some (.int (vs.getD s 0 : Nat)) else none := by
  unfold vecD
  by_cases h : 0 < vs.getD s 0
  · rw [if_pos h]
    have e : vs[s]? = some (vs.getD s 0) := by
      cases e : vs[s]? with
      | none => simp [List.getD, e] at h
      | some n => simp [List.getD, e]
    refine val_vec_aux (posE vs) s _ (fun x hx y hy exy => ?_) (posE_mem.mpr ⟨e, h⟩)
    obtain ⟨h1, _⟩ := posE_mem.mp hx
    obtain ⟨h2, _⟩ := posE_mem.mp hy
    rw [exy, h2] at h1
    exact Prod.ext exy (Option.some.inj h1).symm
  · rw [if_neg h]
    refine val_vec_none (posE vs) s fun x hx e => ?_
    obtain ⟨h1, h2⟩ := posE_mem.mp hx
    rw [e] at h1
    simp [List.getD, h1] at h
    omega
theorem posE_snoc (l : List Nat) (n : Nat) : posE (l ++ [n]) = posE l ++ if 0 < n then [(l.length, n)] else [] := by
  unfold posE
  rw [List.zipIdx_append, List.filter_append, List.map_append]
  congr 1
  by_cases h : 0 < n <;> simp [h]
theorem vecD_put (l : List Nat) (n : Nat) (h : 0 < n) : putD (vecD l) (.inl (l.length : Int)) (.int (n : Int)) = vecD (l ++ [n]) := by
  have e : valD (vecD l) (.inl (l.length : Int)) = none := by
    rw [val_vec, if_neg]
    simp [List.getD]
  rw [put_new e]
  unfold vecD
  rw [posE_snoc, if_pos h, List.map_append]
  rfl
theorem vecD_skip (l : List Nat) : vecD (l ++ [0]) = vecD l := by
  unfold vecD
  rw [posE_snoc]
  simp
theorem posE_ones : ∀ n, posE (List.replicate n 1) = (List.range n).map fun i => (i, 1)
  | 0 => rfl
  | n + 1 => by
    rw [List.replicate_succ', posE_snoc, posE_ones n, List.range_succ, List.map_append]
    simp
theorem merge_ones : ∀ n, mergeD [] ((List.range n).map fun (i : Nat) => ((Sum.inl (i : Int) : Key), D.int 1)) = vecD (List.replicate n 1)
  | 0 => rfl
  | n + 1 => by
    rw [List.range_succ, List.map_append]
    show ((List.range n).map _ ++ [_]).foldl _ [] = _
    rw [List.foldl_append]
    have ih := merge_ones n
    unfold mergeD at ih
    rw [ih, List.replicate_succ']
    have := vecD_put (List.replicate n 1) 1 (by decide)
    rw [List.length_replicate] at this
    exact this
theorem vec_nil (rs : List (List Mv)) : vec rs [] = List.replicate rs.length 1 := by
  simp [vec, List.map_const']
theorem prs_ones : ∀ l : List Nat, prsK (l.map fun (i : Nat) => .tup [.int (i : Int), .int 1]) = some (l.map fun (i : Nat) => ((Sum.inl (i : Int) : Key), D.int 1))
  | [] => rfl
  | a :: l => by
    simp only [List.map_cons, prsK, D.key, prs_ones l]
theorem sum_pos (f : Mv → Nat) : ∀ l : List Mv, ((l.filter fun m => decide (0 < f m)).map f).sum = (l.map f).sum
  | [] => rfl
  | a :: l => by
    have ih := sum_pos f l
    by_cases h : 0 < f a
    · simp [List.filter_cons, h, ih]
    · have h0 : f a = 0 := by omega
      simp [List.filter_cons, h0, ih]
theorem filter_and (p q : Mv → Bool) (l : List Mv) : l.filter (fun m => p m && q m) = (l.filter p).filter q := by
  rw [List.filter_filter]
  congr 1
  funext m
  exact Bool.and_comm _ _
def aheadD (rs : List (List Mv)) (cs : List Nat) : List D := (List.range (cs.length + 1)).map fun i => .dK (vecD (vec rs (cs.drop i)))
theorem ints_sum (l : List Nat) : ((l.map fun (n : Nat) => (n : Int)).sum) = ((l.sum : Nat) : Int) := by
  induction l with
  | nil => rfl
  | cons a l ih => simp [ih]
end Pace
end
section
set_option Elab.async false
set_option linter.all false
set_option maxRecDepth 100000
set_option maxHeartbeats 4000000
/-! Ma: the lists of states ahead. -/
namespace Pace
open PySem PySem.Spec PyProof.Rows L2 DL
theorem rev_strOf (cs : List Nat) : revS (strOf cs) = strOf cs.reverse := by
  unfold revS strOf
  simp
theorem drop_rev {cs : List Nat} {i c : Nat} (h : cs.reverse[i]? = some c) : cs.drop (cs.length - (i + 1)) = c :: cs.drop (cs.length - i) := by
  have hi : i < cs.length := by
    have := (List.getElem?_eq_some_iff.mp h).1
    simpa using this
  rw [List.getElem?_reverse hi] at h
  have e : cs.length - (i + 1) < cs.length := by omega
  rw [List.drop_eq_getElem_cons e]
  have h2 : cs[cs.length - (i + 1)]? = some c := by rw [← h]; congr 1; omega
  rw [List.getElem?_eq_getElem e] at h2
  rw [Option.some.inj h2]
  congr 2
  omega
theorem atI_last {α : Type} (l : List α) (x : α) : atI (l ++ [x]) (-1) = some x := by
  unfold atI ixN
  have e : (-1 + ((l.length : Int) + 1)).toNat = l.length := by omega
  have e2 : (1 : Int) ≤ (l.length : Int) + 1 := by omega
  simp [e, e2]
def foundD (rs : List (List Mv)) (cs : List Nat) (i : Nat) : List D := (List.range (i + 1)).map fun k => .dK (vecD (vec rs (cs.drop (cs.length - k))))
theorem foundD_succ (rs : List (List Mv)) (cs : List Nat) (i : Nat) : foundD rs cs (i + 1) = foundD rs cs i ++ [.dK (vecD (vec rs (cs.drop (cs.length - (i + 1)))))] := by
  unfold foundD
  rw [List.range_succ, List.map_append]
  rfl
theorem foundD_last (rs : List (List Mv)) (cs : List Nat) (i : Nat) : atI (foundD rs cs i) (-1) = some (.dK (vecD (vec rs (cs.drop (cs.length - i))))) := by
  unfold foundD
  rw [List.range_succ, List.map_append]
  exact atI_last _ _
theorem foundD_len (rs : List (List Mv)) (cs : List Nat) (i : Nat) : (foundD rs cs i).length = i + 1 := by simp [foundD]
theorem foundD_rev (rs : List (List Mv)) (cs : List Nat) : (foundD rs cs cs.length).reverse = aheadD rs cs := by
  unfold foundD aheadD
  refine List.ext_getElem (by simp) fun i h1 h2 => ?_
  simp only [List.length_reverse, List.length_map, List.length_range] at h1
  simp only [List.getElem_reverse, List.getElem_map, List.getElem_range, List.length_map, List.length_range]
  congr 4
  omega
theorem inn_vec (vs : List Nat) (t : Nat) : D.inn (.int (t : Int)) (.dK (vecD vs)) = some (decide (0 < vs.getD t 0)) := by
  show ((some (valD (vecD vs) (.inl (t : Int)))).map Option.isSome) = _
  rw [val_vec]
  by_cases h : 0 < vs.getD t 0
  · rw [if_pos h, decide_eq_true h]; rfl
  · rw [if_neg h, decide_eq_false h]; rfl
theorem item_vec {vs : List Nat} {t : Nat} (h : 0 < vs.getD t 0) : D.item (.dK (vecD vs)) (.int (t : Int)) = some (.int (vs.getD t 0 : Nat)) := by
  show (some (valD (vecD vs) (.inl (t : Int)))).join = _
  rw [val_vec, if_pos h]
  rfl
theorem vec_take {rs : List (List Mv)} {j : Nat} (h : j < rs.length) (cs : List Nat) : (vec rs cs).take (j + 1) = (vec rs cs).take j ++ [(vec rs cs).getD j 0] := by
  have e : j < (vec rs cs).length := by rw [vec_len]; exact h
  refine take_snoc ?_
  simp [List.getD, e]
theorem vecD_len (vs : List Nat) : (vecD vs).length ≤ vs.length := by
  unfold vecD posE
  simp only [List.length_map]
  exact Nat.le_trans (List.length_filter_le _ _) (by simp)
theorem nats_ints {α : Type} (f : α → Nat) (l : List α) : intsD (l.map fun m => .int (f m : Int)) = some ((l.map f).map fun (n : Nat) => (n : Int)) := by
  have := intsD_nats (l.map f)
  rw [← this]
  unfold natsD
  rw [List.map_map]
  rfl
theorem ahead_sum {rs : List (List Mv)} {j : Nat} {r : List Mv} (h : rs[j]? = some r) (c : Nat) (cs : List Nat) : ((((r.filter fun m => m.h == c && decide (0 < (vec rs cs).getD m.t 0)).map fun m => (vec rs cs).getD m.t 0).map fun (n : Nat) => (n : Int)).sum) = (((vec rs (c :: cs)).getD j 0 : Nat) : Int) := by
  rw [ints_sum, filter_and (fun m => m.h == c) (fun m => decide (0 < (vec rs cs).getD m.t 0)), sum_pos (fun m => (vec rs cs).getD m.t 0), vec_at h]
theorem mapIdx_row {rs : List (List Mv)} {j : Nat} {d : D} (h : (List.mapIdx (fun i x => D.tup [D.int ((i : Nat) : Int), x]) (rs.map rowD))[j]? = some d) : ∃ r, rs[j]? = some r ∧ d = .tup [.int (j : Int), rowD r] := by
  rw [List.getElem?_mapIdx, List.getElem?_map] at h
  cases e : rs[j]? with
  | none => rw [e] at h; cases h
  | some r => rw [e] at h; cases h; exact ⟨r, rfl, rfl⟩
end Pace
end
section
set_option Elab.async false
set_option linter.all false
set_option maxRecDepth 100000
set_option maxHeartbeats 4000000
/-! Mb: the first caption, found greedily. -/
namespace Pace
open PySem PySem.Spec PyProof.Rows L2 DL
/-- the moves at a letter that lead on -/
def onM (rs : List (List Mv)) (s c : Nat) (cs : List Nat) : List Mv := (rs.getD s []).filter fun m => m.h == c && decide (0 < (vec rs cs).getD m.t 0)
def firstC (rs : List (List Mv)) : Nat → List Nat → List Nat
  | _, [] => []
  | s, c :: cs => match onM rs s c cs with
    | m :: _ => m.c :: firstC rs m.t cs
    | [] => []
theorem sum_pos_ex (f : Mv → Nat) : ∀ l : List Mv, 0 < (l.map f).sum → ∃ m ∈ l, 0 < f m
  | [], h => by simp at h
  | a :: l, h => by
    by_cases ha : 0 < f a
    · exact ⟨a, by simp, ha⟩
    · have : 0 < (l.map f).sum := by simp at h; omega
      obtain ⟨m, hm, hf⟩ := sum_pos_ex f l this
      exact ⟨m, List.mem_cons_of_mem _ hm, hf⟩
theorem onM_ex {rs : List (List Mv)} {s c : Nat} {cs : List Nat} (hs : s < rs.length) (h : 0 < (vec rs (c :: cs)).getD s 0) : ∃ m l, onM rs s c cs = m :: l ∧ 0 < (vec rs cs).getD m.t 0 ∧ m ∈ rs.getD s [] ∧ m.h = c := by
  obtain ⟨r, hr⟩ : ∃ r, rs[s]? = some r := ⟨_, List.getElem?_eq_getElem hs⟩
  rw [vec_at hr] at h
  obtain ⟨m, hm, hf⟩ := sum_pos_ex _ _ h
  have e : rs.getD s [] = r := by simp [List.getD, hr]
  have hmem : m ∈ onM rs s c cs := by
    unfold onM
    rw [e]
    rw [List.mem_filter] at hm ⊢
    exact ⟨hm.1, by rw [hm.2]; simpa using hf⟩
  cases e2 : onM rs s c cs with
  | nil => rw [e2] at hmem; cases hmem
  | cons a l =>
    have ha : a ∈ onM rs s c cs := by rw [e2]; simp
    unfold onM at ha
    rw [List.mem_filter] at ha
    obtain ⟨h1, h2⟩ := ha
    simp only [Bool.and_eq_true, decide_eq_true_eq, beq_iff_eq] at h2
    exact ⟨a, l, rfl, h2.2, h1, h2.1⟩
theorem aheadD_at {rs : List (List Mv)} {cs : List Nat} {i : Nat} (h : i ≤ cs.length) : (aheadD rs cs)[i]? = some (.dK (vecD (vec rs (cs.drop i)))) := by
  unfold aheadD
  rw [List.getElem?_map, List.getElem?_range (by omega)]
  rfl
theorem aheadD_0 {rs : List (List Mv)} {cs : List Nat} : D.item (.lst (aheadD rs cs)) (.int 0) = some (.dK (vecD (vec rs cs))) := by
  exact atI_nat (j := 0) (by rw [aheadD_at (Nat.zero_le _)]; rfl)
theorem enumS_get {cs : List Nat} {i : Nat} {d : D} (h : (List.mapIdx (fun i x => D.tup [D.int ((i : Nat) : Int), x]) (DL.signs (strOf cs)))[i]? = some d) : ∃ c, cs[i]? = some c ∧ d = .tup [.int (i : Int), .str (sgn c)] := by
  rw [List.getElem?_mapIdx] at h
  cases e : (DL.signs (strOf cs))[i]? with
  | none => rw [e] at h; cases h
  | some x =>
    rw [e] at h
    obtain ⟨c, hc, rfl⟩ := signs_get e
    cases h
    exact ⟨c, hc, rfl⟩
theorem drop_cons {cs : List Nat} {i c : Nat} (h : cs[i]? = some c) : cs.drop i = c :: cs.drop (i + 1) := by
  obtain ⟨hi, he⟩ := List.getElem?_eq_some_iff.mp h
  rw [List.drop_eq_getElem_cons hi, he]
theorem look_vec (vs : List Nat) (t : Nat) : D.look (.dK (vecD vs)) (.int (t : Int)) = some (if 0 < vs.getD t 0 then some (.int (vs.getD t 0 : Nat)) else none) := by
  show (some (valD (vecD vs) (.inl (t : Int)))) = _
  rw [val_vec]
end Pace
end
section
set_option Elab.async false
set_option linter.all false
set_option maxRecDepth 100000
set_option maxHeartbeats 4000000
/-! Mc: the captions in order. -/
namespace Pace
open PySem PySem.Spec PyProof.Rows L2 DL
def movesAt (rs : List (List Mv)) (s c : Nat) : List Mv := (rs.getD s []).filter fun m => m.h == c
theorem caps_from (rs : List (List Mv)) : ∀ (cs : List Nat) (l : List (List Nat × Nat)), cs.foldl (capsStep rs) l = l.flatMap fun x => (caps rs x.2 cs).map fun y => (x.1 ++ y.1, y.2)
  | [], l => by
    simp only [caps, List.foldl_nil, List.map_cons, List.map_nil, List.append_nil]
    induction l with
    | nil => rfl
    | cons a l ih => rw [List.flatMap_cons, ← ih]; rfl
  | c :: cs, l => by
    have h0 : ∀ s, caps rs s (c :: cs) = (capsStep rs [([], s)] c).flatMap fun x => (caps rs x.2 cs).map fun y => (x.1 ++ y.1, y.2) := fun s => caps_from rs cs _
    rw [List.foldl_cons, caps_from rs cs]
    simp only [h0]
    unfold capsStep
    simp only [List.flatMap_cons, List.flatMap_nil, List.append_nil, List.nil_append]
    rw [List.flatMap_assoc]
    congr 1
    funext x
    rw [List.map_flatMap, List.flatMap_map, List.flatMap_map]
    congr 1
    funext m
    rw [List.map_map]
    congr 1
    funext y
    simp
theorem caps_cons (rs : List (List Mv)) (s c : Nat) (cs : List Nat) : caps rs s (c :: cs) = (movesAt rs s c).flatMap fun m => (caps rs m.t cs).map fun y => (m.c :: y.1, y.2) := by
  have h := caps_from rs cs (capsStep rs [([], s)] c)
  have e : caps rs s (c :: cs) = cs.foldl (capsStep rs) (capsStep rs [([], s)] c) := rfl
  rw [e, h]
  unfold capsStep movesAt
  simp only [List.flatMap_cons, List.flatMap_nil, List.append_nil, List.nil_append]
  rw [List.flatMap_map]
  rfl
theorem flat_sum {α β : Type} (f : α → List β) : ∀ l : List α, (l.flatMap f).length = (l.map fun a => (f a).length).sum
  | [] => rfl
  | a :: l => by rw [List.flatMap_cons, List.length_append, flat_sum f l]; simp
theorem caps_many {rs : List (List Mv)} (tl : ∀ r ∈ rs, ∀ m ∈ r, m.t < rs.length) : ∀ (cs : List Nat) (s : Nat), s < rs.length → (caps rs s cs).length = (vec rs cs).getD s 0
  | [], s, hs => by simp [caps, vec_nil, List.getD, hs]
  | c :: cs, s, hs => by
    obtain ⟨r, hr⟩ : ∃ r, rs[s]? = some r := ⟨_, List.getElem?_eq_getElem hs⟩
    have er : rs.getD s [] = r := by simp [List.getD, hr]
    rw [caps_cons, flat_sum, vec_at hr]
    unfold movesAt
    rw [er]
    congr 1
    refine List.map_congr_left fun m hm => ?_
    rw [List.length_map]
    exact caps_many tl cs m.t (tl r (List.mem_of_getElem? hr) m (List.mem_filter.mp hm).1)
theorem flat_filter {α β : Type} (f : α → List β) (p : α → Bool) : ∀ l : List α, (∀ a ∈ l, p a = false → f a = []) → l.flatMap f = (l.filter p).flatMap f
  | [], _ => rfl
  | a :: l, h => by
    have ih := flat_filter f p l fun b hb => h b (List.mem_cons_of_mem _ hb)
    cases e : p a with
    | true => rw [List.filter_cons_of_pos (by simp [e]), List.flatMap_cons, List.flatMap_cons, ih]
    | false => rw [List.filter_cons_of_neg (by simp [e]), List.flatMap_cons, h a (by simp) e, ih]; rfl
theorem caps_first {rs : List (List Mv)} (tl : ∀ r ∈ rs, ∀ m ∈ r, m.t < rs.length) : ∀ (cs : List Nat) (s : Nat), s < rs.length → 0 < (vec rs cs).getD s 0 → ∃ t l, caps rs s cs = (firstC rs s cs, t) :: l
  | [], s, hs, _ => ⟨s, [], rfl⟩
  | c :: cs, s, hs, hv => by
    obtain ⟨r, hr⟩ : ∃ r, rs[s]? = some r := ⟨_, List.getElem?_eq_getElem hs⟩
    have er : rs.getD s [] = r := by simp [List.getD, hr]
    obtain ⟨m, l, hm, hmv, hmm, hmh⟩ := onM_ex hs hv
    have hmt : m.t < rs.length := tl r (List.mem_of_getElem? hr) m (er ▸ hmm)
    obtain ⟨t, l2, h2⟩ := caps_first tl cs m.t hmt hmv
    have e1 : caps rs s (c :: cs) = (onM rs s c cs).flatMap fun m => (caps rs m.t cs).map fun y => (m.c :: y.1, y.2) := by
      rw [caps_cons, flat_filter _ (fun m => decide (0 < (vec rs cs).getD m.t 0)) _ fun a ha hp => ?_]
      · unfold movesAt onM
        rw [filter_and (fun m => m.h == c) (fun m => decide (0 < (vec rs cs).getD m.t 0))]
      · have hat : a.t < rs.length := tl r (List.mem_of_getElem? hr) a (by
          have := (List.mem_filter.mp ha).1
          rw [er] at this
          exact this)
        have hl := caps_many tl cs a.t hat
        have : (vec rs cs).getD a.t 0 = 0 := by simpa using hp
        rw [this] at hl
        rw [List.length_eq_zero_iff.mp hl]
        rfl
    have e2 : firstC rs s (c :: cs) = m.c :: firstC rs m.t cs := by
      show (match onM rs s c cs with | m :: _ => m.c :: firstC rs m.t cs | [] => []) = _
      rw [hm]
    rw [e1, hm, List.flatMap_cons, h2, e2]
    exact ⟨t, _, rfl⟩
/-- rows whose moves stand in order -/
def Ordered (rs : List (List Mv)) : Prop := ∀ r ∈ rs, r.Pairwise fun a b => mvLt a b = true
theorem RulV.ordered {hs ws : List Nat} {rs : List (List Mv)} (v : RulV hs ws rs) : Ordered rs := fun r hr => by
  have := (v.row r hr).1
  unfold rowB at this
  rw [Bool.and_eq_true] at this
  exact nbr_pair (r := mvLt) mvLt_tr r this.2
theorem moves_ordered {rs : List (List Mv)} (o : Ordered rs) (s c : Nat) : (movesAt rs s c).Pairwise fun a b => a.c < b.c := by
  unfold movesAt
  cases e : rs[s]? with
  | none => simp [List.getD, e]
  | some r =>
    have er : rs.getD s [] = r := by simp [List.getD, e]
    rw [er]
    have := (o r (List.mem_of_getElem? e)).sublist (List.filter_sublist (p := fun m => m.h == c))
    refine List.Pairwise.imp_of_mem ?_ this
    intro a b ha hb hab
    have h1 := (List.mem_filter.mp ha).2
    have h2 := (List.mem_filter.mp hb).2
    simp only [beq_iff_eq] at h1 h2
    simp only [mvLt, decide_eq_true_eq] at hab
    omega
theorem caps_ordered {rs : List (List Mv)} (o : Ordered rs) : ∀ (cs : List Nat) (s : Nat), (caps rs s cs).Pairwise fun x y => x.1 < y.1
  | [], s => by simp [caps]
  | c :: cs, s => by
    rw [caps_cons]
    rw [List.pairwise_flatMap]
    refine ⟨fun m hm => ?_, ?_⟩
    · rw [List.pairwise_map]
      refine (caps_ordered o cs m.t).imp fun {a b} h => ?_
      exact List.cons_lt_cons_iff.mpr (.inr ⟨rfl, h⟩)
    · refine (moves_ordered o s c).imp fun {a b} h x hx y hy => ?_
      obtain ⟨x', _, rfl⟩ := List.mem_map.mp hx
      obtain ⟨y', _, rfl⟩ := List.mem_map.mp hy
      exact List.cons_lt_cons_iff.mpr (.inl h)
theorem capD_le {x y : List Nat × Nat} (h : x.1 < y.1) : D.le (capD x) (capD y) = true := by
  show (!PySem.W.dataLt (.tuple [.str (strOf y.1), .int (y.2 : Int)]) (.tuple [.str (strOf x.1), .int (x.2 : Int)])) = true
  rw [PySem.W.dataLt_pair rfl rfl, if_neg, PySem.W.dataLt_str]
  · simp only [strOf, Bool.not_eq_true']
    exact decide_eq_false fun z => absurd (List.lt_trans h z) (List.lt_irrefl _)
  · have : ¬ D.eqv (.str (strOf y.1)) (.str (strOf x.1)) = true := by
      rw [eqv_str]
      intro z
      have e : strOf y.1 = strOf x.1 := by simpa using z
      have e2 : y.1 = x.1 := by
        have := congrArg (fun s : Str => s.cps.toList) e
        simpa [strOf] using this
      rw [e2] at h
      exact absurd h (List.lt_irrefl _)
    exact this
theorem caps_sortD {rs : List (List Mv)} (o : Ordered rs) (s : Nat) (cs : List Nat) : sortD ((caps rs s cs).map capD) = (caps rs s cs).map capD := by
  unfold sortD
  refine List.mergeSort_of_pairwise ?_
  rw [List.pairwise_map]
  exact (caps_ordered o cs s).imp fun {a b} h => capD_le h
theorem caps_okS (l : List (List Nat × Nat)) : okS (l.map capD) = true := by
  unfold okS
  simp only [Bool.and_eq_true, Bool.or_eq_true, List.all_map, List.all_eq_true, Function.comp]
  refine ⟨⟨⟨?_, fun x _ y _ => rfl⟩, fun x _ => rfl⟩, .inl fun x _ => rfl⟩
  rw [D.pls_all]
  simp only [List.all_map, List.all_eq_true, Function.comp]
  exact fun x _ => rfl
theorem sorted_ext : ∀ {a b : List Nat}, a.Pairwise (· < ·) → b.Pairwise (· < ·) → (∀ k, k ∈ a ↔ k ∈ b) → a = b
  | [], [], _, _, _ => rfl
  | [], y :: b, _, _, h => absurd ((h y).mpr (by simp)) (by simp)
  | x :: a, [], _, _, h => absurd ((h x).mp (by simp)) (by simp)
  | x :: a, y :: b, ha, hb, h => by
    rw [List.pairwise_cons] at ha hb
    have e : x = y := by
      rcases List.mem_cons.mp ((h x).mp (by simp)) with e | e
      · exact e
      · rcases List.mem_cons.mp ((h y).mpr (by simp)) with e2 | e2
        · exact e2.symm
        · have := ha.1 y e2
          have := hb.1 x e
          omega
    subst e
    rw [sorted_ext ha.2 hb.2 fun k => ?_]
    constructor
    · intro hk
      rcases List.mem_cons.mp ((h k).mp (List.mem_cons_of_mem _ hk)) with e | e
      · have := ha.1 k hk; omega
      · exact e
    · intro hk
      rcases List.mem_cons.mp ((h k).mpr (List.mem_cons_of_mem _ hk)) with e | e
      · have := hb.1 k hk; omega
      · exact e
theorem run_sorted {rs : List (List Mv)} {s : Nat} (cs : List Nat) : (run rs [s] cs).Pairwise (· < ·) := by
  induction cs using snoc_ind with
  | nil => simp [run]
  | snoc cs c ih => rw [run_snoc]; exact behind_sorted
theorem caps_spots {rs : List (List Mv)} {s : Nat} (cs : List Nat) : nsort (firstsF ((caps rs s cs).map (·.2))) = run rs [s] cs := by
  refine sorted_ext ?_ (run_sorted cs) fun k => ?_
  · exact lt_of_le_nd (nsort_le _) ((nsort_perm _).nodup_iff.mpr (firstsF_nodup _))
  · rw [(nsort_perm _).mem_iff, firstsF_mem]
    exact caps_run cs k
theorem step_of {rs : List (List Mv)} (o : Ordered rs) {s c : Nat} {m : Mv} (h : m ∈ movesAt rs s c) : step1 rs s c m.c = some m.t := by
  have h0 := h
  have ho := moves_ordered o s c
  unfold movesAt at h
  obtain ⟨h1, h2⟩ := List.mem_filter.mp h
  simp only [beq_iff_eq] at h2
  unfold step1
  cases e : (rs.getD s []).find? fun x => x.h == c && x.c == m.c with
  | none =>
    have := List.find?_eq_none.mp e m h1
    simp [h2] at this
  | some x =>
    have hx := List.mem_of_find?_eq_some e
    have hp := List.find?_some e
    simp only [Bool.and_eq_true, beq_iff_eq] at hp
    have hxm : x ∈ movesAt rs s c := List.mem_filter.mpr ⟨hx, by simp [hp.1]⟩
    have : x = m := by
      obtain ⟨i, hi, rfl⟩ := List.getElem_of_mem hxm
      obtain ⟨j, hj, rfl⟩ := List.getElem_of_mem h0
      rcases Nat.lt_trichotomy i j with hij | hij | hij
      · have := List.pairwise_iff_getElem.mp ho i j hi hj hij
        omega
      · subst hij; rfl
      · have := List.pairwise_iff_getElem.mp ho j i hj hi hij
        omega
    rw [this]
    rfl
theorem ledN_cons {rs : List (List Mv)} {s : Nat} {k : Nat × Nat} {ks : List (Nat × Nat)} {t : Nat} (h : step1 rs s k.1 k.2 = some t) : ledN rs s (k :: ks) = ledN rs t ks := by
  unfold ledN
  rw [List.foldl_cons]
  show List.foldl _ (step1 rs s k.1 k.2) ks = _
  rw [h]
theorem caps_ledN {rs : List (List Mv)} (o : Ordered rs) : ∀ (cs : List Nat) (s : Nat), ∀ x ∈ caps rs s cs, ledN rs s (cs.zip x.1) = some x.2
  | [], s, x, hx => by
    simp [caps] at hx
    subst hx
    rfl
  | c :: cs, s, x, hx => by
    rw [caps_cons] at hx
    obtain ⟨m, hm, hx⟩ := List.mem_flatMap.mp hx
    obtain ⟨y, hy, rfl⟩ := List.mem_map.mp hx
    show ledN rs s ((c, m.c) :: cs.zip y.1) = some y.2
    rw [ledN_cons (step_of o hm)]
    exact caps_ledN o cs m.t y hy
theorem caps_led {rs : List (List Mv)} (o : Ordered rs) {s : Nat} {cs : List Nat} {x : List Nat × Nat} (hx : x ∈ caps rs s cs) : ledOf rs s cs x.1 = some x.2 := by
  unfold ledOf
  rw [if_pos (caps_word cs x hx).symm]
  exact caps_ledN o cs s x hx
theorem caps_lenW {hs ws : List Nat} {rs : List (List Mv)} (v : RulV hs ws rs) (s : Nat) (cs : List Nat) : (caps rs s cs).length ≤ ws.length ^ cs.length := by
  induction cs using snoc_ind with
  | nil => simp [caps]
  | snoc cs c ih =>
    rw [caps_snoc, List.length_append, List.length_singleton, Nat.pow_succ]
    refine Nat.le_trans (flat_len _ ws.length _ fun x _ => ?_) (Nat.mul_le_mul_right _ ih)
    rw [List.length_map]
    cases e : rs[x.2]? with
    | none => simp [List.getD, e]
    | some r =>
      have := row_hits (v.row r (List.mem_of_getElem? e)).1 c
      simp only [List.getD, e, Option.getD_some]
      omega
end Pace
end
section
set_option Elab.async false
set_option linter.all false
set_option maxRecDepth 100000
set_option maxHeartbeats 4000000
/-! Me: classes of texts, pumps. -/
namespace Pace
open PySem PySem.Spec PyProof.Rows L2 DL
/-- the class of a text -/
def classOf (rs : List (List Mv)) (cs : List Nat) : List (List Nat) := (List.range rs.length).map fun s => run rs [s] cs
def classD (rs : List (List Mv)) (cs : List Nat) : D := .tup ((classOf rs cs).map fun ss => .tup (natsD ss))
def pumpB (hs : List Nat) (rs : List (List Mv)) : D → Bool
  | .tup [.str a, .str b, .str c] => textB hs (.str a) && textB hs (.str b) && textB hs (.str c) && !(decide (b.cps.toList = [])) && decide (classOf rs a.cps.toList = classOf rs (a.cps.toList ++ b.cps.toList))
  | _ => false
theorem classD_si (rs : List (List Mv)) (cs : List Nat) : (classD rs cs).si = true := sis_all.mpr fun x hx => by
  obtain ⟨ss, _, rfl⟩ := List.mem_map.mp hx
  exact natsD_si ss
theorem classD_dp (rs : List (List Mv)) (cs : List Nat) : (classD rs cs).dp ≤ 60 := by
  have : D.dps ((classOf rs cs).map fun ss => D.tup (natsD ss)) ≤ 1 := dps_le fun x hx => by
    obtain ⟨ss, _, rfl⟩ := List.mem_map.mp hx
    have := natsD_dps ss
    simp only [D.dp]
    omega
  unfold classD
  simp only [D.dp]
  omega
theorem classD_inj {rs rs' : List (List Mv)} {cs cs' : List Nat} (h : classD rs cs = classD rs' cs') : classOf rs cs = classOf rs' cs' := by
  unfold classD at h
  have h2 : ((classOf rs cs).map fun ss => D.tup (natsD ss)) = (classOf rs' cs').map fun ss => D.tup (natsD ss) := by injection h
  generalize classOf rs cs = a at h2
  generalize classOf rs' cs' = b at h2
  induction a generalizing b with
  | nil => cases b with
    | nil => rfl
    | cons y b => cases h2
  | cons x a ih => cases b with
    | nil => cases h2
    | cons y b =>
      simp only [List.map_cons, List.cons.injEq, D.tup.injEq] at h2
      rw [natsD_inj h2.1, ih b h2.2]
theorem classD_eqv (rs : List (List Mv)) (a b : List Nat) : D.eqv (classD rs a) (classD rs b) = decide (classOf rs a = classOf rs b) := by
  rw [Bool.eq_iff_iff, eqv_si (classD_si rs a) (classD_si rs b), decide_eq_true_eq]
  exact ⟨classD_inj, fun h => by unfold classD; rw [h]⟩
/-- values that are asked about -/
structure AnyP (x : D) : Prop where
  any : AnyV x
  each : ∀ xs, x = .tup xs → xs.length ≤ 1000 ∧ ∀ y ∈ xs, AnyV y
/-- the states of a set, each by itself -/
theorem run_app {rs : List (List Mv)} {ss : List Nat} (a b : List Nat) : run rs ss (a ++ b) = run rs (run rs ss a) b := by simp [run]
theorem run_sorted_ {rs : List (List Mv)} {ss : List Nat} (h : ss.Pairwise (· < ·)) (cs : List Nat) : (run rs ss cs).Pairwise (· < ·) := by
  induction cs using snoc_ind with
  | nil => simpa [run] using h
  | snoc cs c ih => rw [run_snoc]; exact behind_sorted
theorem run_mem {rs : List (List Mv)} {ss : List Nat} (cs : List Nat) : ∀ k, k ∈ run rs ss cs ↔ ∃ s ∈ ss, k ∈ run rs [s] cs := by
  induction cs using snoc_ind with
  | nil => intro k; simp [run]
  | snoc cs c ih =>
    intro k
    rw [run_snoc, behind_mem]
    constructor
    · rintro ⟨s, hs, m, hm, h1, h2⟩
      obtain ⟨t, ht, hst⟩ := (ih s).mp hs
      refine ⟨t, ht, ?_⟩
      rw [run_snoc, behind_mem]
      exact ⟨s, hst, m, hm, h1, h2⟩
    · rintro ⟨t, ht, hk⟩
      rw [run_snoc, behind_mem] at hk
      obtain ⟨s, hs, m, hm, h1, h2⟩ := hk
      exact ⟨s, (ih s).mpr ⟨t, ht, hs⟩, m, hm, h1, h2⟩
/-- a class behind a class -/
theorem class_put (rs : List (List Mv)) (s : Nat) (a b : List Nat) : run rs [s] (a ++ b) = nsort (firstsF ((run rs [s] a).flatMap fun t => run rs [t] b)) := by
  refine sorted_ext (run_sorted_ (by simp) _) (lt_of_le_nd (nsort_le _) ((nsort_perm _).nodup_iff.mpr (firstsF_nodup _))) fun k => ?_
  rw [run_app, run_mem, (nsort_perm _).mem_iff, firstsF_mem, List.mem_flatMap]
/-- a class as a key -/
def classK (c : List (List Nat)) : List NestedKey := c.map fun ss => .tup (ss.map fun (n : Nat) => .num (n : Int))
theorem nkeys_nats : ∀ ns : List Nat, D.nkeys (natsD ns) = some (ns.map fun (n : Nat) => .num (n : Int))
  | [] => rfl
  | n :: ns => by
    have ih := nkeys_nats ns
    unfold natsD at ih ⊢
    simp only [List.map_cons, D.nkeys, D.nkey, ih]
theorem nkeys_class : ∀ c : List (List Nat), D.nkeys (c.map fun ss => .tup (natsD ss)) = some (classK c)
  | [] => rfl
  | ss :: c => by
    have ih := nkeys_class c
    unfold classK at ih ⊢
    simp only [List.map_cons, D.nkeys, D.nkey, nkeys_nats, Option.map_some, ih]
theorem depth_nums : ∀ ns : List Nat, NestedKey.depthAll (ns.map fun (n : Nat) => .num (n : Int)) ≤ 1
  | [] => by simp [NestedKey.depthAll]
  | n :: ns => by
    have ih := depth_nums ns
    simp only [List.map_cons, NestedKey.depthAll, NestedKey.depth]
    omega
theorem depth_class : ∀ c : List (List Nat), NestedKey.depthAll (classK c) ≤ 3
  | [] => by simp [classK, NestedKey.depthAll]
  | ss :: c => by
    have ih := depth_class c
    have := depth_nums ss
    unfold classK at ih ⊢
    simp only [List.map_cons, NestedKey.depthAll, NestedKey.depth]
    omega
theorem class_depth (c : List (List Nat)) : (NestedKey.tup (classK c)).depth ≤ 8 := by
  have := depth_class c
  simp only [NestedKey.depth]
  omega
theorem put_all {κ : Type} [DecidableEq κ] {P : D → Prop} {kds : List (κ × D)} {k : κ} {d : D} (h : ∀ x ∈ kds, P x.2) (hd : P d) : ∀ x ∈ putD kds k d, P x.2 := by
  unfold putD
  split
  · intro x hx
    obtain ⟨y, hy, rfl⟩ := List.mem_map.mp hx
    split
    · exact hd
    · exact h y hy
  · intro x hx
    rcases List.mem_append.mp hx with hx | hx
    · exact h x hx
    · rw [List.mem_singleton.mp hx]; exact hd
theorem val_mem {κ : Type} [DecidableEq κ] {kds : List (κ × D)} {k : κ} {d : D} (h : valD kds k = some d) : ∃ x ∈ kds, x.2 = d := by
  unfold valD at h
  obtain ⟨x, hx, rfl⟩ := Option.map_eq_some_iff.mp h
  exact ⟨x, List.mem_of_find?_eq_some hx, rfl⟩
end Pace
end
section
set_option Elab.async false
set_option linter.all false
set_option maxRecDepth 100000
set_option maxHeartbeats 4000000
/-! DLN: dicts whose keys are tuples of any depth (None, ints, texts, tuples). -/
namespace DL
open PySem PySem.Spec PyProof.Rows L2
mutual
/-- a value that is a key -/
inductive NkV (H : Hp) : V → NestedKey → Prop
  | non : NkV H .non .none
  | int (i : Int) : NkV H (.int i) (.num i)
  | str (x : Str) : NkV H (.str x) (.text x)
  | tup {a : Addr} {vs : List V} {ks : List NestedKey} : H a = some (.tup vs) → NksV H vs ks → NkV H (.ref a) (.tup ks)
inductive NksV (H : Hp) : List V → List NestedKey → Prop
  | nil : NksV H [] []
  | cons {v : V} {vs : List V} {k : NestedKey} {ks : List NestedKey} : NkV H v k → NksV H vs ks → NksV H (v :: vs) (k :: ks)
end
mutual
theorem Rep.nk {K : PySem.W.Frag} {F H : Hp} (e : Ex F H) : ∀ {v : V} {d : D} {k : NestedKey}, Rep K F v d → d.nkey = some k → NkV H v k
  | _, _, _, .non, h => by cases h; exact .non
  | _, _, _, .bl b, h => by cases h
  | _, _, _, .int i, h => by cases h; exact .int i
  | _, _, _, .str x, h => by cases h; exact .str x
  | _, _, _, .ty n, h => by cases h
  | _, _, _, .tup (ds := ds) q r, h => by
    simp only [D.nkey] at h
    obtain ⟨ks, hk, rfl⟩ := Option.map_eq_some_iff.mp h
    exact .tup (e _ _ q) (Reps.nk e r hk)
  | _, _, _, .lst q r, h => by cases h
  | _, _, _, .dK q l r, h => by cases h
  | _, _, _, .dT q l r, h => by cases h
  | _, _, _, .obj q l r, h => by cases h
  | _, _, _, .rf a, h => by cases h
  | _, _, _, .scr q, h => by cases h
theorem Reps.nk {K : PySem.W.Frag} {F H : Hp} (e : Ex F H) : ∀ {vs : List V} {ds : List D} {ks : List NestedKey}, Reps K F vs ds → D.nkeys ds = some ks → NksV H vs ks
  | _, _, _, .nil, h => by cases h; exact .nil
  | _, _, _, .cons (d := d) (ds := ds) r t, h => by
    simp only [D.nkeys] at h
    split at h
    · rename_i k ks h1 h2
      cases h
      exact .cons (Rep.nk e r h1) (Reps.nk e t h2)
    · cases h
end
mutual
theorem NkV.is {P : Program} {w : World} {H : Hp} {h : Heap} (ok : HOk P w H h) : ∀ {v : V} {k : NestedKey} {u : Value}, NkV H v k → RelV v u → NestedIs h k u
  | _, _, _, .non, r => by cases r; exact .none
  | _, _, _, .int i, r => by obtain ⟨t, rfl⟩ := r; exact .int i t
  | _, _, _, .str x, r => by obtain ⟨t, rfl⟩ := r; exact .text x t
  | _, _, _, .tup q t, r => by
    cases r
    obtain ⟨_, its, rs, o, h1, h2, n, h3⟩ := (show ObjOk P w H h _ (.tup _) from ok _ _ q)
    exact .tup h1 h2 h3 (by simpa using NksV.is ok t rs)
theorem NksV.is {P : Program} {w : World} {H : Hp} {h : Heap} (ok : HOk P w H h) : ∀ {vs : List V} {ks : List NestedKey} {us : List Value}, NksV H vs ks → Vals vs us → NestedAll h ks us
  | _, _, _, .nil, r => by cases r; exact .nil
  | _, _, _, .cons a t, r => by
    cases r with
    | cons r1 r2 => exact .cons (NkV.is ok a r1) (NksV.is ok t r2)
end
/-- the dict stands there -/
def NAt (w : World) (H : Hp) (a : Addr) (xs : List (NestedKey × Addr × Value)) : Prop :=
  H a = some (.ext (RawN w a xs)) ∧ xs.length ≤ sizeLine ∧ ∀ x ∈ xs, NkV H (.ref x.2.1) x.1 ∧ x.1.depth ≤ 8
theorem NAt.dict {P : Program} {w : World} {H : Hp} {h : Heap} {a : Addr} {xs : List (NestedKey × Addr × Value)} (n : NAt w H a xs) (ok : HOk P w H h) : (a == sysModules) = false ∧ h.DictOfH (nestedKind P w) a xs := by
  obtain ⟨e, _, hk⟩ := n
  obtain ⟨⟨hs, o, es, ep, h1, h2, h3, h4, h5⟩, _⟩ := (show ObjOk P w H h a (.ext (RawN w a xs)) from ok _ _ e)
  exact ⟨hs, o, es, ep, h1, h2, h3, h4, fun x hx => ⟨NkV.is ok (hk x hx).1 rfl, (hk x hx).2⟩, h5⟩
theorem KN.keys {K : PySem.W.Frag} {F H : Hp} (e : Ex F H) : ∀ {kds : List (NestedKey × D)} {xs : List (NestedKey × Addr × Value)}, KN K F kds xs → ∀ x ∈ xs, NkV H (.ref x.2.1) x.1 ∧ x.1.depth ≤ 8
  | _, _, .nil, x, hx => by cases hx
  | _, _, .cons (a := p) (b := q) h t, x, hx => by
    rcases List.mem_cons.mp hx with rfl | hx
    · obtain ⟨z1, ⟨d, z2, zd, z3⟩, _⟩ := h
      rw [← z1]
      exact ⟨Rep.nk e z3 z2, zd⟩
    · exact KN.keys e t x hx
theorem KN.val {K : PySem.W.Frag} {F : Hp} (k : NestedKey) : ∀ {kds : List (NestedKey × D)} {xs : List (NestedKey × Addr × Value)}, KN K F kds xs → (valD kds k = none ∧ atKey xs k = none) ∨ ∃ d p v, valD kds k = some d ∧ atKey xs k = some p ∧ RelV v p.2 ∧ Rep K F v d
  | _, _, .nil => .inl ⟨rfl, rfl⟩
  | _, _, .cons (a := p) (b := q) h t => by
    obtain ⟨z1, _, v, z4, z5⟩ := h
    by_cases e : p.1 = k
    · refine .inr ⟨p.2, q.2, v, ?_, ?_, z4, z5⟩
      · simp [valD, List.find?_cons, e]
      · simp [atKey, List.find?_cons, ← z1, e]
    · have e2 : ¬ q.1 = k := fun z => e (z1.trans z)
      rcases KN.val k t with ⟨h1, h2⟩ | ⟨d, p', v', h1, h2, h3, h4⟩
      · refine .inl ⟨?_, ?_⟩
        · simpa [valD, List.find?_cons, e] using h1
        · simpa [atKey, List.find?_cons, e2] using h2
      · refine .inr ⟨d, p', v', ?_, ?_, h3, h4⟩
        · simpa [valD, List.find?_cons, e] using h1
        · simpa [atKey, List.find?_cons, e2] using h2
theorem KN.len {K : PySem.W.Frag} {F : Hp} {kds : List (NestedKey × D)} {xs : List (NestedKey × Addr × Value)} (h : KN K F kds xs) : kds.length = xs.length := Paired.length h
theorem any_val {kds : List (NestedKey × D)} {k : NestedKey} : (kds.any fun kv => decide (kv.1 = k)) = (valD kds k).isSome := by
  unfold valD
  induction kds with
  | nil => rfl
  | cons a l ih =>
    by_cases e : a.1 = k
    · simp [List.find?_cons, e]
    · simp only [List.any_cons, e, decide_false, Bool.false_or, List.find?_cons]
      exact ih
theorem KN.put {K : PySem.W.Frag} {F : Hp} {kds : List (NestedKey × D)} {xs : List (NestedKey × Addr × Value)} (h : KN K F kds xs) {k : NestedKey} {b : Addr} {r : Value} {dk d : D} {v : V} (hk : dk.nkey = some k) (hd : k.depth ≤ 8) (rk : Rep K F (.ref b) dk) (rv : RelV v r) (rd : Rep K F v d) :
    KN K F (putD kds k d) (storedH xs k b r) := by
  have ev := KN.val k h
  unfold putD storedH
  rw [any_val]
  rcases ev with ⟨h1, h2⟩ | ⟨d', p', v', h1, h2, _⟩
  · rw [h1, h2]
    rw [if_neg (by simp), if_neg (by simp)]
    exact Paired.snoc h ⟨rfl, ⟨dk, hk, hd, rk⟩, v, rv, rd⟩
  · rw [h1, h2, if_pos (show (some d').isSome = true from rfl), if_pos (show (some p').isSome = true from rfl)]
    clear h1 h2
    induction h with
    | nil => exact .nil
    | @cons p q ps qs hq t ih =>
      refine .cons ?_ ih
      obtain ⟨z1, z2, v2, z4, z5⟩ := hq
      unfold putAt
      dsimp only
      by_cases e : p.1 = k
      · rw [if_pos e, if_pos (by rw [← z1]; exact e)]
        exact ⟨z1, z2, v, rv, rd⟩
      · rw [if_neg e, if_neg (by rw [← z1]; exact e)]
        exact ⟨z1, z2, v2, z4, z5⟩
theorem put_len {kds : List (NestedKey × D)} {k : NestedKey} {d : D} : (putD kds k d).length ≤ kds.length + 1 := by
  unfold putD
  split <;> simp
section
variable {X : Cx} {pos : Pos}
/-! ### {} -/
def dNewN (w : World) : DTE := fun S G Q => ∀ p, G p = none → Q (.rf p) (gput G p (.dN w []))
theorem pe_newN : PE X (.Dict [] [] pos) (fun _ H Q => ∀ p, H p = none → Q (.ref p) (upd H p (.ext (RawN X.w p [])))) := ⟨fun pins s σ H Q I h =>
  wpAny_Dict_empty ⟨.ref s.heap.objs.size, _, I.laid (a := s.heap.objs.size) (o := .ext (RawN X.w s.heap.objs.size [])) (t' := s.toks) (fun _ _ q => Heap.get?_push_of_some _ q) (Nat.le_refl _)
    ⟨⟨beq_eq_false_iff_ne.mpr (Ne.symm (Nat.ne_of_lt I.big)), _, #[], 0, Heap.get?_push_size _ rfl, ⟨rfl, rfl, rfl⟩, rfl, rfl, List.nodup_nil⟩, ⟨_, Heap.get?_push_size _ rfl⟩,
      fun h1 h2 ⟨a, o, es, ep, b, c⟩ k => ⟨a, o, es, ep, k o b, c⟩⟩, rfl, h _ (I.hok.fresh (Nat.le_refl _))⟩⟩
theorem de_newN : DE X (.Dict [] [] pos) (dNewN X.w) := by
  refine ⟨_, pe_newN, fun F H σ S G o Q' h Q k => ?_⟩
  intro p hp
  exact k _ _ _ _ _ (Go.alloc hp) (o.g.alloc (o := .dN X.w []) hp rfl ⟨[], upd_same, Nat.zero_le _, .nil⟩) (.rf p) (h p (o.g.free hp))
/-! ### in -/
def rInNV (w : World) (neg : Bool) : R2 := fun x y H Q => ∃ a b xs k, y = .ref a ∧ x = .ref b ∧ NAt w H a xs ∧ NkV H (.ref b) k ∧ k.depth ≤ 8 ∧ Q (.bl (if neg then !(atKey xs k).isSome else (atKey xs k).isSome)) H
theorem op_inN (hu : X.A.units + 100 < cLine) : OpR X (compareOp .In) (rInNV X.w false) := by
  intro pins s σ H x y v u Q I rx ry h
  obtain ⟨a, b, xs, k, rfl, rfl, n, nk, hd, q⟩ := h
  obtain rfl : u = Value.ref a := ry
  obtain rfl : v = Value.ref b := rx
  obtain ⟨hs, dd⟩ := n.dict I.hok
  exact wpAny_in_heap (knd := nestedKind X.prog X.w) (show _ + 8 < cLine by simp [Around.in1] ; omega) ⟨NkV.is I.hok nk rfl, hd⟩ hs dd ⟨.bl _, H, I.tok _, rfl, q⟩
theorem op_notInN (hu : X.A.units + 100 < cLine) : OpR X (compareOp .NotIn) (rInNV X.w true) := by
  intro pins s σ H x y v u Q I rx ry h
  obtain ⟨a, b, xs, k, rfl, rfl, n, nk, hd, q⟩ := h
  obtain rfl : u = Value.ref a := ry
  obtain rfl : v = Value.ref b := rx
  obtain ⟨hs, dd⟩ := n.dict I.hok
  exact wpAny_notIn_heap (knd := nestedKind X.prog X.w) (show _ + 8 < cLine by simp [Around.in1] ; omega) ⟨NkV.is I.hok nk rfl, hd⟩ hs dd ⟨.bl _, H, I.tok _, rfl, q⟩
def rInN (w : World) (neg : Bool) : DR2 := fun x y G Q => match y with
  | .rf a => (match G a with
    | some (.dN w' kds) => (match x with
      | .tup ds => (match D.nkeys ds with
        | some ks => w' = w ∧ (NestedKey.tup ks).depth ≤ 8 ∧ Q (.bl (if neg then !(valD kds (.tup ks)).isSome else (valD kds (.tup ks)).isSome)) G
        | none => False)
      | _ => False)
    | _ => False)
  | _ => False
theorem inN_core {neg : Bool} {F H : Hp} {G : GH} {x y : V} {dx dy : D} (g : Gok X.K F H G) (rx : Rep X.K F x dx) (ry : Rep X.K F y dy) {Q' : DQ} (h : rInN X.w neg dx dy G Q') {Q : VK} (k : KpE X.K F H G Q' Q) : rInNV X.w neg x y H Q := by
  unfold rInN at h
  split at h
  · rename_i a
    cases ry
    split at h
    · rename_i w' kds eg
      split at h
      · rename_i ds
        split at h
        · rename_i ks ek
          obtain ⟨rfl, hd, h⟩ := h
          obtain ⟨fa, xs, e, hz, kn⟩ := g.at_ a _ eg
          have nk := Rep.nk g.ex rx (k := .tup ks) (by simp [D.nkey, ek])
          cases rx with
          | tup q r =>
            refine ⟨a, _, xs, .tup ks, rfl, rfl, ⟨e, by rw [← kn.len]; exact hz, kn.keys g.ex⟩, nk, hd, ?_⟩
            have ev : (atKey xs (.tup ks)).isSome = (valD kds (.tup ks)).isSome := by
              rcases kn.val (.tup ks) with ⟨h1, h2⟩ | ⟨d, p, v, h1, h2, _⟩
              · rw [h1, h2]; rfl
              · rw [h1, h2]; rfl
            rw [ev]
            exact k F H _ _ G Go.refl g (.bl _) h
        · exact h.elim
      · exact h.elim
    · exact h.elim
  · exact h.elim
theorem od_inN (hu : X.A.units + 100 < cLine) : OpD X (compareOp .In) (rInN X.w false) := ⟨_, op_inN hu, fun F H G x y dx dy g rx ry Q' h Q k => inN_core g rx ry h k⟩
theorem od_notInN (hu : X.A.units + 100 < cLine) : OpD X (compareOp .NotIn) (rInN X.w true) := ⟨_, op_notInN hu, fun F H G x y dx dy g rx ry Q' h Q k => inN_core g rx ry h k⟩
/-! ### d[k] -/
def rItemNV (w : World) : R2 := fun x y H Q => ∃ a b xs k p, x = .ref a ∧ y = .ref b ∧ NAt w H a xs ∧ NkV H (.ref b) k ∧ k.depth ≤ 8 ∧ atKey xs k = some p ∧ ∃ v, RelV v p.2 ∧ Q v H
theorem ix_N (hu : X.A.units + 100 < cLine) : IxR X (rItemNV X.w) := by
  intro value slice pins s σ H x y v u Q I rx ry h hs
  obtain ⟨a, b, xs, k, p, rfl, rfl, n, nk, hd, hp, z, rz, q⟩ := h
  obtain rfl : v = Value.ref a := rx
  obtain rfl : u = Value.ref b := ry
  obtain ⟨hs', dd⟩ := n.dict I.hok
  exact tail_any dd.typeIs PySem.F.slot_dict_getitem.lookup (wpAny_getItem_heap (knd := nestedKind X.prog X.w) (show _ + 8 < cLine by simp [Around.in1] ; omega) ⟨NkV.is I.hok nk rfl, hd⟩ dd hp ⟨z, H, I.tok _, rz, q⟩) hs
def rItemN (w : World) : DR2 := fun x y G Q => match x with
  | .rf a => (match G a with
    | some (.dN w' kds) => (match y with
      | .tup ds => (match D.nkeys ds with
        | some ks => w' = w ∧ (NestedKey.tup ks).depth ≤ 8 ∧ (match valD kds (.tup ks) with
          | some d => Q d G
          | none => False)
        | none => False)
      | _ => False)
    | _ => False)
  | _ => False
theorem de_ixN {a b : Expr} {ta tb : DTE} (hu : X.A.units + 100 < cLine) (ha : DE X a ta) (hb : DE X b tb) (hs : PlainIx b := by intro _ _; rfl) : DE X (.Subscript a b pos) (dOp (rItemN X.w) ta tb) := by
  obtain ⟨t1, p1, r1⟩ := ha.ex
  obtain ⟨t2, p2, r2⟩ := hb.ex
  refine ⟨_, pe_ix (ix_N hu) p1 p2 hs, dop_of (a := a) (b := b) ?_ r1 r2⟩
  intro F H G x y dx dy g rx ry Q' h Q k
  unfold rItemN at h
  split at h
  · rename_i a'
    cases rx
    split at h
    · rename_i w' kds eg
      split at h
      · rename_i ds
        split at h
        · rename_i ks ek
          obtain ⟨rfl, hd, h⟩ := h
          split at h
          · rename_i d ed
            obtain ⟨fa, xs, e, hz, kn⟩ := g.at_ a' _ eg
            have nk := Rep.nk g.ex ry (k := .tup ks) (by simp [D.nkey, ek])
            cases ry with
            | tup q r =>
              rcases kn.val (.tup ks) with ⟨h1, h2⟩ | ⟨d', p, v, h1, h2, h3, h4⟩
              · rw [ed] at h1; cases h1
              · rw [ed] at h1
                cases h1
                exact ⟨a', _, xs, .tup ks, p, rfl, rfl, ⟨e, by rw [← kn.len]; exact hz, kn.keys g.ex⟩, nk, hd, h2, v, h3, k F H _ _ G Go.refl g h4 h⟩
          · exact h.elim
        · exact h.elim
      · exact h.elim
    · exact h.elim
  · exact h.elim
/-! ### d[k] = v -/
def rSetNV (w : World) : TSet := fun o i v H Q => ∃ a b xs k, o = .ref a ∧ i = .ref b ∧ NAt w H a xs ∧ NkV H (.ref b) k ∧ k.depth ≤ 8 ∧ ∀ r, RelV v r → Q (upd H a (.ext (RawN w a (storedH xs k b r))))
theorem set_N (hu : X.A.units + 100 < cLine) : PSet X (rSetNV X.w) := by
  intro pins s σ H o i v ov iv u Q I ro ri rv h
  obtain ⟨a, b, xs, k, rfl, rfl, n, nk, hd, q⟩ := h
  obtain rfl : ov = Value.ref a := ro
  obtain rfl : iv = Value.ref b := ri
  obtain ⟨hs, dd⟩ := n.dict I.hok
  refine wpAny_setItem_heap (knd := nestedKind X.prog X.w) (hsz := n.2.1) (show _ + 8 < cLine by simp [Around.in1] ; omega) ⟨NkV.is I.hok nk rfl, hd⟩ dd fun h' dd' sb => ⟨_, ?_, q u rv⟩
  obtain ⟨o', es, ep, h1, h2, h3, h4, _, h5⟩ := dd'
  refine d_write I (by rw [n.1]; exact True.intro) sb ⟨o', h1⟩ ⟨⟨hs, o', es, ep, h1, h2, h3, h4, h5⟩, ⟨o', h1⟩, fun g1 g2 ⟨a1, o1, es1, ep1, b1, c1⟩ kk => ⟨a1, o1, es1, ep1, kk o1 b1, c1⟩⟩
def dSetSubN (w : World) (to ti : DTE) : DTG := fun v S G Q => to S G fun x G1 => ti S G1 fun i G2 => match x with
  | .rf a => (match G2 a with
    | some (.dN w' kds) => (match i with
      | .tup ds => (match D.nkeys ds with
        | some ks => w' = w ∧ (NestedKey.tup ks).depth ≤ 8 ∧ kds.length < sizeLine ∧ Q S (gput G2 a (.dN w (putD kds (.tup ks) v)))
        | none => False)
      | _ => False)
    | _ => False)
  | _ => False
theorem dg_subN {o i : Expr} {to ti : DTE} (hu : X.A.units + 100 < cLine) (ho : DE X o to) (hi : DE X i ti)
    (ha : ∀ v, assign (.Subscript o i pos) X.env v = (do let ov ← holding [v] (eval o X.env); let iv ← holding [v, ov] (eval i X.env); standAt pos; holding [v, ov, iv] (setItem ov iv v); release [v, ov, iv] []) := by intro _; rfl) : DG X (.Subscript o i pos) (dSetSubN X.w to ti) := by
  obtain ⟨t1, p1, r1⟩ := ho.ex
  obtain ⟨t2, p2, r2⟩ := hi.ex
  refine ⟨_, pg_sub p1 p2 (set_N hu) ha, fun F H σ S G v d o' r Q' h Q k => ?_⟩
  refine r1 F H σ S G o' _ h _ fun F1 H1 x dx G1 e1 g1 q1 h1 => ?_
  refine r2 F1 H1 σ S G1 (o'.go e1 g1) _ h1 _ fun F2 H2 y dy G2 e2 g2 q2 h2 => ?_
  have rv := (r.mono e1.ex).mono e2.ex
  dsimp only at h2
  split at h2
  · rename_i a
    cases q1
    split at h2
    · rename_i w' kds eg
      split at h2
      · rename_i ds
        split at h2
        · rename_i ks ek
          obtain ⟨rfl, hd, hl, h2⟩ := h2
          obtain ⟨fa, xs, e, hz, kn⟩ := g2.at_ a _ eg
          have hk : (D.tup ds).nkey = some (.tup ks) := by simp [D.nkey, ek]
          have nk := Rep.nk g2.ex q2 hk
          cases q2 with
          | tup q rr =>
            refine ⟨a, _, xs, .tup ks, rfl, rfl, ⟨e, by rw [← kn.len]; exact hz, kn.keys g2.ex⟩, nk, hd, fun r' hr' => ?_⟩
            have kn2 := kn.put hk hd (.tup q rr) hr' rv
            have g3 := g2.put (u := .ext (RawN X.w a (storedH xs (.tup ks) _ r'))) (o := .dN X.w (putD kds (.tup ks) d)) eg rfl rfl ⟨_, upd_same, Nat.le_trans put_len hl, kn2⟩
            exact k F2 _ σ S _ ((e1.trans e2).trans (Go.put eg)) ⟨g3, (o'.s.mono e1.ex).mono e2.ex⟩ h2
        · exact h2.elim
      · exact h2.elim
    · exact h2.elim
  · exact h2.elim
end
end DL
end
section
set_option Elab.async false
set_option linter.all false
set_option maxRecDepth 100000
set_option maxHeartbeats 4000000
/-! DLo: len(x) by an own __len__. -/
namespace DL
open PySem PySem.Spec PyProof.Rows L2

section
variable {X : Cx} {pos : Pos}
open PySem.Builtin in
theorem len_fn {prog : Program} {w : World} {A : Around} {E : Value → Shared → Prop} {s : Shared} {K : PySem.W.Frag} {x C f : Addr} {ox : Obj} {od : Option Obj} {Q : Value → Shared → Prop} (kin : K.In s.heap) (I : PySem.W.InstAt s.heap x ox C od)
    (hs : PySem.W.findIn K (.ref C) "__len__" = some (some (.ref f))) (hf : PySem.W.isFn K (.ref f) = true)
    (h : wpAny (model prog w) A.in1 (call (.ref f) [.ref x]) (fun r s' => ∃ n u, r = .int n u ∧ 0 ≤ n ∧ n < 2 ^ 63 ∧ Q (.int n s'.toks) { s' with toks := s'.toks + 1 }) E s) : wpAny (model prog w) A (call (.builtin "len") [.ref x]) Q E s := by
  refine Calls.call_function_entry kind_len plain_len entry_len (args_len1 _) ?_
  unfold Builtin.«len»
  refine wpAny_bind (m := oneArg "len" _) (wpAny_pure ?_)
  refine wpAny_bind (m := callSpecial? (.ref x) (Str.ofString "__len__")) (PySem.W.special_fn kin I hs (beq_iff_eq.mp hf) (wpAny_mono h (fun r s' hr => ?_) fun _ _ y => y))
  obtain ⟨n, u, rfl, h0, h1, hq⟩ := hr
  refine wpAny_bind (wpAny_holding (wpAny_pure ?_))
  refine wpAny_bind (wpAny_letGo ?_)
  show wpAny _ _ (if n < 0 then _ else _) _ _ _
  rw [if_neg (by omega)]
  show wpAny _ _ (if n ≥ 2 ^ 63 then _ else _) _ _ _
  rw [if_neg (by omega)]
  exact wpAny_bind (wpAny_mkInt (wpAny_pure ⟨_, rfl, hq⟩))
theorem goes_i1 {CX : CXT} {k : Nat} {f : Addr} {fd : FuncData} {ps : List Str} {sp : Sp} {E : XK} {pins : List (Addr × Obj)} {σ : L2.St} {H : Hp} {s : Shared} {Q : VK} {us ws : List Value} {zs : List V} (F : FnG X.prog X.w X.K X.mg X.base CX k f fd ps sp) (hA : X.A.guards = some []) (hr : Room (k + 1) X.A)
    (bd : ∀ s : Shared, X.K.In s.heap → ws.length = ps.length → BindsTo s fd ⟨us, []⟩ (ps.zip ws)) (hx : Passes CX X E)
    (I : Inv X pins σ H s) (r : Vals zs ws) (h : sp zs H Q E) : wpAny (model X.prog X.w) X.A.in1 (call (.ref f) us) (EP X pins σ Q) X.xe s := by
  have many : ws.length = ps.length := r.length ▸ F.many zs H Q E h
  refine wpAny_call (codeAny_mono (F.goes X.A.in1 X.stack s H ⟨us, []⟩ ws zs Q E (by first | exact hA | simpa [Around.in1] using hA) hr.in1 I.env0.in1 (bd s I.kIn many) r h) ?_)
  intro res s' z
  match res, z with
  | .error er, z => exact hx pins σ H s er s' I z
  | .ok (.ret u), z => exact I.after z
  | .ok .next, z => exact z.elim
  | .ok .brk, z => exact z.elim
  | .ok .cont, z => exact z.elim
def rLenO (C : Addr) (sp : SpD) (ds : List D) (G : GH) (Q : DQ) : Prop := match ds with
  | [x] => (match x.cur G with
    | .obj C1 _ => C1 = C ∧ sp [x] G fun d G' => match d with
      | .int n => 0 ≤ n ∧ n < 2 ^ 63 ∧ Q (.int n) G'
      | _ => False
    | _ => False)
  | _ => False
def vLenO (X : Cx) (C : Addr) (sp : SpD) : List V → Hp → VK → Prop := fun xs H Q => ∃ a dx fs, xs = [.ref a] ∧ H a = some (.ins C dx fs) ∧ SpOf X.K sp [.ref a] H (fun v H' => ∃ n, v = .int n ∧ 0 ≤ n ∧ n < 2 ^ 63 ∧ Q v H') (fun _ _ _ => False)
theorem cr_lenO {C : Addr} {k : Nat} {ps : List Str} {sp : SpD} (c : CalM X.prog X.w X.K X.mg X.base C "__len__" k ps sp) (hA : X.A.guards = some []) (hr : Room (k + 1) X.A) : CallR X (.builtin "len") (vLenO X C sp) := by
  obtain ⟨f, fd, M, Fn, hb⟩ := c.ex
  intro pins s σ H xs us Q I r hq
  obtain ⟨a, dx, fs, rfl, ha, q⟩ := hq
  rw [Vals.ref1 r]
  obtain ⟨mA, J, _⟩ := ins_get I.hok ha
  obtain ⟨od, J, _⟩ := J.look
  refine len_fn I.kIn J M.at_ M.fn ?_
  have r2 : Vals [V.ref a] [Value.ref a] := .cons rfl .nil
  refine wpAny_mono (goes_i1 (us := [.ref a]) Fn hA hr (fun s2 i l => by simpa using hb s2 [.ref a] i (by simpa using l)) pass0 I r2 q) (fun w s' z => ?_) fun _ _ z => z
  obtain ⟨v', H', I', rv, n, rfl, h0, h1, q'⟩ := z
  obtain ⟨t, rfl⟩ := rv
  exact ⟨n, t, rfl, h0, h1, .int n, H', I'.tok _, ⟨_, rfl⟩, q'⟩
theorem cd_lenO {C : Addr} {k : Nat} {ps : List Str} {sp : SpD} (c : CalM X.prog X.w X.K X.mg X.base C "__len__" k ps sp) (hA : X.A.guards = some []) (hr : Room (k + 1) X.A) : CallD X (.builtin "len") (rLenO C sp) := by
  refine ⟨_, cr_lenO c hA hr, fun F H G vs ds g rs Q' h Q k => ?_⟩
  unfold rLenO at h
  split at h
  · rename_i x
    split at h
    · rename_i C1 fs e1
      obtain ⟨rfl, h⟩ := h
      cases rs with
      | cons r1 rt =>
        cases rt
        obtain ⟨a, d1, k1, rfl, ha, _⟩ := cur_obj g r1 e1
        refine ⟨a, d1, k1, rfl, ha, F, G, [x], _, g, .cons r1 .nil, h, ?_⟩
        intro F' H' v d G' e1 g1 r1 h1
        split at h1
        · cases r1
          exact ⟨_, rfl, h1.1, h1.2.1, k F' H' _ _ G' e1 g1 (.int _) h1.2.2⟩
        · exact h1.elim
    · exact h.elim
  · exact h.elim
end
end DL
end
section
set_option Elab.async false
set_option linter.all false
set_option maxRecDepth 100000
set_option maxHeartbeats 4000000
/-! DLext: l.extend(tuple). -/
namespace DL
open PySem PySem.Spec PyProof.Rows L2
set_option maxRecDepth 8000 in
theorem ext_tup (l : Addr) (items : Array Value) (n : Nat) (b : Addr) (items2 : Array Value) (n2 : Nat) (dd : Option Addr) (sl : Array (Option Value)) (hs0 : ¬(!items.isEmpty && Builtin.List.listTooLong (items.size + items2.size)) = true) (hs1 : items.size ≤ sizeLine) (hs2 : items.size + items2.size ≤ sizeLine + 1 := by seq_fits) :
    Meets (Builtin.«list.extend» ⟨[.ref l, .ref b], []⟩) (fun _ R s => s.heap.get? l = some { cls := .type "list", dict := none, data := .seq items n, slots := #[] } ∧ s.heap.get? b = some { cls := .type "tuple", dict := dd, data := .seq items2 n2, slots := sl } ∧ R (.ok (.ret Value.none)) { s with heap := s.heap.update l (Obj.mapSeq fun x => x ++ items2), toks := s.toks }) :=
  .of_wp fun prog w A R s h => by
    obtain ⟨hp, g, d, tk, os⟩ := s; obtain ⟨hl, hb, h⟩ := h; have f1 := AutoSeq1.idx_int; have f2 := AutoSeq1.sub_tuple_tuple; have f3 := AutoSeq1.sub_list_list; have f4 := AutoSeq1.sub_tuple_list; have f5 := AutoSeq1.sub_list_tuple;
    have hz' : (items ++ items2).size ≤ sizeLine + 1 := by rw [Array.size_append]; exact hs2
    wp_walk using (wpAny_updateSeq hl rfl (hz := hs1) (_hz' := hz')), AutoSeq1.wpAny_loadPart' hl, AutoSeq1.wpAny_loadPart' hb; exact ⟨_, rfl, h⟩
section
variable {X : Cx}
def vExtT : V → List V → Hp → VK → Prop := fun x vs H Q => ∃ l b xs zs, x = .ref l ∧ vs = [.ref b] ∧ H l = some (.lst xs) ∧ H b = some (.tup zs) ∧ xs.length + zs.length ≤ sizeLine ∧ Q .non (upd H l (.lst (xs ++ zs)))
theorem mt_extT : MtM X "list.extend" vExtT := by
  intro pins s σ H x vs v us Q I rx rv h
  obtain ⟨l, b, xs, zs, rfl, rfl, hH, hB, hz, q⟩ := h
  cases rx
  obtain ⟨u, rfl, ru⟩ := rv.one
  cases ru
  obtain ⟨z, its, n, r, hl, e⟩ := I.lstM hH
  obtain ⟨z2, its2, r2, o2, e2, hc, n2, hd⟩ := (show ObjOk X.prog X.w H s.heap b (.tup zs) from I.hok _ _ hB)
  have hl2 := r2.length
  obtain ⟨cls, dd, dt, sl⟩ := o2
  simp only at hc hd
  subst hc hd
  have hsz : its.toArray.size + its2.toArray.size ≤ sizeLine := by rw [List.size_toArray, List.size_toArray]; omega
  have hlong : ¬ (!its.toArray.isEmpty && Builtin.List.listTooLong (its.toArray.size + its2.toArray.size)) = true := by
    rw [notLongL hsz, Bool.and_false]
    exact Bool.false_ne_true
  refine call_meets F.slot_list_extend ⟨_, e, rfl⟩ F.entry_list_extend (F.args_list_extend_2 _ _)
    (ext_tup l its.toArray n b its2.toArray n2 dd sl hlong (by rw [List.size_toArray]; omega) (by omega)) ⟨e, e2, ?_⟩
  refine ⟨.non, _, I.lset (its' := its ++ its2) hH e (by simp) (r.append r2) ?_, rfl, q⟩
  rw [List.length_append]
  omega
/-- l.extend(t), t a tuple -/
def rExtT (x : D) (ds : List D) (G : GH) (Q : DQ) : Prop := match x, ds with
  | .rf a, [.tup ys] => (match G a with
    | some (.lst xs) => xs.length + ys.length ≤ sizeLine ∧ Q .non (gput G a (.lst (xs ++ ys)))
    | _ => False)
  | _, _ => False
theorem md_extT : MtD X "list.extend" rExtT := by
  refine ⟨_, mt_extT, fun F H G x dx vs ds g rx rs Q' h Q k => ?_⟩
  unfold rExtT at h
  split at h
  · rename_i a ys
    split at h
    · rename_i xs eg
      cases rx
      cases rs with
      | cons r b =>
        cases b
        cases r with
        | tup hb rz =>
          obtain ⟨fa, ws, ha, rw'⟩ := g.at_ a _ eg
          refine ⟨a, _, ws, _, rfl, rfl, ha, g.ex _ _ hb, by rw [rw'.length, rz.length]; exact h.1, ?_⟩
          exact k F _ _ _ _ (Go.put eg) (g.put (o := .lst (xs ++ ys)) eg rfl rfl ⟨_, upd_same, rw'.append rz⟩) .non h.2
    · exact h.elim
  · exact h.elim
end
end DL
end
section
set_option Elab.async false
set_option linter.all false
set_option maxRecDepth 100000
set_option maxHeartbeats 4000000
/-! DLnil: a list of anything beside []. -/
namespace DL
open PySem PySem.Spec PyProof.Rows L2
section
variable {X : Cx}
def vNil (neg : Bool) : R2 := fun x y H Q => ∃ a b xs, x = .ref a ∧ y = .ref b ∧ H a = some (.lst xs) ∧ H b = some (.lst []) ∧ Q (.bl (if neg then !xs.isEmpty else xs.isEmpty)) H
theorem nil_at {pins : List (Addr × Obj)} {σ : L2.St} {H : Hp} {s : Shared} {a : Addr} {xs : List V} (I : Inv X pins σ H s) (h : H a = some (.lst xs)) : ∃ its : List Value, its.length = xs.length ∧ s.heap.IsList a its.toArray := by
  obtain ⟨_, its, n, r, hl, e⟩ := I.lstM h
  exact ⟨its, hl.symm, _, e, rfl, n, rfl⟩
theorem op_eqNil (hu : X.A.units + 100 < cLine) : OpR X (compareOp .Eq) (vNil false) := by
  intro pins s σ H x y v u Q I rx ry h
  obtain ⟨a, b, xs, rfl, rfl, ha, hb, q⟩ := h
  cases rx
  cases ry
  obtain ⟨its, hl, la⟩ := nil_at I ha
  obtain ⟨jts, hj, lb⟩ := nil_at I hb
  show wpAny (model X.prog X.w) X.A (richCompare .Eq (.ref a) (.ref b)) (EP X pins σ Q) X.xe s
  have hj0 : jts = [] := List.length_eq_zero_iff.mp hj
  subst hj0
  cases xs with
  | nil =>
    have hi0 : its = [] := List.length_eq_zero_iff.mp hl
    subst hi0
    exact PySem.SeqAt.RcAt.lists (e := fun _ => true) la lb rfl (by omega) (fun j h1 _ => absurd h1 (by simp)) X.prog X.w _ _ ⟨.bl true, H, I, rfl, q⟩
  | cons z zs =>
    exact PySem.SeqAt.RcAt.lists_lengths la lb (by simp only [List.length_cons] at hl; simp [hl]) (by omega) X.prog X.w _ _ ⟨.bl false, H, I, rfl, q⟩
theorem op_neNil (hu : X.A.units + 100 < cLine) : OpR X (compareOp .NotEq) (vNil true) := by
  intro pins s σ H x y v u Q I rx ry h
  obtain ⟨a, b, xs, rfl, rfl, ha, hb, q⟩ := h
  cases rx
  cases ry
  obtain ⟨its, hl, la⟩ := nil_at I ha
  obtain ⟨jts, hj, lb⟩ := nil_at I hb
  show wpAny (model X.prog X.w) X.A (richCompare .NotEq (.ref a) (.ref b)) (EP X pins σ Q) X.xe s
  have hj0 : jts = [] := List.length_eq_zero_iff.mp hj
  subst hj0
  cases xs with
  | nil =>
    have hi0 : its = [] := List.length_eq_zero_iff.mp hl
    subst hi0
    exact PySem.SeqAt.RcNeAt.lists (e := fun _ => true) la lb rfl (by omega) (fun j h1 _ => absurd h1 (by simp)) X.prog X.w _ _ ⟨.bl false, H, I, rfl, q⟩
  | cons z zs =>
    exact PySem.SeqAt.RcNeAt.lists_lengths la lb (by simp only [List.length_cons] at hl; simp [hl]) (by omega) X.prog X.w _ _ ⟨.bl true, H, I, rfl, q⟩
def rNil (neg : Bool) : DR2 := fun x y G Q => match x.cur G, y.cur G with
  | .lst xs, .lst [] => Q (.bl (if neg then !xs.isEmpty else xs.isEmpty)) G
  | _, _ => False
theorem nil_core {neg : Bool} {F H : Hp} {G : GH} {x y : V} {dx dy : D} (g : Gok X.K F H G) (rx : Rep X.K F x dx) (ry : Rep X.K F y dy) {Q' : DQ} (h : rNil neg dx dy G Q') {Q : VK} (k : KpE X.K F H G Q' Q) : vNil neg x y H Q := by
  unfold rNil at h
  split at h
  · rename_i xs e1 e2
    obtain ⟨a, vs, rfl, ha, rs⟩ := cur_list g rx e1
    obtain ⟨b, ws, rfl, hb, rt⟩ := cur_list g ry e2
    cases rt
    refine ⟨a, b, vs, rfl, rfl, ha, hb, ?_⟩
    have e : vs.isEmpty = xs.isEmpty := by
      have := rs.length
      cases vs <;> cases xs <;> simp_all
    rw [e]
    exact k F H _ _ G Go.refl g (.bl _) h
  · exact h.elim
theorem od_eqNil (hu : X.A.units + 100 < cLine) : OpD X (compareOp .Eq) (rNil false) := ⟨_, op_eqNil hu, fun F H G x y dx dy g rx ry Q' h Q k => nil_core g rx ry h k⟩
theorem od_neNil (hu : X.A.units + 100 < cLine) : OpD X (compareOp .NotEq) (rNil true) := ⟨_, op_neNil hu, fun F H G x y dx dy g rx ry Q' h Q k => nil_core g rx ry h k⟩
end
end DL
end
section
set_option Elab.async false
set_option linter.all false
set_option maxRecDepth 100000
set_option maxHeartbeats 4000000
/-! DLup: text.upper(). -/
namespace DL
open PySem PySem.Spec PyProof.Rows L2
section
variable {X : Cx}
def rUpperD (x : D) (ds : List D) (G : GH) (Q : DQ) : Prop := match x, ds with
  | .str a, [] => a.length ≤ 5592405 ∧ Q (.str (Txt.upper a)) G
  | _, _ => False
theorem md_upper : MtD X "str.upper" rUpperD := by
  refine ⟨_, mt_upper, fun F H G x dx vs ds g rx rs Q' h Q k => ?_⟩
  unfold rUpperD at h
  split at h
  · cases rx
    cases rs
    exact ⟨_, rfl, rfl, h.1, k F H _ _ G Go.refl g (.str _) h.2⟩
  · exact h.elim
end
end DL
end
section
set_option Elab.async false
set_option linter.all false
set_option maxRecDepth 100000
set_option maxHeartbeats 4000000
/-! DLrt: tuple[::-1]; a tuple of anything beside (); str(int). -/
namespace DL
open PySem PySem.Spec PyProof.Rows L2 HT
section
variable {prog : Program} {w : World} {A : Around} {E : Value → Shared → Prop} {s : Shared}
theorem sliceApplied_rev {sl : Addr} {t : Tok} {n : Nat} {Q : Int × Int × Nat → Shared → Prop} (hs : s.heap.IsSliceOf sl .none .none (.int (-1) t))
    (h : Q ((n : Int) - 1, -1, n) s) : wpAny (model prog w) A (Builtin.Slice.sliceApplied (.ref sl) (pure (n : Int))) Q E s := by
  obtain ⟨os, hos, hcs, hds⟩ := id hs
  unfold Builtin.Slice.sliceApplied Builtin.Slice.sliceFields
  refine wpAny_bind (wpAny_bind (wpAny_field hos hds (x := .none) rfl (wpAny_bind (wpAny_field hos hds (x := .none) rfl (wpAny_bind (wpAny_field hos hds (x := .int (-1) t) rfl (wpAny_pure ?_)))))))
  refine wpAny_bind (slicePart_int ?_)
  show wpAny _ _ (if ((-1 : Int) == 0) = true then _ else _) _ _ s
  rw [if_neg (by decide)]
  refine wpAny_bind (slicePart_none (wpAny_bind (slicePart_none (wpAny_bind (wpAny_pure ?_)))))
  show wpAny _ _ (pure ((n : Int) - 1, (-1 : Int), Builtin.Slice.slicePlaces ((n : Int) - 1) (-1) (-1))) _ _ s
  have e : Builtin.Slice.slicePlaces ((n : Int) - 1) (-1) (-1) = n := by
    unfold Builtin.Slice.slicePlaces
    have h1 : ¬ ((-1 : Int) > 0) := by omega
    rw [if_neg h1]
    split
    · have : (n : Int) - 1 - -1 - 1 = (n : Int) - 1 := by omega
      rw [this, show (-(-1) : Int) = 1 by decide, Int.ediv_one]
      omega
    · omega
  rw [e]
  exact wpAny_pure h
theorem pick_rev (xs : Array Value) : ((List.range xs.size).filterMap fun (m : Nat) => xs[((xs.size : Int) - 1 + (m : Int) * -1).toNat]?).toArray = xs.toList.reverse.toArray := by
  have e : (List.range xs.size).filterMap (fun (m : Nat) => xs[((xs.size : Int) - 1 + (m : Int) * -1).toNat]?) = ((List.range xs.size).map fun k => xs.size - 1 - k).filterMap (xs[·]?) := by
    rw [List.filterMap_map]
    have e : (fun (m : Nat) => xs[((xs.size : Int) - 1 + (m : Int) * -1).toNat]?) = (fun x => xs[x]?) ∘ fun k => xs.size - 1 - k := by
      funext m
      have e : ((xs.size : Int) - 1 + (m : Int) * -1).toNat = xs.size - 1 - m := by omega
      rw [e]
      rfl
    rw [e]
  rw [e, PySem.W.krv_range, List.filterMap_reverse, PySem.W.krv_all]
theorem getItem_tuple_rev {t sl : Addr} {items : Array Value} {u : Tok} {Q : Value → Shared → Prop} (ht : IsTup s.heap t items) (hs : s.heap.IsSliceOf sl .none .none (.int (-1) u))
    (h : Q (.ref s.heap.objs.size) { s with heap := s.heap.push { cls := .type "tuple", data := .seq items.toList.reverse.toArray } })
    (hsz : items.size ≤ sizeLine) : wpAny (model prog w) A (getItem (.ref t) (.ref sl)) Q E s := by
  have htake : sizeOk (.seq items.toList.reverse.toArray) := by
    show items.toList.reverse.toArray.size ≤ sizeLine
    rw [List.size_toArray, List.length_reverse, Array.length_toList]
    exact hsz
  obtain ⟨os, hos, hcs, hds⟩ := id hs
  have hTs : s.TypeIs (.ref sl) "slice" := ⟨os, hos, hcs⟩
  unfold getItem
  try with_reducible refine wpAny_holding ?_
  first | refine wpAny_bind (wpAny_pure ?_) | skip
  refine wpAny_bind (wpAny_sequenceKey ht.typeIs (by decide) ?_)
  refine wpAny_bind (wpAny_callSpecial?_slot (name := Str.ofString "__getitem__") ht.typeIs PyProof.Rows.slot_tuple_getitem
    (wpAny_call_entry PyProof.Rows.slot_tuple_getitem ht.typeIs entry_tuple_getitem ?_ (args_tuple_getitem _ _)))
  show wpAny _ _ (Builtin.Tuple.tupleItemsOf (.ref t) >>= _) _ _ s
  refine wpAny_bind (tupleItemsOf_ ht ?_)
  refine wpAny_bind (wpAny_typeOf hTs ?_)
  rw [if_pos (by decide)]
  refine wpAny_bind (sliceApplied_rev hs ?_)
  have hno : ¬ ((((items.size : Int) - 1) == 0 && (-1 : Int) == 1 && items.size == items.size) = true) := by
    intro q
    rw [Bool.and_eq_true, Bool.and_eq_true] at q
    exact absurd q.1.2 (by decide)
  show wpAny _ _ (if ((((items.size : Int) - 1) == 0 && (-1 : Int) == 1 && items.size == items.size) = true) then _ else _) _ _ s
  rw [if_neg hno, pick_rev]
  first
    | exact wpAny_bind (m := Builtin.Tuple.tupleExact _) (wpAny_newObj_type (wpAny_pure ⟨_, rfl, wpAny_pure h⟩) htake)
    | exact wpAny_bind (m := Builtin.Tuple.tupleExact _) (wpAny_newObj_type (wpAny_bind (wpAny_pure (wpAny_pure ⟨_, rfl, wpAny_pure h⟩))) htake)
    | exact wpAny_bind (wpAny_bind (m := Builtin.Tuple.tupleExact _) (wpAny_newObj_type (wpAny_pure (wpAny_pure ⟨_, rfl, wpAny_pure h⟩)) htake))
    | exact wpAny_bind (wpAny_bind (m := Builtin.Tuple.tupleExact _) (wpAny_newObj_type (wpAny_pure ⟨_, rfl, wpAny_pure h⟩) htake))
end
section
variable {X : Cx} {pos : Pos}
def tRevT (K : PySem.W.Frag) (te : TE) : TE := fun σ H Q => te σ H fun x H1 => ∃ a xs, x = .ref a ∧ SqT K H1 a xs ∧ ∀ p, H1 p = none → Q (.ref p) (upd H1 p (.tup xs.reverse))
theorem pe_revT {e : Expr} {te : TE} {k : Nat} {p1 p2 p3 pos : Pos} (he : PE X e te) : PE X (.Subscript e (.Slice none none (some (.UnaryOp .USub (.Constant (.int 1) k p1) p2)) p3) pos) (tRevT X.K te) := by
  refine ⟨fun pins s σ H Q I h => ?_⟩
  refine Subscript_ (thn (he.run pins s σ H _ I h) fun v s1 ⟨x, H1, I1, r1, q1⟩ => ?_)
  obtain ⟨a, xs, ex, hx, q⟩ := q1
  subst ex
  cases r1
  have hst : PO X (some (.UnaryOp .USub (.Constant (.int 1) k p1) p2)) (tPart (tUn (rU fun i => .int (-i)) (tC (.int 1)))) := po_some (pe_un un_neg pe_int)
  refine wpAny_Slice (thn (po_none.run pins s1 σ H1 (fun o H2 => o = none ∧ H2 = H1) I1 ⟨rfl, rfl⟩) fun vl s2 ⟨l, H2, I2, pl, el, e2⟩ => ?_)
  subst el e2
  refine thn (po_none.run pins s2 σ H2 (fun o H3 => o = none ∧ H3 = H2) I2 ⟨rfl, rfl⟩) fun vu s3 ⟨u, H3, I3, pu, eu, e3⟩ => ?_
  subst eu e3
  refine thn (hst.run pins s3 σ H3 (fun o H4 => o = some (-1) ∧ H4 = H3) I3 ⟨1, rfl, -1, rfl, rfl, rfl⟩) fun vs s4 ⟨o, H4, I4, ps, eo, e4⟩ => ?_
  subst eo e4
  have I5 : Inv X pins σ H4 { s4 with heap := s4.heap.push { cls := .type "slice", data := .fields #[vl, vu, vs] } } := I4.kept (t' := s4.toks) fun b ob q => Heap.get?_push_of_some _ q
  obtain ⟨its, r, ht, hz⟩ := I5.tuple hx
  have hlen := r.length
  show wpAny (model X.prog X.w) X.A (subscriptTail e (.Slice none none (some (.UnaryOp .USub (.Constant (.int 1) k p1) p2)) p3) (.ref a) (.ref s4.heap.objs.size)) (EP X pins σ Q) X.xe { s4 with heap := s4.heap.push { cls := .type "slice", data := .fields #[vl, vu, vs] } }
  refine tail_any (ops := [.ref a, .ref s4.heap.objs.size]) ht.typeIs (PyProof.Rows.slot_tuple_getitem.lookup) ?_ (by with_unfolding_all rfl)
  cases pl
  cases pu
  cases ps with
  | int _ uk =>
    refine getItem_tuple_rev ht (Heap.IsSliceOf.new _ .none .none (.int (-1) uk)) ?_ (by rw [List.size_toArray]; omega)
    refine ⟨.ref _, _, I5.laid (t' := s4.toks) (o := .tup xs.reverse) (fun b ob q => Heap.get?_push_of_some _ q) (Nat.le_refl _) ?_, rfl, q _ (I5.hok.fresh (Nat.le_refl _))⟩
    exact ⟨by rw [List.length_reverse]; exact hz, its.reverse, r.reverse, _, Heap.get?_push_size _ rfl, rfl, 0, rfl⟩
def dRevT (te : DTE) : DTE := fun S G Q => te S G fun d G1 => match d with
  | .tup xs => Q (.tup xs.reverse) G1
  | _ => False
theorem de_revT {e : Expr} {te : DTE} {k : Nat} {p1 p2 p3 : Pos} (he : DE X e te) : DE X (.Subscript e (.Slice none none (some (.UnaryOp .USub (.Constant (.int 1) k p1) p2)) p3) pos) (dRevT te) := by
  obtain ⟨t, p, r⟩ := he.ex
  refine ⟨_, pe_revT p, fun F H σ S G o Q' h Q kk => ?_⟩
  refine r F H σ S G o _ h _ fun F1 H1 v d G1 e1 g1 q1 h1 => ?_
  dsimp only at h1
  split at h1
  · cases q1 with
    | tup ha rs =>
      rename_i vs
      refine ⟨_, _, rfl, .inl (.inl (g1.ex _ _ ha)), fun p hp => ?_⟩
      have gr := Gr.new (u := .tup vs.reverse) g1.ex hp
      exact kk _ _ _ _ G1 (e1.trans gr.go) (g1.grow gr) (.tup upd_same (rs.reverse.mono gr.ff)) h1
  · exact h1.elim
/-! ### a tuple of anything beside () -/
def vNilT (neg : Bool) : R2 := fun x y H Q => ∃ a b xs, x = .ref a ∧ y = .ref b ∧ H a = some (.tup xs) ∧ H b = some (.tup []) ∧ Q (.bl (if neg then !xs.isEmpty else xs.isEmpty)) H
theorem nilT_at {pins : List (Addr × Obj)} {σ : L2.St} {H : Hp} {s : Shared} {a : Addr} {xs : List V} (I : Inv X pins σ H s) (h : H a = some (.tup xs)) : ∃ its : List Value, its.length = xs.length ∧ s.heap.IsTuple a its.toArray := by
  obtain ⟨its, r, p, z⟩ := I.tuple (.inl (.inl h))
  exact ⟨its, r.length.symm, p⟩
theorem op_neNilT (hu : X.A.units + 100 < cLine) : OpR X (compareOp .NotEq) (vNilT true) := by
  intro pins s σ H x y v u Q I rx ry h
  obtain ⟨a, b, xs, rfl, rfl, ha, hb, q⟩ := h
  cases rx
  cases ry
  obtain ⟨its, hl, la⟩ := nilT_at I ha
  obtain ⟨jts, hj, lb⟩ := nilT_at I hb
  show wpAny (model X.prog X.w) X.A (richCompare .NotEq (.ref a) (.ref b)) (EP X pins σ Q) X.xe s
  have hj0 : jts = [] := List.length_eq_zero_iff.mp hj
  subst hj0
  cases xs with
  | nil =>
    have hi0 : its = [] := List.length_eq_zero_iff.mp hl
    subst hi0
    exact PySem.SeqAt.RcNeAt.tuples (e := fun _ => true) la lb (by omega) (fun j h1 _ => absurd h1 (by simp)) X.prog X.w _ _ ⟨.bl false, H, I, rfl, q⟩
  | cons z zs =>
    have hne : (its.toArray.size == ([] : List Value).toArray.size) = false := by simp only [List.length_cons] at hl; simp [hl]
    refine PySem.SeqAt.RcNeAt.tuples (e := fun _ => true) la lb (by omega) (fun j h1 h2 => absurd h2 (by simp)) X.prog X.w _ _ ⟨.bl true, H, I, ?_, q⟩
    have hk : (!((List.range (min its.toArray.size ([] : List Value).toArray.size)).all (fun _ => true) && its.toArray.size == ([] : List Value).toArray.size)) = true := by rw [hne, Bool.and_false]; rfl
    rw [hk]
    rfl
def rNilT (neg : Bool) : DR2 := fun x y G Q => match x, y with
  | .tup xs, .tup [] => Q (.bl (if neg then !xs.isEmpty else xs.isEmpty)) G
  | _, _ => False
theorem nilT_core {neg : Bool} {F H : Hp} {G : GH} {x y : V} {dx dy : D} (g : Gok X.K F H G) (rx : Rep X.K F x dx) (ry : Rep X.K F y dy) {Q' : DQ} (h : rNilT neg dx dy G Q') {Q : VK} (k : KpE X.K F H G Q' Q) : vNilT neg x y H Q := by
  unfold rNilT at h
  split at h
  · rename_i xs
    cases rx with
    | tup ha rs =>
      rename_i vs
      cases ry with
      | tup hb rt =>
        cases rt
        refine ⟨_, _, vs, rfl, rfl, g.ex _ _ ha, g.ex _ _ hb, ?_⟩
        have e : vs.isEmpty = xs.isEmpty := by
          have := rs.length
          cases vs <;> cases xs <;> simp_all
        rw [e]
        exact k F H _ _ G Go.refl g (.bl _) h
  · exact h.elim
theorem od_neNilT (hu : X.A.units + 100 < cLine) : OpD X (compareOp .NotEq) (rNilT true) := ⟨_, op_neNilT hu, fun F H G x y dx dy g rx ry Q' h Q k => nilT_core g rx ry h k⟩
/-! ### str(int) -/
def rStrI (ds : List D) (G : GH) (Q : DQ) : Prop := match ds with
  | [.int i] => i.natAbs.log2 < 1920 ∧ Q (.str (toString i)) G
  | _ => False
theorem cd_strI : CallD X (.type "str") rStrI := by
  refine ⟨_, call_str_int, fun F H G vs ds g rs Q' h Q k => ?_⟩
  unfold rStrI at h
  split at h
  · rename_i i
    cases rs with
    | cons r b =>
      cases b
      cases r
      exact ⟨i, rfl, h.1, k _ _ _ _ G Go.refl g (.str _) h.2⟩
  · exact h.elim
end
end DL
end
section
set_option Elab.async false
set_option linter.all false
set_option maxRecDepth 100000
set_option maxHeartbeats 4000000
/-! DLrg: repr of data with {} at any depth; a head's hook that keeps the place of the modules. -/
namespace DL
open PySem PySem.Spec PyProof.Rows L2
mutual
def D.pyR : D → PyData
  | .non => .none
  | .bl b => .bool b
  | .int i => .int i
  | .str x => .str x
  | .tup xs => .tuple (D.pysR xs)
  | .lst xs => .list (D.pysR xs)
  | .dK _ => .dict []
  | _ => .none
def D.pysR : List D → List PyData
  | [] => []
  | x :: xs => D.pyR x :: D.pysR xs
end
mutual
def D.plR : D → Bool
  | .non | .bl _ | .int _ | .str _ => true
  | .tup xs | .lst xs => D.plsR xs
  | .dK kds => kds.isEmpty
  | _ => false
def D.plsR : List D → Bool
  | [] => true
  | x :: xs => D.plR x && D.plsR xs
end
/-- the place of the modules is in the written part -/
def SysM (K : PySem.W.Frag) : Prop := ∃ o, K.lookup sysModules = some o
section
variable {X : Cx} {pins : List (Addr × Obj)} {σ : L2.St} {F H : Hp} {s : Shared}
theorem sysM_free (I : Inv X pins σ H s) (h : SysM X.K) : H sysModules = none := by
  obtain ⟨o, e⟩ := h
  exact (I.bs _ o (I.ok.mod.kin _ _ e)).2
mutual
theorem Rep.readsR (I : Inv X pins σ H s) (e : Ex F H) (hs : H sysModules = none) : ∀ (d : D) (v : V) (u : Value), Rep X.K F v d → d.plR = true → RelV v u → ∃ as, Reads s.heap u d.pyR as ∧ sysModules ∉ as
  | .non, _, _, h, _, r => by cases h; cases r; exact ⟨_, Reads.none, by simp⟩
  | .bl b, _, _, h, _, r => by cases h; cases r; exact ⟨_, Reads.bool b, by simp⟩
  | .int i, _, _, h, _, r => by cases h; obtain ⟨t, rfl⟩ := r; exact ⟨_, Reads.int i t, by simp⟩
  | .str x, _, _, h, _, r => by cases h; obtain ⟨t, rfl⟩ := r; exact ⟨_, Reads.str x t, by simp⟩
  | .tup xs, _, _, h, p, r => by
    cases h with
    | tup ha rs =>
      cases r
      obtain ⟨its, rv, ⟨o, ho, hc, n, hd⟩, _⟩ := I.tuple (.inl (.inl (e _ _ ha)))
      obtain ⟨as, hr, hn⟩ := Reps.readsR I e hs xs _ its rs p rv
      exact ⟨_, Reads.tuple ho hc hd hr, hn⟩
  | .lst xs, _, _, h, p, r => by
    cases h with
    | lst ha rs =>
      cases r
      obtain ⟨its, rv, ⟨o, n, ho, hc, _, hd⟩, _⟩ := I.list (.inl (.inl (e _ _ ha)))
      obtain ⟨as, hr, hn⟩ := Reps.readsR I e hs xs _ its rs p rv
      refine ⟨_, Reads.list ho hc hd hr, ?_⟩
      rw [List.mem_cons, not_or]
      exact ⟨fun z => (by rw [← z] at ha; rw [e _ _ ha] at hs; cases hs), hn⟩
  | .dK kds, _, _, h, p, r => by
    cases h with
    | dK ha hk rs =>
      cases r
      have : kds = [] := List.isEmpty_iff.mp p
      subst this
      rename_i a kvs
      have : kvs = [] := by simpa using hk
      subst this
      obtain ⟨hz, hs0, vs, kv, hdo⟩ := I.hok a _ (e _ _ ha)
      cases kv
      have rd : Reads s.heap (.ref a) (.dict []) [a] := PyProof.V.reads_dictOf (enc := fun k : Key => match k with | .inl i => PyData.int i | .inr x => PyData.str x) (bs := []) (D := []) (fun k key h => by
        have r := relV_key (show keyIs k key = true from h)
        cases k with
        | inl i => obtain ⟨t, rfl⟩ := r; exact .int i t
        | inr x => obtain ⟨t, rfl⟩ := r; exact .str x t) hdo .nil
      refine ⟨_, rd, ?_⟩
      rw [List.mem_singleton]
      exact fun z => by rw [← z] at ha; rw [e _ _ ha] at hs; cases hs
  | .ty _, _, _, _, p, _ => by cases p
  | .dT _, _, _, _, p, _ => by cases p
  | .obj _ _, _, _, _, p, _ => by cases p
  | .rf _, _, _, _, p, _ => by cases p
  | .scr _, _, _, _, p, _ => by cases p
theorem Reps.readsR (I : Inv X pins σ H s) (e : Ex F H) (hs : H sysModules = none) : ∀ (ds : List D) (vs : List V) (us : List Value), Reps X.K F vs ds → D.plsR ds = true → Vals vs us → ∃ as, ReadsAll s.heap us (D.pysR ds) as ∧ sysModules ∉ as
  | [], _, _, h, _, r => by
    cases h
    cases r
    exact ⟨_, ReadsAll.nil, by simp⟩
  | d :: ds, _, _, h, p, r => by
    have p' : d.plR = true ∧ D.plsR ds = true := by simpa [D.plsR] using p
    cases h with
    | cons h1 h2 =>
      cases r with
      | cons r1 r2 =>
        obtain ⟨as, q1, n1⟩ := Rep.readsR I e hs d _ _ h1 p'.1 r1
        obtain ⟨bs, q2, n2⟩ := Reps.readsR I e hs ds _ _ h2 p'.2 r2
        refine ⟨_, ReadsAll.cons q1 q2, ?_⟩
        rw [List.mem_append, not_or]
        exact ⟨n1, n2⟩
end
end
section
variable {X : Cx} {pos : Pos}
def rReprG (ds : List D) (G : GH) (Q : DQ) : Prop := match ds with
  | [d] => d.plR = true ∧ d.pyR.showable = true ∧ d.pyR.depth ≤ 60 ∧ d.pyR.shown.length ≤ sizeLine ∧ Q (.str d.pyR.shown) G
  | _ => False
theorem cr_reprG (hu : X.A.units + 100 < cLine) (hA : X.A.guards = some []) (hm : SysM X.K) : CallR X (.builtin "repr") (fun vs H Q => ∃ F v d, vs = [v] ∧ Ex F H ∧ Rep X.K F v d ∧ d.plR = true ∧ d.pyR.showable = true ∧ d.pyR.depth ≤ 60 ∧ d.pyR.shown.length ≤ sizeLine ∧ Q (.str d.pyR.shown) H) := by
  intro pins s σ H vs us Q I r h
  obtain ⟨F, v, d, rfl, ex, hd, hp, hs, hde, hz, q⟩ := h
  cases r with
  | cons r rr =>
    cases rr
    obtain ⟨as, rd, hn⟩ := Rep.readsR I ex (sysM_free I hm) d _ _ hd hp r
    revert rd hs hde hz q
    generalize d.pyR = py
    intro hs hde hz q rd
    have gen : ∀ {a : Addr}, Reads s.heap (.ref a) py as → wpAny (model X.prog X.w) X.A (call (.builtin "repr") [.ref a]) (EP X pins σ Q) X.xe s := fun rd => by
      refine repr_of_reads' (h₀ := s.heap) rd hs (fun _ => hn) hA (by omega) (fun _ _ z => z) (fun h' u tk hk => ?_) hz
      exact ⟨.str _, H, I.kept (t' := tk) hk, ⟨_, rfl⟩, q⟩
    cases rd with
    | none => exact P.repr_of_none ⟨.str _, H, I.tok _, ⟨_, rfl⟩, q⟩
    | bool b => exact P.repr_of_bool ⟨.str _, H, I.tok _, ⟨_, rfl⟩, by cases b <;> exact q⟩
    | int i t => exact P.repr_of_int (of_decide_eq_true hs) ⟨.str _, H, I.tok _, ⟨_, rfl⟩, q⟩
    | str x t => exact P.repr_of_str ⟨.str _, H, I.tok _, ⟨_, rfl⟩, q⟩ hz
    | list h1 h2 h3 h4 => exact gen (.list h1 h2 h3 h4)
    | tuple h1 h2 h3 h4 => exact gen (.tuple h1 h2 h3 h4)
    | dict h1 h2 h3 h4 h5 => exact gen (.dict h1 h2 h3 h4 h5)
theorem cd_reprG (hu : X.A.units + 100 < cLine) (hA : X.A.guards = some []) (hm : SysM X.K) : CallD X (.builtin "repr") rReprG := by
  refine ⟨_, cr_reprG hu hA hm, fun F H G vs ds g rs Q' h Q k => ?_⟩
  unfold rReprG at h
  split at h
  · rename_i d
    cases rs with
    | cons r b =>
      cases b
      obtain ⟨h1, h2, h3, h4, h5⟩ := h
      exact ⟨F, _, d, rfl, g.ex, r, h1, h2, h3, h4, k F H _ _ G Go.refl g (.str _) h5⟩
  · exact h.elim
end
/-- a def of which nothing is promised -/
theorem cal_never {P : Program} {w : World} {K : PySem.W.Frag} {mg : Str → Option Value} {base : Heap} {x : Str} {st : Stmt} {N ps : List Str} {k : Nat} {sp : SpD} (hno : ∀ ds G Q, ¬ sp ds G Q) (d : Def K mg x st) (sc : FnScope N ps (defScope st))
    (bi : ∀ (kV doc pm : Value) (an : Option Addr) (cdv ct : Value) (us : List Value), us.length = ps.length → bindArgs (PySem.W.fnOf x x (defArgs st) (defBody st) (defScope st) .none kV doc pm an cdv ct) ⟨us, []⟩ = pure (ps.zip us)) : Cal P w K mg base x (k + 1) ps sp :=
  cal_mk d sc (fun _ _ _ h => (hno _ _ _ h).elim) bi fun _ _ _ _ _ _ _ _ _ => ⟨dNever, dps_never, fun _ _ _ h => (hno _ _ _ h).elim⟩
/-! ### the head's hook -/
def obsSG (n : Nat) (fa : List He.Fa) (fn : List He.DefD) (ex : PySem.W.Frag → Bool) (g : Addr → Option Obj) : AlE := obsE fa fn ex (He.frG g (sysModules :: He.asD g n))
def hookS (n : Nat) (fa : List He.Fa) (fn : List He.DefD) (ex : PySem.W.Frag → Bool) : PySem.W.Hook where
  α := AlE
  obs := fun s => obsSG n fa fn ex s.heap.get?
  val := fun _ => (He.valD fn, true)
  says := fun _ h => ∃ K : PySem.W.Frag, K.In h ∧ He.SaysD fa fn K ∧ ex K = true
  of := fun _ _ e => ⟨_, He.frG_in, congrArg Prod.fst e, congrArg Prod.snd e⟩
  keeps := fun _ _ _ ⟨K, hK, c⟩ k => ⟨K, PySem.W.Frag.In.keeps hK k, c⟩
theorem obsSG_eq {n : Nat} {fa : List He.Fa} {fn : List He.DefD} {ex : PySem.W.Frag → Bool} {g : Addr → Option Obj} {s : Shared} (h : ∀ a, g a = s.heap.get? a) : obsSG n fa fn ex g = (hookS n fa fn ex).obs s := by
  have e : g = s.heap.get? := funext h
  rw [e] <;> rfl
def sysB (K : PySem.W.Frag) : Bool := (K.lookup sysModules).isSome
theorem sysB_ok {K : PySem.W.Frag} (h : sysB K = true) : SysM K := Option.isSome_iff_exists.mp h
end DL
end
section
set_option Elab.async false
set_option linter.all false
set_option maxRecDepth 100000
set_option maxHeartbeats 4000000
/-! Mf: odd values: what bending makes; their repr. -/
namespace Pace
open PySem PySem.Spec PyProof.Rows L2 DL
mutual
def leafD (m : Nat) : D → Bool
  | .int i => decide (i.natAbs ≤ 10 ^ 39 + m)
  | .str x => x.cps.toList.all fun c => decide (c < 128)
  | .tup xs | .lst xs => leafsD m xs
  | _ => true
def leafsD (m : Nat) : List D → Bool
  | [] => true
  | x :: xs => leafD m x && leafsD m xs
end
def bkD (x : D) : Nat := x.pyR.bulk
def bksD (xs : List D) : Nat := (xs.map fun x => bkD x + 1).sum
structure One (m n : Nat) (d : D) : Prop where
  pl : d.plR = true
  lf : leafD m d = true
  dp : d.pyR.depth ≤ n
structure Odd (m n w : Nat) (d : D) : Prop where
  one : One m n d
  bk : bkD d ≤ w
theorem plsR_all : ∀ xs : List D, D.plsR xs = true ↔ ∀ x ∈ xs, x.plR = true
  | [] => by simp [D.plsR]
  | x :: xs => by simp [D.plsR, plsR_all xs]
theorem leafsD_all (m : Nat) : ∀ xs : List D, leafsD m xs = true ↔ ∀ x ∈ xs, leafD m x = true
  | [] => by simp [leafsD]
  | x :: xs => by simp [leafsD, leafsD_all m xs]
theorem depthsR (n : Nat) : ∀ xs : List D, PyData.depthAll (D.pysR xs) ≤ n ↔ ∀ x ∈ xs, x.pyR.depth ≤ n
  | [] => by simp [D.pysR, PyData.depthAll]
  | x :: xs => by
    have := depthsR n xs
    simp only [D.pysR, PyData.depthAll, List.forall_mem_cons, ← this]
    exact Nat.max_le
theorem bulksR : ∀ xs : List D, PyData.bulkAll (D.pysR xs) = bksD xs
  | [] => rfl
  | x :: xs => by
    have := bulksR xs
    simp only [D.pysR, PyData.bulkAll, this, bksD, bkD, List.map_cons, List.sum_cons]
theorem One.mono {m n m' n' : Nat} {d : D} (h : One m n d) (h1 : m ≤ m') (h2 : n ≤ n') : One m' n' d := by
  have aux : ∀ k : Nat, (∀ d : D, sizeOf d ≤ k → leafD m d = true → leafD m' d = true) ∧ (∀ ds : List D, sizeOf ds ≤ k → leafsD m ds = true → leafsD m' ds = true) := by
    intro k
    induction k with
    | zero =>
      refine ⟨fun d hd => ?_, fun ds hd => ?_⟩
      · cases d <;> simp at hd
      · cases ds <;> simp at hd
    | succ k ih =>
      refine ⟨fun d hd hl => ?_, fun ds hd hl => ?_⟩
      · cases d with
        | int i => simp only [leafD, decide_eq_true_eq] at hl ⊢; omega
        | tup xs => exact ih.2 xs (by simp at hd; omega) hl
        | lst xs => exact ih.2 xs (by simp at hd; omega) hl
        | str x => exact hl
        | _ => rfl
      · cases ds with
        | nil => rfl
        | cons x xs =>
          have l' : leafD m x = true ∧ leafsD m xs = true := by simpa [leafsD] using hl
          show (leafD m' x && leafsD m' xs) = true
          rw [ih.1 x (by simp at hd; omega) l'.1, ih.2 xs (by simp at hd; omega) l'.2]; rfl
  exact ⟨h.pl, (aux (sizeOf d)).1 d (Nat.le_refl _) h.lf, Nat.le_trans h.dp h2⟩
theorem one_tup {m n : Nat} {xs : List D} : One m (n + 1) (.tup xs) ↔ ∀ x ∈ xs, One m n x := by
  constructor
  · intro h x hx
    exact ⟨(plsR_all xs).mp h.pl x hx, (leafsD_all m xs).mp h.lf x hx, (depthsR n xs).mp (Nat.le_of_succ_le_succ h.dp) x hx⟩
  · intro h
    exact ⟨(plsR_all xs).mpr fun x hx => (h x hx).pl, (leafsD_all m xs).mpr fun x hx => (h x hx).lf, Nat.succ_le_succ ((depthsR n xs).mpr fun x hx => (h x hx).dp)⟩
theorem one_lst {m n : Nat} {xs : List D} : One m (n + 1) (.lst xs) ↔ ∀ x ∈ xs, One m n x := by
  constructor
  · intro h x hx
    exact ⟨(plsR_all xs).mp h.pl x hx, (leafsD_all m xs).mp h.lf x hx, (depthsR n xs).mp (Nat.le_of_succ_le_succ h.dp) x hx⟩
  · intro h
    exact ⟨(plsR_all xs).mpr fun x hx => (h x hx).pl, (leafsD_all m xs).mpr fun x hx => (h x hx).lf, Nat.succ_le_succ ((depthsR n xs).mpr fun x hx => (h x hx).dp)⟩
theorem bk_tup (xs : List D) : bkD (.tup xs) = bksD xs := bulksR xs
theorem bk_lst (xs : List D) : bkD (.lst xs) = bksD xs := bulksR xs
theorem Odd.mono {m n w m' n' w' : Nat} {d : D} (h : Odd m n w d) (h1 : m ≤ m') (h2 : n ≤ n') (h3 : w ≤ w') : Odd m' n' w' d := ⟨h.one.mono h1 h2, Nat.le_trans h.bk h3⟩
theorem bks_app (xs ys : List D) : bksD (xs ++ ys) = bksD xs + bksD ys := by simp [bksD]
theorem bks_cons (x : D) (xs : List D) : bksD (x :: xs) = bkD x + 1 + bksD xs := by simp [bksD]
theorem bks_nil : bksD [] = 0 := rfl
theorem bks_len : ∀ xs : List D, xs.length ≤ bksD xs
  | [] => Nat.le_refl _
  | x :: xs => by have := bks_len xs; rw [bks_cons, List.length_cons]; omega
theorem bks_mem : ∀ {xs : List D} {x : D}, x ∈ xs → bkD x + 1 ≤ bksD xs
  | y :: xs, x, h => by
    rw [bks_cons]
    rcases List.mem_cons.mp h with rfl | h
    · omega
    · have := bks_mem h; omega
theorem bks_split (xs : List D) (k : Nat) : bksD (xs.take k) + bksD (xs.drop k) = bksD xs := by
  rw [← bks_app, List.take_append_drop]
theorem bks_at {xs : List D} {k : Nat} {x : D} (h : xs[k]? = some x) : bksD (xs.take k) + (bkD x + 1 + bksD (xs.drop (k + 1))) = bksD xs := by
  obtain ⟨hk, rfl⟩ := List.getElem?_eq_some_iff.mp h
  rw [← bks_cons, ← List.drop_eq_getElem_cons hk, bks_split]
theorem bks_rev (xs : List D) : bksD xs.reverse = bksD xs := by simp [bksD, List.map_reverse, List.sum_reverse]
theorem oddP_non {m n w : Nat} : Odd m n w .non := ⟨⟨rfl, rfl, Nat.zero_le _⟩, Nat.zero_le _⟩
theorem oddP_bl {m n w : Nat} {b : Bool} : Odd m n w (.bl b) := ⟨⟨rfl, rfl, Nat.zero_le _⟩, Nat.zero_le _⟩
theorem oddP_int {m n w : Nat} {i : Int} (h : i.natAbs ≤ 10 ^ 39 + m) : Odd m n w (.int i) := ⟨⟨rfl, by simp only [leafD, decide_eq_true_eq]; exact h, Nat.zero_le _⟩, Nat.zero_le _⟩
theorem oddP_str {m n w : Nat} {cs : List Nat} (h : ∀ c ∈ cs, c < 128) (hl : cs.length ≤ w) : Odd m n w (.str (strOf cs)) :=
  ⟨⟨rfl, by simp [leafD, strOf]; exact h, Nat.zero_le _⟩, by simp only [bkD, D.pyR, PyData.bulk, strOf, List.size_toArray]; exact hl⟩
theorem oddP_dK {m n w : Nat} : Odd m (n + 1) w (.dK []) := ⟨⟨rfl, rfl, by simp only [D.pyR, PyData.depth, PyData.depthKv]; omega⟩, Nat.zero_le _⟩
theorem oddP_tup {m n w : Nat} {xs : List D} (h : ∀ x ∈ xs, One m n x) (hb : bksD xs ≤ w) : Odd m (n + 1) w (.tup xs) := ⟨one_tup.mpr h, by rw [bk_tup]; exact hb⟩
theorem oddP_lst {m n w : Nat} {xs : List D} (h : ∀ x ∈ xs, One m n x) (hb : bksD xs ≤ w) : Odd m (n + 1) w (.lst xs) := ⟨one_lst.mpr h, by rw [bk_lst]; exact hb⟩
theorem strOf_cps (x : Str) : x = strOf x.cps.toList := by cases x; simp [strOf]
theorem Odd.anyV {m n w : Nat} {x : D} (h : Odd m n w x) (hw : w ≤ 1000) : AnyV x := by
  cases x with
  | non => exact .non
  | bl b => exact .bl b
  | int i => exact .int i
  | tup xs => exact .tup xs
  | lst xs => exact .lst xs
  | dK kds => exact .dK kds
  | str y =>
    rw [strOf_cps y]
    refine .str _ ?_
    have := h.bk
    simp only [bkD, D.pyR, PyData.bulk] at this
    simp only [Array.length_toList]
    omega
  | ty n => cases h.one.pl
  | dT k => cases h.one.pl
  | obj C f => cases h.one.pl
  | rf a => cases h.one.pl
  | scr ns => cases h.one.pl
theorem Odd.each {m n w : Nat} {xs : List D} (h : Odd m n w (.tup xs)) : ∃ k, n = k + 1 ∧ (∀ x ∈ xs, One m k x) ∧ bksD xs ≤ w := by
  cases n with
  | zero => have := h.one.dp; simp only [D.pyR, PyData.depth] at this; omega
  | succ k => exact ⟨k, rfl, one_tup.mp h.one, by have := h.bk; rw [bk_tup] at this; exact this⟩
theorem Odd.anyP {m n w : Nat} {x : D} (h : Odd m n w x) (hw : w ≤ 1000) : AnyP x := by
  refine ⟨h.anyV hw, ?_⟩
  rintro xs rfl
  obtain ⟨k, rfl, h1, h2⟩ := h.each
  refine ⟨Nat.le_trans (bks_len xs) (by omega), fun y hy => ?_⟩
  have := bks_mem hy
  exact (Odd.mk (w := w) (h1 y hy) (by omega)).anyV hw
/-! ### the repr -/
theorem leaf_short : ∀ (m : Nat), m ≤ 1000 → ∀ d : D, d.plR = true → leafD m d = true → d.pyR.showable = true ∧ d.pyR.leavesShort 45 = true := by
  intro m hm
  have aux : ∀ k : Nat, (∀ d : D, sizeOf d ≤ k → d.plR = true → leafD m d = true → d.pyR.showable = true ∧ d.pyR.leavesShort 45 = true) ∧ (∀ ds : List D, sizeOf ds ≤ k → D.plsR ds = true → leafsD m ds = true → PyData.showableAll (D.pysR ds) = true ∧ PyData.leavesShortAll 45 (D.pysR ds) = true) := by
    intro k
    induction k with
    | zero =>
      refine ⟨fun d hd => ?_, fun ds hd => ?_⟩
      · cases d <;> simp at hd
      · cases ds <;> simp at hd
    | succ k ih =>
      refine ⟨fun d hd hp hl => ?_, fun ds hd hp hl => ?_⟩
      · cases d with
        | non => exact ⟨rfl, rfl⟩
        | bl b => exact ⟨rfl, rfl⟩
        | int i =>
          have hi : i.natAbs ≤ 10 ^ 39 + m := by simpa [leafD] using hl
          have h40 : i.natAbs < 10 ^ 40 := by
            have : (10 : Nat) ^ 39 + m < 10 ^ 40 := by
              have e : (10 : Nat) ^ 40 = 10 * 10 ^ 39 := by decide
              have e2 : (1000 : Nat) ≤ 10 ^ 39 := by decide
              omega
            omega
          constructor
          · show decide (i.natAbs.log2 < 1920) = true
            rw [decide_eq_true_eq]
            by_cases h0 : i.natAbs = 0
            · rw [h0]; decide
            · have : i.natAbs.log2 < 140 := (Nat.log2_lt h0).mpr (Nat.lt_trans h40 (by decide))
              omega
          · show decide ((PyData.shown (.int i)).length ≤ 45) = true
            rw [decide_eq_true_eq]
            have e := int_text_length_le10 (k := 40) (by decide) h40
            show (Str.ofString (toString i)).length ≤ 45
            rw [PySem.ofString_length]; omega
        | str x =>
          refine ⟨rfl, ?_⟩
          show (x.cps.toList.all fun c => decide (c < 16 ^ 8)) = true
          rw [List.all_eq_true]
          intro c hc
          have : (x.cps.toList.all fun c => decide (c < 128)) = true := hl
          have := List.all_eq_true.mp this c hc
          simp only [decide_eq_true_eq] at this ⊢
          omega
        | tup xs => exact ih.2 xs (by simp at hd; omega) hp hl
        | lst xs => exact ih.2 xs (by simp at hd; omega) hp hl
        | dK kds => exact ⟨rfl, rfl⟩
        | ty n => cases hp
        | dT k => cases hp
        | obj C f => cases hp
        | rf a => cases hp
        | scr ns => cases hp
      · cases ds with
        | nil => exact ⟨rfl, rfl⟩
        | cons x xs =>
          have p' : x.plR = true ∧ D.plsR xs = true := by simpa [D.plsR] using hp
          have l' : leafD m x = true ∧ leafsD m xs = true := by simpa [leafsD] using hl
          have a := ih.1 x (by simp at hd; omega) p'.1 l'.1
          have b := ih.2 xs (by simp at hd; omega) p'.2 l'.2
          constructor
          · show (x.pyR.showable && PyData.showableAll (D.pysR xs)) = true
            rw [a.1, b.1]; rfl
          · show (x.pyR.leavesShort 45 && PyData.leavesShortAll 45 (D.pysR xs)) = true
            rw [a.2, b.2]; rfl
  exact fun d => (aux (sizeOf d)).1 d (Nat.le_refl _)
theorem Odd.repr {m n w : Nat} {d : D} (h : Odd m n w d) (hm : m ≤ 1000) (hn : n ≤ 60) (hw : w ≤ 100000) {G : GH} {Q : DQ} (q : Q (.str d.pyR.shown) G) : rReprG [d] G Q := by
  obtain ⟨h1, h2⟩ := leaf_short m hm d h.one.pl h.one.lf
  refine ⟨h.one.pl, h1, Nat.le_trans h.one.dp hn, ?_, q⟩
  have := PyData.shown_le_bulk 45 (by decide) d.pyR h2
  have hb : d.pyR.bulk ≤ w := h.bk
  have : (45 + 2) * d.pyR.bulk ≤ 47 * 100000 := Nat.mul_le_mul (by omega) (by omega)
  rw [sizeLine_eq]
  omega
/-! ### upper -/
def upB (c : Nat) : Bool := match Unicode.upperOf c with | [u] => decide (u < 128) | _ => false
theorem up_all : (List.range 128).all upB = true := by decide +kernel
theorem up_one {c : Nat} (h : c < 128) : ∃ u, u < 128 ∧ Unicode.upperOf c = [u] := by
  have := List.all_eq_true.mp up_all c (List.mem_range.mpr h)
  unfold upB at this
  split at this
  · rename_i u e
    exact ⟨u, by simpa using this, e⟩
  · cases this
theorem up_list : ∀ {cs : List Nat}, (∀ c ∈ cs, c < 128) → (cs.flatMap Unicode.upperOf).length = cs.length ∧ ∀ c ∈ cs.flatMap Unicode.upperOf, c < 128
  | [], _ => by simp
  | c :: cs, h => by
    obtain ⟨h1, h2⟩ := up_list (cs := cs) fun x hx => h x (List.mem_cons_of_mem _ hx)
    obtain ⟨u, hu, e⟩ := up_one (h c List.mem_cons_self)
    rw [List.flatMap_cons, e]
    refine ⟨by simp [h1], fun x hx => ?_⟩
    rcases List.mem_append.mp hx with hx | hx
    · rw [List.mem_singleton.mp hx]; exact hu
    · exact h2 x hx
theorem upper_strOf (cs : List Nat) : Txt.upper (strOf cs) = strOf (cs.flatMap Unicode.upperOf) := by
  have e : ((strOf cs).cps.mapIdx fun _ c => (Unicode.upperOf c).toArray).flatten = (cs.flatMap Unicode.upperOf).toArray := by
    apply Array.ext'
    have e2 : ∀ l : List Nat, (List.map Array.toList (List.mapIdx (fun _ c => (Unicode.upperOf c).toArray) l)).flatten = (List.map Unicode.upperOf l).flatten := by
      intro l
      congr 1
      refine List.ext_getElem? fun i => ?_
      simp only [List.getElem?_map, List.getElem?_mapIdx]
      cases l[i]? <;> rfl
    simp [strOf, List.flatMap, Array.toList_flatten, Function.comp_def, e2]
  show (⟨_⟩ : Str) = _
  unfold strOf at e ⊢
  exact congrArg Str.mk e
theorem oddP_upper {m n w : Nat} {cs : List Nat} (h : ∀ c ∈ cs, c < 128) (hl : cs.length ≤ w) : Odd m n w (.str (Txt.upper (strOf cs))) := by
  rw [upper_strOf]
  exact oddP_str (up_list h).2 (by rw [(up_list h).1]; exact hl)
theorem oddP_toString {m n w : Nat} {i : Int} (h : i.natAbs ≤ 10 ^ 39 + m) (hm : m ≤ 1000) : Odd m n (w + 41) (.str (toString i)) := by
  have h40 : i.natAbs < 10 ^ 40 := by
    have : (10 : Nat) ^ 39 + m < 10 ^ 40 := by
      have e : (10 : Nat) ^ 40 = 10 * 10 ^ 39 := by decide
      have e2 : (1000 : Nat) ≤ 10 ^ 39 := by decide
      omega
    omega
  have e := int_text_length_le10 (k := 40) (by decide) h40
  have e2 : ((toString i : String) : Str) = strOf ((toString i).toList.map Char.toNat) := Str.ofString_eq_toList _
  show Odd m n (w + 41) (.str (Str.ofString (toString i)))
  rw [show Str.ofString (toString i) = strOf ((toString i).toList.map Char.toNat) from e2]
  refine oddP_str (fun c hc => ?_) ?_
  · obtain ⟨x, hx, rfl⟩ := List.mem_map.mp hc
    exact int_ascii i x hx
  · rw [List.length_map, String.length_toList]
    omega
end Pace
end
section
set_option Elab.async false
set_option linter.all false
set_option maxRecDepth 100000
set_option maxHeartbeats 4000000
/-! DLel: enumerate(list). -/
namespace DL
open PySem PySem.Spec PyProof.Rows L2
section
variable {X : Cx} {pos : Pos}
def diEnumL (ta : DTA) : DTI := fun S G R => ta S G fun ds G1 => match ds with
  | [.lst xs] => R (xs.mapIdx fun i x => .tup [.int (i : Nat), x]) dNoGuard G1
  | _ => False
theorem di_enumL {e : Expr} {ta : DTA} {p tpos : Pos} {elts : List Expr} {kk : Nat} (hg : Gl X "enumerate") (hm : X.mg "enumerate" = none) (ha : DA X [e] ta) (hs : starEach [e] X.env = [(false, eval e X.env)] := by rfl) :
    DI X (.Tuple elts kk tpos) (.Call (.Name "enumerate" p) [e] [] pos) (diEnumL ta) := by
  obtain ⟨t, p1, r⟩ := ha.ex
  refine ⟨_, pi_enum hg hm p1 hs, fun F H σ S G o R' h R k => ?_⟩
  refine r F H σ S G o _ h _ fun F1 H1 vs ds G1 e1 g1 q1 h1 => ?_
  dsimp only at h1
  split at h1
  · rename_i xs
    cases q1 with
    | cons q rest =>
      cases rest
      cases q with
      | lst hq rs =>
        rename_i a ws
        refine ⟨a, ws, rfl, .inl (.inl (g1.ex _ _ hq)), k F1 H1 G1 _ _ _ e1 g1 ⟨fun F2 H2 G2 i d e2 g2 _ hd => ?_, fun F2 H2 G2 e2 g2 _ => ?_⟩ h1⟩
        · rw [List.getElem?_mapIdx] at hd
          cases ex : xs[i]? with
          | none => rw [ex] at hd; cases hd
          | some x =>
            rw [ex] at hd
            cases hd
            obtain ⟨v, hv, rv⟩ := rs.get ex
            have hs2 : SqL X.K H2 a ws := .inl (.inl (g2.ex _ _ (e2 _ _ hq)))
            refine ⟨⟨ws, v, hs2, hv⟩, fun y H3 hy => ?_⟩
            obtain ⟨T, z, rfl, hT, rfl, hz⟩ := hy
            have := hz ws hs2
            rw [hv] at this
            cases this
            have gr := Gr.new (u := .tup [.int (i : Nat), v]) g2.ex hT
            exact ⟨_, gr.go, g2.grow gr, .tup upd_same (.cons (.int _) (.cons ((rv.mono e2).mono gr.ff) .nil))⟩
        · refine ⟨ws, .inl (.inl (g2.ex _ _ (e2 _ _ hq))), ?_⟩
          rw [List.length_mapIdx, rs.length]
          exact Nat.le_refl _
  · exact h1.elim
end
end DL
end
section
set_option Elab.async false
set_option linter.all false
set_option maxRecDepth 100000
set_option maxHeartbeats 4000000
/-! DLfs: f-strings of texts and ints; text.split(text); str(text); str(own); tuple * int. -/
namespace DL
open PySem PySem.Spec PyProof.Rows L2
section
variable {X : Cx} {pos : Pos}
/-! ### f-strings -/
def dFmt (te : DTE) : DTE := fun S G Q => te S G fun d G1 => match d with
  | .str y => y.length ≤ sizeLine ∧ Q (.str y) G1
  | .int i => i.natAbs.log2 < 1920 ∧ Q (.str (toString i)) G1
  | _ => False
theorem de_fmt {e : Expr} {te : DTE} (he : DE X e te) : DE X (.FormattedValue e (-1) none pos) (dFmt te) := by
  obtain ⟨t, p, r⟩ := he.ex
  refine ⟨_, pe_fmt p, fun F H σ S G o Q' h Q k => ?_⟩
  refine r F H σ S G o _ h _ fun F1 H1 v d G1 e1 g1 q1 h1 => ?_
  dsimp only at h1
  split at h1
  · cases q1
    exact .inl ⟨_, rfl, h1.1, k F1 H1 _ _ G1 e1 g1 (.str _) h1.2⟩
  · cases q1
    exact .inr ⟨_, rfl, h1.1, k F1 H1 _ _ G1 e1 g1 (.str _) h1.2⟩
  · exact h1.elim
abbrev DTJ := Str → DS → GH → (Str → GH → Prop) → Prop
structure DJ (X : Cx) (es : List Expr) (t' : DTJ) : Prop where
  ex : ∃ ts, PJ X es ts ∧ ∀ F H σ S G, Ok X.K F H σ S G → ∀ acc Q', t' acc S G Q' → ∀ Q : Str → Hp → Prop, (∀ F' H' y G', Go F H G F' H' G' → Gok X.K F' H' G' → Q' y G' → Q y H') → tJs ts acc σ H Q
def djNil : DTJ := fun acc _ G Q => Q acc G
def djCons (te : DTE) (tt : DTJ) : DTJ := fun acc S G Q => te S G fun d G1 => match d with
  | .str y => (acc ++ y).length ≤ sizeLine ∧ tt (acc ++ y) S G1 Q
  | _ => False
theorem dj_nil : DJ X [] djNil := ⟨_, .nil, fun F H σ S G o acc Q' h Q k => k F H acc G Go.refl o.g h⟩
theorem dj_cons {e : Expr} {es : List Expr} {te : DTE} {tt : DTJ} (he : DE X e te) (hr : DJ X es tt) : DJ X (e :: es) (djCons te tt) := by
  obtain ⟨t, p, r⟩ := he.ex
  obtain ⟨ts, pj, rj⟩ := hr.ex
  refine ⟨_, .cons p pj, fun F H σ S G o acc Q' h Q k => ?_⟩
  refine r F H σ S G o _ h _ fun F1 H1 v d G1 e1 g1 q1 h1 => ?_
  dsimp only at h1
  split at h1
  · cases q1
    exact ⟨_, rfl, h1.1, rj F1 H1 σ S G1 (o.go e1 g1) _ _ h1.2 _ fun F2 H2 y G2 e2 g2 h2 => k F2 H2 y G2 (e1.trans e2) g2 h2⟩
  · exact h1.elim
def dJoined (tt : DTJ) : DTE := fun S G Q => tt Str.empty S G fun y G1 => Q (.str y) G1
theorem de_joined {v1 v2 : Expr} {rest : List Expr} {tt : DTJ} (h : DJ X (v1 :: v2 :: rest) tt) : DE X (.JoinedStr (v1 :: v2 :: rest) pos) (dJoined tt) := by
  obtain ⟨ts, pj, rj⟩ := h.ex
  refine ⟨_, pe_joined pj, fun F H σ S G o Q' h Q k => ?_⟩
  exact rj F H σ S G o _ _ h _ fun F1 H1 y G1 e1 g1 h1 => k F1 H1 _ _ G1 e1 g1 (.str y) h1
/-! ### split -/
def rSplitD (x : D) (ds : List D) (G : GH) (Q : DQ) : Prop := match x, ds with
  | .str a, [.str b] => (b.length == 0) = false ∧ a.length + 2 ≤ sizeLine ∧ Q (.lst ((Txt.split a b).map .str)) G
  | _, _ => False
theorem reps_strs {K : PySem.W.Frag} {F : Hp} : ∀ ys : List Str, Reps K F (ys.map V.str) (ys.map D.str)
  | [] => .nil
  | y :: ys => .cons (.str y) (reps_strs ys)
theorem md_split : MtD X "str.split" rSplitD := by
  refine ⟨_, mt_split, fun F H G x dx vs ds g rx rs Q' h Q k => ?_⟩
  unfold rSplitD at h
  split at h
  · rename_i a0 b0
    cases rx
    cases rs with
    | cons r b =>
      cases b
      cases r
      refine ⟨_, _, rfl, rfl, h.1, h.2.1, fun p hp => ?_⟩
      have gr := Gr.new (u := .lst ((Txt.split a0 b0).map V.str)) g.ex hp
      exact k _ _ _ _ G gr.go (g.grow gr) (.lst upd_same (reps_strs _)) h.2.2
  · exact h.elim
/-! ### str(text) -/
def rStrS (ds : List D) (G : GH) (Q : DQ) : Prop := match ds with
  | [.str a] => Q (.str a) G
  | _ => False
theorem cd_strS : CallD X (.type "str") rStrS := by
  refine ⟨_, SkE.call_str_str, fun F H G vs ds g rs Q' h Q k => ?_⟩
  unfold rStrS at h
  split at h
  · cases rs with
    | cons r b =>
      cases b
      cases r
      exact ⟨_, rfl, k _ _ _ _ G Go.refl g (.str _) h⟩
  · exact h.elim
/-! ### tuple * int -/
def rMulT : DR2 := fun x y G Q => match x, y with
  | .tup xs, .int n => xs ≠ [] ∧ 2 ≤ n ∧ n ≤ 1000 ∧ xs.length ≤ 1000 ∧ Q (.tup (List.replicate n.toNat xs).flatten) G
  | _, _ => False
theorem Reps.repN {K : PySem.W.Frag} {F : Hp} {vs : List V} {ds : List D} (r : Reps K F vs ds) : ∀ n : Nat, Reps K F (List.replicate n vs).flatten (List.replicate n ds).flatten
  | 0 => .nil
  | n + 1 => by
    rw [List.replicate_succ, List.replicate_succ, List.flatten_cons, List.flatten_cons]
    exact r.append (Reps.repN r n)
theorem od_mulT : OpD X (binaryOp .Mult) rMulT := by
  refine ⟨_, op_repT, fun F H G x y dx dy g rx ry Q' h Q k => ?_⟩
  unfold rMulT at h
  split at h
  · rename_i xs n
    cases rx with
    | tup ha rs =>
      rename_i a vs
      cases ry
      obtain ⟨h1, h2, h3, h4, h5⟩ := h
      have hl := rs.length
      refine ⟨_, _, vs, rfl, rfl, .inl (.inl (g.ex _ _ ha)), fun z => h1 (by subst z; cases rs; rfl), h2, h3, by omega, fun p hp => ?_⟩
      have gr := Gr.new (u := .tup (List.replicate n.toNat vs).flatten) g.ex hp
      exact k _ _ _ _ G gr.go (g.grow gr) (.tup upd_same ((rs.mono gr.ff).repN _)) h5
  · exact h.elim
/-! ### str(own) -/
theorem goes_i2 {CX : CXT} {k : Nat} {f : Addr} {fd : FuncData} {ps : List Str} {sp : Sp} {E : XK} {pins : List (Addr × Obj)} {σ : L2.St} {H : Hp} {s : Shared} {Q : VK} {us ws : List Value} {zs : List V} (F : FnG X.prog X.w X.K X.mg X.base CX k f fd ps sp) (hA : X.A.guards = some []) (hr : Room (k + 2) X.A)
    (bd : ∀ s : Shared, X.K.In s.heap → ws.length = ps.length → BindsTo s fd ⟨us, []⟩ (ps.zip ws)) (hx : Passes CX X E)
    (I : Inv X pins σ H s) (r : Vals zs ws) (h : sp zs H Q E) : wpAny (model X.prog X.w) X.A.in1.in1 (call (.ref f) us) (EP X pins σ Q) X.xe s := by
  have many : ws.length = ps.length := r.length ▸ F.many zs H Q E h
  refine wpAny_call (codeAny_mono (F.goes X.A.in1.in1 X.stack s H ⟨us, []⟩ ws zs Q E (by first | exact hA | simpa [Around.in1] using hA) hr.in1.in1 I.env0.in1.in1 (bd s I.kIn many) r h) ?_)
  intro res s' z
  match res, z with
  | .error er, z => exact hx pins σ H s er s' I z
  | .ok (.ret u), z => exact I.after z
  | .ok .next, z => exact z.elim
  | .ok .brk, z => exact z.elim
  | .ok .cont, z => exact z.elim
def rStrO (C : Addr) (sp : SpD) (ds : List D) (G : GH) (Q : DQ) : Prop := match ds with
  | [x] => (match x.cur G with
    | .obj C1 _ => C1 = C ∧ sp [x] G fun d G' => match d with
      | .str n => Q (.str n) G'
      | _ => False
    | _ => False)
  | _ => False
def vStrO (X : Cx) (C : Addr) (sp : SpD) : List V → Hp → VK → Prop := fun xs H Q => ∃ a dx fs, xs = [.ref a] ∧ H a = some (.ins C dx fs) ∧ SpOf X.K sp [.ref a] H (fun v H' => ∃ n, v = .str n ∧ Q v H') (fun _ _ _ => False)
theorem cr_strO {C : Addr} {k : Nat} {ps : List Str} {sp : SpD} (c : CalM X.prog X.w X.K X.mg X.base C "__str__" k ps sp) (hA : X.A.guards = some []) (hr : Room (k + 2) X.A) : CallR X (.type "str") (vStrO X C sp) := by
  obtain ⟨f, fd, M, Fn, hb⟩ := c.ex
  intro pins s σ H xs us Q I r hq
  obtain ⟨a, dx, fs, rfl, ha, q⟩ := hq
  rw [Vals.ref1 r]
  obtain ⟨mA, J, _⟩ := ins_get I.hok ha
  obtain ⟨od, J, _⟩ := J.look
  refine PySem.W.kso_call (K := X.K) hr.in1.in1.units0 I.kIn J M.at_ M.fn ?_
  have r2 : Vals [V.ref a] [Value.ref a] := .cons rfl .nil
  refine wpAny_mono (goes_i2 (us := [.ref a]) Fn hA hr (fun s2 i l => by simpa using hb s2 [.ref a] i (by simpa using l)) pass0 I r2 q) (fun w s' z => ?_) fun _ _ z => z
  obtain ⟨v', H', I', rv, n, rfl, q'⟩ := z
  obtain ⟨t, rfl⟩ := rv
  exact ⟨.str n, H', I', ⟨_, rfl⟩, q'⟩
theorem cd_strO {C : Addr} {k : Nat} {ps : List Str} {sp : SpD} (c : CalM X.prog X.w X.K X.mg X.base C "__str__" k ps sp) (hA : X.A.guards = some []) (hr : Room (k + 2) X.A) : CallD X (.type "str") (rStrO C sp) := by
  refine ⟨_, cr_strO c hA hr, fun F H G vs ds g rs Q' h Q k => ?_⟩
  unfold rStrO at h
  split at h
  · rename_i x
    split at h
    · rename_i C1 fs e1
      obtain ⟨rfl, h⟩ := h
      cases rs with
      | cons r1 rt =>
        cases rt
        obtain ⟨a, d1, k1, rfl, ha, _⟩ := cur_obj g r1 e1
        refine ⟨a, d1, k1, rfl, ha, F, G, [x], _, g, .cons r1 .nil, h, ?_⟩
        intro F' H' v d G' e1 g1 r1 h1
        split at h1
        · cases r1
          exact ⟨_, rfl, k F' H' _ _ G' e1 g1 (.str _) h1⟩
        · exact h1.elim
    · exact h.elim
  · exact h.elim
end
end DL
end
section
set_option Elab.async false
set_option linter.all false
set_option maxRecDepth 100000
set_option maxHeartbeats 4000000
/-! DLcm: class methods, called by position and by names; a class called by a local name. -/
namespace DL
open PySem PySem.Spec PyProof.Rows L2 ClX
section
variable {X : Cx} {CX : CXT} {k i : Nat} {f C : Addr} {fd : FuncData} {ps ks : List Str} {sp : Sp} {E : XK} {x m : Str} {p pos apos : Pos} {e o : Expr} {es : List Expr} {kws : List Keyword} {ta : TE} {t tk : TA}
  {dvs : List V} {ds : List Value}
/-- C(..), C held by a local name -/
def tMakeL (i : Nat) (C : Addr) (sp : Sp) (dvs : List V) (E : XK) (t : TA) : TE := fun σ H Q => σ[i]? = some (some (.ref C)) ∧ tMake C sp dvs E t σ H Q
theorem pg_makeL (M : Mk X.K C f) (F : FnG X.prog X.w X.K X.mg X.base CX k f fd ps sp) (hA : X.A.guards = some []) (hr : Room (k + 1) X.A) (hN : X.N[i]? = some x) (hv : Vis X.env.scope x) (hb : Binds X.K fd ps ds) (hd : Vals dvs ds) (hx : Passes CX X E)
    (ha : PA X (e :: es) t) (hdb : (x == ("__debug__" : Str)) = false) (hcd : (x == ("__classdict__" : Str)) = false) (he : starEach (e :: es) X.env = (false, eval e X.env) :: starEach es X.env) (hpl : (backTo pos (starEach es X.env)).any (·.1) = false) :
    PE X (.Call (.Name x p) (e :: es) [] pos) (tMakeL i C sp dvs E t) := by
  refine ⟨fun pins s σ H Q I h => ?_⟩
  obtain ⟨hs, ht⟩ := h
  refine wpAny_Call_Name_kw (thn ((pe_var (pos := p) hN hv hdb hcd).run pins s σ H (fun v H1 => v = .ref C ∧ H1 = H) I ⟨.ref C, hs, rfl, rfl⟩) fun u s1 ⟨v, H1, I1, r1, q1⟩ => ?_)
  obtain ⟨rfl, rfl⟩ := q1
  cases r1
  refine PySem.W.callWith_K (h₀ := X.base) I.ok.mod.kin M.kp (thn (ha.run pos pins s1 σ _ _ I1 ht) ?_) he hpl
  rintro us s2 ⟨vs, H2, I2, r, q⟩
  exact ⟨I2.kIn, goes_make M F hA hr hb hd hx I2 r q⟩
/-- a bound class method run -/
theorem goes_cm {g q0 : Addr} {pins : List (Addr × Obj)} {σ : L2.St} {H : Hp} {s : Shared} {Q : VK} {us ws : List Value} {zs : List V} {kw : List (Str × Value)} (F : FnG X.prog X.w X.K X.mg X.base CX k g fd ps sp) (hA : X.A.guards = some []) (hr : Room k X.A)
    (bd : ∀ s : Shared, X.K.In s.heap → ws.length = ps.length → BindsTo s fd ⟨.ref C :: us, kw⟩ (ps.zip ws)) (hx : Passes CX X E)
    (I : Inv X ((q0, PySem.W.methodObj (.ref g) (.ref C)) :: pins) σ H s) (r : Vals zs ws) (h : sp zs H Q E) : wpAny (model X.prog X.w) X.A (call (.ref q0) us kw) (EP X pins σ Q) X.xe s := by
  have many : ws.length = ps.length := r.length ▸ F.many zs H Q E h
  have z : wpAny (model X.prog X.w) X.A (call (.ref q0) us kw) (EP X ((q0, PySem.W.methodObj (.ref g) (.ref C)) :: pins) σ Q) X.xe s := by
    refine wpAny_call (PySem.W.method_call (pin_at I) (codeAny_mono (F.goes X.A X.stack s H ⟨.ref C :: us, kw⟩ ws zs Q E hA hr I.env0 (bd s I.kIn many) r h) ?_))
    intro res s' z
    match res, z with
    | .error er, z => exact hx _ σ H s er s' I z
    | .ok (.ret u), z => exact I.after z
    | .ok .next, z => exact z.elim
    | .ok .brk, z => exact z.elim
    | .ok .cont, z => exact z.elim
  exact thn z fun _ _ y => unpinE y
end
/-- a class method with a promise -/
structure CalC (P : Program) (w : World) (K : PySem.W.Frag) (mg : Str → Option Value) (base : Heap) (C : Addr) (m : Str) (k : Nat) (ps : List Str) (sp : SpD) : Prop where
  ex : ∃ p g mc fd, CRead K C mc ∧ CMet K C mc m p g ∧ FnG P w K mg base CX0 k g fd ps (SpOf K sp) ∧ Binds K fd ps []
structure CalCK (P : Program) (w : World) (K : PySem.W.Frag) (mg : Str → Option Value) (base : Heap) (C : Addr) (m : Str) (k : Nat) (ps : List Str) (sp : SpD) (ks : List Str) (js : List Nat) : Prop where
  ex : ∃ p g mc fd, CRead K C mc ∧ CMet K C mc m p g ∧ FnG P w K mg base CX0 k g fd ps (SpOf K sp) ∧
    ∀ (s : Shared) (us ws : List Value), us.length = 1 → ws.length = ks.length → BindsTo s fd ⟨us, ks.zip ws⟩ (ps.zip (perm .none js us ws))
section
variable {X : Cx} {pos kpos : Pos}
def dMakeL (i : Nat) (C : Addr) (sp : SpD) (tr : DTA) : DTE := fun S G Q => S[i]? = some (some (.rf C)) ∧ dMake C sp tr S G Q
theorem de_makL (i : Nat) {x y : Str} {C : Addr} {k : Nat} {ps : List Str} {sp : SpD} {p : Pos} {e : Expr} {es : List Expr} {tr : DTA} (c : Mak X.prog X.w X.K X.mg X.base y C k ps sp) (hA : X.A.guards = some []) (hr : Room (k + 1) X.A) (ha : DA X (e :: es) tr)
    (hN : X.N[i]? = some x := by rfl) (hv : Vis X.env.scope x := by first | exact Or.inl rfl | exact Or.inr (Or.inl rfl) | exact Or.inr (Or.inr rfl)) (hdb : (x == ("__debug__" : Str)) = false := by decide) (hcd : (x == ("__classdict__" : Str)) = false := by decide)
    (he : starEach (e :: es) X.env = (false, eval e X.env) :: starEach es X.env := by rfl) (hpl : (backTo pos (starEach es X.env)).any (·.1) = false := by rfl) : DE X (.Call (.Name x p) (e :: es) [] pos) (dCold (dMakeL i C sp tr)) := by
  obtain ⟨f, fd, M, Fn, hm, hb⟩ := c.ex
  obtain ⟨t2, p2, r2⟩ := ha.ex
  refine de_cold ⟨_, pg_makeL M Fn hA hr hN hv hb .nil pass0 p2 hdb hcd he hpl, fun F H σ S G o Q' h Q k => ?_⟩
  obtain ⟨hS, h⟩ := h
  obtain ⟨v, e1, r⟩ := o.s.get hS
  cases r
  refine ⟨e1, r2 F H σ S G o _ h _ fun F1 H1 vs ds G1 e1 g1 q1 h1 => ?_⟩
  intro y dy ny ndy ne
  rw [List.append_nil]
  have gr := Gr.only (u := .own y) g1.ex ndy
  have g2 := g1.grow gr
  have ny2 : upd H1 dy (.own y) y = none := by rw [upd_ne (fun z => ne z.symm)]; exact ny
  have g3 := g2.alloc (u := .ins C dy []) (o := .ins C []) ny2 rfl ⟨dy, [], upd_same, rfl, .nil⟩
  have go3 : Go F1 H1 G1 F1 _ (gput G1 y (.ins C [])) := (gr.go (G := G1)).trans (Go.alloc (u := .ins C dy []) (o := .ins C []) ny2)
  refine ⟨F1, _, .rf y :: ds, _, g3, .cons (.rf y) q1, h1 y (g1.free ny), ?_⟩
  intro F4 H4 v d G4 e4 g4 q4 h4
  split at h4
  · cases q4
    exact ⟨rfl, k F4 H4 _ _ G4 ((e1.trans go3).trans e4) g4 (.rf y) h4⟩
  · exact h4.elim
def dCalC (C : Addr) (sp : SpD) (ta : DTE) (tr : DTA) : DTE := fun S G Q => ta S G fun d G1 => d = .rf C ∧ tr S G1 fun ds G2 => sp (.rf C :: ds) G2 Q
theorem de_calC {pl : Sem Bool} {o e : Expr} {es : List Expr} {C : Addr} {m : Str} {k : Nat} {ps : List Str} {sp : SpD} {ta : DTE} {tr : DTA} {apos : Pos} (c : CalC X.prog X.w X.K X.mg X.base C m k ps sp) (hA : X.A.guards = some []) (hr : Room k X.A) (he : DE X o ta) (ha : DA X (e :: es) tr)
    (hst : starEach (e :: es) X.env = (false, eval e X.env) :: starEach es X.env := by rfl) (hpl : (backTo pos (starEach es X.env)).any (·.1) = false := by rfl)
    (ht : eval (.Call (.Attribute o m apos) (e :: es) [] pos) X.env = (do let ov ← eval o X.env; standAt apos.atName; let (f, first) ← holding [ov] (getMethod ov m pl); callWith pos f first (backTo pos (starEach (e :: es) X.env)) (backToKw pos (keywordEach [] X.env))) := by rfl) :
    DE X (.Call (.Attribute o m apos) (e :: es) [] pos) (dCalC C sp ta tr) := by
  obtain ⟨p, g, mc, fd, cr, cm, Fn, hb⟩ := c.ex
  obtain ⟨t1, p1, r1⟩ := he.ex
  obtain ⟨t2, p2, r2⟩ := ha.ex
  refine ⟨fun σ H Q => t1 σ H fun x H1 => x = .ref C ∧ t2 σ H1 fun vs H2 => SpOf X.K sp (.ref C :: vs) H2 Q (fun _ _ _ => False), ?_, fun F H σ S G o Q' h Q kk => ?_⟩
  · constructor
    intro pins s σ H Q I h
    refine PySem.W.methodCall_KW (pl := pl) (thn (p1.run pins s σ H _ I h) ?_) ht
    rintro u s1 ⟨y, H1, I1, rx, ex, q⟩
    subst ex
    obtain rfl : u = Value.ref C := rx
    refine getmethcm_ok I1 cr cm fun s2 I2 => ?_
    refine callwith_cm I2 (base_none I1 (Nat.le_refl _)) cm.fi (thn (p2.run pos _ s2 σ H1 _ I2 q) fun us s3 ⟨vs, H2, I3, rv, q2⟩ => ⟨⟨pin_at I3, I3.kIn⟩, ?_⟩) hst hpl
    exact goes_cm (us := us) (ws := .ref C :: us) (zs := .ref C :: vs) Fn hA hr (fun s4 i l => by simpa using hb s4 (.ref C :: us) i (by simpa using l)) pass0 I3 (.cons rfl rv) q2
  · refine r1 F H σ S G o _ h _ fun F1 H1 v d G1 e1 g1 q1 h1 => ?_
    obtain ⟨rfl, h1⟩ := h1
    cases q1
    refine ⟨rfl, r2 F1 H1 σ S G1 (o.go e1 g1) _ h1 _ fun F2 H2 zs es G2 e2 g2 q2 h2 => ?_⟩
    exact ⟨F2, G2, _, Q', g2, .cons (.rf C) q2, h2, kk.mono (e1.trans e2)⟩
def dCalCK (C : Addr) (sp : SpD) (n : Nat) (js : List Nat) (ta : DTE) (tk : DTA) : DTE := fun S G Q => ta S G fun d G1 => d = .rf C ∧ tk S G1 fun zs G2 => zs.length = n ∧ sp (perm .non js [.rf C] zs) G2 Q
theorem de_calCK {pl : Sem Bool} {o : Expr} {C : Addr} {m : Str} {k : Nat} {ps : List Str} {sp : SpD} {ks : List Str} {js : List Nat} {kws : List Keyword} {ta : DTE} {tk : DTA} {apos : Pos} (c : CalCK X.prog X.w X.K X.mg X.base C m k ps sp ks js) (hA : X.A.guards = some []) (hr : Room k X.A) (he : DE X o ta) (hw : DK X kws tk)
    (hall : (backToKw pos (keywordEach kws X.env)).all (·.1.isSome) = true := by rfl) (hks : (backToKw pos (keywordEach kws X.env)).filterMap (·.1) = ks := by rfl)
    (hpl : ((backTo pos (starEach [] X.env)).any (·.1) || (backToKw pos (keywordEach kws X.env)).any (·.1.isNone)) = false := by rfl)
    (ht : eval (.Call (.Attribute o m apos) [] kws pos) X.env = (do let ov ← eval o X.env; standAt apos.atName; let (f, first) ← holding [ov] (getMethod ov m pl); callWith pos f first (backTo pos (starEach [] X.env)) (backToKw pos (keywordEach kws X.env))) := by rfl) :
    DE X (.Call (.Attribute o m apos) [] kws pos) (dCalCK C sp ks.length js ta tk) := by
  obtain ⟨p, g, mc, fd, cr, cm, Fn, hb⟩ := c.ex
  obtain ⟨t1, p1, r1⟩ := he.ex
  obtain ⟨t2, p2, r2⟩ := hw.ex
  refine ⟨fun σ H Q => t1 σ H fun x H1 => x = .ref C ∧ t2 σ H1 fun zs H2 => zs.length = ks.length ∧ SpOf X.K sp (perm .non js [.ref C] zs) H2 Q (fun _ _ _ => False), ?_, fun F H σ S G o Q' h Q kk => ?_⟩
  · constructor
    intro pins s σ H Q I h
    refine PySem.W.methodCall_KW (pl := pl) (thn (p1.run pins s σ H _ I h) ?_) ht
    rintro u s1 ⟨y, H1, I1, rx, ex, q⟩
    subst ex
    obtain rfl : u = Value.ref C := rx
    refine getmethcm_ok I1 cr cm fun s2 I2 => ?_
    refine PySem.W.callWith_of (P := PySem.W.MethP X.K s1.heap.objs.size g (.ref C)) hpl (PySem.W.keeps_M cm.fi) (evalArgs_kw2_nil hall (thn (p2.run pos _ s2 σ H1 _ I2 q) ?_))
    rintro ws s3 ⟨zs, H2, I3, rz, l2, q2⟩
    refine ⟨⟨pin_at I3, I3.kIn⟩, ?_⟩
    rw [hks]
    exact goes_cm (us := []) Fn hA hr (fun s4 i l => hb s4 [.ref C] ws rfl (by rw [← rz.length]; exact l2)) pass0 I3 (vals_perm (vs := [.ref C]) (us := [.ref C]) (.cons rfl .nil) rz js) q2
  · refine r1 F H σ S G o _ h _ fun F1 H1 v d G1 e1 g1 q1 h1 => ?_
    obtain ⟨rfl, h1⟩ := h1
    cases q1
    refine ⟨rfl, r2 F1 H1 σ S G1 (o.go e1 g1) _ h1 _ fun F2 H2 zs es G2 e2 g2 q2 h2 => ?_⟩
    exact ⟨by rw [q2.length]; exact h2.1, F2, G2, _, Q', g2, reps_perm (.cons (.rf C) .nil) q2 js, h2.2, kk.mono (e1.trans e2)⟩
end
/-- the def of a class method of the class at C -/
structure DefC (K : PySem.W.Frag) (C : Addr) (m qual : Str) (st : Stmt) : Prop where
  ex : ∃ p g mc fd, Fun K m qual st g fd ∧ CRead K C mc ∧ CMet K C mc m p g
theorem calC_mk {P : Program} {w : World} {K : PySem.W.Frag} {mg : Str → Option Value} {base : Heap} {m qual : Str} {C : Addr} {st : Stmt} {N ps : List Str} {k : Nat} {sp : SpD} {ks : List Str} {js : List Nat} (d : DefC K C m qual st) (sc : FnScope N ps (defScope st)) (len : ∀ ds G Q, sp ds G Q → ds.length = ps.length)
    (bi : ∀ (kV doc pm : Value) (an : Option Addr) (cdv ct : Value) (us : List Value), us.length = ps.length → bindArgs (PySem.W.fnOf m qual (defArgs st) (defBody st) (defScope st) .none kV doc pm an cdv ct) ⟨us, []⟩ = pure (ps.zip us))
    (bk : ∀ (kV doc pm : Value) (an : Option Addr) (cdv ct : Value) (us ws : List Value), us.length = 1 → ws.length = ks.length → bindArgs (PySem.W.fnOf m qual (defArgs st) (defBody st) (defScope st) .none kV doc pm an cdv ct) ⟨us, ks.zip ws⟩ = pure (ps.zip (perm .none js us ws)))
    (hb : ∀ (f : Addr) (cdv : Value) (A : Around) (outer : List Env) (s : Shared) (H : Hp) (E : XK), A.guards = some [] → Room k (A.deeper (envOfC qual (defScope st) s.heap.objs.size f cdv)) →
      ∃ t', DPs (cxOf CX0 P w K mg base N qual (defScope st) f cdv A outer s H E).nox (defBody st) t' ∧ ∀ ds G Q, sp ds G Q → t' (fin Q) (dstart N ds) G) : CalC P w K mg base C m (k + 1) ps sp ∧ CalCK P w K mg base C m (k + 1) ps sp ks js := by
  obtain ⟨p, g, mc, fd, Fu, cr, cm⟩ := d.ex
  have fn := fn_mk (P := P) (w := w) (mg := mg) (base := base) Fu sc len (hb g)
  refine ⟨⟨p, g, mc, fd, cr, cm, fn, Fu.binds bi⟩, p, g, mc, fd, cr, cm, fn, fun s us ws h1 h2 => ?_⟩
  obtain ⟨oc, od, kV, doc, pm, an, cdv, ct, osl, rfl, lk, hcd⟩ := Fu.ex
  exact .of_eq (bk kV doc pm an cdv ct us ws h1 h2)
end DL
end
section
set_option Elab.async false
set_option linter.all false
set_option maxRecDepth 100000
set_option maxHeartbeats 4000000
/-! DLes: enumerate(list, start=k). -/
namespace DL
open PySem PySem.Spec PyProof.Rows L2
def ItF (k0 : Int) (xs : List V) (ok : Hp → Prop) : It :=
  ⟨fun i H => ok H ∧ i < xs.length, fun i H v H' => ∃ T x, v = .ref T ∧ H T = none ∧ H' = upd H T (.tup [.int (k0 + (i : Nat)), x]) ∧ xs[i]? = some x, fun i H => ok H ∧ i = xs.length⟩
theorem turn_enumFrom (k0 : Int) {P : Program} {w : World} {K : PySem.W.Frag} {elts : List Expr} {kk : Nat} {tpos : Pos} {xs : List V} {ok : Hp → Prop} {e it : Addr} {Si : Nat → Heap → Prop}
    (live : ∀ i h, Si i h → ∃ o, h.get? it = some o ∧ ∀ v, o.data ≠ .cell v) (keep : ∀ i h h', Si i h → (∀ o, h.get? it = some o → h'.get? it = some o) → Si i h')
    (dr : ∀ (X : Cx) (pins : List (Addr × Obj)) (σ : L2.St) (H : Hp) (s : Shared), X.prog = P → X.w = w → X.K = K → X.A.handled = none → Inv X pins σ H s → ok H → ∃ (fp : List Addr) (Pv : Nat → Value → Prop) (St : Nat → Heap → Prop), it ∈ fp ∧ (∀ b ∈ fp, b ≠ it → ∃ u, H b = some u) ∧ Draws P w X.A.in1 it fp xs.length Pv St ∧
      (∀ i, Si i s.heap → St i s.heap) ∧ (∀ i h, St i h → Si i h) ∧ ∀ i u x, Pv i u → xs[i]? = some x → RelV x u) :
    Turn P w K (.Tuple elts kk tpos) (ItF k0 xs ok) [e, it] e (fun i h => (∃ old, IsEnum h e it (k0 + ((i : Nat) : Int)) old) ∧ Si i h ∧ e ≠ it) where
  mem := by simp
  obj := by
    intro i h st b hb
    obtain ⟨⟨old, he⟩, hs, _⟩ := st
    have q : b = e ∨ b = it := by simpa using hb
    rcases q with q | q
    · subst q; exact ⟨_, he, fun v z => nomatch z⟩
    · subst q; exact live i h hs
  keep := by
    intro i h h' st k
    obtain ⟨⟨old, he⟩, hs, ne⟩ := st
    exact ⟨⟨old, k e (by simp) _ he⟩, keep i h h' hs fun o z => k it (by simp) o z, ne⟩
  item := by
    intro X hP hw hK hc i pins s σ H E I hf st hg
    obtain ⟨⟨old, he⟩, hs, ne⟩ := st
    obtain ⟨hok, hi⟩ := hg
    obtain ⟨fp, Pv, St, m0, mt, Dr, s1, s2, rel⟩ := dr X pins σ H s hP hw hK (I.ok.hd hc) I hok
    subst hP hw hK
    have el : e < s.heap.objs.size := Heap.lt_size he
    have il : it < s.heap.objs.size := by
      obtain ⟨o, z, _⟩ := live i _ hs
      exact Heap.lt_size z
    have ef : e ∉ fp := by
      intro z
      obtain ⟨u, hu⟩ := mt e z ne
      rw [(hf e (by simp)).1] at hu
      cases hu
    refine wpAny_pyNext_enum_itemC Dr he (s1 i hs) hi ne ef ?_
    intro x h' tk px ho hst hT hsz hk
    refine ⟨_, rfl, wpAny_letOwnedTupleGo_enum (s := { s with heap := h', toks := tk + 1 }) ho ?_⟩
    intro h'' he' sb
    have hx : xs[i]? = some xs[i] := List.getElem?_eq_getElem hi
    have rx := rel i x _ px hx
    have hT2 := (sb.2 _ (Nat.ne_of_gt el)).trans hT
    have nw : ObjOk X.prog X.w (upd H s.heap.objs.size (.tup [.int (k0 + (i : Nat)), xs[i]])) h'' s.heap.objs.size (.tup [.int (k0 + (i : Nat)), xs[i]]) :=
      ⟨(by decide : 2 ≤ sizeLine), [.int (k0 + i) tk, x], .cons ⟨_, rfl⟩ (.cons rx .nil), ⟨_, hT2, rfl, _, rfl⟩⟩
    have J : Inv X pins σ (upd H s.heap.objs.size (.tup [.int (k0 + (i : Nat)), xs[i]])) { s with heap := h'', toks := tk + 1 } := by
      refine I.turnedNew (ch := [e, it]) ?_ hf (Nat.le_refl _) nw
      intro b ob hb q
      have b1 : b ≠ e := fun z => hb (by simp [z])
      have b2 : b ≠ it := fun z => hb (by simp [z])
      exact (sb.2 b b1).trans (hk b ob b1 b2 q)
    refine ⟨.ref s.heap.objs.size, _, J, rfl, ⟨_, _, rfl, I.hok.fresh (Nat.le_refl _), rfl, hx⟩, ⟨⟨x, ?_⟩, ?_, ne⟩, ?_⟩
    · have z : (k0 + ((i + 1 : Nat) : Int)) = k0 + (i : Int) + 1 := by omega
      rw [z]; exact he'
    · exact keep _ _ _ (s2 _ _ hst) fun o q => (sb.2 it (Ne.symm ne)).trans q
    · intro b hb
      have q : b = e ∨ b = it := by simpa using hb
      have lt : b < s.heap.objs.size := by rcases q with q | q <;> (rw [q]; assumption)
      rw [upd_ne (Nat.ne_of_lt lt)]
      exact (hf b hb).1
  done := by
    intro X hP hw hK hc i pins s σ H E I hf st hg
    obtain ⟨⟨old, he⟩, hs, ne⟩ := st
    obtain ⟨hok, hi⟩ := hg
    obtain ⟨fp, Pv, St, m0, mt, Dr, s1, s2, rel⟩ := dr X pins σ H s hP hw hK (I.ok.hd hc) I hok
    subst hP hw hK
    subst hi
    refine wpAny_pyNext_enum_endD Dr he (s1 _ hs) ?_
    intro h' eb
    refine ⟨rfl, I.turnedL (t' := s.toks) (ch := [e, it]) ?_ hf⟩
    intro b o hb q
    exact eb b o (fun z => hb (by simp [z])) q
  self := fun A i s Q E st h => let ⟨⟨_, he⟩, _⟩ := st; wpAny_pyIter_enum he h
theorem callWith_type_kwB {M : Model} {A : Around} {E : Value → Shared → Prop} {s : Shared} {pos : Pos} {T : String} {first : List Value} {args : List (Bool × Sem Value)} {keywords : List (Option Str × Sem Value)} {Q : Value → Shared → Prop}
    (hplain : args.any (·.1) = false) (hkw : keywords.any (·.1.isNone) = false)
    (h : wpAny M A (evalArgs (.type T) true args keywords) (fun a s₁ => wpAny M A (call (.type T) (first ++ a.pos) a.kw) Q E s₁) E s) :
    wpAny M A (callWith pos (.type T) first args keywords) Q E s := by
  unfold callWith
  refine wpAny_bind (wpAny_holding (wpAny_mono h (fun a s₁ h₁ => wpAny_bind (wpAny_standAt ?_)) fun _ _ x => x))
  simp only [hplain, hkw, Bool.or_false]
  refine wpAny_bind (wpAny_pure ?_)
  exact wpAny_bind (wpAny_mono h₁ (fun r s₂ hr => wpAny_bind (wpAny_holding (wpAny_point (wpAny_pure hr)))) fun _ _ x => x)
def iEnumF (k0 : Int) (ta : TA) : TI := fun σ H R => ta σ H fun vs H1 => ∃ a xs, vs = [.ref a] ∧ H1 a = some (.lst xs) ∧ R (ItF k0 xs fun H => H a = some (.lst xs)) H1
theorem pi_enumF {X : Cx} {e : Expr} {ta : TA} {k0 : Int} {p pos tpos kpos cpos : Pos} {elts : List Expr} {kk jj : Nat} (h0 : -(2 ^ 63) ≤ k0) (h1 : k0 < 2 ^ 63) (hg : Gl X "enumerate") (hm : X.mg "enumerate" = none) (ha : PA X [e] ta) (hs : starEach [e] X.env = (false, eval e X.env) :: starEach [] X.env := by rfl) :
    PI X (.Tuple elts kk tpos) (.Call (.Name "enumerate" p) [e] [⟨some "start", .Constant (.int k0) jj cpos, kpos⟩] pos) (iEnumF k0 ta) := by
  constructor
  intro pins s σ H R I h
  refine wpAny_Call_Name_kw (ld_blt I hg hm boot_enumerate (callWith_type_kwB ?_ ?_ (evalArgs_kw2 ?_ (thn (ha.run pos pins s σ H _ I h) ?_) hs)))
  · rw [hs]; rfl
  · rfl
  · rfl
  rintro us s1 ⟨vs, H1, I1, r1, a, xs, rfl, hq, q⟩
  have pk : PK X [⟨some "start", .Constant (.int k0) jj cpos, kpos⟩] (tCons (tC (.int k0)) tNil) := pk_cons pe_int pk_nil
  refine thn (pk.run pos pins s1 σ H1 (fun zs H2 => zs = [.int k0] ∧ H2 = H1) I1 ⟨rfl, rfl⟩) ?_
  rintro ws s2 ⟨zs, H2, I2, rz, rfl, rfl⟩
  cases r1 with
  | cons r rr =>
    cases rr
    cases r
    cases rz with
    | cons rk rr =>
      cases rr
      obtain ⟨tk, rfl⟩ := rk
      obtain ⟨its, rv, tu, hz⟩ := I2.list (xs := xs) (a := a) (.inl (.inl hq))
      have hl := rv.length
      show wpAny (model X.prog X.w) X.A (call (.type "enumerate") [.ref a] [(Str.ofString "start", .int k0 tk)]) _ _ s2
      refine enum_begins_start (begins_list a its.toArray) tu.isList h0 h1 ?_
      intro h' he hit hsz hk
      refine wpAny_pyIter_enum he ?_
      have J : Inv X pins σ H2 { s2 with heap := h' } := I2.kept (t' := s2.toks) hk
      have he0 : IsEnum h' (s2.heap.objs.size + 1) s2.heap.objs.size (k0 + ((0 : Nat) : Int)) .none := by
        have z : k0 + ((0 : Nat) : Int) = k0 := by omega
        rw [z]; exact he
      refine ⟨s2.heap.objs.size + 1, [s2.heap.objs.size + 1, s2.heap.objs.size], _, _, H2, rfl, J, turn_enumFrom k0 (Si := fun i h => h.IsListIter s2.heap.objs.size a i) ?_ ?_ ?_, ⟨⟨.none, he0⟩, ⟨_, hit, rfl, rfl⟩, Nat.succ_ne_self _⟩, ?_, q⟩
      · rintro i h ⟨o, z, c, d⟩
        exact ⟨o, z, fun v y => by rw [d] at y; cases y⟩
      · rintro i h h' ⟨o, z, c⟩ k
        exact ⟨o, k o z, c⟩
      · intro X2 pins2 σ2 H3 s3 hP hw hK hh I3 hok
        have hne : a ≠ s2.heap.objs.size := by
          intro z
          have := I2.hok.fresh (Nat.le_refl s2.heap.objs.size)
          rw [← z, hq] at this
          cases this
        obtain ⟨its2, rv2, tu2, hz2⟩ := I3.list (xs := xs) (a := a) (.inl (.inl hok))
        have hl2 := rv2.length
        refine ⟨[s2.heap.objs.size, a], fun i v => its2.toArray[i]? = some v, fun i h => h.IsListIter s2.heap.objs.size a i ∧ h.IsList a its2.toArray, by simp, fun b hb hb2 => ?_, ?_, fun i z => ⟨z, tu2.isList⟩, fun i h z => z.1, fun i u x pu hx => ?_⟩
        · have : b = a := by
            have q : b = s2.heap.objs.size ∨ b = a := by simpa using hb
            rcases q with q | q
            · exact absurd q hb2
            · exact q
          subst this
          exact ⟨_, hok⟩
        · have := Draws.list (prog := X.prog) (w := X.w) (A := X2.A.in1) hh s2.heap.objs.size a hne its2.toArray
          have ez : its2.toArray.size = xs.length := by rw [hl2]; simp
          rw [ez] at this
          exact this
        · refine vals_getD rv2 ?_ hx
          simpa using pu
      · refine fresh_fp I2 fun b hb => ?_
        have q : b = s2.heap.objs.size + 1 ∨ b = s2.heap.objs.size := by simpa using hb
        rcases q with q | q
        · rw [q]; exact Nat.le_add_right _ _
        · rw [q]; exact Nat.le_refl _
section
variable {X : Cx} {pos : Pos}
def diEnumF (k0 : Int) (ta : DTA) : DTI := fun S G R => ta S G fun ds G1 => match ds with
  | [.lst xs] => R (xs.mapIdx fun i x => .tup [.int (k0 + (i : Nat)), x]) dNoGuard G1
  | _ => False
theorem di_enumF {e : Expr} {ta : DTA} {k0 : Int} {p tpos kpos cpos : Pos} {elts : List Expr} {kk jj : Nat} (h0 : -(2 ^ 63) ≤ k0) (h1 : k0 < 2 ^ 63) (hg : Gl X "enumerate") (hm : X.mg "enumerate" = none) (ha : DA X [e] ta) (hs : starEach [e] X.env = (false, eval e X.env) :: starEach [] X.env := by rfl) :
    DI X (.Tuple elts kk tpos) (.Call (.Name "enumerate" p) [e] [⟨some "start", .Constant (.int k0) jj cpos, kpos⟩] pos) (diEnumF k0 ta) := by
  obtain ⟨t, p1, r⟩ := ha.ex
  refine ⟨_, pi_enumF h0 h1 hg hm p1 hs, fun F H σ S G o R' h R k => ?_⟩
  refine r F H σ S G o _ h _ fun F1 H1 vs ds G1 e1 g1 q1 h1 => ?_
  dsimp only at h1
  split at h1
  · rename_i xs
    cases q1 with
    | cons q rest =>
      cases rest
      cases q with
      | lst hq rs =>
        rename_i a ws
        refine ⟨a, ws, rfl, g1.ex _ _ hq, k F1 H1 G1 _ _ _ e1 g1 ⟨fun F2 H2 G2 i d e2 g2 _ hd => ?_, fun F2 H2 G2 e2 g2 _ => ?_⟩ h1⟩
        · rw [List.getElem?_mapIdx] at hd
          cases ex : xs[i]? with
          | none => rw [ex] at hd; cases hd
          | some x =>
            rw [ex] at hd
            cases hd
            have hi : i < ws.length := by
              rw [rs.length]
              exact (List.getElem?_eq_some_iff.mp ex).1
            refine ⟨⟨g2.ex _ _ (e2 _ _ hq), hi⟩, fun y H3 hy => ?_⟩
            obtain ⟨T, z, rfl, hT, rfl, hz⟩ := hy
            obtain ⟨x', hx', rx'⟩ := rs.get' hz
            rw [ex] at hx'
            cases hx'
            have gr := Gr.new (u := .tup [.int (k0 + (i : Nat)), z]) g2.ex hT
            exact ⟨_, gr.go, g2.grow gr, .tup upd_same (.cons (.int _) (.cons ((rx'.mono e2).mono gr.ff) .nil))⟩
        · refine ⟨g2.ex _ _ (e2 _ _ hq), ?_⟩
          rw [List.length_mapIdx, rs.length]
  · exact h1.elim
end
end DL
end
section
set_option Elab.async false
set_option linter.all false
set_option maxRecDepth 100000
set_option maxHeartbeats 4000000
/-! Mg: texts of rules. -/
namespace Pace
open PySem PySem.Spec PyProof.Rows L2 DL
/-! ### words one behind the other -/
def joinC (c : Nat) : List (List Nat) → List Nat
  | [] => []
  | [x] => x
  | x :: y :: r => x ++ c :: joinC c (y :: r)
theorem tl_strOf (x : List Nat) : TL.tl (strOf x) = x := by simp [TL.tl, strOf]
theorem join_strOf (c : Nat) : ∀ xs : List (List Nat), Txt.join (strOf [c]) (xs.map strOf) = strOf (joinC c xs) := by
  intro xs
  rw [TL.join_eq]
  induction xs with
  | nil => rfl
  | cons x xs ih =>
    cases xs with
    | nil => rfl
    | cons y r =>
      show strOf x ++ strOf [c] ++ Str.join (strOf [c]) ((y :: r).map strOf) = _
      rw [ih, strOf_app, strOf_app]
      simp [joinC]
theorem split_strOf {c : Nat} (hc : c < 256) {xs : List (List Nat)} (hne : xs ≠ []) (h : ∀ x ∈ xs, c ∉ x) : Txt.split (strOf (joinC c xs)) (strOf [c]) = xs.map strOf := by
  rw [← join_strOf]
  refine TL.split_join (s := c) (S := []) (tl_strOf [c]) (by simp [strOf]; exact hc) (by simpa using hne) fun p hp => ?_
  obtain ⟨x, hx, rfl⟩ := List.mem_map.mp hp
  rw [tl_strOf]
  exact h x hx
theorem joinC_inj {c : Nat} (hc : c < 256) {xs ys : List (List Nat)} (hx : xs ≠ []) (hy : ys ≠ []) (h1 : ∀ x ∈ xs, c ∉ x) (h2 : ∀ x ∈ ys, c ∉ x) (h : joinC c xs = joinC c ys) : xs = ys := by
  have e1 := split_strOf hc hx h1
  have e2 := split_strOf hc hy h2
  rw [h, e2] at e1
  have : (ys.map strOf).map (fun z => z.cps.toList) = (xs.map strOf).map (fun z => z.cps.toList) := by rw [e1]
  simpa [List.map_map, Function.comp_def, strOf] using this.symm
theorem joinC_len (c : Nat) : ∀ xs : List (List Nat), (joinC c xs).length ≤ (xs.map fun x => x.length + 1).sum
  | [] => Nat.le_refl _
  | [x] => by simp [joinC]
  | x :: y :: r => by
    have := joinC_len c (y :: r)
    simp only [joinC, List.length_append, List.length_cons, List.map_cons, List.sum_cons] at this ⊢
    omega
theorem joinC_not {c d : Nat} (hcd : d ≠ c) : ∀ {xs : List (List Nat)}, (∀ x ∈ xs, d ∉ x) → d ∉ joinC c xs
  | [], _ => by simp [joinC]
  | [x], h => h x (by simp)
  | x :: y :: r, h => by
    have ih := joinC_not hcd (xs := y :: r) fun z hz => h z (List.mem_cons_of_mem _ hz)
    simp only [joinC, List.mem_append, List.mem_cons, not_or]
    exact ⟨h x List.mem_cons_self, hcd, ih⟩
/-! ### numbers -/
def numS (n : Nat) : List Nat := (Nat.toDigits 10 n).map Char.toNat
theorem str_num (n : Nat) : Str.ofString (toString (n : Int)) = strOf (numS n) := by
  rw [Str.ofString_eq_toList]
  have : (toString (n : Int)).toList = Nat.toDigits 10 n := by
    rw [Int.toString_eq_repr, Int.repr_eq_if]
    simp [Nat.toList_repr]
  rw [this]
  rfl
/-- read sign by sign -/
def valS (l : List Nat) : Nat := l.foldl (fun a c => a * 10 + (c - 48)) 0
def numB (n : Nat) : Bool := (numS n).all (fun c => decide (48 ≤ c) && decide (c ≤ 57)) && decide (1 ≤ (numS n).length) && decide ((numS n).length ≤ 3) && decide (valS (numS n) = n) && (decide ((numS n).head? ≠ some 48) || decide (numS n = [48]))
theorem num_all : (List.range 1000).all numB = true := by decide +kernel
structure Num (n : Nat) : Prop where
  dig : ∀ c ∈ numS n, 48 ≤ c ∧ c ≤ 57
  l1 : 1 ≤ (numS n).length
  l3 : (numS n).length ≤ 3
  val : valS (numS n) = n
  head : (numS n).head? ≠ some 48 ∨ numS n = [48]
theorem num_ok {n : Nat} (h : n < 1000) : Num n := by
  have := List.all_eq_true.mp num_all n (List.mem_range.mpr h)
  unfold numB at this
  simp only [Bool.and_eq_true, List.all_eq_true, decide_eq_true_eq, Bool.or_eq_true] at this
  exact ⟨this.1.1.1.1, this.1.1.1.2, this.1.1.2, this.1.2, this.2⟩
theorem num_inj {a b : Nat} (ha : a < 1000) (hb : b < 1000) (h : numS a = numS b) : a = b := by
  rw [← (num_ok ha).val, ← (num_ok hb).val, h]
/-! ### the text -/
def wRules : List Nat := [114, 117, 108, 101, 115]
def wMove : List Nat := [109, 111, 118, 101]
theorem s_rules : Str.ofString "rules" = strOf wRules := by decide +kernel
theorem s_move : Str.ofString "move" = strOf wMove := by decide +kernel
theorem s_rulesB : Str.ofString "rules " = strOf (wRules ++ [32]) := by decide +kernel
theorem s_blank : Str.ofString " " = strOf [32] := by decide +kernel
theorem s_break : Str.ofString "\n" = strOf [10] := by decide +kernel
def headW (hs ws : List Nat) (n : Nat) : List (List Nat) := [wRules, hs, ws, numS n]
def moveW (x : Nat × Mv) : List (List Nat) := [wMove, numS x.1, [x.2.h], [x.2.c], numS x.2.t]
/-- all moves, one behind the other -/
def flatM (rs : List (List Mv)) : List (Nat × Mv) := (List.range rs.length).flatMap fun s => (rs.getD s []).map fun m => (s, m)
def linesOf (hs ws : List Nat) (rs : List (List Mv)) : List (List Nat) := joinC 32 (headW hs ws rs.length) :: (flatM rs).map fun x => joinC 32 (moveW x)
def textOf (hs ws : List Nat) (rs : List (List Mv)) : List Nat := joinC 10 (linesOf hs ws rs)
/-- rules that can be written -/
structure Wri (hs ws : List Nat) (rs : List (List Mv)) : Prop where
  val : RulV hs ws rs
  few : (flatM rs).length ≤ 5000
theorem letters_az {cs : List Nat} (h : lettersB cs = true) : ∀ c ∈ cs, 97 ≤ c ∧ c ≤ 122 := by
  have ab : ∀ c ∈ abc, 97 ≤ c ∧ c ≤ 122 := by decide +kernel
  unfold lettersB at h
  simp only [Bool.and_eq_true, List.all_eq_true, decide_eq_true_eq] at h
  exact fun c hc => ab c (h.1.2 c hc)
theorem flat_mem {rs : List (List Mv)} {x : Nat × Mv} (h : x ∈ flatM rs) : x.1 < rs.length ∧ ∃ r ∈ rs, x.2 ∈ r := by
  obtain ⟨s, hs, hx⟩ := List.mem_flatMap.mp h
  obtain ⟨m, hm, rfl⟩ := List.mem_map.mp hx
  have hs := List.mem_range.mp hs
  refine ⟨hs, rs[s], List.getElem_mem hs, ?_⟩
  rwa [List.getD_eq_getElem?_getD, List.getElem?_eq_getElem hs] at hm
structure MvP (hs ws : List Nat) (n : Nat) (x : Nat × Mv) : Prop where
  s : x.1 < n
  h : x.2.h ∈ hs
  c : x.2.c ∈ ws
  t : x.2.t < n
theorem Wri.mv {hs ws : List Nat} {rs : List (List Mv)} (w : Wri hs ws rs) : ∀ x ∈ flatM rs, MvP hs ws rs.length x := fun x hx => by
  obtain ⟨h1, r, hr, hm⟩ := flat_mem hx
  have := (w.val.row r hr).1
  unfold rowB at this
  simp only [Bool.and_eq_true, List.all_eq_true] at this
  have := this.1 _ hm
  unfold mvB at this
  simp only [Bool.and_eq_true, decide_eq_true_eq] at this
  exact ⟨h1, this.1.1, this.1.2, this.2⟩
theorem head_no {hs ws : List Nat} {n c : Nat} (lh : lettersB hs = true) (lw : lettersB ws = true) (hn : n < 1000) (hc : c = 32 ∨ c = 10) : ∀ x ∈ headW hs ws n, c ∉ x := by
  intro x hx
  simp only [headW, List.mem_cons, List.not_mem_nil, or_false] at hx
  rcases hx with rfl | rfl | rfl | rfl
  · rcases hc with rfl | rfl <;> decide
  · intro z; have := letters_az lh _ z; omega
  · intro z; have := letters_az lw _ z; omega
  · intro z; have := (num_ok hn).dig _ z; omega
theorem move_no {hs ws : List Nat} {n c : Nat} {x : Nat × Mv} (lh : lettersB hs = true) (lw : lettersB ws = true) (hn : n ≤ 999) (hx : MvP hs ws n x) (hc : c = 32 ∨ c = 10) : ∀ y ∈ moveW x, c ∉ y := by
  intro y hy
  have a1 := letters_az lh _ hx.h
  have a2 := letters_az lw _ hx.c
  have b1 := hx.s
  have b2 := hx.t
  simp only [moveW, List.mem_cons, List.not_mem_nil, or_false] at hy
  rcases hy with rfl | rfl | rfl | rfl | rfl
  · rcases hc with rfl | rfl <;> decide
  · intro z; have := (num_ok (show x.1 < 1000 by omega)).dig _ z; omega
  · simp only [List.mem_singleton]; omega
  · simp only [List.mem_singleton]; omega
  · intro z; have := (num_ok (show x.2.t < 1000 by omega)).dig _ z; omega
theorem lines_no {hs ws : List Nat} {rs : List (List Mv)} (w : Wri hs ws rs) : ∀ l ∈ linesOf hs ws rs, 10 ∉ l := by
  intro l hl
  have n2 := w.val.n2
  rcases List.mem_cons.mp hl with rfl | hl
  · exact joinC_not (by decide) (head_no w.val.lh w.val.lw (by omega) (.inr rfl))
  · obtain ⟨x, hx, rfl⟩ := List.mem_map.mp hl
    exact joinC_not (by decide) (move_no w.val.lh w.val.lw n2 (w.mv x hx) (.inr rfl))
theorem lines_split {hs ws : List Nat} {rs : List (List Mv)} (w : Wri hs ws rs) : Txt.split (strOf (textOf hs ws rs)) (strOf [10]) = (linesOf hs ws rs).map strOf :=
  split_strOf (by decide) (by simp [linesOf]) (lines_no w)
theorem head_split {hs ws : List Nat} {n : Nat} (lh : lettersB hs = true) (lw : lettersB ws = true) (hn : n < 1000) : Txt.split (strOf (joinC 32 (headW hs ws n))) (strOf [32]) = (headW hs ws n).map strOf :=
  split_strOf (by decide) (by simp [headW]) (head_no lh lw hn (.inl rfl))
theorem move_split {hs ws : List Nat} {n : Nat} {x : Nat × Mv} (lh : lettersB hs = true) (lw : lettersB ws = true) (hn : n ≤ 999) (hx : MvP hs ws n x) : Txt.split (strOf (joinC 32 (moveW x))) (strOf [32]) = (moveW x).map strOf :=
  split_strOf (by decide) (by simp [moveW]) (move_no lh lw hn hx (.inl rfl))
theorem letters_26 {cs : List Nat} (h : lettersB cs = true) : cs.length ≤ 1000 → (cs.length : Nat) ≤ 1000 := fun z => z
theorem move_len {hs ws : List Nat} {n : Nat} {x : Nat × Mv} (hn : n ≤ 999) (hx : MvP hs ws n x) : (joinC 32 (moveW x)).length ≤ 20 := by
  have b1 := hx.s
  have b2 := hx.t
  have := (num_ok (show x.1 < 1000 by omega)).l3
  have := (num_ok (show x.2.t < 1000 by omega)).l3
  have := joinC_len 32 (moveW x)
  simp only [moveW, wMove, List.map_cons, List.map_nil, List.sum_cons, List.sum_nil, List.length_cons, List.length_nil] at this
  simp only [moveW, wMove]
  omega
theorem head_len {hs ws : List Nat} {n : Nat} (h1 : hs.length ≤ 1000) (h2 : ws.length ≤ 1000) (hn : n < 1000) : (joinC 32 (headW hs ws n)).length ≤ 2015 := by
  have := (num_ok hn).l3
  have := joinC_len 32 (headW hs ws n)
  simp only [headW, wRules, List.map_cons, List.map_nil, List.sum_cons, List.sum_nil, List.length_cons, List.length_nil] at this
  simp only [headW, wRules]
  omega
theorem sum_le {α : Type} {B : Nat} (f : α → Nat) : ∀ {l : List α}, (∀ x ∈ l, f x ≤ B) → (l.map f).sum ≤ l.length * B
  | [], _ => by simp
  | x :: l, h => by
    have := sum_le f (l := l) fun y hy => h y (List.mem_cons_of_mem _ hy)
    have := h x List.mem_cons_self
    simp only [List.map_cons, List.sum_cons, List.length_cons, Nat.add_mul]
    omega
theorem lines_sum {hs ws : List Nat} {rs : List (List Mv)} (w : Wri hs ws rs) : ((linesOf hs ws rs).map fun l => l.length + 1).sum ≤ 2016 + 5000 * 21 := by
  have n2 := w.val.n2
  have h1 := head_len w.val.sh w.val.sw (show rs.length < 1000 by omega)
  have h2 : (((flatM rs).map fun x => joinC 32 (moveW x)).map fun l => l.length + 1).sum ≤ (flatM rs).length * 21 := by
    rw [List.map_map]
    refine sum_le _ fun x hx => ?_
    have := move_len n2 (w.mv x hx)
    show (joinC 32 (moveW x)).length + 1 ≤ 21
    omega
  have := w.few
  have h3 : (flatM rs).length * 21 ≤ 5000 * 21 := Nat.mul_le_mul_right _ this
  simp only [linesOf, List.map_cons, List.sum_cons]
  omega
theorem text_len {hs ws : List Nat} {rs : List (List Mv)} (w : Wri hs ws rs) : (textOf hs ws rs).length ≤ 110000 := by
  have h1 := joinC_len 10 (linesOf hs ws rs)
  have h2 := lines_sum w
  unfold textOf
  omega
/-! ### rows from moves -/
def rowAt (l : List (Nat × Mv)) (s : Nat) : List Mv := (l.filter fun x => x.1 == s).map (·.2)
theorem rowAt_flat (rs : List (List Mv)) {s : Nat} (h : s < rs.length) : rowAt (flatM rs) s = rs.getD s [] := by
  unfold rowAt flatM
  have aux : ∀ l : List Nat, l.Nodup → ((l.flatMap fun t => (rs.getD t []).map fun m => (t, m)).filter fun x => x.1 == s).map (·.2) = if s ∈ l then rs.getD s [] else [] := by
    intro l nd
    induction l with
    | nil => simp
    | cons t l ih =>
      rw [List.flatMap_cons, List.filter_append, List.map_append, ih (List.nodup_cons.mp nd).2]
      by_cases e : t = s
      · subst e
        have nm := (List.nodup_cons.mp nd).1
        rw [if_neg nm, if_pos List.mem_cons_self]
        simp [List.filter_map, Function.comp_def]
      · have e' : ¬ s = t := fun z => e z.symm
        have : (((rs.getD t []).map fun m => (t, m)).filter fun x => x.1 == s) = [] := by
          rw [List.filter_eq_nil_iff]
          intro x hx
          obtain ⟨m, _, rfl⟩ := List.mem_map.mp hx
          simpa using e
        rw [this]
        simp only [List.map_nil, List.nil_append, List.mem_cons, e', false_or]
  rw [aux _ List.nodup_range, if_pos (List.mem_range.mpr h)]
theorem rows_flat (rs : List (List Mv)) : (List.range rs.length).map (rowAt (flatM rs)) = rs := by
  refine List.ext_getElem (by simp) fun i h1 h2 => ?_
  simp only [List.getElem_map, List.getElem_range]
  rw [rowAt_flat rs (by simpa using h2), List.getD_eq_getElem?_getD, List.getElem?_eq_getElem h2]
  rfl
theorem moveW_inj {n : Nat} {x y : Nat × Mv} (hn : n ≤ 999) (h1 : x.1 < n) (h2 : x.2.t < n) (h3 : y.1 < n) (h4 : y.2.t < n) (h : moveW x = moveW y) : x = y := by
  simp only [moveW, List.cons.injEq, and_true, true_and] at h
  obtain ⟨e1, e2, e3, e4⟩ := h
  have e1 := num_inj (by omega) (by omega) e1
  have e4 := num_inj (by omega) (by omega) e4
  obtain ⟨s, ⟨a, b, t⟩⟩ := x
  obtain ⟨s', ⟨a', b', t'⟩⟩ := y
  simp_all
/-- one text: one rules -/
theorem text_inj {hs ws hs' ws' : List Nat} {rs rs' : List (List Mv)} (w : Wri hs ws rs) (w' : Wri hs' ws' rs') (h : textOf hs ws rs = textOf hs' ws' rs') : hs = hs' ∧ ws = ws' ∧ rs = rs' := by
  have n2 := w.val.n2
  have n2' := w'.val.n2
  have e := joinC_inj (by decide) (by simp [linesOf]) (by simp [linesOf]) (lines_no w) (lines_no w') h
  simp only [linesOf, List.cons.injEq] at e
  have eh := joinC_inj (by decide) (by simp [headW]) (by simp [headW]) (head_no w.val.lh w.val.lw (by omega) (.inl rfl)) (head_no w'.val.lh w'.val.lw (by omega) (.inl rfl)) e.1
  simp only [headW, List.cons.injEq, and_true, true_and] at eh
  obtain ⟨rfl, rfl, en⟩ := eh
  have en := num_inj (by omega) (by omega) en
  refine ⟨rfl, rfl, ?_⟩
  have em : flatM rs = flatM rs' := by
    have e2 := e.2
    have wm := w.mv
    have wm' := w'.mv
    rw [← en] at wm'
    generalize flatM rs = a at e2 wm
    generalize flatM rs' = b at e2 wm'
    induction a generalizing b with
    | nil => cases b with
      | nil => rfl
      | cons y b => cases e2
    | cons x a ih => cases b with
      | nil => cases e2
      | cons y b =>
        simp only [List.map_cons, List.cons.injEq] at e2
        have mx := wm x List.mem_cons_self
        have my := wm' y List.mem_cons_self
        have z := joinC_inj (by decide) (by simp [moveW]) (by simp [moveW]) (move_no w.val.lh w.val.lw n2 mx (.inl rfl)) (move_no w.val.lh w.val.lw n2 my (.inl rfl)) e2.1
        rw [moveW_inj n2 mx.s mx.t my.s my.t z, ih (fun q hq => wm q (List.mem_cons_of_mem _ hq)) b e2.2 fun q hq => wm' q (List.mem_cons_of_mem _ hq)]
  rw [← rows_flat rs, ← rows_flat rs', em, en]
/-! ### moves ascend -/
def mvLtS (x y : Nat × Mv) : Prop := x.1 < y.1 ∨ (x.1 = y.1 ∧ mvLt x.2 y.2 = true)
theorem flat_lt {hs ws : List Nat} {rs : List (List Mv)} (v : RulV hs ws rs) : (flatM rs).Pairwise mvLtS := by
  unfold flatM
  rw [List.pairwise_flatMap]
  constructor
  · intro s hs'
    have hs' := List.mem_range.mp hs'
    rw [List.pairwise_map]
    have e : rs.getD s [] = rs[s] := by rw [List.getD_eq_getElem?_getD, List.getElem?_eq_getElem hs']; rfl
    rw [e]
    have := (v.row _ (List.getElem_mem hs')).1
    unfold rowB at this
    rw [Bool.and_eq_true] at this
    exact (nbr_pair (r := mvLt) mvLt_tr _ this.2).imp fun h => .inr ⟨rfl, h⟩
  · refine List.pairwise_lt_range.imp fun h x hx y hy => ?_
    obtain ⟨m, _, rfl⟩ := List.mem_map.mp hx
    obtain ⟨m', _, rfl⟩ := List.mem_map.mp hy
    exact .inl h
end Pace
end
section
set_option Elab.async false
set_option linter.all false
set_option maxRecDepth 100000
set_option maxHeartbeats 4000000
/-! DLsx: text.index(text). -/
namespace DL
open PySem PySem.Spec PyProof.Rows L2
section
variable {X : Cx}
def rIndexS (x : D) (ds : List D) (G : GH) (Q : DQ) : Prop := match x, ds with
  | .str a, [.str b] => ∃ i rest, Builtin.Str.occurrences a b 0 a.length 1 = i :: rest ∧ Q (.int (i : Nat)) G
  | _, _ => False
theorem md_index : MtD X "str.index" rIndexS := by
  refine ⟨_, mt_sindex, fun F H G x dx vs ds g rx rs Q' h Q k => ?_⟩
  unfold rIndexS at h
  split at h
  · cases rx
    cases rs with
    | cons r b =>
      cases b
      cases r
      obtain ⟨i, rest, h1, h2⟩ := h
      exact ⟨_, _, i, rest, rfl, rfl, h1, k F H _ _ G Go.refl g (.int _) h2⟩
  · exact h.elim
end
end DL
end
section
set_option Elab.async false
set_option linter.all false
set_option maxRecDepth 100000
set_option maxHeartbeats 4000000
namespace Pace
open PySem PySem.Spec PyProof.Rows L2 DL
def top (i : Nat) : Stmt := PySem.Challenge.pw_pacehouse_k02_texts_of_rules.main.body.getD i (.Pass ⟨0, 0, 0, 0⟩)
abbrev s__wall : Stmt := top 0
abbrev s_BadRules_u__init_u_ : Stmt := inClass (top 3) 0
abbrev s_BadText_u__init_u_ : Stmt := inClass (top 4) 0
abbrev s_OtherLetters_u__init_u_ : Stmt := inClass (top 5) 0
abbrev s_are_letters : Stmt := top 16
abbrev s_number_in : Stmt := top 17
abbrev s_text_of : Stmt := top 18
abbrev s_first_line : Stmt := top 19
abbrev s_move_line : Stmt := top 20
abbrev s_parts_in : Stmt := top 21
abbrev s_is_integer : Stmt := top 26
abbrev s_is_letter_of : Stmt := top 27
abbrev s_is_move : Stmt := top 28
abbrev s_is_row : Stmt := top 29
abbrev s_steps_of : Stmt := top 30
abbrev s_states_met : Stmt := top 31
abbrev s_classes_of : Stmt := top 32
abbrev s_least_rows : Stmt := top 33
abbrev s_step_at : Stmt := top 34
abbrev s_paired_steps : Stmt := top 35
abbrev s_one_keys : Stmt := top 36
abbrev s_check_letters : Stmt := top 37
abbrev s_Rules_u__init_u_ : Stmt := inClass (top 38) 0
abbrev s_Rules_read : Stmt := inClass (top 38) 1
abbrev s_Rules_u__str_u_ : Stmt := inClass (top 38) 2
abbrev s_Rules_u__len_u_ : Stmt := inClass (top 38) 3
abbrev s_Rules_u__eq_u_ : Stmt := inClass (top 38) 4
abbrev s_Rules_led : Stmt := inClass (top 38) 5
abbrev s_Rules_is_right : Stmt := inClass (top 38) 6
abbrev s_Rules_least : Stmt := inClass (top 38) 7
abbrev s_Rules_u__and_u_ : Stmt := inClass (top 38) 8
abbrev s_Rules_u__or_u_ : Stmt := inClass (top 38) 9
abbrev s_Rules_flipped : Stmt := inClass (top 38) 10
abbrev s_Rules_respelled : Stmt := inClass (top 38) 11
abbrev s__law_deck : Stmt := top 40
abbrev s__law_draw : Stmt := top 41
abbrev s__law_pick : Stmt := top 42
abbrev s__law_signs : Stmt := top 43
abbrev s__law_world : Stmt := top 44
abbrev s__law_code : Stmt := top 45
abbrev s__law_led : Stmt := top 46
abbrev s__law_texts : Stmt := top 47
abbrev s__law_written : Stmt := top 48
abbrev s__law_right : Stmt := top 49
abbrev s_law : Stmt := top 50
structure Txt (K : PySem.W.Frag) (mg : Str → Option Value) (C : Addr) : Prop where
  f_Exception : mg "Exception" = none
  f_classmethod : mg "classmethod" = none
  f_all : mg "all" = none
  f_enumerate : mg "enumerate" = none
  f_dict : mg "dict" = none
  f_tuple : mg "tuple" = none
  f_range : mg "range" = none
  f_zip : mg "zip" = none
  f_isinstance : mg "isinstance" = none
  f_str : mg "str" = none
  f_int : mg "int" = none
  f_len : mg "len" = none
  f_sorted : mg "sorted" = none
  f_list : mg "list" = none
  f_sum : mg "sum" = none
  f_bool : mg "bool" = none
  f_set : mg "set" = none
  f_repr : mg "repr" = none
  f_super : mg "super" = none
  c_RULES_WORD : ∃ t, mg "RULES_WORD" = some (.str "rules" t)
  c_MOVE_WORD : ∃ t, mg "MOVE_WORD" = some (.str "move" t)
  c_BREAK : ∃ t, mg "BREAK" = some (.str "\n" t)
  c_BLANK : ∃ t, mg "BLANK" = some (.str " " t)
  c_DIGITS : ∃ t, mg "DIGITS" = some (.str "0123456789" t)
  c_MOST_DIGITS : ∃ t, mg "MOST_DIGITS" = some (.int (3) t)
  c_FIRST_PARTS : ∃ t, mg "FIRST_PARTS" = some (.int (4) t)
  c_MOVE_PARTS_ruletexts : ∃ t, mg "MOVE_PARTS_ruletexts" = some (.int (5) t)
  c_LETTERS : ∃ t, mg "LETTERS" = some (.str "abcdefghijklmnopqrstuvwxyz" t)
  c_MOST_STATES : ∃ t, mg "MOST_STATES" = some (.int (999) t)
  c_MOVE_PARTS_rules : ∃ t, mg "MOVE_PARTS_rules" = some (.int (3) t)
  c_NOWHERE : ∃ t, mg "NOWHERE" = some (.int (-1) t)
  clR : Cls K C
  mgR : mg "Rules" = some (.ref C)
  insR : C8.InsC K C
  neR : NeO K C
  no_heard : NoAttr K C "heard"
  no_written : NoAttr K C "written"
  no_rows : NoAttr K C "rows"
  no_steps : NoAttr K C "steps"
  sysM : SysM K
end Pace
end
section
set_option Elab.async false
set_option linter.all false
set_option maxRecDepth 100000
set_option maxHeartbeats 4000000
namespace Pace
open PySem PySem.Spec PyProof.Rows L2 DL
section
variable {P : Program} {w : World} {K : PySem.W.Frag} {mg : Str → Option Value} {base : Heap} {C : Addr}
def spNumIn : SpD := fun ds G Q => ∃ (n : Nat), ds = [.str (strOf (numS n))] ∧ n < 1000 ∧ Q (.int (n : Int)) G
theorem s_dig : Str.ofString "0123456789" = strOf [48, 49, 50, 51, 52, 53, 54, 55, 56, 57] := by decide +kernel
theorem s_0 : Str.ofString "0" = strOf [48] := by decide +kernel
theorem occ_all : (List.range 10).all (fun k => decide (Builtin.Str.occurrences (Str.ofString "0123456789") (sgn (48 + k)) 0 (Str.ofString "0123456789").length 1 = [k])) = true := by decide +kernel
theorem occ_dig {c : Nat} (h1 : 48 ≤ c) (h2 : c ≤ 57) : Builtin.Str.occurrences (Str.ofString "0123456789") (sgn c) 0 (Str.ofString "0123456789").length 1 = (c - 48) :: [] := by
  have := List.all_eq_true.mp occ_all (c - 48) (List.mem_range.mpr (by omega))
  rw [show 48 + (c - 48) = c by omega] at this
  exact of_decide_eq_true this
abbrev N_number_in : List Str := ["word", "sign", "number"]
theorem sc_number_in : FnScope N_number_in ["word"] (defScope s_number_in) := ⟨rfl, rfl, rfl, by decide +kernel, rfl, by decide +kernel, by decide +kernel⟩
theorem c_number_in (T : Txt K mg C) (d : Def K mg "number_in" s_number_in) : Cal P w K mg base "number_in" 1 ["word"] (spNumIn) := by
  refine cal_mk (N := N_number_in) d sc_number_in (fun ds G Q h => ?_) (fun _ _ _ _ _ _ us hl => match us, hl with | [_], _ => rfl) (fun f cdv A outer s H E hg hr => ?_)
  · obtain ⟨n, rfl, _⟩ := h
    rfl
  · have hu := hu100 hr
    have nd := sc_number_in.nd
    have hA := deeper_guards (env := envOfC "number_in" (defScope s_number_in) s.heap.objs.size f cdv) hg
    refine ⟨_, (dps_cons (dp_if (DW.dt (dw_or (dt_cmp (od_eq hu) (de_var 0) de_str (nomark _)) (dw_or (dt_cmp (od_gt hu) (de_callB cd_len rfl T.f_len (by decide +kernel) (da_cons (de_var 0) da_nil)) (de_gint rfl T.c_MOST_DIGITS) (nomark _)) (dw_or1 (dt_not (dt_val (de_callB (cd_all rfl) rfl T.f_all (by decide +kernel) (da_cons (de_lc (own := [("sign", 1)]) (p := (.nm 1)) rfl nd (di_str (de_var 0)) (blkOk_by (by show blkC N_number_in (defScope s_number_in) _ _ = true; decide +kernel)) (by decide) (fun _ _ _ _ _ => pg_name (i := 1) nd rfl (Or.inl rfl)) (fun _ _ _ _ _ => dts_nil) (fun _ _ _ _ _ => (de_cmp (od_in hu) (de_var 1) (de_gstr rfl T.c_DIGITS) (by rfl)))) da_nil))))))))
  (dps_one (dp_ret de_non))
  dps_nil)
  (dps_cons (dp_if (DW.dt (dw_and (dt_cmp (od_eq hu) (de_ix hu (de_var 0) de_int) de_str (nomark _)) (dw_and1 (dt_cmp (od_ne hu) (de_var 0) de_str (nomark _)))))
  (dps_one (dp_ret de_non))
  dps_nil)
  (dps_cons (dp_asg de_int (dg_name 2 nd))
  (dps_cons (dp_for PassesOwn.never rfl (di_str (de_var 0)) (dg_name 1 nd)
  (dps_one (dp_asg (de_op od_add (de_op od_mul (de_var 2) de_int) (de_bm PySem.F.plainAttrs_str PySem.F.slot_str_index PySem.F.type_str_index md_index (de_gstr rfl T.c_DIGITS) (da_cons (de_var 1) da_nil))) (dg_name 2 nd))))
  (dps_one (dp_ret (de_var 2))))))), fun ds G Q h => ?_⟩
    obtain ⟨n, rfl, hn, q⟩ := h
    rw [show dstart N_number_in [.str (strOf (numS n))] = [some (.str (strOf (numS n))), none, none] from rfl]
    have nu := num_ok hn
    have hsz : (strOf (numS n)).length ≤ sizeLine := by rw [strOf_len]; have := nu.l3; exact sz (by omega)
    have ne0 : (D.str (strOf (numS n))).eqv (D.str (Str.ofString "")) = false := by
      rw [str_nil, eqv_str, beq_eq_false_iff_ne]
      intro h
      have := strOf_inj h
      have l1 := nu.l1
      rw [this] at l1
      simp at l1
    simp only [dxs, dl, dx3]
    refine ⟨okE_str _ _, ?_⟩
    rw [if_neg (by rw [ne0]; simp), len_str hsz, strOf_len]
    simp only [dxs, dl]
    refine ⟨rfl, ?_⟩
    have l3 := nu.l3
    rw [if_neg (by simp [DL.lt_int]; omega)]
    refine lc_mapA (numS n) (fun c => .str (sgn c)) (fun c => .bl true) (signs_map _) (sz (by omega)) trivial (fun c hc => ⟨_, rfl, fun Q z => ?_⟩) ?_
    · have := nu.dig c hc
      have hin : decide (c ∈ [48, 49, 50, 51, 52, 53, 54, 55, 56, 57]) = true := by
        rw [decide_eq_true_eq]
        simp only [List.mem_cons, List.not_mem_nil, or_false]
        omega
      simp only [dxs, dl, dwipe, List.map_cons, List.map_nil, s_dig, inn_str, strIn_sgn, hin]
      exact z
    · rw [all_map (fun _ : Nat => true)]
      have ea : (numS n).all (fun _ => true) = true := List.all_eq_true.mpr fun _ _ => rfl
      rw [ea]
      simp only [Bool.not_true, Bool.false_eq_true, if_false]
      obtain ⟨c0, cs, ec⟩ : ∃ c0 cs, numS n = c0 :: cs := by
        have l1 := nu.l1
        cases h : numS n with
        | nil => rw [h] at l1; simp at l1
        | cons a l => exact ⟨a, l, rfl⟩
      have ih : D.item (.str (strOf (numS n))) (.int 0) = some (.str (sgn c0)) := by
        show (if (strOf (numS n)).length ≤ sizeLine then _ else _) = _
        rw [if_pos hsz]
        have : atI (strOf (numS n)).cps.toList (0 : Int) = some c0 := atI_nat (j := 0) (by rw [ec]; rfl)
        rw [this]
        rfl
      rw [ih]
      simp only [dxs, dl]
      have fo : ForB (DL.signs (strOf (numS n))) dNoGuard (dgName 1)
          (dAsg (dOp rAddD (dOp rMulD (dVar 2) (dC (D.int 10))) (dBM "str" rIndexS (dC (D.str (Str.ofString "0123456789"))) (dCons (dVar 1) dNil))) (dgName 2))
          { nx := dRet (dVar 2) (fin Q), rt := (fin Q).rt, bk := (fin Q).bk, ct := (fin Q).ct } [some (D.str (strOf (numS n))), none, some (D.int 0)] G := by
        refine ⟨fun i S' G' => ∃ (x1 : Option D), S' = [some (D.str (strOf (numS n))), x1, some (D.int ((valS ((numS n).take i) : Nat) : Int))] ∧ G' = G,
          ⟨none, rfl, rfl⟩, fun _ _ _ _ => trivial, ?_, ?_⟩
        · rintro i S' G' dd ⟨x1, rfl, rfl⟩ hd
          obtain ⟨c, hc, rfl⟩ := signs_get hd
          have cd := nu.dig c (List.mem_of_getElem? hc)
          have eo := occ_dig cd.1 cd.2
          simp only [dxs, dl, rMulD, rAddD]
          refine ⟨.inr ⟨by decide, by decide⟩, rfl, c - 48, [], eo, ?_⟩
          refine ⟨some (.str (sgn c)), ?_, rfl⟩
          have e1 : (numS n).take (i + 1) = (numS n).take i ++ [c] := by rw [List.take_add_one, hc]; rfl
          rw [e1]
          have e2 : valS ((numS n).take i ++ [c]) = valS ((numS n).take i) * 10 + (c - 48) := by simp [valS, List.foldl_append]
          rw [e2]
          have e3 : ((valS ((numS n).take i) * 10 + (c - 48) : Nat) : Int) = (valS ((numS n).take i) : Nat) * 10 + ((c - 48 : Nat) : Int) := by omega
          rw [e3]
        · rintro S' G' ⟨x1, rfl, rfl⟩
          rw [signs_len, List.take_length, nu.val]
          exact ⟨_, Sub.refl _, q⟩
      refine ⟨okE_str _ _, ?_⟩
      rcases nu.head with h48 | h48
      · rw [if_neg]
        · exact fo
        · show ¬ (D.str (sgn c0)).eqv (D.str (Str.ofString "0")) = true
          rw [s_0, eqv_str, beq_iff_eq]
          intro h
          have : c0 = 48 := by
            have := strOf_inj (a := [c0]) (b := [48]) h
            simpa using this
          rw [ec, this] at h48
          exact h48 rfl
      · split
        · refine ⟨okE_str _ _, ?_⟩
          rw [if_neg]
          · exact fo
          · rw [h48, s_0, eqv_str]
            decide
        · exact fo
end
end Pace
end
section
set_option Elab.async false
set_option linter.all false
set_option maxRecDepth 100000
set_option maxHeartbeats 4000000
namespace Pace
open PySem PySem.Spec PyProof.Rows L2 DL
section
variable {P : Program} {w : World} {K : PySem.W.Frag} {mg : Str → Option Value} {base : Heap} {C : Addr}
def spInteger : SpD := fun ds G Q => ∃ n : Int, ds = [.int n] ∧ Q (.bl true) G
abbrev N_is_integer : List Str := ["thing"]
theorem sc_is_integer : FnScope N_is_integer ["thing"] (defScope s_is_integer) := ⟨rfl, rfl, rfl, by decide +kernel, rfl, by decide +kernel, by decide +kernel⟩
theorem c_is_integer (T : Txt K mg C) (d : Def K mg "is_integer" s_is_integer) : Cal P w K mg base "is_integer" 1 ["thing"] (spInteger) := by
  refine cal_mk (N := N_is_integer) d sc_is_integer (fun ds G Q h => ?_) (fun _ _ _ _ _ _ us hl => match us, hl with | [_], _ => rfl) (fun f cdv A outer s H E hg hr => ?_)
  · obtain ⟨n, rfl, _⟩ := h
    rfl
  · have hu := hu100 hr
    have nd := sc_is_integer.nd
    have hA := deeper_guards (env := envOfC "is_integer" (defScope s_is_integer) s.heap.objs.size f cdv) hg
    refine ⟨_, (dps_one (dp_ret (de_and (de_callB cd_isi rfl T.f_isinstance (by decide +kernel) (da_cons (de_var 0) (da_cons (de_ty (T := "int") rfl T.f_int (by decide +kernel)) da_nil))) (de_one (de_not (de_callB cd_isi rfl T.f_isinstance (by decide +kernel) (da_cons (de_var 0) (da_cons (de_ty (T := "bool") rfl T.f_bool (by decide +kernel)) da_nil)))))))), fun ds G Q h => ?_⟩
    obtain ⟨n, rfl, q⟩ := h
    exact ⟨_, Sub.refl _, q⟩
end
section
variable {P : Program} {w : World} {K : PySem.W.Frag} {mg : Str → Option Value} {base : Heap} {C : Addr}
def spLetterOf : SpD := fun ds G Q => ∃ (ls : List Nat) (c : Nat), ds = [.str (strOf ls), .str (sgn c)] ∧ Q (.bl (decide (c ∈ ls))) G
abbrev N_is_letter_of : List Str := ["letters", "thing"]
theorem sc_is_letter_of : FnScope N_is_letter_of ["letters", "thing"] (defScope s_is_letter_of) := ⟨rfl, rfl, rfl, by decide +kernel, rfl, by decide +kernel, by decide +kernel⟩
theorem c_is_letter_of (T : Txt K mg C) (d : Def K mg "is_letter_of" s_is_letter_of) : Cal P w K mg base "is_letter_of" 1 ["letters", "thing"] (spLetterOf) := by
  refine cal_mk (N := N_is_letter_of) d sc_is_letter_of (fun ds G Q h => ?_) (fun _ _ _ _ _ _ us hl => match us, hl with | [_, _], _ => rfl) (fun f cdv A outer s H E hg hr => ?_)
  · obtain ⟨ls, c, rfl, _⟩ := h
    rfl
  · have hu := hu100 hr
    have nd := sc_is_letter_of.nd
    have hA := deeper_guards (env := envOfC "is_letter_of" (defScope s_is_letter_of) s.heap.objs.size f cdv) hg
    refine ⟨_, (dps_one (dp_ret (de_and (de_callB cd_isi rfl T.f_isinstance (by decide +kernel) (da_cons (de_var 1) (da_cons (de_ty (T := "str") rfl T.f_str (by decide +kernel)) da_nil))) (de_and (de_cmp (od_eq hu) (de_callB cd_len rfl T.f_len (by decide +kernel) (da_cons (de_var 1) da_nil)) de_int (nomark _)) (de_one (de_cmp (od_in hu) (de_var 1) (de_var 0) (by rfl))))))), fun ds G Q h => ?_⟩
    obtain ⟨ls, c, rfl, q⟩ := h
    rw [show dstart N_is_letter_of [.str (strOf ls), .str (sgn c)] = [some (.str (strOf ls)), some (.str (sgn c))] from rfl]
    have e1 : rLenD [.str (sgn c)] = fun G Q => Q (.int (1 : Nat)) G := by
      funext G Q
      exact len_str (x := sgn c) (sz (by show (1 : Nat) ≤ 5000; decide)) G Q
    simp only [dxs, dl, dx3, e1, inn_str, strIn_sgn, okE_int, eqv_int, true_and, if_true, beq_self_eq_true, Int.ofNat_one]
    exact ⟨_, Sub.refl _, q⟩
end
section
variable {P : Program} {w : World} {K : PySem.W.Frag} {mg : Str → Option Value} {base : Heap} {C : Addr}
def spLetters : SpD := fun ds G Q => ∃ cs : List Nat, ds = [.str (strOf cs)] ∧ cs.length ≤ 1000 ∧ Q (.bl (lettersB cs)) G
abbrev N_are_letters : List Str := ["thing", "sign", "one", "other"]
theorem sc_are_letters : FnScope N_are_letters ["thing"] (defScope s_are_letters) := ⟨rfl, rfl, rfl, by decide +kernel, rfl, by decide +kernel, by decide +kernel⟩
theorem c_are_letters (T : Txt K mg C) (d : Def K mg "are_letters" s_are_letters) : Cal P w K mg base "are_letters" 1 ["thing"] (spLetters) := by
  refine cal_mk (N := N_are_letters) d sc_are_letters (fun ds G Q h => ?_) (fun _ _ _ _ _ _ us hl => match us, hl with | [_], _ => rfl) (fun f cdv A outer s H E hg hr => ?_)
  · obtain ⟨cs, rfl, _⟩ := h
    rfl
  · have hu := hu100 hr
    have nd := sc_are_letters.nd
    have hA := deeper_guards (env := envOfC "are_letters" (defScope s_are_letters) s.heap.objs.size f cdv) hg
    refine ⟨_, (dps_cons (dp_if (DW.dt (dw_or (dt_not (dt_val (de_callB cd_isi rfl T.f_isinstance (by decide +kernel) (da_cons (de_var 0) (da_cons (de_ty (T := "str") rfl T.f_str (by decide +kernel)) da_nil))))) (dw_or (dt_cmp (od_eq hu) (de_var 0) de_str (nomark _)) (dw_or1 (dt_not (dt_val (de_callB (cd_all rfl) rfl T.f_all (by decide +kernel) (da_cons (de_lc (own := [("sign", 1)]) (p := (.nm 1)) rfl nd (di_str (de_var 0)) (blkOk_by (by show blkC N_are_letters (defScope s_are_letters) _ _ = true; decide +kernel)) (by decide) (fun _ _ _ _ _ => pg_name (i := 1) nd rfl (Or.inl rfl)) (fun _ _ _ _ _ => dts_nil) (fun _ _ _ _ _ => (de_cmp (od_in hu) (de_var 1) (de_gstr rfl T.c_LETTERS) (by rfl)))) da_nil))))))))
  (dps_one (dp_ret de_bl))
  dps_nil)
  (dps_one (dp_ret (de_callB (cd_all rfl) rfl T.f_all (by decide +kernel) (da_cons (de_lc (own := [("one", 2), ("other", 3)]) (p := (.tp [2, 3])) rfl nd (di_zipS rfl T.f_zip (da_cons (de_slice (de_var 0) do_none (do_some (de_un ud_neg de_int))) (da_cons (de_slice (de_var 0) (do_some de_int) do_none) da_nil))) (blkOk_by (by show blkC N_are_letters (defScope s_are_letters) _ _ = true; decide +kernel)) (by decide) (fun _ _ _ _ _ => pg_tup rfl (pgs_cons (pg_name (i := 2) nd rfl (Or.inl rfl)) (pgs_cons (pg_name (i := 3) nd rfl (Or.inl rfl)) pgs_nil))) (fun _ _ _ _ _ => dts_nil) (fun _ _ _ _ _ => (de_cmp (od_lt hu) (de_var 2) (de_var 3) (nomark _)))) da_nil))))), fun ds G Q h => ?_⟩
    obtain ⟨cs, rfl, hl, q⟩ := h
    rw [show dstart N_are_letters [.str (strOf cs)] = [some (.str (strOf cs)), none, none, none] from rfl]
    simp only [dxs, dl, dx3, Bool.not_true, Bool.false_eq_true, if_false, okE_str, eqv_str, true_and]
    by_cases h0 : cs = []
    · subst h0
      rw [if_pos (by decide +kernel), if_pos trivial]
      exact ⟨_, Sub.refl _, q⟩
    · rw [if_neg (by
        intro z
        have z2 : strOf cs = strOf [] := by rw [← str_nil]; simpa using z
        exact h0 (strOf_inj z2))]
      have hsz : (strOf cs).length ≤ sizeLine := by rw [strOf_len]; exact sz (by omega)
      refine lc_mapA cs (fun c => .str (sgn c)) (fun c => .bl (decide (c ∈ abc))) (by simp [DL.signs, strOf, sgn]) (sz (by omega)) trivial (fun c _ => ⟨_, rfl, fun Q z => ?_⟩) ?_
      · simp only [dxs, dl, dwipe, List.map_cons, List.map_nil, inn_str, abc_str, strIn_sgn]
        exact z
      · rw [all_map]
        simp only
        by_cases ha : cs.all (fun c => decide (c ∈ abc)) = true
        · rw [if_neg (by simp [ha])]
          refine ⟨hsz, hsz, ?_⟩
          rw [cutS_strOf, cutS_strOf, cut_last, cut_tail]
          refine lc_mapA (cs.dropLast.zip cs.tail) (fun p => .tup [.str (sgn p.1), .str (sgn p.2)]) (fun p => .bl (decide (p.1 < p.2))) (by rw [zip_map]; simp [strOf]) (sz (by simp; omega)) trivial (fun p _ => ⟨_, rfl, fun Q z => ?_⟩) ?_
          · simp only [dxs, dl, dwipe, List.map_cons, List.map_nil, okL_str, sgn_lt, true_and]
            exact z
          · rw [all_map]
            refine ⟨_, Sub.refl _, ?_⟩
            have e : lettersB cs = (cs.dropLast.zip cs.tail).all fun p => decide (p.1 < p.2) := by
              unfold lettersB nbr
              rw [ha, zip_map]
              have : cs.isEmpty = false := by simpa using h0
              simp [this, List.all_map]
            rw [← e]
            exact q
        · rw [if_pos (by simpa using ha)]
          have e : lettersB cs = false := by
            unfold lettersB
            simp only [Bool.not_eq_true] at ha
            simp [ha]
          rw [e] at q
          exact ⟨_, Sub.refl _, q⟩
end
end Pace
end
section
set_option Elab.async false
set_option linter.all false
set_option maxRecDepth 100000
set_option maxHeartbeats 4000000
namespace Pace
open PySem PySem.Spec PyProof.Rows L2 DL
section
variable {P : Program} {w : World} {K : PySem.W.Frag} {mg : Str → Option Value} {base : Heap} {C : Addr}
def spFirst : SpD := fun ds G Q => ∃ (hs ws : List Nat) (n : Nat), ds = [.str (strOf (joinC 32 (headW hs ws n)))] ∧ lettersB hs = true ∧ lettersB ws = true ∧ hs.length ≤ 1000 ∧ ws.length ≤ 1000 ∧ 1 ≤ n ∧ n < 1000 ∧ Q (.tup [.str (strOf hs), .str (strOf ws), .int (n : Int)]) G
abbrev N_first_line : List Str := ["line", "parts", "many"]
theorem sc_first_line : FnScope N_first_line ["line"] (defScope s_first_line) := ⟨rfl, rfl, rfl, by decide +kernel, rfl, by decide +kernel, by decide +kernel⟩
theorem c_first_line (T : Txt K mg C) (d : Def K mg "first_line" s_first_line) (C_number_in : Cal P w K mg base "number_in" 1 ["word"] (spNumIn)) (C_are_letters : Cal P w K mg base "are_letters" 1 ["thing"] (spLetters)) : Cal P w K mg base "first_line" 2 ["line"] (spFirst) := by
  refine cal_mk (N := N_first_line) d sc_first_line (fun ds G Q h => ?_) (fun _ _ _ _ _ _ us hl => match us, hl with | [_], _ => rfl) (fun f cdv A outer s H E hg hr => ?_)
  · obtain ⟨hs, ws, n, rfl, _⟩ := h
    rfl
  · have hu := hu100 hr
    have nd := sc_first_line.nd
    have hA := deeper_guards (env := envOfC "first_line" (defScope s_first_line) s.heap.objs.size f cdv) hg
    refine ⟨_, (dps_cons (dp_asg (de_bm PySem.F.plainAttrs_str PySem.F.slot_str_split PySem.F.type_str_split md_split (de_var 0) (da_cons (de_gstr rfl T.c_BLANK) da_nil)) (dg_name 1 nd))
  (dps_cons (dp_if (DW.dt (dw_or (dt_cmp (od_ne hu) (de_callB cd_len rfl T.f_len (by decide +kernel) (da_cons (de_var 1) da_nil)) (de_gint rfl T.c_FIRST_PARTS) (nomark _)) (dw_or1 (dt_cmp (od_ne hu) (de_ix hu (de_var 1) de_int) (de_gstr rfl T.c_RULES_WORD) (nomark _)))))
  (dps_one (dp_ret de_non))
  dps_nil)
  (dps_cons (dp_asg (de_cal C_number_in hA (hr.mono (by decide)) (da_cons (de_ix hu (de_var 1) de_int) da_nil)) (dg_name 2 nd))
  (dps_cons (dp_if (DW.dt (dw_or (dt_not (dt_val (de_cal C_are_letters hA (hr.mono (by decide)) (da_cons (de_ix hu (de_var 1) de_int) da_nil)))) (dw_or (dt_not (dt_val (de_cal C_are_letters hA (hr.mono (by decide)) (da_cons (de_ix hu (de_var 1) de_int) da_nil)))) (dw_or (dt_cmp od_isN (de_var 2) de_non (nomark _)) (dw_or1 (dt_cmp (od_eq hu) (de_var 2) de_int (nomark _)))))))
  (dps_one (dp_ret de_non))
  dps_nil)
  (dps_one (dp_ret (de_tup (da_cons (de_ix hu (de_var 1) de_int) (da_cons (de_ix hu (de_var 1) de_int) (da_cons (de_var 2) da_nil)))))))))), fun ds G Q h => ?_⟩
    obtain ⟨hs, ws, n, rfl, lh, lw, h1, h2, n1, hn, q⟩ := h
    rw [show dstart N_first_line [.str (strOf (joinC 32 (headW hs ws n)))] = [some (.str (strOf (joinC 32 (headW hs ws n)))), none, none] from rfl]
    have sp : Txt.split (strOf (joinC 32 (headW hs ws n))) (strOf [32]) = [strOf wRules, strOf hs, strOf ws, strOf (numS n)] := head_split lh lw hn
    have ln := head_len h1 h2 hn
    have i0 : D.item (.lst [.str (strOf wRules), .str (strOf hs), .str (strOf ws), .str (strOf (numS n))]) (.int 0) = some (.str (strOf wRules)) := atI_nat (j := 0) rfl
    have i1 : D.item (.lst [.str (strOf wRules), .str (strOf hs), .str (strOf ws), .str (strOf (numS n))]) (.int 1) = some (.str (strOf hs)) := atI_nat (j := 1) rfl
    have i2 : D.item (.lst [.str (strOf wRules), .str (strOf hs), .str (strOf ws), .str (strOf (numS n))]) (.int 2) = some (.str (strOf ws)) := atI_nat (j := 2) rfl
    have i3 : D.item (.lst [.str (strOf wRules), .str (strOf hs), .str (strOf ws), .str (strOf (numS n))]) (.int 3) = some (.str (strOf (numS n))) := atI_nat (j := 3) rfl
    simp only [dxs, dl, dx3, rSplitD, s_blank, sp, List.map_cons, List.map_nil, i0, i1, i2, i3, s_rules]
    refine ⟨rfl, rfl, sz (by rw [strOf_len]; omega), rfl, ?_⟩
    rw [if_neg (by decide)]
    refine ⟨okE_str _ _, ?_⟩
    rw [if_neg (by simp [eqv_str])]
    refine ⟨n, rfl, hn, hs, rfl, h1, ?_⟩
    rw [lh]
    simp only [Bool.not_true, Bool.false_eq_true, if_false]
    refine ⟨ws, rfl, h2, ?_⟩
    rw [lw]
    simp only [Bool.not_true, Bool.false_eq_true, if_false, dxs, dl]
    refine ⟨rfl, ?_⟩
    rw [if_neg (by simp [eqv_int]; omega)]
    exact ⟨sz (by decide), G, Sub.refl _, q⟩
end
section
variable {P : Program} {w : World} {K : PySem.W.Frag} {mg : Str → Option Value} {base : Heap} {C : Addr}
def spMoveL : SpD := fun ds G Q => ∃ (hs ws : List Nat) (n : Nat) (x : Nat × Mv), ds = [.str (strOf (joinC 32 (moveW x))), .str (strOf hs), .str (strOf ws), .int (n : Int)] ∧ lettersB hs = true ∧ lettersB ws = true ∧ hs.length ≤ 1000 ∧ ws.length ≤ 1000 ∧ n ≤ 999 ∧ MvP hs ws n x ∧ Q (.tup [.int (x.1 : Int), .str (sgn x.2.h), .str (sgn x.2.c), .int (x.2.t : Int)]) G
abbrev N_move_line : List Str := ["line", "heard", "written", "many", "parts", "state", "target"]
theorem sc_move_line : FnScope N_move_line ["line", "heard", "written", "many"] (defScope s_move_line) := ⟨rfl, rfl, rfl, by decide +kernel, rfl, by decide +kernel, by decide +kernel⟩
theorem c_move_line (T : Txt K mg C) (d : Def K mg "move_line" s_move_line) (C_number_in : Cal P w K mg base "number_in" 1 ["word"] (spNumIn)) : Cal P w K mg base "move_line" 2 ["line", "heard", "written", "many"] (spMoveL) := by
  refine cal_mk (N := N_move_line) d sc_move_line (fun ds G Q h => ?_) (fun _ _ _ _ _ _ us hl => match us, hl with | [_, _, _, _], _ => rfl) (fun f cdv A outer s H E hg hr => ?_)
  · obtain ⟨hs, ws, n, x, rfl, _⟩ := h
    rfl
  · have hu := hu100 hr
    have nd := sc_move_line.nd
    have hA := deeper_guards (env := envOfC "move_line" (defScope s_move_line) s.heap.objs.size f cdv) hg
    refine ⟨_, (dps_cons (dp_asg (de_bm PySem.F.plainAttrs_str PySem.F.slot_str_split PySem.F.type_str_split md_split (de_var 0) (da_cons (de_gstr rfl T.c_BLANK) da_nil)) (dg_name 4 nd))
  (dps_cons (dp_if (DW.dt (dw_or (dt_cmp (od_ne hu) (de_callB cd_len rfl T.f_len (by decide +kernel) (da_cons (de_var 4) da_nil)) (de_gint rfl T.c_MOVE_PARTS_ruletexts) (nomark _)) (dw_or1 (dt_cmp (od_ne hu) (de_ix hu (de_var 4) de_int) (de_gstr rfl T.c_MOVE_WORD) (nomark _)))))
  (dps_one (dp_ret de_non))
  dps_nil)
  (dps_cons (dp_par (i := 5) (j := 6) rfl nd (ha := (da_cons (de_cal C_number_in hA (hr.mono (by decide)) (da_cons (de_ix hu (de_var 4) de_int) da_nil)) (da_cons (de_cal C_number_in hA (hr.mono (by decide)) (da_cons (de_ix hu (de_var 4) de_int) da_nil)) da_nil))))
  (dps_cons (dp_if (DW.dt (dw_or (dt_cmp od_isN (de_var 5) de_non (nomark _)) (dw_or (dt_cmp od_isN (de_var 6) de_non (nomark _)) (dw_or (dt_cmp (od_ge hu) (de_var 5) (de_var 3) (nomark _)) (dw_or1 (dt_cmp (od_ge hu) (de_var 6) (de_var 3) (nomark _)))))))
  (dps_one (dp_ret de_non))
  dps_nil)
  (dps_cons (dp_if (DW.dt (dw_or (dt_cmp (od_ne hu) (de_callB cd_len rfl T.f_len (by decide +kernel) (da_cons (de_ix hu (de_var 4) de_int) da_nil)) de_int (nomark _)) (dw_or (dt_cmp (od_ne hu) (de_callB cd_len rfl T.f_len (by decide +kernel) (da_cons (de_ix hu (de_var 4) de_int) da_nil)) de_int (nomark _)) (dw_or (dt_cmp (od_notIn hu) (de_ix hu (de_var 4) de_int) (de_var 1) (by rfl)) (dw_or1 (dt_cmp (od_notIn hu) (de_ix hu (de_var 4) de_int) (de_var 2) (by rfl)))))))
  (dps_one (dp_ret de_non))
  dps_nil)
  (dps_one (dp_ret (de_tup (da_cons (de_var 5) (da_cons (de_ix hu (de_var 4) de_int) (da_cons (de_ix hu (de_var 4) de_int) (da_cons (de_var 6) da_nil)))))))))))), fun ds G Q h => ?_⟩
    obtain ⟨hs, ws, n, x, rfl, lh, lw, h1, h2, hn, mp, q⟩ := h
    rw [show dstart N_move_line [.str (strOf (joinC 32 (moveW x))), .str (strOf hs), .str (strOf ws), .int (n : Int)] = [some (.str (strOf (joinC 32 (moveW x)))), some (.str (strOf hs)), some (.str (strOf ws)), some (.int (n : Int)), none, none, none] from rfl]
    have sp : Txt.split (strOf (joinC 32 (moveW x))) (strOf [32]) = [strOf wMove, strOf (numS x.1), sgn x.2.h, sgn x.2.c, strOf (numS x.2.t)] := move_split lh lw hn mp
    have ln := move_len hn mp
    have b1 := mp.s
    have b2 := mp.t
    have i0 : D.item (.lst [D.str (strOf wMove), .str (strOf (numS x.1)), .str (sgn x.2.h), .str (sgn x.2.c), .str (strOf (numS x.2.t))]) (.int 0) = some (.str (strOf wMove)) := atI_nat (j := 0) rfl
    have i1 : D.item (.lst [D.str (strOf wMove), .str (strOf (numS x.1)), .str (sgn x.2.h), .str (sgn x.2.c), .str (strOf (numS x.2.t))]) (.int 1) = some (.str (strOf (numS x.1))) := atI_nat (j := 1) rfl
    have i2 : D.item (.lst [D.str (strOf wMove), .str (strOf (numS x.1)), .str (sgn x.2.h), .str (sgn x.2.c), .str (strOf (numS x.2.t))]) (.int 2) = some (.str (sgn x.2.h)) := atI_nat (j := 2) rfl
    have i3 : D.item (.lst [D.str (strOf wMove), .str (strOf (numS x.1)), .str (sgn x.2.h), .str (sgn x.2.c), .str (strOf (numS x.2.t))]) (.int 3) = some (.str (sgn x.2.c)) := atI_nat (j := 3) rfl
    have i4 : D.item (.lst [D.str (strOf wMove), .str (strOf (numS x.1)), .str (sgn x.2.h), .str (sgn x.2.c), .str (strOf (numS x.2.t))]) (.int 4) = some (.str (strOf (numS x.2.t))) := atI_nat (j := 4) rfl
    simp only [dxs, dl, dx3, rSplitD, s_blank, sp, List.map_cons, List.map_nil, i0, i1, i2, i3, i4, s_move]
    refine ⟨rfl, rfl, sz (by rw [strOf_len]; omega), rfl, ?_⟩
    rw [if_neg (by decide)]
    refine ⟨okE_str _ _, ?_⟩
    rw [if_neg (by simp [eqv_str])]
    refine ⟨x.1, rfl, by omega, x.2.t, rfl, by omega, ?_⟩
    have nn : ∀ i : Int, (D.int i).isNon = false := fun _ => rfl
    have hl1 : ∀ c, rLenD [D.str (sgn c)] = fun G Q => Q (.int 1) G := fun c => by
      funext G Q
      rw [DL.len_str (sz (by show 1 ≤ 5000; omega))]
      rfl
    have ih : decide (x.2.h ∈ hs) = true := decide_eq_true mp.h
    have ic : decide (x.2.c ∈ ws) = true := decide_eq_true mp.c
    simp only [nn, Bool.false_eq_true, if_false, dxs, dl]
    refine ⟨rfl, ?_⟩
    rw [if_neg (by simp [DL.lt_int]; omega)]
    refine ⟨rfl, ?_⟩
    rw [if_neg (by simp [DL.lt_int]; omega)]
    simp only [hl1, dxs, dl, inn_str, strIn_sgn, ih, ic, Bool.not_true, Bool.false_eq_true, if_false]
    refine ⟨rfl, ?_⟩
    rw [if_neg (by decide)]
    refine ⟨rfl, ?_⟩
    rw [if_neg (by decide)]
    exact ⟨sz (by decide), G, Sub.refl _, q⟩
end
end Pace
end
section
set_option Elab.async false
set_option linter.all false
set_option maxRecDepth 100000
set_option maxHeartbeats 4000000
namespace Pace
open PySem PySem.Spec PyProof.Rows L2 DL
section
variable {P : Program} {w : World} {K : PySem.W.Frag} {mg : Str → Option Value} {base : Heap} {C : Addr}
def spParts : SpD := fun ds G Q => ∃ (hs ws : List Nat) (rs : List (List Mv)), ds = [.str (strOf (textOf hs ws rs))] ∧ Wri hs ws rs ∧ Q (.tup [.str (strOf hs), .str (strOf ws), rowsD rs]) G
def mvT (x : Nat × Mv) : D := .tup [.int (x.1 : Int), .str (sgn x.2.h), .str (sgn x.2.c), .int (x.2.t : Int)]
def mvH (x : Nat × Mv) : D := .tup [.int (x.1 : Int), .str (sgn x.2.h), .str (sgn x.2.c)]
theorem mvH_lt {x y : Nat × Mv} (h : mvLtS x y) : D.lt (mvH x) (mvH y) = true := by
  have e1 : ∀ x y : Nat, PyData.eqv (.str (sgn x)) (.str (sgn y)) = (x == y) := fun x y => by
    have := eqv_str (sgn x) (sgn y)
    rw [sgn_beq] at this
    exact this
  have e2 : ∀ x y : Nat, PySem.W.dataLt (.str (sgn x)) (.str (sgn y)) = decide (x < y) := fun x y => sgn_lt x y
  have e3 : PyData.eqv (.int (x.1 : Int)) (.int (y.1 : Int)) = ((x.1 : Int) == (y.1 : Int)) := eqv_int _ _
  have e4 : PySem.W.dataLt (.int (x.1 : Int)) (.int (y.1 : Int)) = decide ((x.1 : Int) < (y.1 : Int)) := DL.lt_int _ _
  have e : D.lt (mvH x) (mvH y) = PySem.W.dataLt (.tuple [.int (x.1 : Int), .str (sgn x.2.h), .str (sgn x.2.c)]) (.tuple [.int (y.1 : Int), .str (sgn y.2.h), .str (sgn y.2.c)]) := rfl
  rw [e, PySem.W.dataLt_tuple, PySem.W.dataLt_cons rfl, PySem.W.dataLt_cons rfl, PySem.W.dataLt_cons rfl, e1, e1, e2, e2, e3, e4]
  rcases h with h | ⟨h, h2⟩
  · rw [if_neg (by simp; omega)]
    simpa using h
  · rw [if_pos (by simp [h])]
    unfold mvLt at h2
    rw [decide_eq_true_eq] at h2
    rcases h2 with h2 | ⟨h2, h3⟩
    · rw [if_neg (by simp; omega)]
      simpa using h2
    · rw [if_pos (by simp [h2]), if_neg (by simp; omega)]
      simpa using h3
theorem mvH_ok (x y : Nat × Mv) : okL (mvH x) (mvH y) = true := rfl
def lastD (o : Option (Nat × Mv)) : D := match o with
  | none => .non
  | some x => mvT x
theorem sub_gput {G G2 : GH} {a : Addr} {o : MO} (sb : Sub G G2) (h : G a = none) (hd : o.isDeck = false) (h2 : ∀ u, G2 a = some u → u.isDeck = false) : Sub G (gput G2 a o) := by
  refine ⟨fun b u z => ?_, fun c z => ?_⟩
  · have q : b ≠ a := fun y => by rw [y, h] at z; cases z
    rw [gput_ne q]
    exact sb.le b u z
  · by_cases q : c = a
    · subst q
      rw [gput_same] at z
      cases z
      cases hd
    · rw [gput_ne q] at z
      exact sb.dc c z
theorem rowAt_snoc (l : List (Nat × Mv)) (x : Nat × Mv) (s : Nat) : rowAt (l ++ [x]) s = if x.1 = s then rowAt l s ++ [x.2] else rowAt l s := by
  unfold rowAt
  rw [List.filter_append, List.map_append]
  by_cases h : x.1 = s
  · rw [if_pos h]; simp [h]
  · rw [if_neg h]; simp [h]
theorem rowAt_len (l : List (Nat × Mv)) (s : Nat) : (rowAt l s).length ≤ l.length := by
  unfold rowAt
  rw [List.length_map]
  exact List.length_filter_le _ _
abbrev N_parts_in : List Str := ["text", "lines", "first", "heard", "written", "many", "rows", "state", "last", "place", "line", "move", "row"]
theorem sc_parts_in : FnScope N_parts_in ["text"] (defScope s_parts_in) := ⟨rfl, rfl, rfl, by decide +kernel, rfl, by decide +kernel, by decide +kernel⟩
theorem c_parts_in (T : Txt K mg C) (d : Def K mg "parts_in" s_parts_in) (C_first_line : Cal P w K mg base "first_line" 2 ["line"] (spFirst)) (C_move_line : Cal P w K mg base "move_line" 2 ["line", "heard", "written", "many"] (spMoveL)) : Cal P w K mg base "parts_in" 3 ["text"] (spParts) := by
  refine cal_mk (N := N_parts_in) d sc_parts_in (fun ds G Q h => ?_) (fun _ _ _ _ _ _ us hl => match us, hl with | [_], _ => rfl) (fun f cdv A outer s H E hg hr => ?_)
  · obtain ⟨hs, ws, rs, rfl, _⟩ := h
    rfl
  · have hu := hu100 hr
    have nd := sc_parts_in.nd
    have hA := deeper_guards (env := envOfC "parts_in" (defScope s_parts_in) s.heap.objs.size f cdv) hg
    refine ⟨_, (dps_cons (dp_if (dt_not (dt_val (de_callB cd_isi rfl T.f_isinstance (by decide +kernel) (da_cons (de_var 0) (da_cons (de_ty (T := "str") rfl T.f_str (by decide +kernel)) da_nil)))))
  (dps_one dp_never)
  dps_nil)
  (dps_cons (dp_asg (de_bm PySem.F.plainAttrs_str PySem.F.slot_str_split PySem.F.type_str_split md_split (de_var 0) (da_cons (de_gstr rfl T.c_BREAK) da_nil)) (dg_name 1 nd))
  (dps_cons (dp_asg (de_cal C_first_line hA (hr.mono (by decide)) (da_cons (de_ix hu (de_var 1) de_int) da_nil)) (dg_name 2 nd))
  (dps_cons (dp_if (dt_cmp od_isN (de_var 2) de_non (nomark _))
  (dps_one dp_never)
  dps_nil)
  (dps_cons (dp_asg (de_var 2) (dg_tup (n := 3) rfl (dgs_cons (dg_name 3 nd) (dgs_cons (dg_name 4 nd) (dgs_cons (dg_name 5 nd) dgs_nil)))))
  (dps_cons (dp_setLcM (i := 6) (own := [("state", 7)]) (p := (.nm 7)) rfl nd rfl rfl (sw_true rfl rfl rfl (by decide +kernel)) (di_range1 rfl T.f_range (da_cons (de_var 5) da_nil)) (blkOk_by (by show blkC N_parts_in (defScope s_parts_in) _ _ = true; decide +kernel)) (by decide) (fun _ _ _ _ _ => pg_name (i := 7) nd rfl (Or.inl rfl)) (fun _ _ _ _ _ => dts_nil) (fun _ _ _ _ _ => (de_lstM da_nil)))
  (dps_cons (dp_asg de_non (dg_name 8 nd))
  (dps_cons (dp_for PassesOwn.never rfl (di_enumF (by decide) (by decide) rfl T.f_enumerate (da_cons (de_slice (de_var 1) (do_some de_int) do_none) da_nil)) (dg_tup (n := 2) rfl (dgs_cons (dg_name 9 nd) (dgs_cons (dg_name 10 nd) dgs_nil)))
  (dps_cons (dp_asg (de_cal C_move_line hA (hr.mono (by decide)) (da_cons (de_var 10) (da_cons (de_var 3) (da_cons (de_var 4) (da_cons (de_var 5) da_nil))))) (dg_name 11 nd))
  (dps_cons (dp_if (DW.dt (dw_or (dt_cmp od_isN (de_var 11) de_non (nomark _)) (dw_or1 (DW.dt (dw_and (dt_cmp od_notN (de_var 8) de_non (nomark _)) (dw_and1 (dt_cmp (od_le hu) (de_slice (de_var 11) do_none (do_some de_int)) (de_slice (de_var 8) do_none (do_some de_int)) (nomark _))))))))
  (dps_one dp_never)
  dps_nil)
  (dps_cons (dp_expr (de_bm PySem.F.plainAttrs_list PySem.F.slot_list_append PySem.F.type_list_append md_append (de_ix hu (de_var 6) (de_ix hu (de_var 11) de_int)) (da_cons (de_slice (de_var 11) (do_some de_int) do_none) da_nil)))
  (dps_one (dp_asg (de_var 11) (dg_name 8 nd)))))))
  (dps_one (dp_ret (de_tup (da_cons (de_var 3) (da_cons (de_var 4) (da_cons (de_callTy cd_tuple rfl T.f_tuple (by decide +kernel) (da_cons (de_lc (own := [("row", 12)]) (p := (.nm 12)) rfl nd (di_list (de_var 6)) (blkOk_by (by show blkC N_parts_in (defScope s_parts_in) _ _ = true; decide +kernel)) (by decide) (fun _ _ _ _ _ => pg_name (i := 12) nd rfl (Or.inl rfl)) (fun _ _ _ _ _ => dts_nil) (fun _ _ _ _ _ => (de_callTy cd_tuple rfl T.f_tuple (by decide +kernel) (da_cons (de_var 12) da_nil)))) da_nil)) da_nil)))))))))))))), fun ds G Q h => ?_⟩
    obtain ⟨hs, ws, rs, rfl, wr, q⟩ := h
    rw [show dstart N_parts_in [.str (strOf (textOf hs ws rs))] = [some (.str (strOf (textOf hs ws rs))), none, none, none, none, none, none, none, none, none, none, none, none] from rfl]
    have sp := lines_split wr
    have tl := text_len wr
    simp only [dxs, dl, dx3, rSplitD, s_break, sp]
    have n1 := wr.val.n1
    have n2 := wr.val.n2
    rw [if_neg (by simp)]
    refine ⟨rfl, rfl, by rw [strOf_len, sizeLine_eq]; omega, ?_⟩
    have i0 : D.item (.lst (List.map D.str (List.map strOf (linesOf hs ws rs)))) (.int 0) = some (.str (strOf (joinC 32 (headW hs ws rs.length)))) := atI_nat (j := 0) rfl
    rw [i0]
    refine ⟨hs, ws, rs.length, rfl, wr.val.lh, wr.val.lw, wr.val.sh, wr.val.sw, n1, by omega, ?_⟩
    have nn : ∀ l : List D, (D.tup l).isNon = false := fun _ => rfl
    simp only [nn, Bool.false_eq_true, if_false, dxs, dl, dLcM]
    refine ⟨trivial, by omega, by omega, sz (by simp; omega), fun i acc G' => ∃ as : List Addr, acc = as.map .rf ∧ as.length = i ∧ as.Nodup ∧ i ≤ rs.length ∧ Sub G G' ∧ ∀ a ∈ as, G a = none ∧ G' a = some (.lst []), ⟨[], rfl, rfl, by simp, by omega, Sub.refl _, by simp⟩, fun _ _ _ _ => trivial, ?_, ?_⟩
    · rintro i acc G' d ⟨as, rfl, hl, nda, hi, sb, ha⟩ hd
      have hi2 : i < rs.length := by have := (List.getElem?_eq_some_iff.mp hd).1; simpa using this
      refine ⟨_, rfl, ?_⟩
      simp only [dxs, dl, dwipe, List.map_cons, List.map_nil, if_true]
      refine ⟨Nat.zero_le _, fun p hp => ⟨as ++ [p], by simp, by simp [hl], ?_, hi2, sb.trans (sub_new hp rfl), fun a ha' => ?_⟩⟩
      · rw [List.nodup_append]
        refine ⟨nda, by simp, fun a h1 b h2 e => ?_⟩
        rw [List.mem_singleton.mp h2] at e
        have := (ha a h1).2
        rw [e, hp] at this
        cases this
      · rcases List.mem_append.mp ha' with h | h
        · have ne : a ≠ p := fun e => by have := (ha a h).2; rw [e, hp] at this; cases this
          rw [gput_ne ne]
          exact ha a h
        · rw [List.mem_singleton.mp h]
          refine ⟨?_, gput_same⟩
          cases q0 : G p with
          | none => rfl
          | some o => rw [sb.le p o q0] at hp; cases hp
    · rintro acc G' ⟨as, rfl, hl, nda, hi, sb, ha⟩
      have hl2 : as.length = rs.length := by rw [hl]; simp
      show ∀ p, G' p = none → _
      intro p hp
      have pas : ∀ a ∈ as, a ≠ p := fun a h e => by have := (ha a h).2; rw [e, hp] at this; cases this
      have gpn : G p = none := by
        cases q0 : G p with
        | none => rfl
        | some o => rw [sb.le p o q0] at hp; cases hp
      have lines1 : DL.cutD (List.map D.str (List.map strOf (linesOf hs ws rs))) (some 1) none = (flatM rs).map fun x => .str (strOf (joinC 32 (moveW x))) := by
        have := cut_drop (List.map D.str (List.map strOf (linesOf hs ws rs))) 1
        rw [show (some ((1 : Nat) : Int)) = some (1 : Int) from rfl] at this
        rw [this]
        simp [linesOf, List.map_map, Function.comp_def]
      simp only [diEnumF, dxs, dl, dx3, lines1]
      have pw := flat_lt wr.val
      have fl := wr.few
      refine ⟨fun i S' G2 => ∃ (x7 x9 x10 x11 x12 : Option D), S' = [some (D.str (strOf (textOf hs ws rs))), some (D.lst (List.map D.str (List.map strOf (linesOf hs ws rs)))), some (D.tup [D.str (strOf hs), D.str (strOf ws), D.int ↑rs.length]), some (D.str (strOf hs)), some (D.str (strOf ws)), some (D.int ↑rs.length), some (D.rf p), x7, some (lastD ((flatM rs).take i).getLast?), x9, x10, x11, x12] ∧
          Sub G G2 ∧ G2 p = some (.lst (as.map .rf)) ∧ (∀ s a, as[s]? = some a → G2 a = some (.lst ((rowAt ((flatM rs).take i) s).map Mv.d))),
        ⟨_, _, _, _, _, rfl, sub_gput sb gpn rfl (fun u z => by rw [hp] at z; cases z), gput_same, fun s a h => ?_⟩, fun _ _ _ _ => trivial, ?_, ?_⟩
      · have hm := List.mem_of_getElem? h
        rw [gput_ne (pas a hm)]
        exact (ha a hm).2
      · rintro i S' G2 dd ⟨x7, x9, x10, x11, x12, rfl, sb2, gp, rows⟩ hd
        rw [List.getElem?_mapIdx, List.getElem?_map] at hd
        cases ex : (flatM rs)[i]? with
        | none => rw [ex] at hd; cases hd
        | some x =>
          rw [ex] at hd
          cases hd
          have hxm := List.mem_of_getElem? ex
          have mp := wr.mv x hxm
          have hil := (List.getElem?_eq_some_iff.mp ex).1
          have nx : (flatM rs).take (i + 1) = (flatM rs).take i ++ [x] := by rw [List.take_add_one, ex]; rfl
          simp only [dxs, dl]
          refine ⟨trivial, hs, ws, rs.length, x, rfl, wr.val.lh, wr.val.lw, wr.val.sh, wr.val.sw, n2, mp, ?_⟩
          have xs1 : x.1 < as.length := by have := mp.s; omega
          obtain ⟨a, hax⟩ : ∃ a, as[x.1]? = some a := ⟨_, List.getElem?_eq_getElem xs1⟩
          have nn : ∀ l : List D, (D.tup l).isNon = false := fun _ => rfl
          have ham := List.mem_of_getElem? hax
          have ga := rows x.1 a hax
          have it0 : D.item (.tup [D.int ↑x.fst, D.str (sgn x.snd.h), D.str (sgn x.snd.c), D.int ↑x.snd.t]) (.int 0) = some (.int (x.1 : Int)) := atI_nat (j := 0) rfl
          have itA : D.item (.lst (as.map .rf)) (.int (x.1 : Int)) = some (.rf a) := atI_nat (by rw [List.getElem?_map, hax]; rfl)
          have c3 : ∀ w : Nat × Mv, DL.cutD [D.int ↑w.fst, D.str (sgn w.snd.h), D.str (sgn w.snd.c), D.int ↑w.snd.t] none (some 3) = [D.int ↑w.fst, D.str (sgn w.snd.h), D.str (sgn w.snd.c)] := fun w => cut_take _ 3
          have c1 : DL.cutD [D.int ↑x.fst, D.str (sgn x.snd.h), D.str (sgn x.snd.c), D.int ↑x.snd.t] (some 1) none = [D.str (sgn x.snd.h), D.str (sgn x.snd.c), D.int ↑x.snd.t] := cut_drop _ 1
          have ht : D.hasTy "list" (D.cur G2 (.rf a)) = true := by rw [D.cur_rf ga]; rfl
          have rl := rowAt_len ((flatM rs).take i) x.1
          have tl2 : ((flatM rs).take i).length ≤ (flatM rs).length := by simp; omega
          have ra : ∀ Q : DQ, ((List.map Mv.d (rowAt ((flatM rs).take i) x.1)).length < sizeLine ∧ Q .non (gput G2 a (.lst (List.map Mv.d (rowAt ((flatM rs).take i) x.1) ++ [x.2.d])))) → rAppendD (.rf a) [.tup [D.str (sgn x.snd.h), D.str (sgn x.snd.c), D.int ↑x.snd.t]] G2 Q := fun Q z => by
            unfold rAppendD
            simp only [ga]
            exact z
          simp only [nn, Bool.false_eq_true, if_false, dxs, dl, dx3, it0, gp, itA, c1, c3, ht, true_and]
          cases hlast : ((flatM rs).take i).getLast? with
          | none =>
            rw [if_neg (by simp [lastD, D.isNon])]
            refine ⟨ht, ra _ ?_⟩
            refine ⟨by rw [List.length_map, sizeLine_eq]; omega, x7, some (.int (1 + (i : Nat))), some (.str (strOf (joinC 32 (moveW x)))), some (mvT x), x12, by rw [nx]; simp [lastD, mvT], sub_gput sb2 (ha a ham).1 rfl (fun u z => by rw [ga] at z; cases z; rfl), by rw [gput_ne (pas a ham).symm]; exact gp, fun s b hb => ?_⟩
            rw [nx, rowAt_snoc]
            by_cases hba : b = a
            · subst hba
              have es : x.1 = s := (List.getElem?_inj xs1 nda).mp (hax.trans hb.symm)
              rw [gput_same, if_pos es, ← es, List.map_append]
              rfl
            · have es : x.1 ≠ s := fun e => by rw [← e, hax] at hb; exact hba (Option.some.inj hb).symm
              rw [gput_ne hba, if_neg es]
              exact rows s b hb
          | some y =>
            rw [if_pos (by simp [lastD, mvT, D.isNon])]
            have hyx : mvLtS y x := by
              rw [List.getLast?_eq_getElem?, List.length_take, Nat.min_eq_left (by omega)] at hlast
              rw [List.getElem?_take] at hlast
              split at hlast
              · rename_i hlt
                have h1 := (List.getElem?_eq_some_iff.mp hlast)
                have h2 := (List.getElem?_eq_some_iff.mp ex)
                have := List.pairwise_iff_getElem.mp pw (i - 1) i h1.1 h2.1 (by omega)
                rw [h1.2, h2.2] at this
                exact this
              · cases hlast
            simp only [lastD, mvT, dxs, dl, dx3, c3]
            refine ⟨mvH_ok x y, ?_⟩
            rw [if_neg (by have := mvH_lt hyx; unfold mvH at this; rw [this]; simp)]
            simp only [gp, itA]
            refine ⟨ht, ra _ ?_⟩
            refine ⟨by rw [List.length_map, sizeLine_eq]; omega, x7, some (.int (1 + (i : Nat))), some (.str (strOf (joinC 32 (moveW x)))), some (mvT x), x12, by rw [nx]; simp [lastD, mvT], sub_gput sb2 (ha a ham).1 rfl (fun u z => by rw [ga] at z; cases z; rfl), by rw [gput_ne (pas a ham).symm]; exact gp, fun s b hb => ?_⟩
            rw [nx, rowAt_snoc]
            by_cases hba : b = a
            · subst hba
              have es : x.1 = s := (List.getElem?_inj xs1 nda).mp (hax.trans hb.symm)
              rw [gput_same, if_pos es, ← es, List.map_append]
              rfl
            · have es : x.1 ≠ s := fun e => by rw [← e, hax] at hb; exact hba (Option.some.inj hb).symm
              rw [gput_ne hba, if_neg es]
              exact rows s b hb
      · rintro S' G2 ⟨x7, x9, x10, x11, x12, rfl, sb2, gp, rows⟩
        have hlm : (List.mapIdx (fun i x => D.tup [D.int (1 + ↑i), x]) (List.map (fun x => D.str (strOf (joinC 32 (moveW x)))) (flatM rs))).length = (flatM rs).length := by simp
        rw [hlm, List.take_length] at rows
        simp only [dxs, dl, dTup, diList, gp]
        have eas : as.map D.rf = (List.range rs.length).map fun s => D.rf (as.getD s 0) := by
          refine List.ext_getElem (by simp [hl2]) fun j h1 h2 => ?_
          simp only [List.length_map] at h1
          simp only [List.getElem_map, List.getElem_range]
          rw [List.getD_eq_getElem?_getD, List.getElem?_eq_getElem h1]
          rfl
        refine lc_mapA (List.range rs.length) (fun s => D.rf (as.getD s 0)) (fun s => rowD (rs.getD s [])) eas (sz (by simp; omega)) gp (fun s hsr => ⟨_, rfl, fun Q z => ?_⟩) ?_
        · have hs2 : s < as.length := by have := List.mem_range.mp hsr; omega
          have ga := rows s (as.getD s 0) (by rw [List.getD_eq_getElem?_getD, List.getElem?_eq_getElem hs2]; rfl)
          rw [rowAt_flat rs (by omega)] at ga
          simp only [dxs, dl, dwipe, List.map_cons, List.map_nil]
          unfold rTupleD
          simp only [D.cur_rf ga]
          exact z
        · simp only [dxs, dl, dx3]
          refine ⟨sz (by decide), G, sb2, ?_⟩
          have er : (List.range rs.length).map (fun s => rowD (rs.getD s [])) = rs.map rowD := by
            refine List.ext_getElem (by simp) fun j h1 h2 => ?_
            simp only [List.length_map] at h2
            simp only [List.getElem_map, List.getElem_range]
            rw [List.getD_eq_getElem?_getD, List.getElem?_eq_getElem h2]
            rfl
          rw [er]
          exact q
end
end Pace
end
section
set_option Elab.async false
set_option linter.all false
set_option maxRecDepth 100000
set_option maxHeartbeats 4000000
namespace Pace
open PySem PySem.Spec PyProof.Rows L2 DL
section
variable {P : Program} {w : World} {K : PySem.W.Frag} {mg : Str → Option Value} {base : Heap} {C : Addr}
def spMove : SpD := fun ds G Q => ∃ (hs ws : List Nat) (n : Nat) (m : Mv), ds = [.str (strOf hs), .str (strOf ws), .int (n : Int), Mv.d m] ∧ Q (.bl (mvB hs ws n m)) G
abbrev N_is_move : List Str := ["heard", "written", "many", "thing"]
theorem sc_is_move : FnScope N_is_move ["heard", "written", "many", "thing"] (defScope s_is_move) := ⟨rfl, rfl, rfl, by decide +kernel, rfl, by decide +kernel, by decide +kernel⟩
theorem c_is_move (T : Txt K mg C) (d : Def K mg "is_move" s_is_move) (C_is_letter_of : Cal P w K mg base "is_letter_of" 1 ["letters", "thing"] (spLetterOf)) (C_is_integer : Cal P w K mg base "is_integer" 1 ["thing"] (spInteger)) : Cal P w K mg base "is_move" 2 ["heard", "written", "many", "thing"] (spMove) := by
  refine cal_mk (N := N_is_move) d sc_is_move (fun ds G Q h => ?_) (fun _ _ _ _ _ _ us hl => match us, hl with | [_, _, _, _], _ => rfl) (fun f cdv A outer s H E hg hr => ?_)
  · obtain ⟨hs, ws, n, m, rfl, _⟩ := h
    rfl
  · have hu := hu100 hr
    have nd := sc_is_move.nd
    have hA := deeper_guards (env := envOfC "is_move" (defScope s_is_move) s.heap.objs.size f cdv) hg
    refine ⟨_, (dps_cons (dp_if (DW.dt (dw_or (dt_not (dt_val (de_callB cd_isi rfl T.f_isinstance (by decide +kernel) (da_cons (de_var 3) (da_cons (de_ty (T := "tuple") rfl T.f_tuple (by decide +kernel)) da_nil))))) (dw_or1 (dt_cmp (od_ne hu) (de_callB cd_len rfl T.f_len (by decide +kernel) (da_cons (de_var 3) da_nil)) (de_gint rfl T.c_MOVE_PARTS_rules) (nomark _)))))
  (dps_one (dp_ret de_bl))
  dps_nil)
  (dps_cons (dp_if (DW.dt (dw_or (dt_not (dt_val (de_cal C_is_letter_of hA (hr.mono (by decide)) (da_cons (de_var 0) (da_cons (de_ix hu (de_var 3) de_int) da_nil))))) (dw_or1 (dt_not (dt_val (de_cal C_is_letter_of hA (hr.mono (by decide)) (da_cons (de_var 1) (da_cons (de_ix hu (de_var 3) de_int) da_nil))))))))
  (dps_one (dp_ret de_bl))
  dps_nil)
  (dps_one (dp_ret (de_and (de_cal C_is_integer hA (hr.mono (by decide)) (da_cons (de_ix hu (de_var 3) de_int) da_nil)) (de_one (de_chain (od_le hu) (od_lt hu) de_int (de_ix hu (de_var 3) de_int) (de_var 2)))))))), fun ds G Q h => ?_⟩
    obtain ⟨hs, ws, n, m, rfl, q⟩ := h
    rw [show dstart N_is_move [.str (strOf hs), .str (strOf ws), .int (n : Int), Mv.d m] = [some (.str (strOf hs)), some (.str (strOf ws)), some (.int (n : Int)), some (Mv.d m)] from rfl]
    simp only [Mv.d, dxs, dl, dx3, Bool.not_true, Bool.false_eq_true, if_false, okE_int, eqv_int, true_and, mv0, mv1, mv2]
    rw [if_neg (by decide)]
    refine ⟨hs, m.h, rfl, ?_⟩
    by_cases h1 : m.h ∈ hs
    · simp only [h1, decide_true, Bool.not_true, Bool.false_eq_true, if_false]
      refine ⟨ws, m.c, rfl, ?_⟩
      by_cases h2 : m.c ∈ ws
      · simp only [h2, decide_true, Bool.not_true, Bool.false_eq_true, if_false]
        refine ⟨_, rfl, ?_⟩
        simp only [dxs, dl, mv2, okL_int, DL.lt_int, true_and, if_true]
        have e1 : (!decide ((m.t : Int) < 0)) = true := by simp
        rw [e1, if_pos rfl]
        refine ⟨_, Sub.refl _, ?_⟩
        have e2 : decide ((m.t : Int) < (n : Int)) = mvB hs ws n m := by
          unfold mvB
          simp [h1, h2]
        rw [e2]
        exact q
      · simp only [h2, decide_false, Bool.not_false, if_true]
        refine ⟨_, Sub.refl _, ?_⟩
        have : mvB hs ws n m = false := by unfold mvB; simp [h2]
        rw [this] at q
        exact q
    · simp only [h1, decide_false, Bool.not_false, if_true]
      refine ⟨_, Sub.refl _, ?_⟩
      have : mvB hs ws n m = false := by unfold mvB; simp [h1]
      rw [this] at q
      exact q
end
section
variable {P : Program} {w : World} {K : PySem.W.Frag} {mg : Str → Option Value} {base : Heap} {C : Addr}
def spRow : SpD := fun ds G Q => ∃ (hs ws : List Nat) (n : Nat) (r : List Mv), ds = [.str (strOf hs), .str (strOf ws), .int (n : Int), rowD r] ∧ r.length ≤ 1000 ∧ Q (.bl (rowB hs ws n r)) G
abbrev N_is_row : List Str := ["heard", "written", "many", "thing", "move", "one", "other"]
theorem sc_is_row : FnScope N_is_row ["heard", "written", "many", "thing"] (defScope s_is_row) := ⟨rfl, rfl, rfl, by decide +kernel, rfl, by decide +kernel, by decide +kernel⟩
theorem c_is_row (T : Txt K mg C) (d : Def K mg "is_row" s_is_row) (C_is_move : Cal P w K mg base "is_move" 2 ["heard", "written", "many", "thing"] (spMove)) : Cal P w K mg base "is_row" 3 ["heard", "written", "many", "thing"] (spRow) := by
  refine cal_mk (N := N_is_row) d sc_is_row (fun ds G Q h => ?_) (fun _ _ _ _ _ _ us hl => match us, hl with | [_, _, _, _], _ => rfl) (fun f cdv A outer s H E hg hr => ?_)
  · obtain ⟨hs, ws, n, r, rfl, _⟩ := h
    rfl
  · have hu := hu100 hr
    have nd := sc_is_row.nd
    have hA := deeper_guards (env := envOfC "is_row" (defScope s_is_row) s.heap.objs.size f cdv) hg
    refine ⟨_, (dps_cons (dp_if (DW.dt (dw_or (dt_not (dt_val (de_callB cd_isi rfl T.f_isinstance (by decide +kernel) (da_cons (de_var 3) (da_cons (de_ty (T := "tuple") rfl T.f_tuple (by decide +kernel)) da_nil))))) (dw_or1 (dt_not (dt_val (de_callB (cd_all rfl) rfl T.f_all (by decide +kernel) (da_cons (de_lc (own := [("move", 4)]) (p := (.nm 4)) rfl nd (di_tup (de_var 3)) (blkOk_by (by show blkC N_is_row (defScope s_is_row) _ _ = true; decide +kernel)) (by decide) (fun _ _ _ _ _ => pg_name (i := 4) nd rfl (Or.inl rfl)) (fun _ _ _ _ _ => dts_nil) (fun _ _ _ _ _ => (de_cal C_is_move hA (hr.mono (by decide)) (da_cons (de_var 0) (da_cons (de_var 1) (da_cons (de_var 2) (da_cons (de_var 4) da_nil))))))) da_nil)))))))
  (dps_one (dp_ret de_bl))
  dps_nil)
  (dps_one (dp_ret (de_callB (cd_all rfl) rfl T.f_all (by decide +kernel) (da_cons (de_lc (own := [("one", 5), ("other", 6)]) (p := (.tp [5, 6])) rfl nd (di_zipT rfl T.f_zip (da_cons (de_slice (de_var 3) do_none (do_some (de_un ud_neg de_int))) (da_cons (de_slice (de_var 3) (do_some de_int) do_none) da_nil))) (blkOk_by (by show blkC N_is_row (defScope s_is_row) _ _ = true; decide +kernel)) (by decide) (fun _ _ _ _ _ => pg_tup rfl (pgs_cons (pg_name (i := 5) nd rfl (Or.inl rfl)) (pgs_cons (pg_name (i := 6) nd rfl (Or.inl rfl)) pgs_nil))) (fun _ _ _ _ _ => dts_nil) (fun _ _ _ _ _ => (de_cmp (od_lt hu) (de_slice (de_var 5) do_none (do_some de_int)) (de_slice (de_var 6) do_none (do_some de_int)) (nomark _)))) da_nil))))), fun ds G Q h => ?_⟩
    obtain ⟨hs, ws, n, r, rfl, hl, q⟩ := h
    rw [show dstart N_is_row [.str (strOf hs), .str (strOf ws), .int (n : Int), rowD r] = [some (.str (strOf hs)), some (.str (strOf ws)), some (.int (n : Int)), some (rowD r), none, none, none] from rfl]
    simp only [rowD, dxs, dl, dx3, Bool.not_true, Bool.false_eq_true, if_false, true_and]
    refine lc_mapA r Mv.d (fun m => .bl (mvB hs ws n m)) rfl (sz (by omega)) trivial (fun m _ => ⟨_, rfl, fun Q z => ?_⟩) ?_
    · simp only [dxs, dl, dwipe, List.map_cons, List.map_nil]
      exact ⟨hs, ws, n, m, rfl, z⟩
    · rw [all_map]
      simp only
      by_cases ha : r.all (mvB hs ws n) = true
      · rw [if_neg (by simp [ha])]
        rw [cut_last, cut_tail]
        refine lc_mapA (r.dropLast.zip r.tail) (fun p => .tup [Mv.d p.1, Mv.d p.2]) (fun p => .bl (mvLt p.1 p.2)) ?_ (sz (by simp; omega)) trivial (fun p _ => ⟨_, rfl, fun Q z => ?_⟩) ?_
        · rw [← List.map_dropLast, ← List.map_tail, List.zipWith_map, zip_map]
        · simp only [dxs, dl, dx3, dwipe, List.map_cons, List.map_nil, Mv.d, mv_cut, mv_okL, mv_lt, true_and]
          exact z
        · rw [all_map]
          refine ⟨_, Sub.refl _, ?_⟩
          have e : rowB hs ws n r = (r.dropLast.zip r.tail).all fun p => mvLt p.1 p.2 := by
            unfold rowB nbr
            rw [ha, zip_map]
            simp [List.all_map]
          rw [← e]
          exact q
      · rw [if_pos (by simpa using ha)]
        have e : rowB hs ws n r = false := by
          unfold rowB
          simp only [Bool.not_eq_true] at ha
          simp [ha]
        rw [e] at q
        exact ⟨_, Sub.refl _, q⟩
end
section
variable {P : Program} {w : World} {K : PySem.W.Frag} {mg : Str → Option Value} {base : Heap} {C : Addr}
def spSteps : SpD := fun ds G Q => ∃ (r : List Mv), ds = [rowD r] ∧ r.length ≤ 1000 ∧ mergeDT [] (r.map mvK) = r.map mvK ∧ Q (.dT (r.map mvK)) G
abbrev N_steps_of : List Str := ["row", "sign", "letter", "target"]
theorem sc_steps_of : FnScope N_steps_of ["row"] (defScope s_steps_of) := ⟨rfl, rfl, rfl, by decide +kernel, rfl, by decide +kernel, by decide +kernel⟩
theorem c_steps_of (T : Txt K mg C) (d : Def K mg "steps_of" s_steps_of) : Cal P w K mg base "steps_of" 1 ["row"] (spSteps) := by
  refine cal_mk (N := N_steps_of) d sc_steps_of (fun ds G Q h => ?_) (fun _ _ _ _ _ _ us hl => match us, hl with | [_], _ => rfl) (fun f cdv A outer s H E hg hr => ?_)
  · obtain ⟨r, rfl, _⟩ := h
    rfl
  · have hu := hu100 hr
    have nd := sc_steps_of.nd
    have hA := deeper_guards (env := envOfC "steps_of" (defScope s_steps_of) s.heap.objs.size f cdv) hg
    refine ⟨_, (dps_one (dp_ret (de_callTy (cd_dictT rfl hu) rfl T.f_dict (by decide +kernel) (da_cons (de_lc (own := [("sign", 1), ("letter", 2), ("target", 3)]) (p := (.tp [1, 2, 3])) rfl nd (di_tup (de_var 0)) (blkOk_by (by show blkC N_steps_of (defScope s_steps_of) _ _ = true; decide +kernel)) (by decide) (fun _ _ _ _ _ => pg_tup rfl (pgs_cons (pg_name (i := 1) nd rfl (Or.inl rfl)) (pgs_cons (pg_name (i := 2) nd rfl (Or.inl rfl)) (pgs_cons (pg_name (i := 3) nd rfl (Or.inl rfl)) pgs_nil)))) (fun _ _ _ _ _ => dts_nil) (fun _ _ _ _ _ => (de_tup (da_cons (de_tup (da_cons (de_var 1) (da_cons (de_var 2) da_nil))) (da_cons (de_var 3) da_nil))))) da_nil)))), fun ds G Q h => ?_⟩
    obtain ⟨r, rfl, hl, hm, q⟩ := h
    rw [show dstart N_steps_of [rowD r] = [some (rowD r), none, none, none] from rfl]
    simp only [rowD, dxs, dl]
    refine lc_mapA r Mv.d (fun m => .tup [.tup [.str (sgn m.h), .str (sgn m.c)], .int (m.t : Int)]) rfl (sz (by omega)) trivial (fun m _ => ⟨_, rfl, fun Q z => ?_⟩) ?_
    · simp only [dxs, dl, dwipe, List.map_cons, List.map_nil, Mv.d]
      exact ⟨sz (by simp), sz (by simp), z⟩
    · show (match prsT _ with | some ms => _ | none => False)
      rw [prsT_row]
      refine ⟨_, Sub.refl _, ?_⟩
      rw [hm]
      exact q
end
end Pace
end
section
set_option Elab.async false
set_option linter.all false
set_option maxRecDepth 100000
set_option maxHeartbeats 4000000
namespace Pace
open PySem PySem.Spec PyProof.Rows L2 DL
section
variable {P : Program} {w : World} {K : PySem.W.Frag} {mg : Str → Option Value} {base : Heap} {C : Addr}
def spInit (C : Addr) : SpD := fun ds G Q => ∃ (y : Addr) (hs ws : List Nat) (rs : List (List Mv)), ds = [.rf y, .str (strOf hs), .str (strOf ws), rowsD rs] ∧ G y = some (.ins C []) ∧ RulV hs ws rs ∧ Q .non (gput G y (.ins C (rulF (mkR hs ws rs))))
abbrev N_Rules_u__init_u_ : List Str := ["self", "heard", "written", "rows", "state", "row"]
theorem sc_Rules_u__init_u_ : FnScope N_Rules_u__init_u_ ["self", "heard", "written", "rows"] (defScope s_Rules_u__init_u_) := ⟨rfl, rfl, rfl, by decide +kernel, rfl, by decide +kernel, by decide +kernel⟩
theorem c_Rules_u__init_u_ (T : Txt K mg C) (d : DefI K C "Rules.__init__" s_Rules_u__init_u_) (C_are_letters : Cal P w K mg base "are_letters" 1 ["thing"] (spLetters)) (C_is_row : Cal P w K mg base "is_row" 3 ["heard", "written", "many", "thing"] (spRow)) (C_steps_of : Cal P w K mg base "steps_of" 1 ["row"] (spSteps)) : Mak P w K mg base "Rules" C 4 ["self", "heard", "written", "rows"] (spInit C) := by
  refine mak_mk (N := N_Rules_u__init_u_) d T.mgR sc_Rules_u__init_u_ (fun ds G Q h => ?_) (fun _ _ _ _ _ _ us hl => match us, hl with | [_, _, _, _], _ => rfl) (fun f cdv A outer s H E hg hr => ?_)
  · obtain ⟨y, hs, ws, rs, rfl, _⟩ := h
    rfl
  · have hu := hu100 hr
    have nd := sc_Rules_u__init_u_.nd
    have hA := deeper_guards (env := envOfC "Rules.__init__" (defScope s_Rules_u__init_u_) s.heap.objs.size f cdv) hg
    refine ⟨_, (dps_cons (dp_if (dt_not (dt_val (de_cal C_are_letters hA (hr.mono (by decide)) (da_cons (de_var 1) da_nil))))
  (dps_one dp_never)
  dps_nil)
  (dps_cons (dp_if (dt_not (dt_val (de_cal C_are_letters hA (hr.mono (by decide)) (da_cons (de_var 2) da_nil))))
  (dps_one dp_never)
  dps_nil)
  (dps_cons (dp_if (DW.dt (dw_or (dt_not (dt_val (de_callB cd_isi rfl T.f_isinstance (by decide +kernel) (da_cons (de_var 3) (da_cons (de_ty (T := "tuple") rfl T.f_tuple (by decide +kernel)) da_nil))))) (dw_or1 (dt_not (dt_chain (od_le hu) (od_le hu) de_int (de_callB cd_len rfl T.f_len (by decide +kernel) (da_cons (de_var 3) da_nil)) (de_gint rfl T.c_MOST_STATES))))))
  (dps_one dp_never)
  dps_nil)
  (dps_cons (dp_for PassesOwn.never rfl (di_enumT rfl T.f_enumerate (da_cons (de_var 3) da_nil)) (dg_tup (n := 2) rfl (dgs_cons (dg_name 4 nd) (dgs_cons (dg_name 5 nd) dgs_nil)))
  (dps_one (dp_if (dt_not (dt_val (de_cal C_is_row hA (hr.mono (by decide)) (da_cons (de_var 1) (da_cons (de_var 2) (da_cons (de_callB cd_len rfl T.f_len (by decide +kernel) (da_cons (de_var 3) da_nil)) (da_cons (de_var 5) da_nil)))))))
  (dps_one dp_never)
  dps_nil)))
  (dps_cons (dp_setFld T.clR T.no_heard (de_var 0) (de_var 1))
  (dps_cons (dp_setFld T.clR T.no_written (de_var 0) (de_var 2))
  (dps_cons (dp_setFld T.clR T.no_rows (de_var 0) (de_var 3))
  (dps_one (dp_setFld T.clR T.no_steps (de_var 0) (de_lc (own := [("row", 5)]) (p := (.nm 5)) rfl nd (di_tup (de_var 3)) (blkOk_by (by show blkC N_Rules_u__init_u_ (defScope s_Rules_u__init_u_) _ _ = true; decide +kernel)) (by decide) (fun _ _ _ _ _ => pg_name (i := 5) nd rfl (Or.inl rfl)) (fun _ _ _ _ _ => dts_nil) (fun _ _ _ _ _ => (de_cal C_steps_of hA (hr.mono (by decide)) (da_cons (de_var 5) da_nil))))))))))))), fun ds G Q h => ?_⟩
    obtain ⟨y, hs, ws, rs, rfl, hy, v, q⟩ := h
    rw [show dstart N_Rules_u__init_u_ [.rf y, .str (strOf hs), .str (strOf ws), rowsD rs] = [some (.rf y), some (.str (strOf hs)), some (.str (strOf ws)), some (rowsD rs), none, none] from rfl]
    simp only [rowsD, dxs, dl, dx3]
    refine ⟨hs, rfl, v.sh, ?_⟩
    rw [v.lh]
    simp only [dxs, dl, dx3, Bool.not_true, Bool.false_eq_true, if_false]
    refine ⟨ws, rfl, v.sw, ?_⟩
    rw [v.lw]
    simp only [dxs, dl, dx3, Bool.not_true, Bool.false_eq_true, if_false, okL_int, DL.lt_int, true_and, List.length_map]
    have n1 := v.n1
    have n2 := v.n2
    rw [if_pos (by simp; omega), if_neg (by simp; omega)]
    refine ⟨fun i S' G' => ∃ x4 x5, S' = [some (.rf y), some (.str (strOf hs)), some (.str (strOf ws)), some (.tup (rs.map rowD)), x4, x5] ∧ G' = G, ⟨none, none, rfl, rfl⟩, fun _ _ _ _ => trivial, ?_, ?_⟩
    · rintro i S' G' dd ⟨x4, x5, rfl, rfl⟩ hd
      rw [List.getElem?_mapIdx, List.getElem?_map] at hd
      cases er : rs[i]? with
      | none => rw [er] at hd; cases hd
      | some r =>
        rw [er] at hd
        cases hd
        obtain ⟨hr1, hr2⟩ := v.row r (List.mem_of_getElem? er)
        simp only [dxs, dl, dx3, true_and, List.length_map]
        refine ⟨hs, ws, rs.length, r, rfl, hr2, ?_⟩
        rw [hr1]
        exact ⟨_, _, rfl, rfl⟩
    · rintro S' G' ⟨x4, x5, rfl, rfl⟩
      simp only [dxs, dl, hy, pf1, pf2, pf3]
      refine ⟨trivial, by decide, trivial, by decide, trivial, by decide, ?_⟩
      refine lc_mapA rs rowD (fun r => .dT (r.map mvK)) rfl (sz (by omega)) trivial (fun r hr => ⟨_, rfl, fun Q z => ?_⟩) ?_
      · obtain ⟨hr1, hr2⟩ := v.row r hr
        simp only [dxs, dl, dwipe, List.map_cons, List.map_nil]
        exact ⟨r, rfl, hr2, merge_rowB hr1, z⟩
      · simp only [dxs, dl, gput_gput, pf4]
        exact ⟨trivial, by decide, _, Sub.refl _, q⟩
end
end Pace
end
section
set_option Elab.async false
set_option linter.all false
set_option maxRecDepth 100000
set_option maxHeartbeats 4000000
namespace Pace
open PySem PySem.Spec PyProof.Rows L2 DL
section
variable {P : Program} {w : World} {K : PySem.W.Frag} {mg : Str → Option Value} {base : Heap} {C : Addr}
def spRead (C : Addr) : SpD := fun ds G Q => ∃ (hs ws : List Nat) (rs : List (List Mv)), ds = [.rf C, .str (strOf (textOf hs ws rs))] ∧ Wri hs ws rs ∧ Q (rulD C (mkR hs ws rs)) G
abbrev N_Rules_read : List Str := ["cls", "text", "heard", "written", "rows"]
theorem sc_Rules_read : FnScope N_Rules_read ["cls", "text"] (defScope s_Rules_read) := ⟨rfl, rfl, rfl, by decide +kernel, rfl, by decide +kernel, by decide +kernel⟩
theorem c_Rules_read (T : Txt K mg C) (d : DefC K C "read" "Rules.read" s_Rules_read) (C_parts_in : Cal P w K mg base "parts_in" 3 ["text"] (spParts)) (M_Rules : Mak P w K mg base "Rules" C 4 ["self", "heard", "written", "rows"] (spInit C)) : CalC P w K mg base C "read" 6 ["cls", "text"] (spRead C) ∧ CalCK P w K mg base C "read" 6 ["cls", "text"] (spRead C) ["text"] [0, 1] := by
  refine calC_mk (N := N_Rules_read) d sc_Rules_read (fun ds G Q h => ?_) (fun _ _ _ _ _ _ us hl => match us, hl with | [_, _], _ => rfl) (fun _ _ _ _ _ _ us ws hl hw => match us, ws, hl, hw with | [_], [_], _, _ => rfl) (fun f cdv A outer s H E hg hr => ?_)
  · obtain ⟨hs, ws, rs, rfl, _⟩ := h
    rfl
  · have hu := hu100 hr
    have nd := sc_Rules_read.nd
    have hA := deeper_guards (env := envOfC "Rules.read" (defScope s_Rules_read) s.heap.objs.size f cdv) hg
    refine ⟨_, (dps_cons (dp_asg (de_cal C_parts_in hA (hr.mono (by decide)) (da_cons (de_var 1) da_nil)) (dg_tup (n := 3) rfl (dgs_cons (dg_name 2 nd) (dgs_cons (dg_name 3 nd) (dgs_cons (dg_name 4 nd) dgs_nil)))))
  (dps_one (dp_ret (de_makL 0 M_Rules hA (hr.mono (by decide)) (da_cons (de_var 2) (da_cons (de_var 3) (da_cons (de_var 4) da_nil))))))), fun ds G Q h => ?_⟩
    obtain ⟨hs, ws, rs, rfl, wr, q⟩ := h
    rw [show dstart N_Rules_read [.rf C, .str (strOf (textOf hs ws rs))] = [some (.rf C), some (.str (strOf (textOf hs ws rs))), none, none, none] from rfl]
    simp only [dxs, dl]
    refine ⟨hs, ws, rs, rfl, wr, ?_⟩
    simp only [dxs, dl, dMakeL, dMake]
    refine ⟨trivial, trivial, fun y hy => ⟨y, hs, ws, rs, rfl, gput_same, wr.val, ?_⟩⟩
    simp only [dxs, dl, gput_gput, gput_same, MO.cold, gdel_gput hy]
    exact ⟨_, Sub.refl _, q⟩
end
end Pace
end
section
set_option Elab.async false
set_option linter.all false
set_option maxRecDepth 100000
set_option maxHeartbeats 4000000
namespace Pace
open PySem PySem.Spec PyProof.Rows L2 DL
section
variable {P : Program} {w : World} {K : PySem.W.Frag} {mg : Str → Option Value} {base : Heap} {C : Addr}
def spTextOf : SpD := fun ds G Q => ∃ (hs ws : List Nat) (rs : List (List Mv)), ds = [.str (strOf hs), .str (strOf ws), rowsD rs] ∧ Wri hs ws rs ∧ Q (.str (strOf (textOf hs ws rs))) G
def flatTo (rs : List (List Mv)) (i : Nat) : List (Nat × Mv) := (List.range i).flatMap fun s => (rs.getD s []).map fun m => (s, m)
def lineTo (hs ws : List Nat) (rs : List (List Mv)) (i : Nat) : List (List Nat) := joinC 32 (headW hs ws rs.length) :: (flatTo rs i).map fun x => joinC 32 (moveW x)
theorem lineTo_succ {rs : List (List Mv)} (hs ws : List Nat) {i : Nat} {r : List Mv} (h : rs[i]? = some r) : lineTo hs ws rs (i + 1) = lineTo hs ws rs i ++ r.map fun m => joinC 32 (moveW (i, m)) := by
  have eg : rs.getD i [] = r := by rw [List.getD_eq_getElem?_getD, h]; rfl
  unfold lineTo flatTo
  rw [List.range_succ, List.flatMap_append, List.map_append]
  simp [h, List.map_map, Function.comp_def]
theorem flatTo_le {rs : List (List Mv)} : ∀ {j : Nat}, (i : Nat) → (flatTo rs i).length ≤ (flatTo rs (i + j)).length
  | 0, i => Nat.le_refl _
  | j + 1, i => by
    refine Nat.le_trans (flatTo_le (j := j) i) ?_
    unfold flatTo
    rw [show i + (j + 1) = (i + j) + 1 by omega, List.range_succ, List.flatMap_append, List.length_append]
    omega
theorem lineTo_len {hs ws : List Nat} {rs : List (List Mv)} (w : Wri hs ws rs) {i : Nat} (h : i ≤ rs.length) : (lineTo hs ws rs i).length ≤ 5001 := by
  have := flatTo_le (rs := rs) (j := rs.length - i) i
  rw [show i + (rs.length - i) = rs.length by omega] at this
  have e : (flatTo rs rs.length).length ≤ 5000 := w.few
  simp only [lineTo, List.length_cons, List.length_map]
  omega
theorem linesOf_len {hs ws : List Nat} {rs : List (List Mv)} (w : Wri hs ws rs) : (linesOf hs ws rs).length ≤ 5001 := lineTo_len w (Nat.le_refl _)
theorem flat_at {rs : List (List Mv)} {i : Nat} {r : List Mv} {m : Mv} (h : rs[i]? = some r) (hm : m ∈ r) : (i, m) ∈ flatM rs := by
  have hi := (List.getElem?_eq_some_iff.mp h).1
  refine List.mem_flatMap.mpr ⟨i, List.mem_range.mpr hi, List.mem_map.mpr ⟨m, ?_, rfl⟩⟩
  rw [List.getD_eq_getElem?_getD, h]
  exact hm
theorem texts_map : ∀ l : List (List Nat), texts (l.map fun x => D.str (strOf x)) = some (l.map strOf)
  | [] => rfl
  | x :: l => by simp [texts, texts_map l]
theorem sum_mono {α : Type} {f g : α → Nat} : ∀ {l : List α}, (∀ x ∈ l, f x ≤ g x) → (l.map f).sum ≤ (l.map g).sum
  | [], _ => Nat.le_refl _
  | x :: l, h => by
    have := sum_mono (l := l) fun y hy => h y (List.mem_cons_of_mem _ hy)
    have := h x List.mem_cons_self
    simp only [List.map_cons, List.sum_cons]
    omega
abbrev N_text_of : List Str := ["heard", "written", "rows", "lines", "state", "row", "sign", "letter", "target"]
theorem sc_text_of : FnScope N_text_of ["heard", "written", "rows"] (defScope s_text_of) := ⟨rfl, rfl, rfl, by decide +kernel, rfl, by decide +kernel, by decide +kernel⟩
theorem c_text_of (T : Txt K mg C) (d : Def K mg "text_of" s_text_of) : Cal P w K mg base "text_of" 1 ["heard", "written", "rows"] (spTextOf) := by
  refine cal_mk (N := N_text_of) d sc_text_of (fun ds G Q h => ?_) (fun _ _ _ _ _ _ us hl => match us, hl with | [_, _, _], _ => rfl) (fun f cdv A outer s H E hg hr => ?_)
  · obtain ⟨hs, ws, rs, rfl, _⟩ := h
    rfl
  · have hu := hu100 hr
    have nd := sc_text_of.nd
    have hA := deeper_guards (env := envOfC "text_of" (defScope s_text_of) s.heap.objs.size f cdv) hg
    refine ⟨_, (dps_cons (dp_asg (de_lstM (da_cons (de_joined (dj_cons (de_fmt (de_gstr rfl T.c_RULES_WORD)) (dj_cons de_str (dj_cons (de_fmt (de_var 0)) (dj_cons de_str (dj_cons (de_fmt (de_var 1)) (dj_cons de_str (dj_cons (de_fmt (de_callB cd_len rfl T.f_len (by decide +kernel) (da_cons (de_var 2) da_nil))) dj_nil)))))))) da_nil)) (dg_name 3 nd))
  (dps_cons (dp_for PassesOwn.never rfl (di_enumT rfl T.f_enumerate (da_cons (de_var 2) da_nil)) (dg_tup (n := 2) rfl (dgs_cons (dg_name 4 nd) (dgs_cons (dg_name 5 nd) dgs_nil)))
  (dps_one (dp_expr (de_bm PySem.F.plainAttrs_list PySem.F.slot_list_extend PySem.F.type_list_extend md_extend (de_var 3) (da_cons (de_lc (own := [("sign", 6), ("letter", 7), ("target", 8)]) (p := (.tp [6, 7, 8])) rfl nd (di_tup (de_var 5)) (blkOk_by (by show blkC N_text_of (defScope s_text_of) _ _ = true; decide +kernel)) (by decide) (fun _ _ _ _ _ => pg_tup rfl (pgs_cons (pg_name (i := 6) nd rfl (Or.inl rfl)) (pgs_cons (pg_name (i := 7) nd rfl (Or.inl rfl)) (pgs_cons (pg_name (i := 8) nd rfl (Or.inl rfl)) pgs_nil)))) (fun _ _ _ _ _ => dts_nil) (fun _ _ _ _ _ => (de_joined (dj_cons (de_fmt (de_gstr rfl T.c_MOVE_WORD)) (dj_cons de_str (dj_cons (de_fmt (de_var 4)) (dj_cons de_str (dj_cons (de_fmt (de_var 6)) (dj_cons de_str (dj_cons (de_fmt (de_var 7)) (dj_cons de_str (dj_cons (de_fmt (de_var 8)) dj_nil)))))))))))) da_nil)))))
  (dps_one (dp_ret (de_bm PySem.F.plainAttrs_str PySem.F.slot_str_join PySem.F.type_str_join md_join (de_gstr rfl T.c_BREAK) (da_cons (de_var 3) da_nil)))))), fun ds G Q h => ?_⟩
    obtain ⟨hs, ws, rs, rfl, wr, q⟩ := h
    rw [show dstart N_text_of [.str (strOf hs), .str (strOf ws), rowsD rs] = [some (.str (strOf hs)), some (.str (strOf ws)), some (rowsD rs), none, none, none, none, none, none] from rfl]
    have n2 := wr.val.n2
    have hn := num_ok (show rs.length < 1000 by omega)
    have el : rLenD [rowsD rs] = fun G Q => Q (.int (rs.length : Nat)) G := by
      funext G Q
      show Q (.int ((rs.map rowD).length : Nat)) G = _
      rw [List.length_map]
    have e0 : Str.empty = strOf [] := rfl
    have szB : ∀ k, k ≤ 200000 → k ≤ sizeLine := fun k h => by rw [sizeLine_eq]; omega
    have lh0 := wr.val.sh
    have lw0 := wr.val.sw
    have hl3 := hn.l3
    have hlog : ∀ k : Nat, k < 1000 → ((k : Int)).natAbs.log2 < 1920 := fun k hk => by
      rw [Int.natAbs_natCast]
      by_cases h0 : k = 0
      · rw [h0]; decide
      · have : k.log2 < 10 := (Nat.log2_lt h0).mpr (by omega)
        omega
    have lwr : wRules.length = 5 := rfl
    have lwm : wMove.length = 4 := rfl
    simp only [dxs, dl, dx3, dJoined, djCons, djNil, dFmt, el, e0, s_rules, s_blank, str_num, strOf_app, strOf_len, List.length_append, List.length_cons, List.length_nil, lwr]
    refine ⟨szB _ (by omega), szB _ (by omega), szB _ (by omega), szB _ (by omega), szB _ (by omega), szB _ (by omega), szB _ (by omega), szB _ (by omega), szB _ (by omega), hlog _ (by omega), szB _ (by omega), szB _ (by decide), fun p hp => ?_⟩
    have eh : [] ++ wRules ++ [32] ++ hs ++ [32] ++ ws ++ [32] ++ numS rs.length = joinC 32 (headW hs ws rs.length) := by simp [joinC, headW]
    rw [eh]
    show ForB (List.mapIdx (fun i x => D.tup [D.int ↑i, x]) (rs.map rowD)) _ _ _ _ _ _
    refine ⟨fun i S' G' => ∃ (x4 x5 x6 x7 x8 : Option D), S' = [some (D.str (strOf hs)), some (D.str (strOf ws)), some (rowsD rs), some (D.rf p), x4, x5, x6, x7, x8] ∧ G' = gput G p (.lst ((lineTo hs ws rs i).map fun l => .str (strOf l))) ∧ i ≤ rs.length,
      ⟨none, none, none, none, none, rfl, rfl, Nat.zero_le _⟩, fun _ _ _ _ => trivial, ?_, ?_⟩
    · rintro i S' G' dd ⟨x4, x5, x6, x7, x8, rfl, rfl, hi⟩ hd
      rw [List.getElem?_mapIdx, List.getElem?_map] at hd
      cases er : rs[i]? with
      | none => rw [er] at hd; cases hd
      | some r =>
        rw [er] at hd
        cases hd
        have hi2 : i < rs.length := (List.getElem?_eq_some_iff.mp er).1
        have hrl := (wr.val.row r (List.mem_of_getElem? er)).2
        have eg : rs.getD i [] = r := by rw [List.getD_eq_getElem?_getD, er]; rfl
        have nxt := lineTo_succ hs ws er
        simp only [dxs, dl, rowD, beq_self_eq_true, true_and]
        refine lc_mapA r Mv.d (fun m => .str (strOf (joinC 32 (moveW (i, m))))) rfl (sz (by omega)) trivial (fun m hm => ⟨_, rfl, fun Q z => ?_⟩) ?_
        · have mp := wr.mv (i, m) (flat_at er hm)
          have mt : m.t < rs.length := mp.t
          have nt := num_ok (show m.t < 1000 by omega)
          have ni := num_ok (show i < 1000 by omega)
          have k1 := nt.l3
          have k2 := ni.l3
          have et : [] ++ wMove ++ [32] ++ numS i ++ [32] ++ [m.h] ++ [32] ++ [m.c] ++ [32] ++ numS m.t = joinC 32 (moveW (i, m)) := by simp [joinC, moveW]
          have g1 : ∀ c, sgn c = strOf [c] := fun _ => rfl
          simp only [dxs, dl, dwipe, List.map_cons, List.map_nil, Mv.d, dJoined, djCons, djNil, dFmt, e0, s_move, s_blank, str_num, g1, strOf_app, strOf_len, List.length_append, List.length_cons, List.length_nil, lwm, et]
          refine ⟨szB _ (by omega), szB _ (by omega), szB _ (by omega), hlog _ (by omega), szB _ (by omega), szB _ (by omega), szB _ (by omega), szB _ (by omega), szB _ (by omega), szB _ (by omega), szB _ (by omega), szB _ (by omega), hlog _ (by omega), szB _ (by have := move_len n2 mp; omega), z⟩
        · have hb := lineTo_len wr (show i + 1 ≤ rs.length by omega)
          rw [nxt] at hb
          simp only [List.length_append, List.length_map] at hb
          simp only [rExtendD, dxs, dl, gput_gput]
          refine ⟨szB _ (by simp only [List.length_map]; omega), _, _, _, _, _, rfl, ?_, by omega⟩
          rw [nxt, List.map_append, List.map_map]
          rfl
    · rintro S' G' ⟨x4, x5, x6, x7, x8, rfl, rfl, hi⟩
      have hlm : (List.mapIdx (fun i x => D.tup [D.int ↑i, x]) (rs.map rowD)).length = rs.length := by simp
      rw [hlm]
      have ell : lineTo hs ws rs rs.length = linesOf hs ws rs := rfl
      rw [ell]
      have et : texts ((linesOf hs ws rs).map fun l => D.str (strOf l)) = some ((linesOf hs ws rs).map strOf) := texts_map _
      have hs1 : (((linesOf hs ws rs).map strOf).map (·.length)).sum ≤ 200000 := by
        rw [List.map_map]
        have h1 := lines_sum wr
        have h2 : ((linesOf hs ws rs).map fun l => l.length).sum ≤ ((linesOf hs ws rs).map fun l => l.length + 1).sum := sum_mono fun x _ => Nat.le_succ _
        have h3 : ((linesOf hs ws rs).map ((fun x : Str => x.length) ∘ strOf)) = (linesOf hs ws rs).map fun l => l.length := by
          refine List.map_congr_left fun l _ => strOf_len l
        rw [h3]
        omega
      have hs2 := linesOf_len wr
      simp only [rJoinD, dxs, dl, et, s_break, join_strOf, List.length_map, strOf_len, List.length_cons, List.length_nil]
      refine ⟨rfl, by omega, G, sub_new hp rfl, q⟩
end
section
variable {P : Program} {w : World} {K : PySem.W.Frag} {mg : Str → Option Value} {base : Heap} {C : Addr}
def spRStr (C : Addr) : SpD := fun ds G Q => ∃ (hs ws : List Nat) (rs : List (List Mv)), ds = [rulD C (mkR hs ws rs)] ∧ Wri hs ws rs ∧ Q (.str (strOf (textOf hs ws rs))) G
abbrev N_Rules_u__str_u_ : List Str := ["self"]
theorem sc_Rules_u__str_u_ : FnScope N_Rules_u__str_u_ ["self"] (defScope s_Rules_u__str_u_) := ⟨rfl, rfl, rfl, by decide +kernel, rfl, by decide +kernel, by decide +kernel⟩
theorem c_Rules_u__str_u_ (T : Txt K mg C) (d : DefM K C "__str__" "Rules.__str__" s_Rules_u__str_u_) (C_text_of : Cal P w K mg base "text_of" 1 ["heard", "written", "rows"] (spTextOf)) : CalM P w K mg base C "__str__" 2 ["self"] (spRStr C) := by
  refine calM_mk (N := N_Rules_u__str_u_) d sc_Rules_u__str_u_ (fun ds G Q h => ?_) (fun _ _ _ _ _ _ us hl => match us, hl with | [_], _ => rfl) (fun f cdv A outer s H E hg hr => ?_)
  · obtain ⟨hs, ws, rs, rfl, _⟩ := h
    rfl
  · have hu := hu100 hr
    have nd := sc_Rules_u__str_u_.nd
    have hA := deeper_guards (env := envOfC "Rules.__str__" (defScope s_Rules_u__str_u_) s.heap.objs.size f cdv) hg
    refine ⟨_, (dps_one (dp_ret (de_callTy cd_strS rfl T.f_str (by decide +kernel) (da_cons (de_cal C_text_of hA (hr.mono (by decide)) (da_cons (de_fld T.clR T.no_heard (de_var 0)) (da_cons (de_fld T.clR T.no_written (de_var 0)) (da_cons (de_fld T.clR T.no_rows (de_var 0)) da_nil)))) da_nil)))), fun ds G Q h => ?_⟩
    obtain ⟨hs, ws, rs, rfl, wr, q⟩ := h
    rw [show dstart N_Rules_u__str_u_ [rulD C (mkR hs ws rs)] = [some (rulD C (mkR hs ws rs))] from rfl]
    have e0 : ∀ (G : GH) (R : Rul), D.cur G (.obj C (rulF R)) = .obj C (rulF R) := fun _ _ => rfl
    simp only [dxs, dl, rulD, e0, rulF_heard, rulF_written, rulF_rows, true_and]
    refine ⟨hs, ws, rs, rfl, wr, ?_⟩
    exact ⟨_, Sub.refl _, q⟩
end
end Pace
end
section
set_option Elab.async false
set_option linter.all false
set_option maxRecDepth 100000
set_option maxHeartbeats 4000000
namespace Pace
open PySem PySem.Spec PyProof.Rows L2 DL
section
variable {P : Program} {w : World} {K : PySem.W.Frag} {mg : Str → Option Value} {base : Heap} {C : Addr}
def spWritten : SpD := fun ds G Q => ∃ (hs ws : List Nat) (rs : List (List Mv)), ds = [uD hs ws rs] ∧ Wri hs ws rs ∧ Q (.str (strOf (textOf hs ws rs))) G
abbrev N__law_written : List Str := ["_law_w", "_law_found", "_law_s", "_law_line", "_law_h", "_law_c", "_law_t"]
theorem sc__law_written : FnScope N__law_written ["_law_w"] (defScope s__law_written) := ⟨rfl, rfl, rfl, by decide +kernel, rfl, by decide +kernel, by decide +kernel⟩
theorem c__law_written (T : Txt K mg C) (d : Def K mg "_law_written" s__law_written) : Cal P w K mg base "_law_written" 1 ["_law_w"] (spWritten) := by
  refine cal_mk (N := N__law_written) d sc__law_written (fun ds G Q h => ?_) (fun _ _ _ _ _ _ us hl => match us, hl with | [_], _ => rfl) (fun f cdv A outer s H E hg hr => ?_)
  · obtain ⟨hs, ws, rs, rfl, _⟩ := h
    rfl
  · have hu := hu100 hr
    have nd := sc__law_written.nd
    have hA := deeper_guards (env := envOfC "_law_written" (defScope s__law_written) s.heap.objs.size f cdv) hg
    refine ⟨_, (dps_cons (dp_asg (de_lstM (da_cons (de_op od_add (de_op od_add (de_op od_add (de_op od_add (de_op od_add de_str (de_ix hu (de_var 0) de_str)) de_str) (de_ix hu (de_var 0) de_str)) de_str) (de_callTy cd_strI rfl T.f_str (by decide +kernel) (da_cons (de_callB cd_len rfl T.f_len (by decide +kernel) (da_cons (de_ix hu (de_var 0) de_str) da_nil)) da_nil))) da_nil)) (dg_name 1 nd))
  (dps_cons (dp_for PassesOwn.never rfl (di_enumT rfl T.f_enumerate (da_cons (de_ix hu (de_var 0) de_str) da_nil)) (dg_tup (n := 2) rfl (dgs_cons (dg_name 2 nd) (dgs_cons (dg_name 3 nd) dgs_nil)))
  (dps_one (dp_expr (de_bm PySem.F.plainAttrs_list PySem.F.slot_list_extend PySem.F.type_list_extend md_extend (de_var 1) (da_cons (de_lc (own := [("_law_h", 4), ("_law_c", 5), ("_law_t", 6)]) (p := (.tp [4, 5, 6])) rfl nd (di_tup (de_var 3)) (blkOk_by (by show blkC N__law_written (defScope s__law_written) _ _ = true; decide +kernel)) (by decide) (fun _ _ _ _ _ => pg_tup rfl (pgs_cons (pg_name (i := 4) nd rfl (Or.inl rfl)) (pgs_cons (pg_name (i := 5) nd rfl (Or.inl rfl)) (pgs_cons (pg_name (i := 6) nd rfl (Or.inl rfl)) pgs_nil)))) (fun _ _ _ _ _ => dts_nil) (fun _ _ _ _ _ => (de_bm PySem.F.plainAttrs_str PySem.F.slot_str_join PySem.F.type_str_join md_join de_str (da_cons (de_lst (da_cons de_str (da_cons (de_callTy cd_strI rfl T.f_str (by decide +kernel) (da_cons (de_var 2) da_nil)) (da_cons (de_var 4) (da_cons (de_var 5) (da_cons (de_callTy cd_strI rfl T.f_str (by decide +kernel) (da_cons (de_var 6) da_nil)) da_nil)))))) da_nil)))) da_nil)))))
  (dps_one (dp_ret (de_bm PySem.F.plainAttrs_str PySem.F.slot_str_join PySem.F.type_str_join md_join de_str (da_cons (de_var 1) da_nil)))))), fun ds G Q h => ?_⟩
    obtain ⟨hs, ws, rs, rfl, wr, q⟩ := h
    rw [show dstart N__law_written [uD hs ws rs] = [some (uD hs ws rs), none, none, none, none, none, none] from rfl]
    have n2 := wr.val.n2
    have hn := num_ok (show rs.length < 1000 by omega)
    have el : rLenD [rowsD rs] = fun G Q => Q (.int (rs.length : Nat)) G := by
      funext G Q
      show Q (.int ((rs.map rowD).length : Nat)) G = _
      rw [List.length_map]
    have e0 : Str.empty = strOf [] := rfl
    have szB : ∀ k, k ≤ 200000 → k ≤ sizeLine := fun k h => by rw [sizeLine_eq]; omega
    have lh0 := wr.val.sh
    have lw0 := wr.val.sw
    have hl3 := hn.l3
    have hlog : ∀ k : Nat, k < 1000 → ((k : Int)).natAbs.log2 < 1920 := fun k hk => by
      rw [Int.natAbs_natCast]
      by_cases h0 : k = 0
      · rw [h0]; decide
      · have : k.log2 < 10 := (Nat.log2_lt h0).mpr (by omega)
        omega
    have lwr : wRules.length = 5 := rfl
    have lwm : wMove.length = 4 := rfl
    simp only [dxs, dl, dx3, uD_cur, uD_hs, uD_cs, uD_lines, el, rStrI, rAddD, s_rulesB, s_blank, str_num, strOf_app, strOf_len, List.length_append, List.length_cons, List.length_nil, lwr]
    refine ⟨szB _ (by omega), szB _ (by omega), szB _ (by omega), szB _ (by omega), hlog _ (by omega), szB _ (by omega), szB _ (by decide), fun p hp => ?_⟩
    have eh : wRules ++ [32] ++ hs ++ [32] ++ ws ++ [32] ++ numS rs.length = joinC 32 (headW hs ws rs.length) := by simp [joinC, headW]
    rw [eh]
    show ForB (List.mapIdx (fun i x => D.tup [D.int ↑i, x]) (rs.map rowD)) _ _ _ _ _ _
    refine ⟨fun i S' G' => ∃ (x2 x3 x4 x5 x6 : Option D), S' = [some (uD hs ws rs), some (D.rf p), x2, x3, x4, x5, x6] ∧ G' = gput G p (.lst ((lineTo hs ws rs i).map fun l => .str (strOf l))) ∧ i ≤ rs.length,
      ⟨none, none, none, none, none, rfl, rfl, Nat.zero_le _⟩, fun _ _ _ _ => trivial, ?_, ?_⟩
    · rintro i S' G' dd ⟨x2, x3, x4, x5, x6, rfl, rfl, hi⟩ hd
      rw [List.getElem?_mapIdx, List.getElem?_map] at hd
      cases er : rs[i]? with
      | none => rw [er] at hd; cases hd
      | some r =>
        rw [er] at hd
        cases hd
        have hi2 : i < rs.length := (List.getElem?_eq_some_iff.mp er).1
        have hrl := (wr.val.row r (List.mem_of_getElem? er)).2
        have eg : rs.getD i [] = r := by rw [List.getD_eq_getElem?_getD, er]; rfl
        have nxt := lineTo_succ hs ws er
        simp only [dxs, dl, rowD, beq_self_eq_true, true_and]
        refine lc_mapA r Mv.d (fun m => .str (strOf (joinC 32 (moveW (i, m))))) rfl (sz (by omega)) trivial (fun m hm => ⟨_, rfl, fun Q z => ?_⟩) ?_
        · have mp := wr.mv (i, m) (flat_at er hm)
          have mt : m.t < rs.length := mp.t
          have nt := num_ok (show m.t < 1000 by omega)
          have ni := num_ok (show i < 1000 by omega)
          have k1 := nt.l3
          have k2 := ni.l3
          have g1 : ∀ c, sgn c = strOf [c] := fun _ => rfl
          have ej : Txt.join (strOf [32]) [strOf wMove, strOf (numS i), strOf [m.h], strOf [m.c], strOf (numS m.t)] = strOf (joinC 32 (moveW (i, m))) := join_strOf 32 (moveW (i, m))
          simp only [dxs, dl, dwipe, List.map_cons, List.map_nil, Mv.d, rStrI, rJoinD, texts, Option.map_some, s_move, s_blank, str_num, g1, strOf_len, List.length_append, List.length_cons, List.length_nil, lwm, ej, List.sum_cons, List.sum_nil]
          exact ⟨rfl, hlog _ (by omega), hlog _ (by omega), szB _ (by decide), by omega, z⟩
        · have hb := lineTo_len wr (show i + 1 ≤ rs.length by omega)
          rw [nxt] at hb
          simp only [List.length_append, List.length_map] at hb
          simp only [rExtendD, dxs, dl, gput_gput]
          refine ⟨szB _ (by simp only [List.length_map]; omega), _, _, _, _, _, rfl, ?_, by omega⟩
          rw [nxt, List.map_append, List.map_map]
          rfl
    · rintro S' G' ⟨x2, x3, x4, x5, x6, rfl, rfl, hi⟩
      have hlm : (List.mapIdx (fun i x => D.tup [D.int ↑i, x]) (rs.map rowD)).length = rs.length := by simp
      rw [hlm]
      have ell : lineTo hs ws rs rs.length = linesOf hs ws rs := rfl
      rw [ell]
      have et : texts ((linesOf hs ws rs).map fun l => D.str (strOf l)) = some ((linesOf hs ws rs).map strOf) := texts_map _
      have hs1 : (((linesOf hs ws rs).map strOf).map (·.length)).sum ≤ 200000 := by
        rw [List.map_map]
        have h1 := lines_sum wr
        have h2 : ((linesOf hs ws rs).map fun l => l.length).sum ≤ ((linesOf hs ws rs).map fun l => l.length + 1).sum := sum_mono fun x _ => Nat.le_succ _
        have h3 : ((linesOf hs ws rs).map ((fun x : Str => x.length) ∘ strOf)) = (linesOf hs ws rs).map fun l => l.length := by
          refine List.map_congr_left fun l _ => strOf_len l
        rw [h3]
        omega
      have hs2 := linesOf_len wr
      simp only [rJoinD, dxs, dl, et, s_break, join_strOf, List.length_map, strOf_len, List.length_cons, List.length_nil]
      refine ⟨rfl, by omega, G, sub_new hp rfl, q⟩
end
end Pace
end
section
set_option Elab.async false
set_option linter.all false
set_option maxRecDepth 100000
set_option maxHeartbeats 4000000
namespace Pace
open PySem PySem.Spec PyProof.Rows L2 DL
section
variable {P : Program} {w : World} {K : PySem.W.Frag} {mg : Str → Option Value} {base : Heap} {C : Addr}
def spREq (C : Addr) : SpD := fun ds G Q => ∃ (R1 R2 : Rul), ds = [rulD C R1, rulD C R2] ∧ ∀ b : Bool, (b = true ↔ R1 = R2) → Q (.bl b) G
abbrev N_Rules_u__eq_u_ : List Str := ["self", "other"]
theorem sc_Rules_u__eq_u_ : FnScope N_Rules_u__eq_u_ ["self", "other"] (defScope s_Rules_u__eq_u_) := ⟨rfl, rfl, rfl, by decide +kernel, rfl, by decide +kernel, by decide +kernel⟩
theorem c_Rules_u__eq_u_ (T : Txt K mg C) (d : DefM K C "__eq__" "Rules.__eq__" s_Rules_u__eq_u_) : CalM P w K mg base C "__eq__" 1 ["self", "other"] (spREq C) := by
  refine calM_mk (N := N_Rules_u__eq_u_) d sc_Rules_u__eq_u_ (fun ds G Q h => ?_) (fun _ _ _ _ _ _ us hl => match us, hl with | [_, _], _ => rfl) (fun f cdv A outer s H E hg hr => ?_)
  · obtain ⟨R1, R2, rfl, _⟩ := h
    rfl
  · have hu := hu100 hr
    have nd := sc_Rules_u__eq_u_.nd
    have hA := deeper_guards (env := envOfC "Rules.__eq__" (defScope s_Rules_u__eq_u_) s.heap.objs.size f cdv) hg
    refine ⟨_, (dps_cons (dp_if (dt_not (dt_val (de_callB (cd_isC T.insR) rfl T.f_isinstance (by decide +kernel) (da_cons (de_var 1) (da_cons (de_cls rfl T.mgR) da_nil)))))
  (dps_one (dp_ret de_bl))
  dps_nil)
  (dps_one (dp_ret (de_cmp (od_eq hu) (de_tup (da_cons (de_fld T.clR T.no_heard (de_var 0)) (da_cons (de_fld T.clR T.no_written (de_var 0)) (da_cons (de_fld T.clR T.no_rows (de_var 0)) da_nil)))) (de_tup (da_cons (de_fld T.clR T.no_heard (de_var 1)) (da_cons (de_fld T.clR T.no_written (de_var 1)) (da_cons (de_fld T.clR T.no_rows (de_var 1)) da_nil)))) (nomark _))))), fun ds G Q h => ?_⟩
    obtain ⟨R1, R2, rfl, q⟩ := h
    rw [show dstart N_Rules_u__eq_u_ [rulD C R1, rulD C R2] = [some (rulD C R1), some (rulD C R2)] from rfl]
    have e0 : ∀ (R : Rul) (G : GH), D.cur G (.obj C (rulF R)) = .obj C (rulF R) := fun _ _ => rfl
    simp only [dxs, dl, rulD, rIsC, e0, true_and, Bool.not_true, if_false, rulF_heard, rulF_written, rulF_rows, if_true]
    have si : ∀ R : Rul, (D.tup [.str R.heard, .str R.written, rowsD R.rows]).si = true := fun R => by
      have := rowsD_si R.rows
      simp [D.si, D.sis, this]
    have dpp : ∀ R : Rul, (D.tup [.str R.heard, .str R.written, rowsD R.rows]).dp ≤ 60 := fun R => by
      have := rowsD_dp R.rows
      simp only [D.dp, D.dps]; omega
    refine ⟨sz (by simp), sz (by simp), okE_si (si R1) (si R2) (dpp R1), G, Sub.refl _, q _ ?_⟩
    refine (eqv_si (si R1) (si R2)).trans ?_
    obtain ⟨h1, w1, r1⟩ := R1
    obtain ⟨h2, w2, r2⟩ := R2
    simp only [D.tup.injEq, List.cons.injEq, D.str.injEq, and_true, Rul.mk.injEq]
    exact ⟨fun ⟨a, b, c⟩ => ⟨a, b, rowsD_inj c⟩, fun ⟨a, b, c⟩ => ⟨a, b, by rw [c]⟩⟩
end
section
variable {P : Program} {w : World} {K : PySem.W.Frag} {mg : Str → Option Value} {base : Heap} {C : Addr}
def spRLen (C : Addr) : SpD := fun ds G Q => ∃ R : Rul, ds = [rulD C R] ∧ R.Ok ∧ Q (.int (R.rows.length : Nat)) G
abbrev N_Rules_u__len_u_ : List Str := ["self"]
theorem sc_Rules_u__len_u_ : FnScope N_Rules_u__len_u_ ["self"] (defScope s_Rules_u__len_u_) := ⟨rfl, rfl, rfl, by decide +kernel, rfl, by decide +kernel, by decide +kernel⟩
theorem c_Rules_u__len_u_ (T : Txt K mg C) (d : DefM K C "__len__" "Rules.__len__" s_Rules_u__len_u_) : CalM P w K mg base C "__len__" 1 ["self"] (spRLen C) := by
  refine calM_mk (N := N_Rules_u__len_u_) d sc_Rules_u__len_u_ (fun ds G Q h => ?_) (fun _ _ _ _ _ _ us hl => match us, hl with | [_], _ => rfl) (fun f cdv A outer s H E hg hr => ?_)
  · obtain ⟨R, rfl, _⟩ := h
    rfl
  · have hu := hu100 hr
    have nd := sc_Rules_u__len_u_.nd
    have hA := deeper_guards (env := envOfC "Rules.__len__" (defScope s_Rules_u__len_u_) s.heap.objs.size f cdv) hg
    refine ⟨_, (dps_one (dp_ret (de_callB cd_len rfl T.f_len (by decide +kernel) (da_cons (de_fld T.clR T.no_rows (de_var 0)) da_nil)))), fun ds G Q h => ?_⟩
    obtain ⟨R, rfl, ok, q⟩ := h
    rw [show dstart N_Rules_u__len_u_ [rulD C R] = [some (rulD C R)] from rfl]
    have fewR := ok.few
    have e0 : ∀ (G : GH), D.cur G (.obj C (rulF R)) = .obj C (rulF R) := fun _ => rfl
    simp only [dxs, dl, rulD, e0, rulF_rows, rows_len_]
    exact ⟨trivial, G, Sub.refl _, q⟩
end
end Pace
end
section
set_option Elab.async false
set_option linter.all false
set_option maxRecDepth 100000
set_option maxHeartbeats 4000000
namespace Pace
open PySem PySem.Spec PyProof.Rows L2 DL
section
variable {P : Program} {w : World} {K : PySem.W.Frag} {mg : Str → Option Value} {base : Heap} {C : Addr}
def spLed (C : Addr) : SpD := fun ds G Q => ∃ (R : Rul) (s : Nat) (p q : List Nat), ds = [rulD C R, .int (s : Int), .str (strOf p), .str (strOf q)] ∧ R.Ok ∧ s < R.rows.length ∧ p.length ≤ 1000 ∧ q.length ≤ 1000 ∧ Q (natO (ledOf R.rows s p q)) G
abbrev N_Rules_led : List Str := ["self", "state", "speech", "caption", "found", "key"]
theorem sc_Rules_led : FnScope N_Rules_led ["self", "state", "speech", "caption"] (defScope s_Rules_led) := ⟨rfl, rfl, rfl, by decide +kernel, rfl, by decide +kernel, by decide +kernel⟩
theorem c_Rules_led (T : Txt K mg C) (d : DefM K C "led" "Rules.led" s_Rules_led) : CalM P w K mg base C "led" 1 ["self", "state", "speech", "caption"] (spLed C) := by
  refine calM_mk (N := N_Rules_led) d sc_Rules_led (fun ds G Q h => ?_) (fun _ _ _ _ _ _ us hl => match us, hl with | [_, _, _, _], _ => rfl) (fun f cdv A outer s H E hg hr => ?_)
  · obtain ⟨R, s, p, q, rfl, _⟩ := h
    rfl
  · have hu := hu100 hr
    have nd := sc_Rules_led.nd
    have hA := deeper_guards (env := envOfC "Rules.led" (defScope s_Rules_led) s.heap.objs.size f cdv) hg
    refine ⟨_, (dps_cons (dp_if (dt_cmp (od_ne hu) (de_callB cd_len rfl T.f_len (by decide +kernel) (da_cons (de_var 2) da_nil)) (de_callB cd_len rfl T.f_len (by decide +kernel) (da_cons (de_var 3) da_nil)) (nomark _))
  (dps_one (dp_ret de_non))
  dps_nil)
  (dps_cons (dp_asg (de_var 1) (dg_name 4 nd))
  (dps_cons (dp_for PassesOwn.never rfl (di_zipN rfl T.f_zip (da_cons (de_var 2) (da_cons (de_var 3) da_nil))) (dg_name 5 nd)
  (dps_cons (dp_asg (de_get1 hu (de_ix hu (de_fld T.clR T.no_steps (de_var 0)) (de_var 4)) (de_var 5)) (dg_name 4 nd))
  (dps_one (dp_if (dt_cmp od_isN (de_var 4) de_non (nomark _))
  (dps_one (dp_ret de_non))
  dps_nil))))
  (dps_one (dp_ret (de_var 4)))))), fun ds G Q h => ?_⟩
    obtain ⟨R, s0, p, q, rfl, ok, hs, hp, hq, z⟩ := h
    rw [show dstart N_Rules_led [rulD C R, .int (s0 : Int), .str (strOf p), .str (strOf q)] = [some (rulD C R), some (.int (s0 : Int)), some (.str (strOf p)), some (.str (strOf q)), none, none] from rfl]
    have tl : ∀ r ∈ R.rows, ∀ m ∈ r, m.t < R.rows.length := fun r hr => (ok.at_ r hr).2
    have l1 : (strOf p).length ≤ sizeLine := by rw [strOf_len]; exact sz (by omega)
    have l2 : (strOf q).length ≤ sizeLine := by rw [strOf_len]; exact sz (by omega)
    simp only [dxs, dl, len_str l1, len_str l2, strOf_len, okE_int, eqv_int, true_and, zipS_eq]
    by_cases he : p.length = q.length
    · rw [if_neg (by simp [he])]
      have el : ledOf R.rows s0 p q = ledN R.rows s0 (p.zip q) := by unfold ledOf; rw [if_pos he]
      rw [el] at z
      refine ⟨fun i S' G' => ∃ (t : Nat) (x5 : Option D), S' = [some (rulD C R), some (.int (s0 : Int)), some (.str (strOf p)), some (.str (strOf q)), some (.int (t : Int)), x5] ∧ G = G' ∧ ledN R.rows s0 ((p.zip q).take i) = some t,
        ⟨s0, none, rfl, rfl, rfl⟩, fun _ _ _ _ => trivial, ?_, ?_⟩
      · rintro i S' G' dd ⟨t, x5, rfl, rfl, ht⟩ hd
        obtain ⟨k, hk, rfl⟩ := map_get hd
        obtain ⟨r, hrr⟩ : ∃ r, R.rows[t]? = some r := ⟨_, List.getElem?_eq_getElem (ledN_lt tl hs _ ht)⟩
        have e0 : ∀ (G : GH), D.cur G (.obj C (rulF R)) = .obj C (rulF R) := fun _ => rfl
        have e1 : ∀ (G : GH), D.cur G (stepsD R.rows) = stepsD R.rows := fun _ => rfl
        have e2 : D.look (.dT (r.map mvK)) (.tup [.str (sgn k.1), .str (sgn k.2)]) = some ((r.find? fun m => m.h == k.1 && m.c == k.2).map fun m => D.int (m.t : Int)) := by
          show (D.keys [.str (sgn k.1), .str (sgn k.2)]).map (valD (r.map mvK)) = _
          rw [← val_mvK]
          rfl
        have en : ledN R.rows s0 ((p.zip q).take (i + 1)) = step1 R.rows t k.1 k.2 := by rw [take_snoc hk, ledN_snoc, ht]; rfl
        rw [step1_at hrr] at en
        simp only [dxs, dl, rulD, e0, rulF_steps, e1, stepsD_at hrr, e2, natO_map, beq_self_eq_true, true_and, natO_non]
        cases ef : (r.find? fun m => m.h == k.1 && m.c == k.2) with
        | none =>
          rw [ef] at en
          rw [if_pos (by rfl)]
          refine ⟨G, Sub.refl _, ?_⟩
          have : ledN R.rows s0 (p.zip q) = none := ledN_stop en
          rw [this] at z
          exact z
        | some m =>
          rw [ef] at en
          rw [if_neg (by simp)]
          exact ⟨m.t, _, rfl, en⟩
      · rintro S' G' ⟨t, x5, rfl, rfl, ht⟩
        rw [List.length_map, List.take_length] at ht
        simp only [dxs, dl]
        rw [ht] at z
        exact ⟨G, Sub.refl _, z⟩
    · rw [if_pos (by simp; omega)]
      have el : ledOf R.rows s0 p q = none := by unfold ledOf; rw [if_neg he]
      rw [el] at z
      exact ⟨G, Sub.refl _, z⟩
end
end Pace
end
section
set_option Elab.async false
set_option linter.all false
set_option maxRecDepth 100000
set_option maxHeartbeats 4000000
namespace Pace
open PySem PySem.Spec PyProof.Rows L2 DL
section
variable {P : Program} {w : World} {K : PySem.W.Frag} {mg : Str → Option Value} {base : Heap} {C : Addr}
def spCode (C : Addr) : SpD := fun ds G Q => ∃ (hs ws : List Nat) (rs : List (List Mv)), ds = [uD hs ws rs] ∧ RulV hs ws rs ∧ Q (rulD C (mkR hs ws rs)) G
abbrev N__law_code : List Str := ["_law_w"]
theorem sc__law_code : FnScope N__law_code ["_law_w"] (defScope s__law_code) := ⟨rfl, rfl, rfl, by decide +kernel, rfl, by decide +kernel, by decide +kernel⟩
theorem c__law_code (T : Txt K mg C) (d : Def K mg "_law_code" s__law_code) (M_Rules : Mak P w K mg base "Rules" C 4 ["self", "heard", "written", "rows"] (spInit C)) : Cal P w K mg base "_law_code" 6 ["_law_w"] (spCode C) := by
  refine cal_mk (N := N__law_code) d sc__law_code (fun ds G Q h => ?_) (fun _ _ _ _ _ _ us hl => match us, hl with | [_], _ => rfl) (fun f cdv A outer s H E hg hr => ?_)
  · obtain ⟨hs, ws, rs, rfl, _⟩ := h
    rfl
  · have hu := hu100 hr
    have nd := sc__law_code.nd
    have hA := deeper_guards (env := envOfC "_law_code" (defScope s__law_code) s.heap.objs.size f cdv) hg
    refine ⟨_, (dps_one (dp_ret (de_mak M_Rules hA (hr.mono (by decide)) (da_cons (de_ix hu (de_var 0) de_str) (da_cons (de_ix hu (de_var 0) de_str) (da_cons (de_ix hu (de_var 0) de_str) da_nil)))))), fun ds G Q h => ?_⟩
    obtain ⟨hs, ws, rs, rfl, v, q⟩ := h
    rw [show dstart N__law_code [uD hs ws rs] = [some (uD hs ws rs)] from rfl]
    simp only [dxs, dl, uD_cur, uD_hs, uD_cs, uD_lines]
    intro y hy
    refine ⟨y, hs, ws, rs, rfl, gput_same, v, ?_⟩
    simp only [dxs, dl, gput_gput, MO.cold, gdel_gput hy]
    exact ⟨_, Sub.refl _, q⟩
end
end Pace
end
section
set_option Elab.async false
set_option linter.all false
set_option maxRecDepth 100000
set_option maxHeartbeats 4000000
namespace Pace
open PySem PySem.Spec PyProof.Rows L2 DL
section
variable {P : Program} {w : World} {K : PySem.W.Frag} {mg : Str → Option Value} {base : Heap} {C : Addr}
def spTexts : SpD := fun ds G Q => ∃ (hs : List Nat) (n : Nat), ds = [.str (strOf hs), .int (n : Int)] ∧ 1 ≤ hs.length ∧ hs.length ≤ 3 ∧ n ≤ 3 ∧ Q (.lst ((textsOf hs n).map fun x => .str (strOf x))) G
abbrev N__law_texts : List Str := ["_law_signs_here", "_law_bound", "_law_found", "_law_edge", "_law_go", "_law_sign", "_law_it"]
theorem sc__law_texts : FnScope N__law_texts ["_law_signs_here", "_law_bound"] (defScope s__law_texts) := ⟨rfl, rfl, rfl, by decide +kernel, rfl, by decide +kernel, by decide +kernel⟩
theorem c__law_texts (T : Txt K mg C) (d : Def K mg "_law_texts" s__law_texts) : Cal P w K mg base "_law_texts" 1 ["_law_signs_here", "_law_bound"] (spTexts) := by
  refine cal_mk (N := N__law_texts) d sc__law_texts (fun ds G Q h => ?_) (fun _ _ _ _ _ _ us hl => match us, hl with | [_, _], _ => rfl) (fun f cdv A outer s H E hg hr => ?_)
  · obtain ⟨hs, n, rfl, _⟩ := h
    rfl
  · have hu := hu100 hr
    have nd := sc__law_texts.nd
    have hA := deeper_guards (env := envOfC "_law_texts" (defScope s__law_texts) s.heap.objs.size f cdv) hg
    refine ⟨_, (dps_cons (dp_par (i := 2) (j := 3) rfl nd (ha := (da_cons (de_lst (da_cons de_str da_nil)) (da_cons (de_lst (da_cons de_str da_nil)) da_nil))))
  (dps_cons (dp_for PassesOwn.never rfl (di_range1 rfl T.f_range (da_cons (de_var 1) da_nil)) (dg_name 4 nd)
  (dps_cons (dp_asg (de_callB (cd_sumL rfl) rfl T.f_sum (by decide +kernel) (da_cons (de_lc (own := [("_law_it", 6)]) (p := (.nm 6)) rfl nd (di_list (de_var 3)) (blkOk_by (by show blkC N__law_texts (defScope s__law_texts) _ _ = true; decide +kernel)) (by decide) (fun _ _ _ _ _ => pg_name (i := 6) nd rfl (Or.inr rfl)) (fun _ _ _ _ _ => dts_nil) (fun _ _ _ _ _ => (de_lc (own := [("_law_sign", 5)]) (p := (.nm 5)) rfl nd (di_str (de_var 0)) (blkOk_by (by kernel_rfl)) (by decide) (fun _ _ _ _ _ => pg_name (i := 5) nd rfl (Or.inl rfl)) (fun _ _ _ _ _ => dts_nil) (fun _ _ _ _ _ => (de_op od_add (de_var 6) (de_var 5)))))) (da_cons (de_lst da_nil) da_nil))) (dg_name 3 nd))
  (dps_one (dp_asg (de_op od_add (de_var 2) (de_var 3)) (dg_name 2 nd)))))
  (dps_one (dp_ret (de_var 2))))), fun ds G Q h => ?_⟩
    obtain ⟨hs, n, rfl, h1, h3, n3, q⟩ := h
    rw [show dstart N__law_texts [.str (strOf hs), .int (n : Int)] = [some (.str (strOf hs)), some (.int (n : Int)), none, none, none, none, none] from rfl]
    simp only [dxs, dl]
    refine ⟨sz (by simp), sz (by simp), by omega, by omega, ?_⟩
    refine ⟨fun i S' G' => ∃ x4 x5 x6, S' = [some (.str (strOf hs)), some (.int (n : Int)), some (.lst ((textsOf hs i).map fun x => .str (strOf x))), some (.lst ((edgeOf hs i).map fun x => .str (strOf x))), x4, x5, x6] ∧ G = G',
      ⟨none, none, none, by simp [textsOf, edgeOf, str_nil], rfl⟩, fun _ _ _ _ => trivial, ?_, ?_⟩
    · rintro i S' G' dd ⟨x4, x5, x6, rfl, rfl⟩ hd
      obtain ⟨hi, rfl⟩ := range_get hd
      have el := edge_len hs h3 i
      have el1 := edge_len hs h3 (i + 1)
      have tl1 := texts_len hs h3 i
      have hp : 3 ^ i ≤ 9 := Nat.pow_le_pow_right (i := i) (j := 2) (by decide) (by omega)
      have hp1 : 3 ^ (i + 1) ≤ 27 := Nat.pow_le_pow_right (i := i + 1) (j := 3) (by decide) (by omega)
      have tl2 : (textsOf hs i).length ≤ 27 := Nat.le_trans tl1 (Nat.mul_le_mul (by omega : i + 1 ≤ 3) hp)
      simp only [dxs, dl]
      refine lc_mapA (edgeOf hs i) (fun x => .str (strOf x)) (fun x => .lst (hs.map fun c => .str (strOf (x ++ [c])))) rfl (sz (by omega)) trivial (fun x hx => ⟨_, rfl, fun Q z => ?_⟩) ?_
      · obtain ⟨hw, _⟩ := edge_word hs i x hx
        simp only [dxs, dl, dwipe, List.map_cons, List.map_nil]
        refine lc_mapA hs (fun c => .str (sgn c)) (fun c => .str (strOf (x ++ [c]))) (signs_map hs) (sz (by omega)) trivial (fun c _ => ⟨_, rfl, fun Q z => ?_⟩) z
        simp only [dxs, dl, dwipe, List.map_cons, List.map_nil, rAddD, strOf_sgn]
        refine ⟨?_, z⟩
        rw [strOf_len]; exact sz (by simp [sgn, Str.length]; omega)
      · have e : ((edgeOf hs i).map fun x => hs.map fun c => D.str (strOf (x ++ [c]))).flatten = (edgeOf hs (i + 1)).map fun x => .str (strOf x) := by
          simp only [edgeOf, List.flatMap_def, List.map_flatten, List.map_map]
          congr 1
          refine List.map_congr_left fun x _ => ?_
          simp
        have ep := edge_pos hs h1 i
        simp only [dxs, dl, rSumLD, lists_map, e, List.length_map, rAddD]
        refine ⟨Nat.zero_le _, ep, sz (by omega), sz (by omega), some (.int (i : Int)), x5, x6, ?_, by trivial⟩
        simp [textsOf]
    · rintro S' G' ⟨x4, x5, x6, rfl, rfl⟩
      rw [range_len]
      exact ⟨G, Sub.refl _, q⟩
end
section
variable {P : Program} {w : World} {K : PySem.W.Frag} {mg : Str → Option Value} {base : Heap} {C : Addr}
def spLLed : SpD := fun ds G Q => ∃ (hs ws : List Nat) (rs : List (List Mv)) (s : Nat) (p q : List Nat), ds = [uD hs ws rs, .int (s : Int), .str (strOf p), .str (strOf q)] ∧ (∀ r ∈ rs, r.length ≤ 1000 ∧ ∀ m ∈ r, m.t < rs.length) ∧ s < rs.length ∧ p.length ≤ 1000 ∧ q.length ≤ 1000 ∧ Q (natO (ledOf rs s p q)) G
abbrev N__law_led : List Str := ["_law_w", "_law_s", "_law_said", "_law_put", "_law_h", "_law_c", "_law_far", "_law_x", "_law_y", "_law_t"]
theorem sc__law_led : FnScope N__law_led ["_law_w", "_law_s", "_law_said", "_law_put"] (defScope s__law_led) := ⟨rfl, rfl, rfl, by decide +kernel, rfl, by decide +kernel, by decide +kernel⟩
theorem c__law_led (T : Txt K mg C) (d : Def K mg "_law_led" s__law_led) : Cal P w K mg base "_law_led" 1 ["_law_w", "_law_s", "_law_said", "_law_put"] (spLLed) := by
  refine cal_mk (N := N__law_led) d sc__law_led (fun ds G Q h => ?_) (fun _ _ _ _ _ _ us hl => match us, hl with | [_, _, _, _], _ => rfl) (fun f cdv A outer s H E hg hr => ?_)
  · obtain ⟨hs, ws, rs, s, p, q, rfl, _⟩ := h
    rfl
  · have hu := hu100 hr
    have nd := sc__law_led.nd
    have hA := deeper_guards (env := envOfC "_law_led" (defScope s__law_led) s.heap.objs.size f cdv) hg
    refine ⟨_, (dps_cons (dp_if (dt_cmp (od_ne hu) (de_callB cd_len rfl T.f_len (by decide +kernel) (da_cons (de_var 2) da_nil)) (de_callB cd_len rfl T.f_len (by decide +kernel) (da_cons (de_var 3) da_nil)) (nomark _))
  (dps_one (dp_ret de_non))
  dps_nil)
  (dps_cons (dp_for PassesOwn.never rfl (di_zipS rfl T.f_zip (da_cons (de_var 2) (da_cons (de_var 3) da_nil))) (dg_tup (n := 2) rfl (dgs_cons (dg_name 4 nd) (dgs_cons (dg_name 5 nd) dgs_nil)))
  (dps_cons (dp_setLc (i := 6) (own := [("_law_x", 7), ("_law_y", 8), ("_law_t", 9)]) (p := (.tp [7, 8, 9])) rfl nd rfl rfl (sw_true rfl rfl rfl (by decide +kernel)) (di_tup (de_ix hu (de_ix hu (de_var 0) de_str) (de_var 1))) (blkOk_by (by show blkC N__law_led (defScope s__law_led) _ _ = true; decide +kernel)) (by decide) (fun _ _ _ _ _ => pg_tup rfl (pgs_cons (pg_name (i := 7) nd rfl (Or.inl rfl)) (pgs_cons (pg_name (i := 8) nd rfl (Or.inl rfl)) (pgs_cons (pg_name (i := 9) nd rfl (Or.inl rfl)) pgs_nil)))) (fun _ _ _ _ _ => (dts_one (dt_cmp (od_eq hu) (de_tup (da_cons (de_var 7) (da_cons (de_var 8) da_nil))) (de_tup (da_cons (de_var 4) (da_cons (de_var 5) da_nil))) (nomark _)))) (fun _ _ _ _ _ => (de_var 9)))
  (dps_cons (dp_if (dt_cmp (od_eq hu) (de_var 6) (de_lst da_nil) (nomark _))
  (dps_one (dp_ret de_non))
  dps_nil)
  (dps_one (dp_asg (de_ix hu (de_var 6) de_int) (dg_name 1 nd))))))
  (dps_one (dp_ret (de_var 1))))), fun ds G Q h => ?_⟩
    obtain ⟨hs, ws, rs, s0, p, q, rfl, ok, hs0, hp, hq, z⟩ := h
    rw [show dstart N__law_led [uD hs ws rs, .int (s0 : Int), .str (strOf p), .str (strOf q)] = [some (uD hs ws rs), some (.int (s0 : Int)), some (.str (strOf p)), some (.str (strOf q)), none, none, none, none, none, none] from rfl]
    have tl : ∀ r ∈ rs, ∀ m ∈ r, m.t < rs.length := fun r hr => (ok r hr).2
    have l1 : (strOf p).length ≤ sizeLine := by rw [strOf_len]; exact sz (by omega)
    have l2 : (strOf q).length ≤ sizeLine := by rw [strOf_len]; exact sz (by omega)
    simp only [dxs, dl, len_str l1, len_str l2, strOf_len, okE_int, eqv_int, true_and, zipS_eq]
    by_cases he : p.length = q.length
    · rw [if_neg (by simp [he])]
      have el : ledOf rs s0 p q = ledN rs s0 (p.zip q) := by unfold ledOf; rw [if_pos he]
      rw [el] at z
      refine ⟨fun i S' G' => ∃ (t : Nat) (x4 x5 x6 x7 x8 x9 : Option D), S' = [some (uD hs ws rs), some (.int (t : Int)), some (.str (strOf p)), some (.str (strOf q)), x4, x5, x6, x7, x8, x9] ∧ G = G' ∧ ledN rs s0 ((p.zip q).take i) = some t,
        ⟨s0, none, none, none, none, none, none, rfl, rfl, rfl⟩, fun _ _ _ _ => trivial, ?_, ?_⟩
      · rintro i S' G' dd ⟨t, x4, x5, x6, x7, x8, x9, rfl, rfl, ht⟩ hd
        obtain ⟨k, hk, rfl⟩ := map_get hd
        obtain ⟨r, hrr⟩ : ∃ r, rs[t]? = some r := ⟨_, List.getElem?_eq_getElem (ledN_lt tl hs0 _ ht)⟩
        have hl := (ok r (List.mem_of_getElem? hrr)).1
        have en : ledN rs s0 ((p.zip q).take (i + 1)) = step1 rs t k.1 k.2 := by rw [take_snoc hk, ledN_snoc, ht]; rfl
        rw [step1_at hrr, find_filter] at en
        simp only [dxs, dl, List.length_cons, List.length_nil, true_and, uD_cur, uD_lines, rowsD_cur, rowsD_at hrr, rowD]
        refine lc_someA r Mv.d (fun m => m.h == k.1 && m.c == k.2) (fun m => .int (m.t : Int)) rfl (sz (by omega)) trivial (fun m _ => ⟨_, rfl, fun Q z => ?_, fun _ Q z => ?_⟩) ?_
        · simp only [dxs, dl, dwipe, List.map_cons, List.map_nil, Mv.d, eqv_pair]
          exact ⟨sz (by simp), sz (by simp), rfl, z⟩
        · simp only [dxs, dl, dwipe, List.map_cons, List.map_nil, Mv.d]
          exact z
        · generalize hfl : (r.filter fun m => m.h == k.1 && m.c == k.2) = l at en
          have eL : (l.map fun m => D.int (m.t : Int)) = natsD (l.map (·.t)) := by simp [natsD]
          rw [eL]
          refine ⟨Nat.zero_le _, natsD_okEL0 _, ?_⟩
          simp only [dxs, natsD_eqvL0]
          cases l with
          | nil =>
            rw [if_pos (by simp)]
            refine ⟨G, Sub.refl _, ?_⟩
            have : ledN rs s0 (p.zip q) = none := ledN_stop en
            rw [this] at z
            exact z
          | cons m l =>
            rw [if_neg (by simp)]
            have ei : D.item (.lst (natsD ((m :: l).map (·.t)))) (.int 0) = some (.int (m.t : Int)) := by
              rw [item_lst]
              exact atI_nat (j := 0) (by simp [natsD])
            simp only [ei]
            exact ⟨m.t, _, _, _, _, _, _, rfl, trivial, en⟩
      · rintro S' G' ⟨t, x4, x5, x6, x7, x8, x9, rfl, rfl, ht⟩
        rw [List.length_map, List.take_length] at ht
        simp only [dxs, dl]
        rw [ht] at z
        exact ⟨G, Sub.refl _, z⟩
    · rw [if_pos (by simp; omega)]
      have el : ledOf rs s0 p q = none := by unfold ledOf; rw [if_neg he]
      rw [el] at z
      exact ⟨G, Sub.refl _, z⟩
end
end Pace
end
section
set_option Elab.async false
set_option linter.all false
set_option maxRecDepth 100000
set_option maxHeartbeats 4000000
namespace Pace
open PySem PySem.Spec PyProof.Rows L2 DL
section
variable {P : Program} {w : World} {K : PySem.W.Frag} {mg : Str → Option Value} {base : Heap} {C : Addr}
def spRight02 (C : Addr) : SpD := fun ds G Q => ∃ (hs ws : List Nat) (rs : List (List Mv)), ds = [uD hs ws rs, .int 2] ∧ Wri hs ws rs ∧ Q (.bl true) G
theorem cut2 (cs : List Nat) : DL.cutD cs none (some 2) = cs.take 2 := cut_take cs 2
theorem flatM_sum (rs : List (List Mv)) : (flatM rs).length = (rs.map List.length).sum := by
  unfold flatM
  rw [List.length_flatMap]
  have e : (List.range rs.length).map (fun s => ((rs.getD s []).map fun m => (s, m)).length) = rs.map List.length := by
    refine List.ext_getElem (by simp) fun j h1 h2 => ?_
    simp only [List.length_map] at h2
    simp only [List.getElem_map, List.getElem_range, List.length_map]
    rw [List.getD_eq_getElem?_getD, List.getElem?_eq_getElem h2]
    rfl
  rw [e]
theorem bk_row (r : List Mv) : bkD (rowD r) = 6 * r.length := by
  unfold rowD
  rw [bk_tup]
  induction r with
  | nil => rfl
  | cons m r ih =>
    rw [List.map_cons, bks_cons, ih, List.length_cons]
    have : bkD m.d = 5 := rfl
    omega
theorem bk_rows : ∀ rs : List (List Mv), bksD (rs.map rowD) = 6 * (rs.map List.length).sum + rs.length
  | [] => rfl
  | r :: rs => by
    rw [List.map_cons, bks_cons, bk_rows rs, bk_row, List.map_cons, List.sum_cons, List.length_cons]
    omega
theorem rules_odd {hs ws : List Nat} {rs : List (List Mv)} (w : Wri hs ws rs) : Odd 0 4 60000 (.lst [.str (strOf hs), .str (strOf ws), rowsD rs]) := by
  have n2 := w.val.n2
  have o1 : Odd 0 3 1000 (.str (strOf hs)) := oddP_str (fun c hc => by have := letters_az w.val.lh c hc; omega) w.val.sh
  have o2 : Odd 0 3 1000 (.str (strOf ws)) := oddP_str (fun c hc => by have := letters_az w.val.lw c hc; omega) w.val.sw
  have o3 : One 0 3 (rowsD rs) := one_tup.mpr fun x hx => by
    obtain ⟨r, hr, rfl⟩ := List.mem_map.mp hx
    refine one_tup.mpr fun y hy => ?_
    obtain ⟨m, hm, rfl⟩ := List.mem_map.mp hy
    have rb := (w.val.row r hr).1
    unfold rowB at rb
    simp only [Bool.and_eq_true, List.all_eq_true] at rb
    have mb := rb.1 m hm
    unfold mvB at mb
    simp only [Bool.and_eq_true, decide_eq_true_eq] at mb
    have a1 := letters_az w.val.lh _ mb.1.1
    have a2 := letters_az w.val.lw _ mb.1.2
    refine one_tup.mpr fun z hz => ?_
    simp only [List.mem_cons, List.not_mem_nil, or_false] at hz
    rcases hz with rfl | rfl | rfl
    · exact (oddP_str (m := 0) (n := 0) (w := 1) (cs := [m.h]) (fun c hc => by rw [List.mem_singleton.mp hc]; omega) (by simp)).one
    · exact (oddP_str (m := 0) (n := 0) (w := 1) (cs := [m.c]) (fun c hc => by rw [List.mem_singleton.mp hc]; omega) (by simp)).one
    · refine (oddP_int (m := 0) (n := 0) (w := 1) ?_).one
      have e : (999 : Nat) ≤ 10 ^ 39 := by decide
      have := mb.2
      omega
  refine oddP_lst (n := 3) (fun x hx => ?_) ?_
  · simp only [List.mem_cons, List.not_mem_nil, or_false] at hx
    rcases hx with rfl | rfl | rfl
    · exact o1.one
    · exact o2.one
    · exact o3
  · have e1 := o1.bk
    have e2 := o2.bk
    have e3 : bkD (rowsD rs) = 6 * (flatM rs).length + rs.length := by rw [flatM_sum]; exact (bk_tup _).trans (bk_rows rs)
    have := w.few
    rw [bks_cons, bks_cons, bks_cons, bks_nil, e3]
    omega
abbrev N__law_right : List Str := ["_law_w", "_law_bound", "_law_code_here", "_law_page", "_law_far", "_law_said", "_law_put"]
theorem sc__law_right : FnScope N__law_right ["_law_w", "_law_bound"] (defScope s__law_right) := ⟨rfl, rfl, rfl, by decide +kernel, rfl, by decide +kernel, by decide +kernel⟩
theorem c__law_right (T : Txt K mg C) (d : Def K mg "_law_right" s__law_right) (C__law_code : Cal P w K mg base "_law_code" 6 ["_law_w"] (spCode C)) (C__law_written : Cal P w K mg base "_law_written" 1 ["_law_w"] (spWritten)) (Mm__u_str_u_ : CalM P w K mg base C "__str__" 2 ["self"] (spRStr C)) (Cc_read : CalC P w K mg base C "read" 6 ["cls", "text"] (spRead C)) (Ck_read : CalCK P w K mg base C "read" 6 ["cls", "text"] (spRead C) ["text"] [0, 1]) (Mm__u_eq_u_ : CalM P w K mg base C "__eq__" 1 ["self", "other"] (spREq C)) (Mm__u_len_u_ : CalM P w K mg base C "__len__" 1 ["self"] (spRLen C)) (C__law_texts : Cal P w K mg base "_law_texts" 1 ["_law_signs_here", "_law_bound"] (spTexts)) (Mm_led : CalM P w K mg base C "led" 1 ["self", "state", "speech", "caption"] (spLed C)) (C__law_led : Cal P w K mg base "_law_led" 1 ["_law_w", "_law_s", "_law_said", "_law_put"] (spLLed)) : Cal P w K mg base "_law_right" 7 ["_law_w", "_law_bound"] (spRight02 C) := by
  refine cal_mk (N := N__law_right) d sc__law_right (fun ds G Q h => ?_) (fun _ _ _ _ _ _ us hl => match us, hl with | [_, _], _ => rfl) (fun f cdv A outer s H E hg hr => ?_)
  · obtain ⟨hs, ws, rs, rfl, _⟩ := h
    rfl
  · have hu := hu100 hr
    have nd := sc__law_right.nd
    have hA := deeper_guards (env := envOfC "_law_right" (defScope s__law_right) s.heap.objs.size f cdv) hg
    refine ⟨_, (dps_cons (dp_par (i := 2) (j := 3) rfl nd (ha := (da_cons (de_cal C__law_code hA (hr.mono (by decide)) (da_cons (de_var 0) da_nil)) (da_cons (de_cal C__law_written hA (hr.mono (by decide)) (da_cons (de_var 0) da_nil)) da_nil))))
  (dps_cons (dp_if (dt_cmp (od_ne hu) (de_lst (da_cons (de_callTy (cd_strO Mm__u_str_u_ hA (hr.mono (by decide))) rfl T.f_str (by decide +kernel) (da_cons (de_var 2) da_nil)) (da_cons (de_callTy (cd_strO Mm__u_str_u_ hA (hr.mono (by decide))) rfl T.f_str (by decide +kernel) (da_cons (de_var 2) da_nil)) da_nil))) (de_lst (da_cons (de_var 3) (da_cons (de_var 3) da_nil))) (nomark _))
  (dps_one (dp_ret de_bl))
  dps_nil)
  (dps_cons (dp_for PassesOwn.never rfl (di_tup (de_tup (da_cons (de_calC Cc_read hA (hr.mono (by decide)) (de_cls rfl T.mgR) (da_cons (de_var 3) da_nil)) (da_cons (de_calCK Ck_read hA (hr.mono (by decide)) (de_cls rfl T.mgR) (dk_cons (de_var 3) dk_nil)) da_nil)))) (dg_name 4 nd)
  (dps_cons (dp_if (DW.dt (dw_or (dt_not (dt_val (de_callB (cd_isC T.insR) rfl T.f_isinstance (by decide +kernel) (da_cons (de_var 4) (da_cons (de_cls rfl T.mgR) da_nil))))) (dw_or (dt_not (dt_cmp (od_eqO Mm__u_eq_u_ hA (hr.mono (by decide))) (de_var 4) (de_var 2) (nomark _))) (dw_or (dt_cmp (od_ne hu) (de_callTy (cd_strO Mm__u_str_u_ hA (hr.mono (by decide))) rfl T.f_str (by decide +kernel) (da_cons (de_var 4) da_nil)) (de_var 3) (nomark _)) (dw_or1 (dt_cmp (od_ne hu) (de_callB (cd_lenO Mm__u_len_u_ hA (hr.mono (by decide))) rfl T.f_len (by decide +kernel) (da_cons (de_var 4) da_nil)) (de_callB cd_len rfl T.f_len (by decide +kernel) (da_cons (de_ix hu (de_var 0) de_str) da_nil)) (nomark _)))))))
  (dps_one (dp_ret de_bl))
  dps_nil)
  (dps_one (dp_if (dt_cmp (od_ne hu) (de_callB (cd_reprG hu hA T.sysM) rfl T.f_repr (by decide +kernel) (da_cons (de_lst (da_cons (de_fld T.clR T.no_heard (de_var 4)) (da_cons (de_fld T.clR T.no_written (de_var 4)) (da_cons (de_fld T.clR T.no_rows (de_var 4)) da_nil)))) da_nil)) (de_callB (cd_reprG hu hA T.sysM) rfl T.f_repr (by decide +kernel) (da_cons (de_lst (da_cons (de_ix hu (de_var 0) de_str) (da_cons (de_ix hu (de_var 0) de_str) (da_cons (de_ix hu (de_var 0) de_str) da_nil)))) da_nil)) (nomark _))
  (dps_one (dp_ret de_bl))
  dps_nil))))
  (dps_cons (dp_asg (de_calC Cc_read hA (hr.mono (by decide)) (de_cls rfl T.mgR) (da_cons (de_var 3) da_nil)) (dg_name 4 nd))
  (dps_cons (dp_for PassesOwn.never rfl (di_list (de_cal C__law_texts hA (hr.mono (by decide)) (da_cons (de_slice (de_ix hu (de_var 0) de_str) do_none (do_some de_int)) (da_cons (de_var 1) da_nil)))) (dg_name 5 nd)
  (dps_one (dp_for PassesOwn.never rfl (di_list (de_cal C__law_texts hA (hr.mono (by decide)) (da_cons (de_slice (de_ix hu (de_var 0) de_str) do_none (do_some de_int)) (da_cons (de_var 1) da_nil)))) (dg_name 6 nd)
  (dps_one (dp_if (DW.dt (dw_and (dt_cmp (od_eq hu) (de_callB cd_len rfl T.f_len (by decide +kernel) (da_cons (de_var 5) da_nil)) (de_callB cd_len rfl T.f_len (by decide +kernel) (da_cons (de_var 6) da_nil)) (nomark _)) (dw_and1 (dt_cmp (od_ne hu) (de_calM T.clR Mm_led hA (hr.mono (by decide)) (de_var 4) (da_cons de_int (da_cons (de_var 5) (da_cons (de_var 6) da_nil)))) (de_cal C__law_led hA (hr.mono (by decide)) (da_cons (de_var 0) (da_cons de_int (da_cons (de_var 5) (da_cons (de_var 6) da_nil))))) (nomark _)))))
  (dps_one (dp_ret de_bl))
  dps_nil)))))
  (dps_one (dp_ret de_bl))))))), fun ds G Q h => ?_⟩
    obtain ⟨hs, ws, rs, rfl, wr, q⟩ := h
    rw [show dstart N__law_right [uD hs ws rs, .int 2] = [some (uD hs ws rs), some (.int 2), none, none, none, none, none] from rfl]
    have szs : ∀ k, k ≤ 5000 → k ≤ sizeLine := fun k h => sz h
    simp only [dxs, dl]
    refine ⟨hs, ws, rs, rfl, wr.val, hs, ws, rs, rfl, wr, ?_⟩
    have so : ∀ (G : GH) (Q : DQ), Q (.str (strOf (textOf hs ws rs))) G → rStrO C (spRStr C) [rulD C (mkR hs ws rs)] G Q := fun G Q z => ⟨rfl, hs, ws, rs, rfl, wr, z⟩
    refine so _ _ (so _ _ ⟨szs _ (by decide), szs _ (by decide), ?_⟩)
    have sil : (D.lst [D.str (strOf (textOf hs ws rs)), D.str (strOf (textOf hs ws rs))]).si = true := rfl
    refine ⟨okE_si sil sil (by simp [D.dp, D.dps]), ?_⟩
    have eL : D.eqv (D.lst [D.str (strOf (textOf hs ws rs)), D.str (strOf (textOf hs ws rs))]) (D.lst [D.str (strOf (textOf hs ws rs)), D.str (strOf (textOf hs ws rs))]) = true := (eqv_si sil sil).mpr rfl
    rw [if_neg (by rw [eL]; simp)]
    simp only [dCalC, dCalCK, dxs, dl]
    refine ⟨trivial, hs, ws, rs, rfl, wr, trivial, trivial, hs, ws, rs, rfl, wr, szs _ (by decide), ?_⟩
    have el : rLenD [rowsD rs] = fun G Q => Q (.int (rs.length : Nat)) G := by
      funext G Q
      show Q (.int ((rs.map rowD).length : Nat)) G = _
      rw [List.length_map]
    have oL := rules_odd wr
    have rp : ∀ (G : GH) (Q : DQ), Q (.str (D.pyR (.lst [.str (strOf hs), .str (strOf ws), rowsD rs])).shown) G → rReprG [.lst [.str (strOf hs), .str (strOf ws), rowsD rs]] G Q := fun G Q z => oL.repr (by decide) (by decide) (by decide) z
    have e0 : ∀ (G : GH) (R : Rul), D.cur G (.obj C (rulF R)) = .obj C (rulF R) := fun _ _ => rfl
    refine ⟨fun i S' G' => ∃ (x4 : Option D), S' = [some (uD hs ws rs), some (D.int 2), some (rulD C (mkR hs ws rs)), some (D.str (strOf (textOf hs ws rs))), x4, none, none] ∧ G' = G,
      ⟨_, rfl, rfl⟩, fun _ _ _ _ => trivial, ?_, ?_⟩
    · rintro i S' G' dd ⟨x4, rfl, rfl⟩ hd
      obtain rfl : dd = rulD C (mkR hs ws rs) := by
        have := List.mem_of_getElem? hd
        simpa using this
      simp only [dxs, dl, uD_cur, uD_hs, uD_cs, uD_lines, el]
      have n2 := wr.val.n2
      have isc : ∀ (G : GH) (Q : DQ), Q (.bl true) G → rIsC C [rulD C (mkR hs ws rs), .rf C] G Q := fun _ _ z => ⟨rfl, rfl, z⟩
      have eqo : ∀ (G : GH) (Q : DQ), Q (.bl true) G → rEqO C (spREq C) (rulD C (mkR hs ws rs)) (rulD C (mkR hs ws rs)) G Q := fun G Q z => ⟨rfl, rfl, mkR hs ws rs, mkR hs ws rs, rfl, fun b hb => by rw [hb.mpr rfl]; exact z⟩
      have leno : ∀ (G : GH) (Q : DQ), Q (.int (rs.length : Nat)) G → rLenO C (spRLen C) [rulD C (mkR hs ws rs)] G Q := fun G Q z => ⟨rfl, mkR hs ws rs, rfl, wr.val.ok, Int.natCast_nonneg _, by show (rs.length : Int) < 2 ^ 63; omega, z⟩
      refine isc _ _ ?_
      simp only [Bool.not_true, Bool.false_eq_true, if_false]
      refine eqo _ _ ?_
      simp only [Bool.not_true, Bool.false_eq_true, if_false]
      refine so _ _ ⟨okE_str _ _, ?_⟩
      rw [if_neg (by simp [D.cur, eqv_str])]
      refine leno _ _ ⟨okE_int _ _, ?_⟩
      rw [if_neg (by simp [D.cur, eqv_int])]
      simp only [rulD, e0, rulF_heard, rulF_written, rulF_rows]
      refine ⟨trivial, trivial, trivial, szs _ (by decide), rp _ _ ⟨szs _ (by decide), rp _ _ ⟨okE_str _ _, ?_⟩⟩⟩
      rw [if_neg (by simp [D.cur, eqv_str])]
      exact ⟨_, rfl, rfl⟩
    · rintro S' G' ⟨x4, rfl, rfl⟩
      simp only [dCalC, dxs, dl]
      refine ⟨trivial, hs, ws, rs, rfl, wr, ?_⟩
      simp only [dxs, dl, uD_cur, uD_hs, uD_cs, uD_lines, dx3, cutS_strOf, cut2]
      have ne : ∀ cs : List Nat, lettersB cs = true → 1 ≤ (cs.take 2).length ∧ (cs.take 2).length ≤ 3 := fun cs h => by
        have h1 : 1 ≤ cs.length := by
          cases cs with
          | nil => simp [lettersB] at h
          | cons a l => simp
        rw [List.length_take]
        omega
      have sh := wr.val.sh
      have sw := wr.val.sw
      have n1 := wr.val.n1
      refine ⟨szs _ (by rw [strOf_len]; omega), hs.take 2, 2, rfl, (ne hs wr.val.lh).1, (ne hs wr.val.lh).2, by decide, ?_⟩
      refine ⟨fun i S' G2 => ∃ (x5 x6 : Option D), S' = [some (uD hs ws rs), some (D.int 2), some (rulD C (mkR hs ws rs)), some (D.str (strOf (textOf hs ws rs))), some (rulD C (mkR hs ws rs)), x5, x6] ∧ G2 = G',
        ⟨_, _, rfl, rfl⟩, fun _ _ _ _ => trivial, ?_, ?_⟩
      · rintro i S' G2 dd ⟨x5, x6, rfl, rfl⟩ hd
        obtain ⟨a, ha, rfl⟩ := map_get hd
        have la := (texts_word _ _ a (List.mem_of_getElem? ha)).1
        simp only [dxs, dl, uD_cur, uD_hs, uD_cs, uD_lines, dx3, cutS_strOf, cut2]
        refine ⟨szs _ (by rw [strOf_len]; omega), ws.take 2, 2, rfl, (ne ws wr.val.lw).1, (ne ws wr.val.lw).2, by decide, ?_⟩
        refine ⟨fun j S' G3 => ∃ (x6 : Option D), S' = [some (uD hs ws rs), some (D.int 2), some (rulD C (mkR hs ws rs)), some (D.str (strOf (textOf hs ws rs))), some (rulD C (mkR hs ws rs)), some (D.str (strOf a)), x6] ∧ G3 = G2,
          ⟨_, rfl, rfl⟩, fun _ _ _ _ => trivial, ?_, ?_⟩
        · rintro j S' G3 d2 ⟨x6, rfl, rfl⟩ hd2
          obtain ⟨b, hb, rfl⟩ := map_get hd2
          have lb := (texts_word _ _ b (List.mem_of_getElem? hb)).1
          have l1 : (strOf a).length ≤ sizeLine := szs _ (by rw [strOf_len]; omega)
          have l2 : (strOf b).length ≤ sizeLine := szs _ (by rw [strOf_len]; omega)
          simp only [dxs, dl, dx3, DL.len_str l1, DL.len_str l2, strOf_len]
          refine ⟨okE_int _ _, ?_⟩
          split
          · have okn : ∀ o : Option Nat, okE (natO o) (natO o) = true := fun o => by cases o <;> rfl
            have cun : ∀ (G : GH) (o : Option Nat), D.cur G (natO o) = natO o := fun G o => by cases o <;> rfl
            have eqn : ∀ o : Option Nat, D.eqv (natO o) (natO o) = true := fun o => by
              cases o with
              | none => rfl
              | some n => simp [natO, eqv_int]
            refine ⟨rfl, rfl, mkR hs ws rs, 0, a, b, rfl, wr.val.ok, n1, by omega, by omega, ?_⟩
            refine ⟨hs, ws, rs, 0, a, b, rfl, wr.val.ok.at_, n1, by omega, by omega, ?_⟩
            have er : (mkR hs ws rs).rows = rs := rfl
            simp only [cun, er, eqn, Bool.not_true, Bool.false_eq_true, if_false]
            exact ⟨okn _, _, rfl, trivial⟩
          · first
            | exact ⟨_, rfl, rfl⟩
            | exact ⟨_, rfl, trivial⟩
        · rintro S' G3 ⟨x6, rfl, rfl⟩
          exact ⟨_, _, rfl, rfl⟩
      · rintro S' G2 ⟨x5, x6, rfl, rfl⟩
        exact ⟨_, Sub.refl _, q⟩
end
end Pace
end
section
set_option Elab.async false
set_option linter.all false
set_option maxRecDepth 100000
set_option maxHeartbeats 4000000
namespace Pace
open PySem PySem.Spec PyProof.Rows L2 DL
section
variable {P : Program} {w : World} {K : PySem.W.Frag} {mg : Str → Option Value} {base : Heap} {C : Addr}
abbrev dk (n : Nat) : MO := .deck "cells" "ground" "draws" n
def spDraw : SpD := fun ds G Q => ∃ (p : Addr) (n b : Nat), ds = [.rf p, .int (n : Int)] ∧ 1 ≤ n ∧ n ≤ 1000 ∧ G p = some (dk (b + 1)) ∧ ∀ r : Nat, r < n → Q (.int (r : Int)) (gput G p (dk b))
abbrev N__law_draw : List Str := ["_law_deck_here", "_law_below", "_law_turn", "_law_figure", "_law_cell"]
theorem sc__law_draw : FnScope N__law_draw ["_law_deck_here", "_law_below"] (defScope s__law_draw) := ⟨rfl, rfl, rfl, by decide +kernel, rfl, by decide +kernel, by decide +kernel⟩
theorem c__law_draw (T : Txt K mg C) (d : Def K mg "_law_draw" s__law_draw) : Cal P w K mg base "_law_draw" 1 ["_law_deck_here", "_law_below"] (spDraw) := by
  refine cal_mk (N := N__law_draw) d sc__law_draw (fun ds G Q h => ?_) (fun _ _ _ _ _ _ us hl => match us, hl with | [_, _], _ => rfl) (fun f cdv A outer s H E hg hr => ?_)
  · obtain ⟨p, n, b, rfl, _⟩ := h
    rfl
  · have hu := hu100 hr
    have nd := sc__law_draw.nd
    have hA := deeper_guards (env := envOfC "_law_draw" (defScope s__law_draw) s.heap.objs.size f cdv) hg
    refine ⟨_, (dps_out (dps_in (dps_cons (dp_asg (de_op od_add (de_ix hu (de_var 0) de_str) de_int) (dg_sub hu (de_var 0) de_str))
  (dps_cons (dp_par (i := 2) (j := 3) rfl nd (ha := (da_cons (de_ix hu (de_var 0) de_str) (da_cons (de_ix hu (de_var 0) de_str) da_nil))))
  (dps_cons (dp_if (dt_cmp (od_ne hu) (de_ix hu (de_var 0) de_str) (de_lst da_nil) (nomark _))
  (dps_cons (dp_asg (de_bm0 PySem.F.plainAttrs_list PySem.F.slot_list_pop PySem.F.type_list_pop md_pop (de_ix hu (de_var 0) de_str)) (dg_name 4 nd))
  (dps_cons (dp_if (dt_cmp (od_ge hu) (de_var 4) (de_op od_pow de_int de_int) (nomark _))
  (dps_cons (dp_expr (de_bm PySem.F.plainAttrs_list PySem.F.slot_list_append PySem.F.type_list_append md_append (de_ix hu (de_var 0) de_str) (da_cons (de_op od_fdiv (de_var 4) (de_var 1)) da_nil)))
  (dps_one (dp_ret (de_op od_mod (de_callTy cd_int rfl T.f_int (by decide +kernel) (da_cons (de_var 4) da_nil)) (de_var 1)))))
  dps_nil)
  (dps_one (dp_asg (de_op od_add (de_var 3) (de_op od_mod (de_callTy cd_int rfl T.f_int (by decide +kernel) (da_cons (de_var 4) da_nil)) de_int)) (dg_name 3 nd)))))
  dps_nil)
  (dps_cons (dp_asg (de_op od_mod (de_op od_mul (de_callTy cd_int rfl T.f_int (by decide +kernel) (da_cons (de_op od_add (de_op od_add (de_op od_mod (de_var 3) de_int) (de_op od_mul (de_op od_mul de_int (de_var 2)) (de_var 2))) de_int) da_nil)) de_int) de_int) (dg_name 3 nd))
  (dps_cons (dp_asg (de_op od_mod (de_callTy cd_int rfl T.f_int (by decide +kernel) (da_cons (de_op od_add (de_op od_add (de_op od_mul (de_var 3) (de_var 3)) (de_op od_mul de_int (de_var 2))) de_int) da_nil)) de_int) (dg_name 3 nd))
  (dps_one (dp_ret (de_op od_mod (de_op od_fdiv (de_op od_mod (de_callTy cd_int rfl T.f_int (by decide +kernel) (da_cons (de_op od_mul (de_var 3) de_int) da_nil)) de_int) de_int) (de_var 1))))))))))), fun ds G Q h => ?_⟩
    obtain ⟨p, n, b, rfl, n1, n2, gp, q⟩ := h
    rw [show dstart N__law_draw [.rf p, .int (n : Int)] = [some (.rf p), some (.int (n : Int)), none, none, none] from rfl]
    simp only [dx2]
    refine ⟨Deck, _, _, deck_open gp, ?_⟩
    rintro x ⟨ok, gc, ne, nd0⟩
    have fin0 : ∀ (r : Int) (x' : Deck) (G' : GH), x'.c = x.c → G' = openG G p "cells" "ground" "draws" x' → x'.ok b → 0 ≤ r → r < n → (outE (fin Q)).rt (.int r) G' := by
      rintro r x' G' e rfl ok' h0 h1
      refine ⟨_, deck_close gp (by rw [e]; exact gc) (by rw [e]; exact ne) nd0 ok', _, Sub.refl _, ?_⟩
      obtain ⟨k, rfl⟩ := Int.eq_ofNat_of_zero_le h0
      exact q k (by omega)
    obtain ⟨c, g, t, ns⟩ := x
    obtain ⟨o1, o2, o3, o4, o5⟩ := ok
    have hu1 : ∀ G0 o, gput G0 p o c = G0 c := fun _ _ => gput_ne ne
    unfold openG
    simp only at gc ne hu1 o1 o2 o3 o4 o5 ⊢
    have e1 : ∀ u : D, D.item (.dK [(.inr "cells", .rf c), (.inr "ground", .int g), (.inr "draws", u)]) (.str "cells") = some (.rf c) := fun u => rfl
    have e2 : ∀ u : D, D.item (.dK [(.inr "cells", .rf c), (.inr "ground", .int g), (.inr "draws", u)]) (.str "draws") = some u := fun u => rfl
    have e3 : ∀ u : D, putD ([(.inr "cells", .rf c), (.inr "ground", .int g), (.inr "draws", .int t)] : List (Key × D)) (.inr "draws") u = ([(.inr "cells", .rf c), (.inr "ground", .int g), (.inr "draws", u)] : List (Key × D)) := fun u => rfl
    have e4 : ∀ u : D, D.item (.dK [(.inr "cells", .rf c), (.inr "ground", .int g), (.inr "draws", u)]) (.str "ground") = some (.int g) := fun u => rfl
    have hc : G c = some .dcell := gc
    simp only [dxs, dl, e1, e2, e4, hu1, dx3, D.key, e3, gput_gput]
    refine ⟨szl (by decide), Nat.zero_le _, intL_ok ns, ?_⟩
    rw [intL_eqv]
    have cm1 : ∀ i j : Int, (-4294967296 ≤ i ∧ i ≤ 4294967296) ∨ (-4294967296 ≤ j ∧ j ≤ 4294967296) → CMul i j := fun i j h => by
      rcases h with h | h
      · exact .inl (by omega)
      · exact .inr (by omega)
    rcases List.eq_nil_or_concat ns with rfl | ⟨ns', a, rfl⟩
    · rw [if_neg (by simp)]
      refine ⟨by omega, cm1 _ _ (.inl (by omega)), .inr (by omega), cm1 _ _ (.inr (by omega)), by omega, cm1 _ _ (.inl (by omega)), cm1 _ _ (.inl (by omega)), by omega, cm1 _ _ (.inl (by omega)), by omega, ⟨by omega, by omega⟩, by omega, ?_⟩
      refine fin0 _ ⟨c, g, t + 1, []⟩ _ rfl ?_ ⟨by simp only; omega, by simp only; omega, o3, o4, by simp⟩ (Int.emod_nonneg _ (by omega)) (Int.emod_lt_of_pos _ (by omega))
      rfl
    · rw [List.concat_eq_append] at *
      rw [if_pos (by simp)]
      have o6 : ns'.length + 1 ≤ 63 := by simpa using o5
      refine ⟨rfl, ?_⟩
      simp only [rPopD, hu1, dl, pop_last, pop_rest, gput_under ne, dx3, dxs, okL_int, DL.lt_int, true_and, e1, beq_self_eq_true, rAppendD]
      refine ⟨⟨by omega, by omega, by decide⟩, ?_⟩
      by_cases han : a < 10 ^ Int.toNat 18
      · rw [if_neg (by simpa using han)]
        refine ⟨by omega, by omega, cm1 _ _ (.inl (by omega)), .inr (by omega), cm1 _ _ (.inr (by omega)), by omega, cm1 _ _ (.inl (by omega)), cm1 _ _ (.inl (by omega)), by omega, cm1 _ _ (.inl (by omega)), by omega, ⟨by omega, by omega⟩, by omega, ?_⟩
        exact fin0 _ ⟨c, g, t + 1, ns'⟩ _ rfl rfl ⟨by simp only; omega, by simp only; omega, o3, o4, by simp only; omega⟩ (Int.emod_nonneg _ (by omega)) (Int.emod_lt_of_pos _ (by omega))
      · rw [if_pos (by simpa using han)]
        refine ⟨⟨by omega, by omega⟩, szl (by simp; omega), by omega, fin0 _ ⟨c, g, t + 1, ns' ++ [a / (n : Int)]⟩ _ rfl ?_ ⟨by simp only; omega, by simp only; omega, o3, o4, by simp; omega⟩ (Int.emod_nonneg _ (by omega)) (Int.emod_lt_of_pos _ (by omega))⟩
        simp [openG]
end
end Pace
end
section
set_option Elab.async false
set_option linter.all false
set_option maxRecDepth 100000
set_option maxHeartbeats 4000000
namespace Pace
open PySem PySem.Spec PyProof.Rows L2 DL
section
variable {P : Program} {w : World} {K : PySem.W.Frag} {mg : Str → Option Value} {base : Heap} {C : Addr}
def Src (src : D) (xs : List D) : Prop := src = .lst xs ∨ ∃ cs : List Nat, src = .str (strOf cs) ∧ xs = cs.map fun c => .str (sgn c)
def spPick : SpD := fun ds G Q => ∃ (p : Addr) (b : Nat) (src : D) (xs : List D), ds = [.rf p, src] ∧ Src src xs ∧ 1 ≤ xs.length ∧ xs.length ≤ 1000 ∧ G p = some (dk (b + 1)) ∧ ∀ x ∈ xs, Q x (gput G p (dk b))
abbrev N__law_pick : List Str := ["_law_deck_here", "_law_some"]
theorem sc__law_pick : FnScope N__law_pick ["_law_deck_here", "_law_some"] (defScope s__law_pick) := ⟨rfl, rfl, rfl, by decide +kernel, rfl, by decide +kernel, by decide +kernel⟩
theorem c__law_pick (T : Txt K mg C) (d : Def K mg "_law_pick" s__law_pick) (C__law_draw : Cal P w K mg base "_law_draw" 1 ["_law_deck_here", "_law_below"] (spDraw)) : Cal P w K mg base "_law_pick" 2 ["_law_deck_here", "_law_some"] (spPick) := by
  refine cal_mk (N := N__law_pick) d sc__law_pick (fun ds G Q h => ?_) (fun _ _ _ _ _ _ us hl => match us, hl with | [_, _], _ => rfl) (fun f cdv A outer s H E hg hr => ?_)
  · obtain ⟨p, b, src, xs, rfl, _⟩ := h
    rfl
  · have hu := hu100 hr
    have nd := sc__law_pick.nd
    have hA := deeper_guards (env := envOfC "_law_pick" (defScope s__law_pick) s.heap.objs.size f cdv) hg
    refine ⟨_, (dps_one (dp_ret (de_ix hu (de_var 1) (de_cal C__law_draw hA (hr.mono (by decide)) (da_cons (de_var 0) (da_cons (de_callB cd_len rfl T.f_len (by decide +kernel) (da_cons (de_var 1) da_nil)) da_nil)))))), fun ds G Q h => ?_⟩
    obtain ⟨p, b, src, xs, rfl, hs, n1, n2, gp, q⟩ := h
    rcases hs with rfl | ⟨cs, rfl, rfl⟩
    · rw [show dstart N__law_pick [.rf p, .lst xs] = [some (.rf p), some (.lst xs)] from rfl]
      simp only [dxs, dl, dx3]
      refine ⟨p, xs.length, b, rfl, n1, n2, gp, fun r hr => ?_⟩
      obtain ⟨x, hx⟩ : ∃ x, xs[r]? = some x := ⟨_, List.getElem?_eq_getElem hr⟩
      simp only [dxs, dl, item_lst, atI_nat hx]
      exact ⟨_, Sub.refl _, q x (List.mem_of_getElem? hx)⟩
    · rw [show dstart N__law_pick [.rf p, .str (strOf cs)] = [some (.rf p), some (.str (strOf cs))] from rfl]
      have n1' : 1 ≤ cs.length := by simpa using n1
      have n2' : cs.length ≤ 1000 := by simpa using n2
      have hsz : (strOf cs).length ≤ sizeLine := by rw [strOf_len]; exact sz (by omega)
      simp only [dxs, dl, len_str hsz, strOf_len]
      refine ⟨p, cs.length, b, rfl, n1', n2', gp, fun r hr => ?_⟩
      obtain ⟨x, hx⟩ : ∃ x, cs[r]? = some x := ⟨_, List.getElem?_eq_getElem hr⟩
      have e : D.item (.str (strOf cs)) (.int (r : Int)) = some (.str (sgn x)) := by
        show (if (strOf cs).length ≤ sizeLine then _ else _) = _
        rw [if_pos hsz]
        have : atI (strOf cs).cps.toList (r : Int) = some x := atI_nat (by simpa [strOf] using hx)
        rw [this]
        rfl
      simp only [dxs, dl, e]
      exact ⟨_, Sub.refl _, q _ (List.mem_map.mpr ⟨x, List.mem_of_getElem? hx, rfl⟩)⟩
end
section
variable {P : Program} {w : World} {K : PySem.W.Frag} {mg : Str → Option Value} {base : Heap} {C : Addr}
def spDeck : SpD := fun ds G Q => ∃ ns : List Int, ds = [.scr ns] ∧ NoDeck G ∧ ∀ p c, G p = none → G c = none → c ≠ p → Q (.rf p) (shutG G p c "cells" "ground" "draws" 1000000)
abbrev N__law_deck : List Str := ["_law_script", "_law_cells", "_law_ground", "_law_cell"]
theorem sc__law_deck : FnScope N__law_deck ["_law_script"] (defScope s__law_deck) := ⟨rfl, rfl, rfl, by decide +kernel, rfl, by decide +kernel, by decide +kernel⟩
theorem c__law_deck (T : Txt K mg C) (d : Def K mg "_law_deck" s__law_deck) : Cal P w K mg base "_law_deck" 1 ["_law_script"] (spDeck) := by
  refine cal_mk (N := N__law_deck) d sc__law_deck (fun ds G Q h => ?_) (fun _ _ _ _ _ _ us hl => match us, hl with | [_], _ => rfl) (fun f cdv A outer s H E hg hr => ?_)
  · obtain ⟨ns, rfl, _⟩ := h
    rfl
  · have hu := hu100 hr
    have nd := sc__law_deck.nd
    have hA := deeper_guards (env := envOfC "_law_deck" (defScope s__law_deck) s.heap.objs.size f cdv) hg
    refine ⟨_, (dps_out (dps_cons (dp_par (i := 1) (j := 2) rfl nd (ha := (da_cons (de_callTy cd_list rfl T.f_list (by decide +kernel) (da_cons (de_slice (de_var 0) do_none (do_some de_int)) da_nil)) (da_cons de_int da_nil))))
  (dps_cons (dp_for PassesOwn.never rfl (di_list (de_var 1)) (dg_name 3 nd)
  (dps_one (dp_asg (de_op od_mod (de_callTy cd_int rfl T.f_int (by decide +kernel) (da_cons (de_op od_add (de_op od_add (de_op od_mul (de_var 2) de_int) (de_op od_mod (de_callTy cd_int rfl T.f_int (by decide +kernel) (da_cons (de_var 3) da_nil)) de_int)) de_int) da_nil)) de_int) (dg_name 2 nd))))
  (dps_one (dp_ret (de_dispM (dpp_cons de_str (de_revLM (de_var 1)) (dpp_cons de_str (de_var 2) (dpp_cons de_str de_int dpp_nil))))))))), fun ds G Q h => ?_⟩
    obtain ⟨ns, rfl, nd0, q⟩ := h
    rw [show dstart N__law_deck [.scr ns] = [some (.scr ns), none, none, none] from rfl]
    have hcut : (DL.cutD ns none (some 63)).length ≤ 63 := by
      unfold DL.cutD
      rw [List.length_take]
      have : HT.sIx ns.length ns.length (some 63) = min 63 ns.length := HT.sIx_nat ns.length ns.length 63
      rw [this]
      omega
    generalize hcs : DL.cutD ns none (some 63) = cells at hcut
    have lst : ∀ (xs : List D) (G : GH) (Q : DQ), rListD [.lst xs] G Q = Q (.lst xs) G := fun _ _ _ => rfl
    simp only [dx2, dxs, dl, dx3, hcs, lst]
    refine ⟨fun i S' G' => ∃ (b : Int) (x2 : Option D), S' = [some (.scr ns), some (.lst (cells.map .int)), some (.int b), x2] ∧ G' = G ∧ 0 ≤ b ∧ b < 2147483587, ⟨_, none, rfl, rfl, by omega, by omega⟩, fun _ _ _ _ => trivial, ?_, ?_⟩
    · rintro i S' G' dd ⟨b, x2, rfl, rfl, h1, h2⟩ hd
      obtain ⟨v, hv, rfl⟩ := map_get hd
      simp only [dxs, dl, dx3]
      refine ⟨.inl (by omega), by omega, by omega, _, _, rfl, trivial, Int.emod_nonneg _ (by omega), Int.emod_lt_of_pos _ (by omega)⟩
    · rintro S' G' ⟨b, x2, rfl, rfl, h1, h2⟩
      simp only [dxs, dl, dx3, hcs]
      intro c hc
      refine ⟨by show (3 : Nat) ≤ 15; decide, fun p hp => ?_⟩
      have hcp : c ≠ p := fun z => by rw [← z, gput_same] at hp; cases hp
      have hp' : G' p = none := by rw [gput_ne (fun z => hcp z.symm)] at hp; exact hp
      have ndG : NoDeck (openG G' p "cells" "ground" "draws" ⟨c, b, 0, cells.reverse⟩) := open_nodeck fun a _ => nd0 a
      refine ⟨_, deck_shut (x := ⟨c, b, 0, cells.reverse⟩) (n := 1000000) (k1 := "cells") (k2 := "ground") (k3 := "draws") (p := p) ?_ ?_ ?_ ⟨by simp only; omega, by simp only; omega, h1, by simp only; omega, by simp; omega⟩, _, Sub.refl _, ?_⟩
      · have e : openG G' p "cells" "ground" "draws" ⟨c, b, 0, cells.reverse⟩ = gput (gput G' c (.lst (cells.map D.int).reverse)) p (.dK [(.inr "cells", .rf c), (.inr "ground", .int b), (.inr "draws", .int 0)]) := by
          unfold openG
          rw [List.map_reverse]
        rw [e] at ndG
        exact ndG
      · exact gput_same
      · rw [gput_ne hcp, gput_same, List.map_reverse]
      · have e : ∀ o1 o2, shutG (gput (gput G' c o1) p o2) p c "cells" "ground" "draws" 1000000 = shutG G' p c "cells" "ground" "draws" 1000000 := fun o1 o2 => by
          funext a
          unfold shutG
          by_cases z1 : a = p
          · subst z1; rw [gput_same, gput_same]
          · rw [gput_ne z1, gput_ne z1]
            by_cases z2 : a = c
            · subst z2; rw [gput_same, gput_same]
            · rw [gput_ne z2, gput_ne z2, gput_ne z1, gput_ne z2]
        show Q _ (shutG (gput (gput G' c _) p _) p c _ _ _ _)
        rw [e]
        exact q p c hp' hc hcp
end
end Pace
end
section
set_option Elab.async false
set_option linter.all false
set_option maxRecDepth 100000
set_option maxHeartbeats 4000000
namespace Pace
open PySem PySem.Spec PyProof.Rows L2 DL
section
variable {P : Program} {w : World} {K : PySem.W.Frag} {mg : Str → Option Value} {base : Heap} {C : Addr}
def spSigns : SpD := fun ds G Q => ∃ (p : Addr) (many n : Nat), ds = [.rf p, .int (many : Int)] ∧ 1 ≤ many ∧ many ≤ 3 ∧ G p = some (dk (n + 10)) ∧
  ∀ (cs : List Nat) (m : Nat), n ≤ m → lettersB cs = true → cs.length ≤ many → Q (.str (strOf cs)) (gput G p (dk m))
abbrev N__law_signs : List Str := ["_law_deck_here", "_law_many", "_law_alphabet", "_law_go"]
theorem sc__law_signs : FnScope N__law_signs ["_law_deck_here", "_law_many"] (defScope s__law_signs) := ⟨rfl, rfl, rfl, by decide +kernel, rfl, by decide +kernel, by decide +kernel⟩
theorem c__law_signs (T : Txt K mg C) (d : Def K mg "_law_signs" s__law_signs) (C__law_pick : Cal P w K mg base "_law_pick" 2 ["_law_deck_here", "_law_some"] (spPick)) (C__law_draw : Cal P w K mg base "_law_draw" 1 ["_law_deck_here", "_law_below"] (spDraw)) : Cal P w K mg base "_law_signs" 3 ["_law_deck_here", "_law_many"] (spSigns) := by
  refine cal_mk (N := N__law_signs) d sc__law_signs (fun ds G Q h => ?_) (fun _ _ _ _ _ _ us hl => match us, hl with | [_, _], _ => rfl) (fun f cdv A outer s H E hg hr => ?_)
  · obtain ⟨p, many, n, rfl, _⟩ := h
    rfl
  · have hu := hu100 hr
    have nd := sc__law_signs.nd
    have hA := deeper_guards (env := envOfC "_law_signs" (defScope s__law_signs) s.heap.objs.size f cdv) hg
    refine ⟨_, (dps_cons (dp_asg de_str (dg_name 2 nd))
  (dps_cons (dp_if (dt_cmp (od_gt hu) (de_cal C__law_draw hA (hr.mono (by decide)) (da_cons (de_var 0) (da_cons de_int da_nil))) de_int (nomark _))
  (dps_one (dp_ret (de_slice de_str do_none (do_some (de_op od_add de_int (de_cal C__law_draw hA (hr.mono (by decide)) (da_cons (de_var 0) (da_cons (de_var 1) da_nil))))))))
  dps_nil)
  (dps_one (dp_ret (de_bm PySem.F.plainAttrs_str PySem.F.slot_str_join PySem.F.type_str_join md_join de_str (da_cons (de_sortSetS rfl rfl T.f_sorted rfl T.f_set (de_lc (own := [("_law_go", 3)]) (p := (.nm 3)) rfl nd (di_range1 rfl T.f_range (da_cons (de_op od_add de_int (de_cal C__law_draw hA (hr.mono (by decide)) (da_cons (de_var 0) (da_cons (de_var 1) da_nil)))) da_nil)) (blkOk_by (by show blkC N__law_signs (defScope s__law_signs) _ _ = true; decide +kernel)) (by decide) (fun _ _ _ _ _ => pg_name (i := 3) nd rfl (Or.inl rfl)) (fun _ _ _ _ _ => dts_nil) (fun _ _ _ _ _ => (de_cal C__law_pick hA (hr.mono (by decide)) (da_cons (de_var 0) (da_cons (de_var 2) da_nil)))))) da_nil)))))), fun ds G Q h => ?_⟩
    obtain ⟨p, many, n, rfl, m1, m3, gp, q⟩ := h
    rw [show dstart N__law_signs [.rf p, .int (many : Int)] = [some (.rf p), some (.int (many : Int)), none, none] from rfl]
    simp only [dxs, dl]
    refine ⟨p, 3, n + 9, rfl, by decide, by decide, gp, fun r hr => ?_⟩
    simp only [dxs, dl]
    refine ⟨okL_int _ _, ?_⟩
    rw [DL.lt_int]
    by_cases h0 : 0 < r
    · rw [if_pos (by simpa using h0)]
      refine ⟨p, many, n + 8, rfl, m1, by omega, gput_same, fun r2 hr2 => ?_⟩
      have e : ((1 : Int) + (r2 : Int)) = ((1 + r2 : Nat) : Int) := by omega
      simp only [dxs, dl, dx3, s_abc, cutS_strOf, e, cut_take, gput_gput]
      refine ⟨by rw [strOf_len]; exact sz (by simp), _, Sub.refl _, q _ _ (by omega) ?_ (by simp; omega)⟩
      have : r2 = 0 ∨ r2 = 1 ∨ r2 = 2 := by omega
      rcases this with rfl | rfl | rfl <;> decide
    · rw [if_neg (by simpa using h0)]
      refine ⟨rfl, ?_⟩
      simp only [dSortSetS, dxs, dl]
      refine ⟨p, many, n + 8, rfl, m1, by omega, gput_same, fun r2 hr2 => ?_⟩
      have e : ((1 : Int) + (r2 : Int)) = ((1 + r2 : Nat) : Int) := by omega
      simp only [dxs, dl, dx3, e, gput_gput]
      refine ⟨by omega, by omega, ?_⟩
      refine ⟨sz (by simp; omega), fun i acc G' => ∃ cs : List Nat, acc = cs.map (fun c => .str (sgn c)) ∧ cs.length = i ∧ i ≤ 1 + r2 ∧ (∀ c ∈ cs, c ∈ abc) ∧ G' = gput G p (dk (n + 8 - i)), ⟨[], rfl, rfl, Nat.zero_le _, by simp, rfl⟩, fun _ _ _ _ => trivial, ?_, ?_⟩
      · rintro i acc G' d ⟨cs, rfl, hl, hi, hin, rfl⟩ hd
        obtain ⟨hi2, rfl⟩ := range_get hd
        refine ⟨_, rfl, ?_⟩
        simp only [dxs, dl, dwipe, List.map_cons, List.map_nil, if_true, abc_str]
        refine ⟨p, n + 8 - (i + 1), _, _, rfl, .inr ⟨abc, rfl, rfl⟩, by simp [abc], by simp [abc], ?_, fun x hx => ?_⟩
        · rw [gput_same]
          congr 2
          omega
        · obtain ⟨c, hc, rfl⟩ := List.mem_map.mp hx
          refine ⟨cs ++ [c], by simp, by simp [hl], by omega, fun d hd => ?_, ?_⟩
          · rcases List.mem_append.mp hd with hd | hd
            · exact hin d hd
            · rw [List.mem_singleton.mp hd]; exact hc
          · rw [gput_gput]
      · rintro acc G' ⟨cs, rfl, hl, hi, hin, rfl⟩
        rw [range_len] at hl
        simp only [dxs, dl, texts_sgn, List.length_map]
        refine ⟨by omega, fun ys pm so => ?_⟩
        obtain ⟨es, he⟩ := unsgn (ys := ys) fun y hy => by
          obtain ⟨c, _, rfl⟩ := List.mem_map.mp (firstsF_mem.mp (pm.mem_iff.mp hy))
          exact ⟨c, rfl⟩
        obtain ⟨l1, l2⟩ := letters_of hin (by omega) he pm so
        subst he
        have e2 : (es.map sgn).map D.str = es.map fun c => .str (sgn c) := by rw [List.map_map]; rfl
        simp only [rJoinD, e2, dxs, dl, texts_sgn, join_sgn, sgn_sum]
        have hlr : (List.range ((1 + r2 : Nat) : Int).toNat).length = 1 + r2 := by rw [Int.toNat_natCast, List.length_range]
        have h00 : (Str.ofString "").length = 0 := by rw [str_nil]; rfl
        refine ⟨by rw [h00]; simp; omega, _, Sub.refl _, q es _ (by omega) l1 (by omega)⟩
end
end Pace
end
section
set_option Elab.async false
set_option linter.all false
set_option maxRecDepth 100000
set_option maxHeartbeats 4000000
namespace Pace
open PySem PySem.Spec PyProof.Rows L2 DL
section
variable {P : Program} {w : World} {K : PySem.W.Frag} {mg : Str → Option Value} {base : Heap} {C : Addr}
def spWorld : SpD := fun ds G Q => ∃ (p : Addr) (top n : Nat) (tot : Bool), ds = [.rf p, .int (top : Int), .bl tot] ∧ 1 ≤ top ∧ top ≤ 5 ∧ G p = some (dk (n + 300)) ∧
  ∀ (hs ws : List Nat) (rs : List (List Mv)) (m : Nat), n ≤ m → Wor top tot hs ws rs → Q (uD hs ws rs) (gput G p (dk m))
abbrev N__law_world : List Str := ["_law_deck_here", "_law_top", "_law_is_total", "_law_count", "_law_hs", "_law_cs", "_law_lines", "_law_dense", "_law_s", "_law_row", "_law_h", "_law_some", "_law_c"]
theorem sc__law_world : FnScope N__law_world ["_law_deck_here", "_law_top", "_law_is_total"] (defScope s__law_world) := ⟨rfl, rfl, rfl, by decide +kernel, rfl, by decide +kernel, by decide +kernel⟩
theorem c__law_world (T : Txt K mg C) (d : Def K mg "_law_world" s__law_world) (C__law_signs : Cal P w K mg base "_law_signs" 3 ["_law_deck_here", "_law_many"] (spSigns)) (C__law_pick : Cal P w K mg base "_law_pick" 2 ["_law_deck_here", "_law_some"] (spPick)) (C__law_draw : Cal P w K mg base "_law_draw" 1 ["_law_deck_here", "_law_below"] (spDraw)) : Cal P w K mg base "_law_world" 4 ["_law_deck_here", "_law_top", "_law_is_total"] (spWorld) := by
  refine cal_mk (N := N__law_world) d sc__law_world (fun ds G Q h => ?_) (fun _ _ _ _ _ _ us hl => match us, hl with | [_, _, _], _ => rfl) (fun f cdv A outer s H E hg hr => ?_)
  · obtain ⟨p, top, n, tot, rfl, _⟩ := h
    rfl
  · have hu := hu100 hr
    have nd := sc__law_world.nd
    have hA := deeper_guards (env := envOfC "_law_world" (defScope s__law_world) s.heap.objs.size f cdv) hg
    refine ⟨_, (dps_cons (dp_asg (de_tup (da_cons (de_op od_add de_int (de_cal C__law_draw hA (hr.mono (by decide)) (da_cons (de_var 0) (da_cons (de_var 1) da_nil)))) (da_cons (de_cal C__law_signs hA (hr.mono (by decide)) (da_cons (de_var 0) (da_cons de_int da_nil))) (da_cons (de_cal C__law_signs hA (hr.mono (by decide)) (da_cons (de_var 0) (da_cons de_int da_nil))) da_nil)))) (dg_tup (n := 3) rfl (dgs_cons (dg_name 3 nd) (dgs_cons (dg_name 4 nd) (dgs_cons (dg_name 5 nd) dgs_nil)))))
  (dps_cons (dp_asg (de_tup (da_cons (de_lstM da_nil) (da_cons (de_cal C__law_draw hA (hr.mono (by decide)) (da_cons (de_var 0) (da_cons de_int da_nil))) da_nil))) (dg_tup (n := 2) rfl (dgs_cons (dg_name 6 nd) (dgs_cons (dg_name 7 nd) dgs_nil))))
  (dps_cons (dp_for PassesOwn.never rfl (di_range1 rfl T.f_range (da_cons (de_var 3) da_nil)) (dg_name 8 nd)
  (dps_cons (dp_asg (de_lstM da_nil) (dg_name 9 nd))
  (dps_cons (dp_for PassesOwn.never rfl (di_str (de_var 4)) (dg_name 10 nd)
  (dps_cons (dp_setLc (i := 11) (own := [("_law_c", 12)]) (p := (.nm 12)) rfl nd rfl rfl (sw_true rfl rfl rfl (by decide +kernel)) (di_str (de_var 5)) (blkOk_by (by show blkC N__law_world (defScope s__law_world) _ _ = true; decide +kernel)) (by decide) (fun _ _ _ _ _ => pg_name (i := 12) nd rfl (Or.inl rfl)) (fun _ _ _ _ _ => (dts_one (dt_cmp (od_lt hu) (de_cal C__law_draw hA (hr.mono (by decide)) (da_cons (de_var 0) (da_cons de_int da_nil))) (de_op od_add de_int (de_var 7)) (nomark _)))) (fun _ _ _ _ _ => (de_var 12)))
  (dps_cons (dp_if (DW.dt (dw_and (dt_val (de_var 2)) (dw_and1 (dt_cmp (od_eq hu) (de_var 11) (de_lst da_nil) (nomark _)))))
  (dps_one (dp_asg (de_lst (da_cons (de_cal C__law_pick hA (hr.mono (by decide)) (da_cons (de_var 0) (da_cons (de_var 5) da_nil))) da_nil)) (dg_name 11 nd)))
  dps_nil)
  (dps_one (dp_expr (de_bm PySem.F.plainAttrs_list PySem.F.slot_list_extend PySem.F.type_list_extend md_extend (de_var 9) (da_cons (de_lc (own := [("_law_c", 12)]) (p := (.nm 12)) rfl nd (di_list (de_var 11)) (blkOk_by (by show blkC N__law_world (defScope s__law_world) _ _ = true; decide +kernel)) (by decide) (fun _ _ _ _ _ => pg_name (i := 12) nd rfl (Or.inl rfl)) (fun _ _ _ _ _ => dts_nil) (fun _ _ _ _ _ => (de_tup (da_cons (de_var 10) (da_cons (de_var 12) (da_cons (de_cal C__law_draw hA (hr.mono (by decide)) (da_cons (de_var 0) (da_cons (de_var 3) da_nil))) da_nil)))))) da_nil)))))))
  (dps_one (dp_expr (de_bm PySem.F.plainAttrs_list PySem.F.slot_list_append PySem.F.type_list_append md_append (de_var 6) (da_cons (de_callTy cd_tuple rfl T.f_tuple (by decide +kernel) (da_cons (de_var 9) da_nil)) da_nil)))))))
  (dps_one (dp_ret (de_disp (dpp_cons de_str (de_var 4) (dpp_cons de_str (de_var 5) (dpp_cons de_str (de_callTy cd_tuple rfl T.f_tuple (by decide +kernel) (da_cons (de_var 6) da_nil)) dpp_nil))))))))), fun ds G Q h => ?_⟩
    obtain ⟨p, top, n, tot, rfl, t1, t5, gp, q⟩ := h
    rw [show dstart N__law_world [.rf p, .int (top : Int), .bl tot] = [some (.rf p), some (.int (top : Int)), some (.bl tot), none, none, none, none, none, none, none, none, none, none] from rfl]
    simp only [dxs, dl]
    refine ⟨p, top, n + 299, rfl, by omega, by omega, gp, fun r hr => ?_⟩
    simp only [dxs, dl, dx3]
    refine ⟨p, 3, n + 289, rfl, by decide, by decide, by rw [gput_same], fun hs m1 hm1 lh hs3 => ?_⟩
    obtain ⟨m1, rfl⟩ : ∃ m, m1 = m + 10 := ⟨m1 - 10, by omega⟩
    refine ⟨p, 3, m1, rfl, by decide, by decide, by rw [gput_same], fun ws m2 hm2 lw ws3 => ?_⟩
    simp only [dxs, dl, gput_gput]
    refine ⟨sz (by simp), trivial, Nat.zero_le _, fun z hz => ?_⟩
    have hzp : z ≠ p := fun e => by rw [e, gput_same] at hz; cases hz
    have hpz : p ≠ z := fun e => hzp e.symm
    have hz' : G z = none := by rw [gput_ne hzp] at hz; exact hz
    obtain ⟨m3, rfl⟩ : ∃ m, m2 = m + 1 := ⟨m2 - 1, by omega⟩
    refine ⟨p, 3, m3, rfl, by decide, by decide, by rw [gput_ne hpz, gput_same], fun dn hdn => ?_⟩
    have e1 : ((1 : Int) + (r : Int)) = ((r + 1 : Nat) : Int) := by omega
    rw [gput_under hpz]
    simp only [e1]
    refine ⟨sz (by simp), trivial, by omega, by omega, ?_⟩
    have rd : ∀ {m : Nat} {o2 : MO} {G' : GH}, Sub (gput (gput G p (dk m)) z o2) G' → G' p = some (dk m) ∧ G' z = some o2 := fun sb =>
      ⟨sb.le p _ (by rw [gput_ne hpz, gput_same]), sb.le z _ gput_same⟩
    have wr : ∀ {m m' : Nat} {o2 : MO} {G' : GH}, Sub (gput (gput G p (dk m)) z o2) G' → Sub (gput (gput G p (dk m')) z o2) (gput G' p (dk m')) := fun {m m' o2 G'} sb => by
      have := sb.put p (dk m')
      rw [gput_under hpz] at this
      exact this
    refine ⟨fun i S' G' => ∃ (m : Nat) (rows : List (List Mv)) (x8 x9 x10 x11 x12 : Option D), S' = [some (.rf p), some (.int (top : Int)), some (.bl tot), some (.int ((r + 1 : Nat) : Int)), some (.str (strOf hs)), some (.str (strOf ws)), some (.rf z), some (.int (dn : Int)), x8, x9, x10, x11, x12] ∧
      Sub (gput (gput G p (dk m)) z (.lst (rows.map rowD))) G' ∧ rows.length = i ∧ m3 ≤ m + 30 * i ∧ ∀ r1 ∈ rows, rowB hs ws (r + 1) r1 = true ∧ r1.length ≤ 9 ∧ (tot = true → ∀ h ∈ hs, ∃ m ∈ r1, m.h = h),
      ⟨m3, [], none, none, none, none, none, rfl, Sub.refl _, rfl, by omega, by simp⟩, fun _ _ _ _ => trivial, ?_, ?_⟩
    · rintro i S' G' dd ⟨m, rows, x8, x9, x10, x11, x12, rfl, sb, hrl, hm, hrows⟩ hd
      obtain ⟨hi, rfl⟩ := range_get hd
      obtain ⟨gp1, gz1⟩ := rd sb
      simp only [dxs, dl]
      refine ⟨Nat.zero_le _, fun y hy => ?_⟩
      have hyz : z ≠ y := fun e => by rw [← e, gz1] at hy; cases hy
      have hyp : p ≠ y := fun e => by rw [← e, gp1] at hy; cases hy
      refine ⟨fun j S' G2 => ∃ (m' : Nat) (row : List Mv) (G1 : GH) (x10 x11 x12 : Option D), S' = [some (.rf p), some (.int (top : Int)), some (.bl tot), some (.int ((r + 1 : Nat) : Int)), some (.str (strOf hs)), some (.str (strOf ws)), some (.rf z), some (.int (dn : Int)), some (.int (i : Int)), some (.rf y), x10, x11, x12] ∧
        G2 = gput G1 y (.lst (row.map Mv.d)) ∧ G1 y = none ∧ Sub (gput (gput G p (dk m')) z (.lst (rows.map rowD))) G1 ∧ m ≤ m' + 8 * j ∧ j ≤ hs.length ∧ RowP hs ws (r + 1) tot j row,
        ⟨m, [], G', _, _, _, rfl, rfl, hy, sb, by omega, Nat.zero_le _, RowP.start⟩, fun _ _ _ _ => trivial, ?_, ?_⟩
      · rintro j S' G2 dd ⟨m', row, G1, x10, x11, x12, rfl, rfl, hy1, sb1, hm', hj, rp⟩ hd
        obtain ⟨h, hh, rfl⟩ := signs_get hd
        obtain ⟨gp2, gz2⟩ := rd sb1
        simp only [dxs, dl]
        have hj1 := (List.getElem?_eq_some_iff.mp hh).1
        refine ⟨sz (by rw [signs_len]; omega), fun k acc G3 => ∃ cs : List Nat, acc = cs.map (fun c => .str (sgn c)) ∧ cs.Sublist (ws.take k) ∧ k ≤ ws.length ∧ G3 = gput (gput G1 p (dk (m' - k))) y (.lst (row.map Mv.d)), ⟨[], rfl, by simp, Nat.zero_le _, ?_⟩, fun _ _ _ _ => trivial, ?_, ?_⟩
        · rw [Nat.sub_zero, gput_self gp2]
        · rintro k acc G3 d ⟨cs, rfl, sl, hk, rfl⟩ hd3
          obtain ⟨c, hc, rfl⟩ := signs_get hd3
          have hk1 := (List.getElem?_eq_some_iff.mp hc).1
          refine ⟨_, rfl, ?_⟩
          simp only [dxs, dl, dwipe, List.map_cons, List.map_nil]
          refine ⟨p, 3, m' - (k + 1), rfl, by decide, by decide, ?_, fun r4 hr4 => ?_⟩
          · rw [gput_ne hyp, gput_same]
            congr 2
            omega
          · rw [gput_under hyp]
            simp only [dxs, dl, dx3, okL_int, DL.lt_int, true_and]
            split
            · exact ⟨cs ++ [c], by simp, by rw [take_snoc hc]; exact sl.append (List.Sublist.refl _), hk1, trivial⟩
            · exact ⟨cs, rfl, by rw [take_snoc hc]; exact sl.trans (List.sublist_append_left _ _), hk1, trivial⟩
        · rintro acc G3 ⟨cs, rfl, sl, hk, rfl⟩
          rw [signs_len, List.take_length] at sl
          rw [signs_len]
          have rest : ∀ (cs : List Nat) (k : Nat) (Q2 : DQ), cs.Sublist ws → 3 ≤ k → (∀ (ts : List Mv) (k2 : Nat), k ≤ k2 + 3 → ts.map (·.c) = cs → (∀ t ∈ ts, t.h = h ∧ t.t < r + 1) → Q2 (.lst (ts.map Mv.d)) (gput (gput G1 p (dk k2)) y (.lst (row.map Mv.d)))) →
              LcB (cs.map fun c => .str (sgn c)) dNoGuard (Pat.nm 12) dYes (dTup (dCons (dVar 10) (dCons (dVar 12) (dCons (dCall spDraw (dCons (dVar 0) (dCons (dVar 3) dNil))) dNil)))) (List.map (fun x => x.snd) [(Str.ofString "_law_c", 12)])
                [some (.rf p), some (.int (top : Int)), some (.bl tot), some (.int ((r + 1 : Nat) : Int)), some (.str (strOf hs)), some (.str (strOf ws)), some (.rf z), some (.int (dn : Int)), some (.int (i : Int)), some (.rf y), some (.str (sgn h)), some (.lst (cs.map fun c => .str (sgn c))), x12]
                (gput (gput G1 p (dk k)) y (.lst (row.map Mv.d))) Q2 := by
            intro cs k Q2 sl hk q2
            have hcl := sl.length_le
            refine ⟨sz (by simp; omega), fun i acc G3 => ∃ ts : List Mv, acc = ts.map Mv.d ∧ ts.map (·.c) = cs.take i ∧ i ≤ cs.length ∧ (∀ t ∈ ts, t.h = h ∧ t.t < r + 1) ∧ G3 = gput (gput G1 p (dk (k - i))) y (.lst (row.map Mv.d)), ⟨[], rfl, by simp, Nat.zero_le _, by simp, rfl⟩, fun _ _ _ _ => trivial, ?_, ?_⟩
            · rintro i acc G3 d ⟨ts, rfl, ec, hi, ht, rfl⟩ hd
              obtain ⟨c, hc, rfl⟩ := map_get hd
              have hi1 := (List.getElem?_eq_some_iff.mp hc).1
              refine ⟨_, rfl, ?_⟩
              simp only [dxs, dl, dwipe, List.map_cons, List.map_nil, if_true]
              refine ⟨p, r + 1, k - (i + 1), rfl, by omega, by omega, ?_, fun r4 hr4 => ?_⟩
              · rw [gput_ne hyp, gput_same]
                congr 2
                omega
              · rw [gput_under hyp]
                refine ⟨sz (by simp), ts ++ [⟨h, c, r4⟩], by simp [Mv.d], by rw [take_snoc hc, List.map_append, ec]; rfl, hi1, fun t ht' => ?_, rfl⟩
                rcases List.mem_append.mp ht' with ht' | ht'
                · exact ht t ht'
                · rw [List.mem_singleton.mp ht']; exact ⟨rfl, hr4⟩
            · rintro acc G3 ⟨ts, rfl, ec, hi, ht, rfl⟩
              rw [List.length_map, List.take_length] at ec
              rw [List.length_map]
              exact q2 ts _ (by omega) ec ht
          have sic : ∀ cs : List Nat, (D.lst (cs.map fun c => D.str (sgn c))).si = true := fun cs => sis_all.mpr fun x hx => by obtain ⟨c, _, rfl⟩ := List.mem_map.mp hx; rfl
          have okc : ∀ cs : List Nat, okE (.lst (cs.map fun c => D.str (sgn c))) (.lst []) = true := fun cs => okE_si (sic cs) rfl (by
            have : D.dps (cs.map fun c => D.str (sgn c)) ≤ 0 := dps_le fun x hx => by obtain ⟨c, _, rfl⟩ := List.mem_map.mp hx; exact Nat.le_refl _
            simp only [D.dp]; omega)
          have eqc : ∀ cs : List Nat, D.eqv (.lst (cs.map fun c => D.str (sgn c))) (.lst []) = decide (cs = []) := fun cs => by
            rw [Bool.eq_iff_iff, eqv_si (sic cs) rfl]
            simp
          have fin1 : ∀ (cs : List Nat) (ts : List Mv) (k2 : Nat) (x11' : Option D), cs.Sublist ws → (tot = true → cs ≠ []) → m' ≤ k2 + 7 → ts.map (·.c) = cs → (∀ t ∈ ts, t.h = h ∧ t.t < r + 1) → RowP hs ws (r + 1) tot (j + 1) (row ++ ts) ∧ Sub (gput (gput G p (dk k2)) z (.lst (rows.map rowD))) (gput G1 p (dk k2)) ∧ gput G1 p (dk k2) y = none := fun cs ts k2 _ sl ne hk ec ht =>
            ⟨rp.step (letters_lt lh) (letters_lt lw) ws3 hh sl ne ec ht, wr sb1, by rw [gput_ne (fun e => hyp e.symm)]; exact hy1⟩
          have rl := rp.len
          simp only [dxs, dl, okc, eqc, true_and, Nat.zero_le, beq_self_eq_true]
          cases htot : tot with
          | false =>
            rw [if_neg Bool.false_ne_true, if_neg Bool.false_ne_true]
            rw [htot] at rest fin1
            refine rest cs (m' - ws.length) _ sl (by omega) fun ts k2 hk2 ec ht => ?_
            obtain ⟨f1, f2, f3⟩ := fin1 cs ts k2 none sl (fun z => by cases z) (by omega) ec ht
            have ts3 : ts.length ≤ 3 := by have : ts.length = cs.length := by rw [← ec, List.length_map]
                                           have := sl.length_le; omega
            simp only [rExtendD, dxs, dl, gput_gput, ← List.map_append]
            exact ⟨sz (by simp; omega), k2, row ++ ts, _, _, _, _, rfl, rfl, f3, f2, by omega, hj1, f1⟩
          | true =>
            rw [if_pos rfl]
            rw [htot] at rest fin1
            by_cases hce : cs = []
            · rw [if_pos (by simpa using hce)]
              refine ⟨p, m' - ws.length - 1, _, _, rfl, .inr ⟨ws, rfl, rfl⟩, by simpa using letters_pos lw, by simp; omega, ?_, fun x hx => ?_⟩
              · rw [gput_ne hyp, gput_same]
                congr 2
                omega
              · obtain ⟨c, hc, rfl⟩ := List.mem_map.mp hx
                rw [gput_under hyp]
                simp only [dxs, dl, gput_same]
                have sl1 : [c].Sublist ws := List.singleton_sublist.mpr hc
                refine ⟨sz (by simp), rfl, ?_⟩
                refine rest [c] (m' - ws.length - 1) _ sl1 (by omega) fun ts k2 hk2 ec ht => ?_
                obtain ⟨f1, f2, f3⟩ := fin1 [c] ts k2 none sl1 (fun _ => by simp) (by omega) ec ht
                have ts3 : ts.length ≤ 3 := by have : ts.length = 1 := by rw [← List.length_map (f := (·.c)), ec]; rfl
                                               omega
                simp only [rExtendD, dxs, dl, gput_gput, ← List.map_append]
                exact ⟨sz (by simp; omega), k2, row ++ ts, _, _, _, _, rfl, rfl, f3, f2, by omega, hj1, f1⟩
            · rw [if_neg (by simpa using hce)]
              refine rest cs (m' - ws.length) _ sl (by omega) fun ts k2 hk2 ec ht => ?_
              obtain ⟨f1, f2, f3⟩ := fin1 cs ts k2 none sl (fun _ => hce) (by omega) ec ht
              have ts3 : ts.length ≤ 3 := by have : ts.length = cs.length := by rw [← ec, List.length_map]
                                             have := sl.length_le; omega
              simp only [rExtendD, dxs, dl, gput_gput, ← List.map_append]
              exact ⟨sz (by simp; omega), k2, row ++ ts, _, _, _, _, rfl, rfl, f3, f2, by omega, hj1, f1⟩
      · rintro S' G2 ⟨m', row, G1, x10, x11, x12, rfl, rfl, hy1, sb1, hm', hj, rp⟩
        rw [signs_len] at rp hm'
        have sb2 : Sub (gput (gput G p (dk m')) z (.lst (rows.map rowD))) (gput G1 y (.lst (row.map Mv.d))) := sb1.trans (sub_new hy1 rfl)
        have rl := rp.len
        obtain ⟨gp2, gz2⟩ := rd sb2
        simp only [dxs, dl, rTupleD, gz2, rAppendD, gput_same, beq_self_eq_true, true_and]
        refine ⟨szl (by simp; omega), m', rows ++ [row], _, _, _, _, _, rfl, ?_, by simp [hrl], by omega, fun r1 hr1 => ?_⟩
        · have := sb2.put z (.lst (rows.map rowD ++ [.tup (row.map Mv.d)]))
          rw [gput_gput] at this
          rw [List.map_append]
          exact this
        · rcases List.mem_append.mp hr1 with hr1 | hr1
          · exact hrows r1 hr1
          · rw [List.mem_singleton.mp hr1]
            exact ⟨rp.row, by omega, fun ht x hx => rp.full ht x (by rw [List.take_length]; exact hx)⟩
    · rintro S' G' ⟨m, rows, x8, x9, x10, x11, x12, rfl, sb, hrl, hm, hrows⟩
      rw [range_len] at hrl hm
      obtain ⟨gp1, gz1⟩ := rd sb
      simp only [dxs, dl, rTupleD, gz1]
      refine ⟨by show (3 : Nat) ≤ 15; decide, _, (sub_new (by rw [gput_ne hzp]; exact hz') rfl).trans sb, ?_⟩
      refine q hs ws rows m (by omega) ⟨⟨lh, lw, by omega, by omega, by omega, by omega, fun r1 hr1 => ?_⟩, by omega, hs3, ws3, fun r1 hr1 => (hrows r1 hr1).2.1, fun ht r1 hr1 => (hrows r1 hr1).2.2 ht⟩
      obtain ⟨a, b, _⟩ := hrows r1 hr1
      rw [hrl]
      exact ⟨a, by omega⟩
end
end Pace
end
section
set_option Elab.async false
set_option linter.all false
set_option maxRecDepth 100000
set_option maxHeartbeats 4000000
/-! DLend: from the promise of law to the row. -/
namespace DL
open PySem PySem.Spec PyProof.Rows L2

def spLaw (n : Nat) : SpD := fun ds G Q => ∃ ns : List Int, ds = [.scr ns] ∧ ns.length ≤ n ∧ (G = fun _ => none) ∧ ∀ G', Q (.bl true) G'

section
variable {P : Program} {w : World} {K : PySem.W.Frag} {mg mb : Str → Option Value} {k : Nat} {fa a : Addr} {fd : FuncData} {x : Str} {s₁ : Shared} {vs : List Value} {ns : List Int} {n : Nat}
theorem last_core (inn : K.In s₁.heap) (hns : s₁.heap.Ns mainGlobals mg) (hb : s₁.heap.Ns builtinsNs mb) (hbb : ∀ x : Str, x ≠ "__name__" → mb x = bootBuiltins x) (hlim : s₁.heap.NoLimit) (hg : s₁.gens = #[])
    (ha : s₁.heap.get? a = some { cls := .type "list", data := .seq vs.toArray }) (hl : ns.length ≤ n) (hr : Room k callerA)
    (Fn : ∀ base : Heap, K.In base → base.Ns mainGlobals mg → FnG P w K mg base CX0 k fa fd [x] (SpOf K (spLaw n))) (bd : ∀ (s : Shared) (u : Value), BindsTo s fd ⟨[u], []⟩ [(x, u)])
    (H : Hp) (hO : Only H) (hS : SqL K H a (ns.map V.int)) (hok : HOk P w H s₁.heap) (hA : ∀ b, H b ≠ none → b = a) (hK : H a ≠ none → K.lookup a = none) :
    codeAny (model P w) callerA (.call (.ref fa) ⟨[.ref a], []⟩) (fun r s' => r = .ok (.ret (.bool true)) ∧ OldK s₁.heap s'.heap ∧ s'.os = s₁.os ∧ AllBare s'.gens) s₁ := by
  have put : ∀ {b : Addr} {o : Obj}, s₁.heap.get? b = some o → H b = none → (hidT s₁.heap H).get? b = some o := by
    intro b o z y
    exact hidT_get z y
  have nod : ∀ {b : Addr} {o : Obj} {es : Array DictEntry} {ep : Nat}, s₁.heap.get? b = some o → o.data = .dict es ep → H b = none := by
    intro b o es ep z y
    cases q : H b with
    | none => rfl
    | some u =>
      obtain rfl : b = a := hA b (by rw [q]; simp)
      rw [ha] at z
      cases z
      exact absurd y (by intro c; cases c)
  have ns2 : ∀ {b : Addr} {m : Str → Option Value}, s₁.heap.Ns b m → (hidT s₁.heap H).Ns b m := by
    rintro b m ⟨o, es, ep, z, y, r⟩
    exact ⟨o, es, ep, put z (nod z y), y, r⟩
  have in2 : K.In (hidT s₁.heap H) := by
    intro b o z
    refine put (inn b o z) ?_
    cases q : H b with
    | none => rfl
    | some u =>
      have y : b = a := hA b (by rw [q]; simp)
      subst y
      have c := hK (by rw [q]; simp)
      rw [c] at z; cases z
  have md : Mod K mg (hidT s₁.heap H) := by
    obtain ⟨mc, l1, l2⟩ := hlim
    exact ⟨in2, ns2 hns, ⟨mb, ns2 hb, hbb⟩, ⟨mc, ns2 l1, l2⟩⟩
  have e0 : Env0 P w K mg (hidT s₁.heap H) callerA [] s₁ H := by
    refine ⟨rfl, md, fun b o z => of_hidT z, Nat.le_of_eq (hidT_size _ _), trivial, ?_, hok, .of_eq hg⟩
    intro b hb
    cases hb
  have sp0 : SpOf K (spLaw n) [.ref a] H (fun v _ => v = .bl true) (fun _ _ _ => False) := by
    refine ⟨H, fun _ => none, [.scr ns], fun d _ => d = .bl true, ⟨Ex.refl H, fun _ _ z => (nomatch z), fun _ _ _ _ _ _ _ _ _ _ z => (nomatch z)⟩, .one (.scr hS), ⟨ns, rfl, hl, rfl, fun _ => rfl⟩, ?_⟩
    intro F' H' v d G' _ _ r z
    subst z
    cases r
    rfl
  refine codeAny_mono ((Fn _ in2 (ns2 hns)).goes callerA [] s₁ H ⟨[.ref a], []⟩ [.ref a] [.ref a] _ _ rfl hr e0 (bd s₁ (.ref a)) (.cons rfl .nil) sp0) ?_
  intro r s' z
  match r, z with
  | .error er, z => exact z.elim
  | .ok .next, z => exact z.elim
  | .ok .brk, z => exact z.elim
  | .ok .cont, z => exact z.elim
  | .ok (.ret u), z =>
    obtain ⟨v, H', os, bare, un, hok', r', q⟩ := z
    have q' : v = .bl true := q
    subst q'
    obtain rfl : u = Value.bool true := r'
    refine ⟨rfl, OldK.of_keep ?_, os, bare⟩
    intro b o z
    cases q : H b with
    | none => exact un.keep b o z q (by intro c; cases c) (by simp)
    | some y =>
      rcases hO b with c | ⟨ob, xs, c⟩
      · rw [q] at c; cases c
      · have c2 := un.frzs b ob _ c
        have d1 := (hok b _ c).1
        have d2 := (hok' b _ c2).1
        rw [z] at d1
        cases d1
        exact d2
theorem last_call (inn : K.In s₁.heap) (hns : s₁.heap.Ns mainGlobals mg) (hb : s₁.heap.Ns builtinsNs mb) (hbb : ∀ x : Str, x ≠ "__name__" → mb x = bootBuiltins x) (hlim : s₁.heap.NoLimit) (hg : s₁.gens = #[])
    (ha : s₁.heap.get? a = some { cls := .type "list", data := .seq vs.toArray }) (hi : IntsAre vs ns) (hl : ns.length ≤ n) (hn : n ≤ sizeLine) (hr : Room k callerA)
    (Fn : ∀ base : Heap, K.In base → base.Ns mainGlobals mg → FnG P w K mg base CX0 k fa fd [x] (SpOf K (spLaw n))) (bd : ∀ (s : Shared) (u : Value), BindsTo s fd ⟨[u], []⟩ [(x, u)]) :
    codeAny (model P w) callerA (.call (.ref fa) ⟨[.ref a], []⟩) (fun r s' => r = .ok (.ret (.bool true)) ∧ OldK s₁.heap s'.heap ∧ s'.os = s₁.os ∧ AllBare s'.gens) s₁ := by
  have rv := vals_ints hi
  have lv := hi.length
  have hz : ns.length ≤ sizeLine := Nat.le_trans hl hn
  cases hk : K.lookup a with
  | some o =>
    have z := inn a o hk
    rw [ha] at z
    cases z
    refine last_core inn hns hb hbb hlim hg ha hl hr Fn bd (fun _ => none) (fun _ => .inl rfl) ?_ (fun b u z => (nomatch z)) (fun b z => absurd rfl z) (fun z => absurd rfl z)
    refine .inr ⟨_, vs.toArray, _, hk, rfl, rfl, rfl, ?_, by simpa using rv⟩
    rw [List.size_toArray, lv]
    exact hz
  | none =>
    let H : Hp := fun b => if b = a then some (.frz { cls := .type "list", data := .seq vs.toArray } (.lst (ns.map V.int))) else none
    have hy : H a = some (.frz { cls := .type "list", data := .seq vs.toArray } (.lst (ns.map V.int))) := if_pos rfl
    have hno : ∀ b, b ≠ a → H b = none := fun b z => if_neg z
    refine last_core inn hns hb hbb hlim hg ha hl hr Fn bd H (fun b => ?_) (.inl (.inr ⟨_, hy⟩)) (fun b u z => ?_) (fun b z => ?_) (fun _ => hk)
    · by_cases c : b = a
      · subst c; exact .inr ⟨_, _, hy⟩
      · exact .inl (hno b c)
    · by_cases c : b = a
      · subst c
        rw [hy] at z
        cases z
        exact ⟨ha, by rw [List.length_map]; exact hz, vs, _, rv, ha⟩
      · rw [hno b c] at z; cases z
    · by_cases c : b = a
      · exact c
      · exact absurd (hno b c) z
end
theorem walk_G {l : PySem.W.OpenLaw} {n k : Nat} {q : Program} {loose : List Str} {XP : (Str → Option Value) → Heap → Prop} {YP : World → Heap → Prop} {d : DefRec} {x : Str}
    (hn : l.most = some n) (hn2 : n ≤ sizeLine) (hdf : d.params.defaults = []) (hr : Room k callerA)
    (Fn : ∀ (w : World) (mg : Str → Option Value) (fa : Addr) (h : Heap), YP w h → h.Ns mainGlobals mg → mg d.name = some (.ref fa) →
      ∃ (K : PySem.W.Frag) (fd : FuncData), K.In h ∧ (∀ (s : Shared) (u : Value), BindsTo s fd ⟨[u], []⟩ [(x, u)]) ∧
        ∀ base : Heap, K.In base → base.Ns mainGlobals mg → FnG l.prog w K mg base CX0 k fa fd [x] (SpOf K (spLaw n))) :
    PySem.W.WalkO q loose XP YP l.row.toRowW d [] (fun f vs => PySem.call f vs) := by
  refine Att.attach_call hn hdf ?_
  intro w s₀ s₁ mg mb fa o pm cd doc a vs ns G Y ho hd hcd hmg hobj hints hlen hg
  obtain ⟨K, fd, inn, bd, hF⟩ := Fn w mg fa _ Y G.T.g hmg
  exact last_call inn G.T.g G.T.b G.T.builtins G.T.nolimit hg hobj hints hlen hn2 hr hF bd
end DL
end
section
set_option Elab.async false
set_option linter.all false
set_option maxRecDepth 100000
set_option maxHeartbeats 4000000
namespace Pace
open PySem PySem.Spec PyProof.Rows L2 DL
section
variable {P : Program} {w : World} {K : PySem.W.Frag} {mg : Str → Option Value} {base : Heap} {C : Addr}
theorem wor_wri {top : Nat} {tot : Bool} {hs ws : List Nat} {rs : List (List Mv)} (w : Wor top tot hs ws rs) (h : top ≤ 5) : Wri hs ws rs := by
  refine ⟨w.val, ?_⟩
  have := sum_le (B := 9) List.length (l := rs) w.row
  have hn := w.n
  rw [flatM_sum]
  have h2 : rs.length * 9 ≤ 5 * 9 := Nat.mul_le_mul_right _ (by omega)
  omega
abbrev Tri := List Nat × List Nat × List (List Mv)
def triR (C : Addr) (t : Tri) : D := rulD C (mkR t.1 t.2.1 t.2.2)
theorem mkR_inj {hs ws hs' ws' : List Nat} {rs rs' : List (List Mv)} : mkR hs ws rs = mkR hs' ws' rs' ↔ hs = hs' ∧ ws = ws' ∧ rs = rs' := by
  constructor
  · intro h
    unfold mkR at h
    injection h with h1 h2 h3
    exact ⟨strOf_inj h1, strOf_inj h2, h3⟩
  · rintro ⟨rfl, rfl, rfl⟩
    rfl
theorem text_iff {hs ws hs' ws' : List Nat} {rs rs' : List (List Mv)} (w : Wri hs ws rs) (w' : Wri hs' ws' rs') {b : Bool} (hb : b = true ↔ mkR hs ws rs = mkR hs' ws' rs') : D.eqv (.bl b) (.bl (D.eqv (.str (strOf (textOf hs ws rs))) (.str (strOf (textOf hs' ws' rs'))))) = true := by
  have e : b = D.eqv (.str (strOf (textOf hs ws rs))) (.str (strOf (textOf hs' ws' rs'))) := by
    rw [Bool.eq_iff_iff, hb, eqv_str, beq_iff_eq, mkR_inj]
    exact ⟨fun ⟨h1, h2, h3⟩ => by rw [h1, h2, h3], fun h => text_inj w w' (strOf_inj h)⟩
  rw [← e]
  cases b <;> rfl
theorem s_q : Str.ofString "q" = strOf [113] := by decide +kernel
theorem s_xz : Str.ofString "xz" = strOf [120, 122] := by decide +kernel
theorem s_y : Str.ofString "y" = sgn 121 := by decide +kernel
def rows2 : List (List Mv) := List.replicate 998 [] ++ [[⟨97, 98, 998⟩]]
def rows3 : List (List Mv) := [⟨97, 120, 9⟩] :: (List.replicate 8 [] ++ [[⟨97, 120, 10⟩, ⟨97, 121, 9⟩, ⟨98, 120, 2⟩], [⟨97, 120, 11⟩], [⟨98, 121, 0⟩]])
def rows4 : List (List Mv) := [[⟨97, 120, 1⟩], [⟨97, 121, 0⟩]]
theorem flat1 (n : Nat) (x : D) : (List.replicate n [x]).flatten = List.replicate n x := by
  induction n with
  | zero => rfl
  | succ n ih => rw [List.replicate_succ, List.flatten_cons, ih, List.replicate_succ]; rfl
theorem rows2_D : D.tup ((List.replicate (Int.toNat 998) [D.tup []]).flatten ++ [D.tup [D.tup [D.str (sgn 97), D.str (sgn 98), D.int 998]]]) = rowsD rows2 := by
  rw [flat1]
  unfold rowsD rows2
  rw [List.map_append, List.map_replicate]
  rfl
theorem rows3_D : D.tup ([D.tup [D.tup [D.str (sgn 97), D.str (sgn 120), D.int 9]]] ++ DL.cutD ((List.replicate (Int.toNat 9) [D.tup []]).flatten ++ [D.tup [D.tup [D.str (sgn 97), D.str (sgn 120), D.int 10], D.tup [D.str (sgn 97), D.str (sgn 121), D.int 9], D.tup [D.str (sgn 98), D.str (sgn 120), D.int 2]], D.tup [D.tup [D.str (sgn 97), D.str (sgn 120), D.int 11]], D.tup [D.tup [D.str (sgn 98), D.str (sgn 121), D.int 0]]]) (some 1) none) = rowsD rows3 := by
  rw [flat1]
  have := cut_drop (List.replicate (Int.toNat 9) (D.tup []) ++ [D.tup [D.tup [D.str (sgn 97), D.str (sgn 120), D.int 10], D.tup [D.str (sgn 97), D.str (sgn 121), D.int 9], D.tup [D.str (sgn 98), D.str (sgn 120), D.int 2]], D.tup [D.tup [D.str (sgn 97), D.str (sgn 120), D.int 11]], D.tup [D.tup [D.str (sgn 98), D.str (sgn 121), D.int 0]]]) 1
  rw [show (some ((1 : Nat) : Int)) = some (1 : Int) from rfl] at this
  rw [this]
  rfl
theorem wri_of {hs ws : List Nat} {rs : List (List Mv)} (lh : lettersB hs = true) (lw : lettersB ws = true) (h1 : hs.length ≤ 26) (h2 : ws.length ≤ 26) (n1 : 1 ≤ rs.length) (n2 : rs.length ≤ 999) (hr : ∀ r ∈ rs, rowB hs ws rs.length r = true ∧ r.length ≤ 5) : Wri hs ws rs := by
  refine ⟨⟨lh, lw, by omega, by omega, n1, n2, fun r h => ⟨(hr r h).1, by have := (hr r h).2; omega⟩⟩, ?_⟩
  have := sum_le (B := 5) List.length (l := rs) fun r h => (hr r h).2
  rw [flatM_sum]
  have h3 : rs.length * 5 ≤ 999 * 5 := Nat.mul_le_mul_right _ n2
  omega
theorem wri1 : Wri [113] [120, 122] [[]] := wri_of (by decide +kernel) (by decide +kernel) (by decide) (by decide) (by decide) (by decide) (by decide)
theorem wri2 : Wri [97] [98] rows2 := by
  have l : rows2.length = 999 := by simp [rows2]
  refine wri_of (by decide +kernel) (by decide +kernel) (by decide) (by decide) (by omega) (by omega) fun r hr => ?_
  rw [l]
  unfold rows2 at hr
  rcases List.mem_append.mp hr with hr | hr
  · rw [(List.mem_replicate.mp hr).2]
    exact ⟨rfl, by decide⟩
  · rw [List.mem_singleton.mp hr]
    exact ⟨by decide +kernel, by decide⟩
theorem wri3 : Wri [97, 98] [120, 121] rows3 := wri_of (by decide +kernel) (by decide +kernel) (by decide) (by decide) (by decide) (by decide) (by decide +kernel)
theorem wri4 : Wri [97] [120, 121] rows4 := wri_of (by decide +kernel) (by decide +kernel) (by decide) (by decide) (by decide) (by decide) (by decide +kernel)
theorem text4 : Str.ofString "rules a xy 2\nmove 0 a x 1\nmove 1 a y 0" = strOf (textOf [97] [120, 121] rows4) := by decide +kernel
def triU (t : Tri) : D := uD t.1 t.2.1 t.2.2
def hand3 : List Tri := [([113], [120, 122], [[]]), ([97], [98], rows2), ([97, 98], [120, 121], rows3)]
theorem hand3_ok : ∀ t ∈ hand3, Wri t.1 t.2.1 t.2.2 := by
  intro t ht
  simp only [hand3, List.mem_cons, List.not_mem_nil, or_false] at ht
  rcases ht with rfl | rfl | rfl
  · exact wri1
  · exact wri2
  · exact wri3
abbrev N_law : List Str := ["_law_script", "_law_deck_here", "_law_past", "_law_go", "_law_w", "_law_code_here", "_law_elder", "_law_some", "_law_lines"]
theorem sc_law : FnScope N_law ["_law_script"] (defScope s_law) := ⟨rfl, rfl, rfl, by decide +kernel, rfl, by decide +kernel, by decide +kernel⟩
theorem c_law {f0 : Addr} {fd0 : FuncData} (T : Txt K mg C) (d : Fun K "law" "law" s_law f0 fd0) (C__law_deck : Cal P w K mg base "_law_deck" 1 ["_law_script"] (spDeck)) (C__law_world : Cal P w K mg base "_law_world" 4 ["_law_deck_here", "_law_top", "_law_is_total"] (spWorld)) (C__law_right : Cal P w K mg base "_law_right" 7 ["_law_w", "_law_bound"] (spRight02 C)) (C__law_code : Cal P w K mg base "_law_code" 6 ["_law_w"] (spCode C)) (Mm__u_str_u_ : CalM P w K mg base C "__str__" 2 ["self"] (spRStr C)) (Mm__u_eq_u_ : CalM P w K mg base C "__eq__" 1 ["self", "other"] (spREq C)) (M_Rules : Mak P w K mg base "Rules" C 4 ["self", "heard", "written", "rows"] (spInit C)) (Cc_read : CalC P w K mg base C "read" 6 ["cls", "text"] (spRead C)) (Ck_read : CalCK P w K mg base C "read" 6 ["cls", "text"] (spRead C) ["text"] [0, 1]) : FnG P w K mg base CX0 8 f0 fd0 ["_law_script"] (SpOf K (spLaw 63)) := by
  refine fn_mk (N := N_law) d sc_law (fun ds G Q h => ?_) (fun cdv A outer s H E hg hr => ?_)
  · obtain ⟨ns, rfl, _⟩ := h
    rfl
  · have hu := hu100 hr
    have nd := sc_law.nd
    have hA := deeper_guards (env := envOfC "law" (defScope s_law) s.heap.objs.size f0 cdv) hg
    refine ⟨_, (dps_cons (dp_par (i := 1) (j := 2) rfl nd (ha := (da_cons (de_cal C__law_deck hA (hr.mono (by decide)) (da_cons (de_var 0) da_nil)) (da_cons (de_lstM da_nil) da_nil))))
  (dps_cons (dp_for PassesOwn.never rfl (di_range1 rfl T.f_range (da_cons de_int da_nil)) (dg_name 3 nd)
  (dps_cons (dp_asg (de_cal C__law_world hA (hr.mono (by decide)) (da_cons (de_var 1) (da_cons de_int (da_cons de_bl da_nil)))) (dg_name 4 nd))
  (dps_cons (dp_if (dt_not (dt_val (de_cal C__law_right hA (hr.mono (by decide)) (da_cons (de_var 4) (da_cons de_int da_nil)))))
  (dps_one (dp_ret de_bl))
  dps_nil)
  (dps_cons (dp_asg (de_cal C__law_code hA (hr.mono (by decide)) (da_cons (de_var 4) da_nil)) (dg_name 5 nd))
  (dps_cons (dp_if (dt_cmp (od_neNil hu) (de_lc (own := [("_law_elder", 6)]) (p := (.nm 6)) rfl nd (di_list (de_var 2)) (blkOk_by (by show blkC N_law (defScope s_law) _ _ = true; decide +kernel)) (by decide) (fun _ _ _ _ _ => pg_name (i := 6) nd rfl (Or.inl rfl)) (fun _ _ _ _ _ => (dts_one (dt_cmp (od_ne hu) (de_cmp (od_eqO Mm__u_eq_u_ hA (hr.mono (by decide))) (de_var 6) (de_var 5) (nomark _)) (de_cmp (od_eq hu) (de_callTy (cd_strO Mm__u_str_u_ hA (hr.mono (by decide))) rfl T.f_str (by decide +kernel) (da_cons (de_var 6) da_nil)) (de_callTy (cd_strO Mm__u_str_u_ hA (hr.mono (by decide))) rfl T.f_str (by decide +kernel) (da_cons (de_var 5) da_nil)) (nomark _)) (nomark _)))) (fun _ _ _ _ _ => de_int)) (de_lst da_nil) (nomark _))
  (dps_one (dp_ret de_bl))
  dps_nil)
  (dps_one (dp_expr (de_bm PySem.F.plainAttrs_list PySem.F.slot_list_append PySem.F.type_list_append md_append (de_var 2) (da_cons (de_var 5) da_nil)))))))))
  (dps_cons (dp_asg (de_lstM (da_cons (de_disp (dpp_cons de_str de_str (dpp_cons de_str de_str (dpp_cons de_str (de_tup (da_cons (de_tup da_nil) da_nil)) dpp_nil)))) da_nil)) (dg_name 7 nd))
  (dps_cons (dp_expr (de_bm PySem.F.plainAttrs_list PySem.F.slot_list_append PySem.F.type_list_append md_append (de_var 7) (da_cons (de_disp (dpp_cons de_str de_str (dpp_cons de_str de_str (dpp_cons de_str (de_op od_add (de_op od_mulT (de_tup (da_cons (de_tup da_nil) da_nil)) de_int) (de_tup (da_cons (de_tup (da_cons (de_tup (da_cons de_str (da_cons de_str (da_cons de_int da_nil)))) da_nil)) da_nil))) dpp_nil)))) da_nil)))
  (dps_cons (dp_asg (de_op od_add (de_op od_mulT (de_tup (da_cons (de_tup da_nil) da_nil)) de_int) (de_tup (da_cons (de_tup (da_cons (de_tup (da_cons de_str (da_cons de_str (da_cons de_int da_nil)))) (da_cons (de_tup (da_cons de_str (da_cons de_str (da_cons de_int da_nil)))) (da_cons (de_tup (da_cons de_str (da_cons de_str (da_cons de_int da_nil)))) da_nil)))) (da_cons (de_tup (da_cons (de_tup (da_cons de_str (da_cons de_str (da_cons de_int da_nil)))) da_nil)) (da_cons (de_tup (da_cons (de_tup (da_cons de_str (da_cons de_str (da_cons de_int da_nil)))) da_nil)) da_nil))))) (dg_name 8 nd))
  (dps_cons (dp_expr (de_bm PySem.F.plainAttrs_list PySem.F.slot_list_append PySem.F.type_list_append md_append (de_var 7) (da_cons (de_disp (dpp_cons de_str de_str (dpp_cons de_str de_str (dpp_cons de_str (de_op od_add (de_tup (da_cons (de_tup (da_cons (de_tup (da_cons de_str (da_cons de_str (da_cons de_int da_nil)))) da_nil)) da_nil)) (de_slice (de_var 8) (do_some de_int) do_none)) dpp_nil)))) da_nil)))
  (dps_cons (dp_if (dt_cmp (od_neNil hu) (de_lc (own := [("_law_w", 4)]) (p := (.nm 4)) rfl nd (di_list (de_var 7)) (blkOk_by (by show blkC N_law (defScope s_law) _ _ = true; decide +kernel)) (by decide) (fun _ _ _ _ _ => pg_name (i := 4) nd rfl (Or.inl rfl)) (fun _ _ _ _ _ => (dts_one (dt_not (dt_val (de_cal C__law_right hA (hr.mono (by decide)) (da_cons (de_var 4) (da_cons de_int da_nil))))))) (fun _ _ _ _ _ => (de_var 4))) (de_lst da_nil) (nomark _))
  (dps_one (dp_ret de_bl))
  dps_nil)
  (dps_cons (dp_asg (de_mak M_Rules hA (hr.mono (by decide)) (da_cons de_str (da_cons de_str (da_cons (de_tup (da_cons (de_tup (da_cons (de_tup (da_cons de_str (da_cons de_str (da_cons de_int da_nil)))) da_nil)) (da_cons (de_tup (da_cons (de_tup (da_cons de_str (da_cons de_str (da_cons de_int da_nil)))) da_nil)) da_nil))) da_nil)))) (dg_name 5 nd))
  (dps_one (dp_ret (de_and (de_cmp (od_eq hu) (de_callTy (cd_strO Mm__u_str_u_ hA (hr.mono (by decide))) rfl T.f_str (by decide +kernel) (da_cons (de_var 5) da_nil)) de_str (nomark _)) (de_one (de_cmp (od_eqO Mm__u_eq_u_ hA (hr.mono (by decide))) (de_calC Cc_read hA (hr.mono (by decide)) (de_cls rfl T.mgR) (da_cons (de_callTy (cd_strO Mm__u_str_u_ hA (hr.mono (by decide))) rfl T.f_str (by decide +kernel) (da_cons (de_var 5) da_nil)) da_nil)) (de_var 5) (nomark _)))))))))))))), fun ds G Q h => ?_⟩
    obtain ⟨ns, rfl, hl, rfl, q⟩ := h
    rw [show dstart N_law [.scr ns] = [some (.scr ns), none, none, none, none, none, none, none, none] from rfl]
    simp only [dxs, dl]
    refine ⟨ns, rfl, (fun _ _ _ _ _ z => by cases z), fun p c hp hc hcp => ?_⟩
    simp only
    have gp0 : shutG (fun _ => none) p c "cells" "ground" "draws" 1000000 p = some (dk 1000000) := gput_same
    generalize shutG (fun _ => none) p c "cells" "ground" "draws" 1000000 = G0 at gp0
    refine ⟨Nat.zero_le _, fun pp hpp => ⟨by decide, by decide, ?_⟩⟩
    have ppp : p ≠ pp := fun e => by rw [← e, gp0] at hpp; cases hpp
    have szs : ∀ k, k ≤ 5000 → k ≤ sizeLine := fun k h => sz h
    refine ⟨fun i S' G' => ∃ (m : Nat) (L : List Tri) (x3 x4 x5 x6 : Option D), S' = [some (.scr ns), some (.rf p), some (.rf pp), x3, x4, x5, x6, none, none] ∧ G' = gput (gput G0 p (dk m)) pp (.lst (L.map (triR C))) ∧ 1000000 ≤ m + 1000 * i ∧ L.length ≤ i ∧ ∀ t ∈ L, Wri t.1 t.2.1 t.2.2,
      ⟨1000000, [], none, none, none, none, rfl, by rw [gput_self gp0]; rfl, by omega, by simp, by simp⟩, fun _ _ _ _ => trivial, ?_, ?_⟩
    · rintro i S' G' dd ⟨m, L, x3, x4, x5, x6, rfl, rfl, hm, hL, hW⟩ hd
      have hi : i < 7 := by have := (List.getElem?_eq_some_iff.mp hd).1; simpa using this
      simp only [dxs, dl]
      obtain ⟨m0, rfl⟩ : ∃ m0, m = m0 + 300 := ⟨m - 300, by omega⟩
      refine ⟨p, 5, m0, false, rfl, by decide, by decide, by rw [gput_ne ppp, gput_same], fun hs ws rs m1 hm1 wo => ?_⟩
      rw [gput_under ppp]
      have wr := wor_wri wo (Nat.le_refl _)
      refine ⟨hs, ws, rs, rfl, wr, ?_⟩
      simp only [Bool.not_true, Bool.false_eq_true, if_false, dxs, dl]
      refine ⟨hs, ws, rs, rfl, wr.val, ?_⟩
      simp only [dxs, dl, gput_same]
      refine lc_someA L (triR C) (fun _ => false) (fun _ => .int 1) rfl (szs _ (by omega)) gput_same (fun t ht => ⟨_, rfl, fun Q z => ?_, fun h => by cases h⟩) ?_
      · have wt := hW t ht
        simp only [dxs, dl, dwipe, List.map_cons, List.map_nil, triR]
        refine ⟨rfl, rfl, mkR t.1 t.2.1 t.2.2, mkR hs ws rs, rfl, fun b hb => ?_⟩
        refine ⟨rfl, t.1, t.2.1, t.2.2, rfl, wt, rfl, hs, ws, rs, rfl, wr, ?_⟩
        refine ⟨okE_str _ _, rfl, ?_⟩
        have e := text_iff wt wr hb
        simp only [D.cur]
        rw [e]
        exact z
      · refine ⟨Nat.zero_le _, ?_⟩
        have ef : (L.filter fun _ => false) = [] := by simp
        rw [ef]
        have en : ∀ (G : GH) (Q : DQ), Q (.bl false) G → rNil true (.lst (List.map (fun _ : Tri => D.int 1) [])) (.lst []) G Q := fun _ _ z => z
        refine en _ _ ?_
        simp only [Bool.false_eq_true, if_false, gput_same]
        have ra : ∀ (d : D) (Q : DQ), ((List.map (triR C) L).length < sizeLine ∧ Q .non (gput (gput (gput G0 p (dk m1)) pp (.lst (List.map (triR C) L))) pp (.lst (List.map (triR C) L ++ [d])))) → rAppendD (.rf pp) [d] (gput (gput G0 p (dk m1)) pp (.lst (List.map (triR C) L))) Q := fun d Q z => by
          unfold rAppendD
          simp only [gput_same]
          exact z
        refine ⟨rfl, ra _ _ ?_⟩
        refine ⟨by rw [List.length_map, sizeLine_eq]; omega, m1, L ++ [(hs, ws, rs)], _, _, _, _, rfl, ?_, by omega, by rw [List.length_append]; simp only [List.length_cons, List.length_nil]; omega, fun t ht => ?_⟩
        · rw [gput_gput, List.map_append]
          rfl
        · rcases List.mem_append.mp ht with ht | ht
          · exact hW t ht
          · rw [List.mem_singleton.mp ht]; exact wr
    · rintro S' G' ⟨m, L, x3, x4, x5, x6, rfl, rfl, hm, hL, hW⟩
      have fr : ∀ G1 : GH, True := fun _ => trivial
      generalize gput (gput G0 p (dk m)) pp (.lst (L.map (triR C))) = G1
      have ra : ∀ (a : Addr) (G : GH) (xs : List D) (d : D) (Q : DQ), G a = some (.lst xs) → xs.length < sizeLine → Q .non (gput G a (.lst (xs ++ [d]))) → rAppendD (.rf a) [d] G Q := fun a G xs d Q h1 h2 z => by
        unfold rAppendD
        simp only [h1]
        exact ⟨h2, z⟩
      simp only [dxs, dl, dx3, sizeLine_eq, Nat.reduceAdd, Nat.reduceLeDiff, true_and, rMulT, rAddD, s_q, s_xz, s_a, s_b, s_x, s_y, s_ab, s_xy, rows2_D, rows3_D]
      show _ ∧ _
      refine ⟨by show 3 ≤ 15; omega, fun ps hps => ⟨rfl, by simp, by decide, by decide, by simp, ?_⟩⟩
      show _ ∧ _
      refine ⟨by show 3 ≤ 15; omega, ra ps _ _ _ _ gput_same (by rw [sizeLine_eq]; show 1 < _; decide) ?_⟩
      simp only [gput_same, gput_gput]
      refine ⟨by simp, by decide, by decide, by simp, rfl, ?_, ?_⟩
      · have cl : ∀ (l : List D) (lo hi : Option Int), (DL.cutD l lo hi).length ≤ l.length := fun l lo hi => ((List.take_sublist _ _).trans (List.drop_sublist _ _)).length_le
        refine Nat.le_trans (Nat.add_le_add_left (cl _ _ _) 1) ?_
        rw [flat1]
        simp
      show _ ∧ _
      refine ⟨by show 3 ≤ 15; omega, ra ps _ _ _ _ gput_same (by rw [sizeLine_eq]; show 2 < _; decide) ?_⟩
      simp only [gput_same, gput_gput]
      refine lc_someA hand3 triU (fun _ => false) triU rfl (szs _ (by decide)) gput_same (fun t ht => ⟨_, rfl, fun Q z => ?_, fun h => by cases h⟩) ?_
      · simp only [dxs, dl, dwipe, List.map_cons, List.map_nil, triU]
        exact ⟨t.1, t.2.1, t.2.2, rfl, hand3_ok t ht, z⟩
      · have ef : (hand3.filter fun _ => false) = [] := by simp
        rw [ef]
        have en : ∀ (G : GH) (Q : DQ), Q (.bl false) G → rNil true (.lst (List.map triU [])) (.lst []) G Q := fun _ _ z => z
        refine en _ _ ?_
        simp only [Bool.false_eq_true, if_false, dxs, dl]
        generalize gput G1 ps _ = G3
        intro y hy
        refine ⟨y, [97], [120, 121], rows4, rfl, gput_same, wri4.val, ?_⟩
        simp only [dxs, dl, gput_gput, gput_same, MO.cold, gdel_gput hy]
        refine ⟨rfl, [97], [120, 121], rows4, rfl, wri4, ?_⟩
        simp only [dxs, dl, text4]
        refine ⟨okE_str _ _, ?_⟩
        rw [if_pos (by rw [eqv_str]; simp)]
        simp only [dCalC, dxs, dl]
        refine ⟨trivial, rfl, [97], [120, 121], rows4, rfl, wri4, [97], [120, 121], rows4, rfl, wri4, ?_⟩
        refine ⟨rfl, rfl, mkR [97] [120, 121] rows4, mkR [97] [120, 121] rows4, rfl, fun b hb => ?_⟩
        rw [hb.mpr rfl]
        exact ⟨_, Sub.refl _, q _⟩
end
end Pace
end
section
set_option Elab.async false
set_option linter.all false
set_option maxRecDepth 100000
set_option maxHeartbeats 4000000
/-! DLhc: a head's hook with a class method. -/
namespace DL
open PySem PySem.Spec PyProof.Rows L2 ClX
def cmP (K : PySem.W.Frag) (C : Addr) (m : Str) : Addr := He.ma K C m
def cmG (K : PySem.W.Frag) (C : Addr) (m : Str) : Addr := match PySem.W.recIn K (cmP K C m) "classmethod" with
  | some (.ref g :: _) => g
  | _ => 0
def cmF (K : PySem.W.Frag) (C : Addr) (m : Str) : Bool := match PySem.W.findCls K (.ref C) (.type "type") m with
  | some (.get (.builtin s) (.ref p) .none (.ref D)) => decide (s = "classmethod.__get__") && (decide (p = cmP K C m) && decide (D = C))
  | _ => false
def cmR (K : PySem.W.Frag) (C : Addr) (m : Str) : Bool := match PySem.W.recIn K (cmP K C m) "classmethod" with
  | some (.ref _ :: _) => true
  | _ => false
def cmB (K : PySem.W.Frag) (C : Addr) (m : Str) : Bool := PySem.W.readsIn K C (.type "type") && (He.eqO (PySem.W.specialIn K (.ref C) "__getattribute__") (some (some (.builtin "type.__getattribute__"))) && (cmF K C m && (cmR K C m && PySem.W.fnIn K (cmG K C m))))
theorem cmB_ok {K : PySem.W.Frag} {C : Addr} {m : Str} (h : cmB K C m = true) : CRead K C (.type "type") ∧ CMet K C (.type "type") m (cmP K C m) (cmG K C m) := by
  unfold cmB at h
  simp only [Bool.and_eq_true] at h
  obtain ⟨h1, h2, h3, h4, h5⟩ := h
  refine ⟨⟨h1, He.eqO_ok h2⟩, ?_, ?_, h5⟩
  · unfold cmF at h3
    split at h3
    · rename_i s p D e
      simp only [Bool.and_eq_true, decide_eq_true_eq] at h3
      obtain ⟨rfl, rfl, rfl⟩ := h3
      exact e
    · cases h3
  · unfold cmR at h4
    unfold cmG
    split at h4
    · rename_i g r e
      exact ⟨r, by rw [e]⟩
    · cases h4
def fnA (K : PySem.W.Frag) (a : Addr) : He.FnW := match K.lookup a with
  | some ⟨_, _, .func fd, _⟩ => some (fd.name, fd.qualname, fd.params, fd.body, fd.scope, fd.globals, fd.closure, fd.builtins)
  | _ => none
def okA (K : PySem.W.Frag) (a : Addr) (d : He.DefD) : Bool := PySem.W.keepIn K (.ref a) && (match K.lookup a with
  | some ⟨_, _, .func fd, _⟩ => PySem.W.codeIn K fd.code d.qual && (He.dflB K fd.defaults (d.dvs K) && He.kwdB K fd.kwdefaults (d.kws K))
  | _ => false)
theorem funA {K : PySem.W.Frag} {a : Addr} {d : He.DefD} (e : fnA K a = d.val) (c : okA K a d = true) : ∃ fd, FunD K d.name d.qual d.params d.body d.scope (d.dvs K) (d.kws K) a fd := by
  obtain ⟨kp, c2⟩ := He.ba c
  unfold fnA at e
  cases q : K.lookup a with
  | none =>
    rw [q] at c2
    cases c2
  | some o =>
    obtain ⟨oc, od, dt, osl⟩ := o
    rw [q] at c2 e
    cases dt with
    | func fd =>
      obtain ⟨n1, n2, n3, n4, n5, n6, n7, n8, n9, n10, n11, n12, n13, n14, n15⟩ := fd
      have e2 : (some (n1, n2, n3, n4, n5, n6, n7, n15) : He.FnW) = some (d.name, d.qual, d.params, .stmts d.body, d.scope, mainGlobals, [], builtinsNs) := e
      simp only [Option.some.injEq, Prod.mk.injEq] at e2
      obtain ⟨h1, h2, h3, h4, h5, h6, h7, h8⟩ := e2
      subst h1 h2 h3 h4 h5 h6 h7 h8
      have c3 : (PySem.W.codeIn K n13 d.qual && (He.dflB K n8 (d.dvs K) && He.kwdB K n9 (d.kws K))) = true := c2
      obtain ⟨k1, k2⟩ := He.ba c3
      obtain ⟨k3, k4⟩ := He.ba k2
      exact ⟨_, ⟨oc, od, n8, n9, n10, n11, n12, n13, n14, osl, rfl, q, k1, He.dflB_ok k3, He.kwdB_ok k4⟩, kp⟩
    | _ => cases c2
abbrev AlC : Type := AlE × He.FnW
def obsC (fa : List He.Fa) (fn : List He.DefD) (ex : PySem.W.Frag → Bool) (d : He.DefD) (K : PySem.W.Frag) : AlC := (obsE fa fn ex K, fnA K (cmG K (He.ga K d.at_.1) d.name))
def obsCG (n : Nat) (fa : List He.Fa) (fn : List He.DefD) (ex : PySem.W.Frag → Bool) (d : He.DefD) (g : Addr → Option Obj) : AlC := obsC fa fn ex d (He.frG g (cStatics :: sysModules :: He.asD g n))
def hookC (n : Nat) (fa : List He.Fa) (fn : List He.DefD) (ex : PySem.W.Frag → Bool) (d : He.DefD) : PySem.W.Hook where
  α := AlC
  obs := fun s => obsCG n fa fn ex d s.heap.get?
  val := fun _ => ((He.valD fn, true), d.val)
  says := fun _ h => ∃ K : PySem.W.Frag, K.In h ∧ He.SaysD fa fn K ∧ ex K = true ∧ fnA K (cmG K (He.ga K d.at_.1) d.name) = d.val
  of := fun _ _ e => ⟨_, He.frG_in, congrArg (fun z : AlC => z.1.1) e, congrArg (fun z : AlC => z.1.2) e, congrArg Prod.snd e⟩
  keeps := fun _ _ _ ⟨K, hK, c⟩ k => ⟨K, PySem.W.Frag.In.keeps hK k, c⟩
theorem obsCG_eq {n : Nat} {fa : List He.Fa} {fn : List He.DefD} {ex : PySem.W.Frag → Bool} {d : He.DefD} {g : Addr → Option Obj} {s : Shared} (h : ∀ a, g a = s.heap.get? a) : obsCG n fa fn ex d g = (hookC n fa fn ex d).obs s := by
  have e : g = s.heap.get? := funext h
  rw [e] <;> rfl
end DL
end
section
set_option Elab.async false
set_option linter.all false
set_option maxRecDepth 100000
set_option maxHeartbeats 0
namespace Pace
open PySem PySem.Spec PyProof.Rows L2 DL
def d_Rules_read : He.DefD := ⟨("Rules", some "read"), "read", "Rules.read", defArgs s_Rules_read, defBody s_Rules_read, defScope s_Rules_read, [], []⟩
def d__wall : He.DefD := ⟨("_wall", none), "_wall", "_wall", defArgs s__wall, defBody s__wall, defScope s__wall, [], []⟩
def d_are_letters : He.DefD := ⟨("are_letters", none), "are_letters", "are_letters", defArgs s_are_letters, defBody s_are_letters, defScope s_are_letters, [], []⟩
def d_number_in : He.DefD := ⟨("number_in", none), "number_in", "number_in", defArgs s_number_in, defBody s_number_in, defScope s_number_in, [], []⟩
def d_text_of : He.DefD := ⟨("text_of", none), "text_of", "text_of", defArgs s_text_of, defBody s_text_of, defScope s_text_of, [], []⟩
def d_first_line : He.DefD := ⟨("first_line", none), "first_line", "first_line", defArgs s_first_line, defBody s_first_line, defScope s_first_line, [], []⟩
def d_move_line : He.DefD := ⟨("move_line", none), "move_line", "move_line", defArgs s_move_line, defBody s_move_line, defScope s_move_line, [], []⟩
def d_parts_in : He.DefD := ⟨("parts_in", none), "parts_in", "parts_in", defArgs s_parts_in, defBody s_parts_in, defScope s_parts_in, [], []⟩
def d_is_integer : He.DefD := ⟨("is_integer", none), "is_integer", "is_integer", defArgs s_is_integer, defBody s_is_integer, defScope s_is_integer, [], []⟩
def d_is_letter_of : He.DefD := ⟨("is_letter_of", none), "is_letter_of", "is_letter_of", defArgs s_is_letter_of, defBody s_is_letter_of, defScope s_is_letter_of, [], []⟩
def d_is_move : He.DefD := ⟨("is_move", none), "is_move", "is_move", defArgs s_is_move, defBody s_is_move, defScope s_is_move, [], []⟩
def d_is_row : He.DefD := ⟨("is_row", none), "is_row", "is_row", defArgs s_is_row, defBody s_is_row, defScope s_is_row, [], []⟩
def d_steps_of : He.DefD := ⟨("steps_of", none), "steps_of", "steps_of", defArgs s_steps_of, defBody s_steps_of, defScope s_steps_of, [], []⟩
def d_states_met : He.DefD := ⟨("states_met", none), "states_met", "states_met", defArgs s_states_met, defBody s_states_met, defScope s_states_met, [], []⟩
def d_classes_of : He.DefD := ⟨("classes_of", none), "classes_of", "classes_of", defArgs s_classes_of, defBody s_classes_of, defScope s_classes_of, [], []⟩
def d_least_rows : He.DefD := ⟨("least_rows", none), "least_rows", "least_rows", defArgs s_least_rows, defBody s_least_rows, defScope s_least_rows, [], []⟩
def d_step_at : He.DefD := ⟨("step_at", none), "step_at", "step_at", defArgs s_step_at, defBody s_step_at, defScope s_step_at, [], []⟩
def d_paired_steps : He.DefD := ⟨("paired_steps", none), "paired_steps", "paired_steps", defArgs s_paired_steps, defBody s_paired_steps, defScope s_paired_steps, [], []⟩
def d_one_keys : He.DefD := ⟨("one_keys", none), "one_keys", "one_keys", defArgs s_one_keys, defBody s_one_keys, defScope s_one_keys, [], []⟩
def d_check_letters : He.DefD := ⟨("check_letters", none), "check_letters", "check_letters", defArgs s_check_letters, defBody s_check_letters, defScope s_check_letters, [], []⟩
def d__law_deck : He.DefD := ⟨("_law_deck", none), "_law_deck", "_law_deck", defArgs s__law_deck, defBody s__law_deck, defScope s__law_deck, [], []⟩
def d__law_draw : He.DefD := ⟨("_law_draw", none), "_law_draw", "_law_draw", defArgs s__law_draw, defBody s__law_draw, defScope s__law_draw, [], []⟩
def d__law_pick : He.DefD := ⟨("_law_pick", none), "_law_pick", "_law_pick", defArgs s__law_pick, defBody s__law_pick, defScope s__law_pick, [], []⟩
def d__law_signs : He.DefD := ⟨("_law_signs", none), "_law_signs", "_law_signs", defArgs s__law_signs, defBody s__law_signs, defScope s__law_signs, [], []⟩
def d__law_world : He.DefD := ⟨("_law_world", none), "_law_world", "_law_world", defArgs s__law_world, defBody s__law_world, defScope s__law_world, [], []⟩
def d__law_code : He.DefD := ⟨("_law_code", none), "_law_code", "_law_code", defArgs s__law_code, defBody s__law_code, defScope s__law_code, [], []⟩
def d__law_led : He.DefD := ⟨("_law_led", none), "_law_led", "_law_led", defArgs s__law_led, defBody s__law_led, defScope s__law_led, [], []⟩
def d__law_texts : He.DefD := ⟨("_law_texts", none), "_law_texts", "_law_texts", defArgs s__law_texts, defBody s__law_texts, defScope s__law_texts, [], []⟩
def d__law_written : He.DefD := ⟨("_law_written", none), "_law_written", "_law_written", defArgs s__law_written, defBody s__law_written, defScope s__law_written, [], []⟩
def d__law_right : He.DefD := ⟨("_law_right", none), "_law_right", "_law_right", defArgs s__law_right, defBody s__law_right, defScope s__law_right, [], []⟩
def d_law : He.DefD := ⟨("law", none), "law", "law", defArgs s_law, defBody s_law, defScope s_law, [], []⟩
def d_RI : He.DefD := ⟨("Rules", some "__init__"), "__init__", "Rules.__init__", defArgs s_Rules_u__init_u_, defBody s_Rules_u__init_u_, defScope s_Rules_u__init_u_, [], []⟩
def d_Rules_u__eq_u_ : He.DefD := ⟨("Rules", some "__eq__"), "__eq__", "Rules.__eq__", defArgs s_Rules_u__eq_u_, defBody s_Rules_u__eq_u_, defScope s_Rules_u__eq_u_, [], []⟩
def d_Rules_u__len_u_ : He.DefD := ⟨("Rules", some "__len__"), "__len__", "Rules.__len__", defArgs s_Rules_u__len_u_, defBody s_Rules_u__len_u_, defScope s_Rules_u__len_u_, [], []⟩
def d_Rules_led : He.DefD := ⟨("Rules", some "led"), "led", "Rules.led", defArgs s_Rules_led, defBody s_Rules_led, defScope s_Rules_led, [], []⟩
def d_Rules_u__str_u_ : He.DefD := ⟨("Rules", some "__str__"), "__str__", "Rules.__str__", defArgs s_Rules_u__str_u_, defBody s_Rules_u__str_u_, defScope s_Rules_u__str_u_, [], []⟩
def hfn0 : List He.DefD := [d__wall, d_are_letters, d_number_in, d_text_of, d_first_line, d_move_line, d_parts_in, d_is_integer, d_is_letter_of, d_is_move, d_is_row, d_steps_of, d_states_met, d_classes_of, d_least_rows, d_step_at, d_paired_steps, d_one_keys, d_check_letters, d__law_deck]
def hfn1 : List He.DefD := [d__law_draw, d__law_pick, d__law_signs, d__law_world, d__law_code, d__law_led, d__law_texts, d__law_written, d__law_right, d_law, d_RI, d_Rules_u__eq_u_, d_Rules_u__len_u_, d_Rules_led, d_Rules_u__str_u_]
def hfn : List He.DefD := hfn0 ++ hfn1
def hfa0 : List He.Fa := [.glo "_wall", .glo "are_letters", .glo "number_in", .glo "text_of", .glo "first_line", .glo "move_line", .glo "parts_in", .glo "is_integer", .glo "is_letter_of", .glo "is_move", .glo "is_row", .glo "steps_of", .glo "states_met", .glo "classes_of", .glo "least_rows", .glo "step_at", .glo "paired_steps", .glo "one_keys", .glo "check_letters", .glo "_law_deck"]
def hfa1 : List He.Fa := [.glo "_law_draw", .glo "_law_pick", .glo "_law_signs", .glo "_law_world", .glo "_law_code", .glo "_law_led", .glo "_law_texts", .glo "_law_written", .glo "_law_right", .glo "law", .free "Exception", .free "classmethod", .free "all", .free "enumerate", .free "dict", .free "tuple", .free "range", .free "zip", .free "isinstance", .free "str"]
def hfa2 : List He.Fa := [.free "int", .free "len", .free "sorted", .free "list", .free "sum", .free "bool", .free "set", .free "repr", .free "super", .str "RULES_WORD" "rules", .str "MOVE_WORD" "move", .str "BREAK" "\n", .str "BLANK" " ", .str "DIGITS" "0123456789", .int "MOST_DIGITS" (3), .int "FIRST_PARTS" (4), .int "MOVE_PARTS_ruletexts" (5), .str "LETTERS" "abcdefghijklmnopqrstuvwxyz", .int "MOST_STATES" (999), .int "MOVE_PARTS_rules" (3)]
def hfa3 : List He.Fa := [.int "NOWHERE" (-1), .glo "Rules", .cls "Rules", .mkr "Rules", .noat "Rules" "heard", .noat "Rules" "written", .noat "Rules" "rows", .noat "Rules" "steps", .meth "Rules" "__eq__", .meth "Rules" "__len__", .meth "Rules" "led", .meth "Rules" "__str__"]
def hfa : List He.Fa := hfa0 ++ hfa1 ++ hfa2 ++ hfa3
def hnm0 : List PySem.Str := ["_wall", "CaptionError", "BadRules", "BadText", "OtherLetters", "RULES_WORD", "MOVE_WORD", "BREAK", "BLANK", "DIGITS", "MOST_DIGITS", "FIRST_PARTS", "MOVE_PARTS_ruletexts", "LETTERS", "are_letters", "number_in", "text_of", "first_line", "move_line", "parts_in"]
def hnm1 : List PySem.Str := ["MOST_STATES", "MOVE_PARTS_rules", "NOWHERE", "is_integer", "is_letter_of", "is_move", "is_row", "steps_of", "states_met", "classes_of", "least_rows", "step_at", "paired_steps", "one_keys", "check_letters", "Rules", "_law_deck", "_law_draw", "_law_pick", "_law_signs"]
def hnm2 : List PySem.Str := ["_law_world", "_law_code", "_law_led", "_law_texts", "_law_written", "_law_right"]
def hnm : List PySem.Str := hnm0 ++ hnm1 ++ hnm2
abbrev hR : PySem.W.OpenRow := PySem.W.OpenLaw.row PySem.Challenge.rw_pacehouse_k02_texts_of_rules
def hex (K : PySem.W.Frag) : Bool := (insB K (He.ga K "Rules") && neB K (He.ga K "Rules")) && (sysB K && (cmB K (He.ga K "Rules") "read" && okA K (cmG K (He.ga K "Rules") "read") d_Rules_read))
abbrev hhk : PySem.W.Hook := hookC 6 hfa hfn hex d_Rules_read
def hob (s : PySem.W.SharedT) : AlC := obsCG 6 hfa hfn hex d_Rules_read (HandSHeadRun.getT s)
theorem hob_eq (s : PySem.W.SharedT) : hob s = hhk.obs s.abs := obsCG_eq (HandSHeadRun.getT_eq s)
theorem hrun (w : World) : HandSHeadRun.RunEq hR (PySem.W.view hR.prog [50]) hhk hob 20000 hnm w := by
  intro os
  kernel_rfl
theorem htxt {K : PySem.W.Frag} {h : Heap} {mg : Str → Option Value} (X : K.In h) (G : h.Ns mainGlobals mg) (c : He.SaysD hfa hfn K) (cx : hex K = true) : Txt K mg (He.ga K "Rules") where
  f_Exception := He.free_ok X G (c.fact 30 (f := .free "Exception") rfl)
  f_classmethod := He.free_ok X G (c.fact 31 (f := .free "classmethod") rfl)
  f_all := He.free_ok X G (c.fact 32 (f := .free "all") rfl)
  f_enumerate := He.free_ok X G (c.fact 33 (f := .free "enumerate") rfl)
  f_dict := He.free_ok X G (c.fact 34 (f := .free "dict") rfl)
  f_tuple := He.free_ok X G (c.fact 35 (f := .free "tuple") rfl)
  f_range := He.free_ok X G (c.fact 36 (f := .free "range") rfl)
  f_zip := He.free_ok X G (c.fact 37 (f := .free "zip") rfl)
  f_isinstance := He.free_ok X G (c.fact 38 (f := .free "isinstance") rfl)
  f_str := He.free_ok X G (c.fact 39 (f := .free "str") rfl)
  f_int := He.free_ok X G (c.fact 40 (f := .free "int") rfl)
  f_len := He.free_ok X G (c.fact 41 (f := .free "len") rfl)
  f_sorted := He.free_ok X G (c.fact 42 (f := .free "sorted") rfl)
  f_list := He.free_ok X G (c.fact 43 (f := .free "list") rfl)
  f_sum := He.free_ok X G (c.fact 44 (f := .free "sum") rfl)
  f_bool := He.free_ok X G (c.fact 45 (f := .free "bool") rfl)
  f_set := He.free_ok X G (c.fact 46 (f := .free "set") rfl)
  f_repr := He.free_ok X G (c.fact 47 (f := .free "repr") rfl)
  f_super := He.free_ok X G (c.fact 48 (f := .free "super") rfl)
  c_RULES_WORD := He.str_ok X G (c.fact 49 (f := .str "RULES_WORD" "rules") rfl)
  c_MOVE_WORD := He.str_ok X G (c.fact 50 (f := .str "MOVE_WORD" "move") rfl)
  c_BREAK := He.str_ok X G (c.fact 51 (f := .str "BREAK" "\n") rfl)
  c_BLANK := He.str_ok X G (c.fact 52 (f := .str "BLANK" " ") rfl)
  c_DIGITS := He.str_ok X G (c.fact 53 (f := .str "DIGITS" "0123456789") rfl)
  c_MOST_DIGITS := He.int_ok X G (c.fact 54 (f := .int "MOST_DIGITS" (3)) rfl)
  c_FIRST_PARTS := He.int_ok X G (c.fact 55 (f := .int "FIRST_PARTS" (4)) rfl)
  c_MOVE_PARTS_ruletexts := He.int_ok X G (c.fact 56 (f := .int "MOVE_PARTS_ruletexts" (5)) rfl)
  c_LETTERS := He.str_ok X G (c.fact 57 (f := .str "LETTERS" "abcdefghijklmnopqrstuvwxyz") rfl)
  c_MOST_STATES := He.int_ok X G (c.fact 58 (f := .int "MOST_STATES" (999)) rfl)
  c_MOVE_PARTS_rules := He.int_ok X G (c.fact 59 (f := .int "MOVE_PARTS_rules" (3)) rfl)
  c_NOWHERE := He.int_ok X G (c.fact 60 (f := .int "NOWHERE" (-1)) rfl)
  clR := He.cls_ok (c.fact 62 (f := .cls "Rules") rfl)
  mgR := He.glo_ok X G (c.fact 61 (f := .glo "Rules") rfl)
  insR := insB_ok (He.cls_ok (c.fact 62 (f := .cls "Rules") rfl)) (Bool.and_eq_true_iff.mp (Bool.and_eq_true_iff.mp cx).1).1
  neR := neB_ok (Bool.and_eq_true_iff.mp (Bool.and_eq_true_iff.mp cx).1).2
  sysM := sysB_ok (Bool.and_eq_true_iff.mp (Bool.and_eq_true_iff.mp cx).2).1
  no_heard := He.noat_ok (c.fact 64 (f := .noat "Rules" "heard") rfl)
  no_written := He.noat_ok (c.fact 65 (f := .noat "Rules" "written") rfl)
  no_rows := He.noat_ok (c.fact 66 (f := .noat "Rules" "rows") rfl)
  no_steps := He.noat_ok (c.fact 67 (f := .noat "Rules" "steps") rfl)
theorem hd_is_integer {K : PySem.W.Frag} {h : Heap} {mg : Str → Option Value} (X : K.In h) (G : h.Ns mainGlobals mg) (c : He.SaysD hfa hfn K) : Def K mg "is_integer" s_is_integer := by
  obtain ⟨fd, F⟩ := c.def_ 7 (d := d_is_integer) rfl
  exact ⟨_, fd, He5.fun_of F, He.glo_ok X G (c.fact 7 (f := .glo "is_integer") rfl)⟩
theorem hd_is_letter_of {K : PySem.W.Frag} {h : Heap} {mg : Str → Option Value} (X : K.In h) (G : h.Ns mainGlobals mg) (c : He.SaysD hfa hfn K) : Def K mg "is_letter_of" s_is_letter_of := by
  obtain ⟨fd, F⟩ := c.def_ 8 (d := d_is_letter_of) rfl
  exact ⟨_, fd, He5.fun_of F, He.glo_ok X G (c.fact 8 (f := .glo "is_letter_of") rfl)⟩
theorem hd_are_letters {K : PySem.W.Frag} {h : Heap} {mg : Str → Option Value} (X : K.In h) (G : h.Ns mainGlobals mg) (c : He.SaysD hfa hfn K) : Def K mg "are_letters" s_are_letters := by
  obtain ⟨fd, F⟩ := c.def_ 1 (d := d_are_letters) rfl
  exact ⟨_, fd, He5.fun_of F, He.glo_ok X G (c.fact 1 (f := .glo "are_letters") rfl)⟩
theorem hd_is_move {K : PySem.W.Frag} {h : Heap} {mg : Str → Option Value} (X : K.In h) (G : h.Ns mainGlobals mg) (c : He.SaysD hfa hfn K) : Def K mg "is_move" s_is_move := by
  obtain ⟨fd, F⟩ := c.def_ 9 (d := d_is_move) rfl
  exact ⟨_, fd, He5.fun_of F, He.glo_ok X G (c.fact 9 (f := .glo "is_move") rfl)⟩
theorem hd_is_row {K : PySem.W.Frag} {h : Heap} {mg : Str → Option Value} (X : K.In h) (G : h.Ns mainGlobals mg) (c : He.SaysD hfa hfn K) : Def K mg "is_row" s_is_row := by
  obtain ⟨fd, F⟩ := c.def_ 10 (d := d_is_row) rfl
  exact ⟨_, fd, He5.fun_of F, He.glo_ok X G (c.fact 10 (f := .glo "is_row") rfl)⟩
theorem hd_steps_of {K : PySem.W.Frag} {h : Heap} {mg : Str → Option Value} (X : K.In h) (G : h.Ns mainGlobals mg) (c : He.SaysD hfa hfn K) : Def K mg "steps_of" s_steps_of := by
  obtain ⟨fd, F⟩ := c.def_ 11 (d := d_steps_of) rfl
  exact ⟨_, fd, He5.fun_of F, He.glo_ok X G (c.fact 11 (f := .glo "steps_of") rfl)⟩
theorem hd_Rules_u__init_u_ {K : PySem.W.Frag} (c : He.SaysD hfa hfn K) : DefI K (He.ga K "Rules") "Rules.__init__" s_Rules_u__init_u_ := by
  obtain ⟨fd, F⟩ := c.def_ 30 (d := d_RI) rfl
  exact ⟨_, fd, He5.fun_of F, He.mkr_ok (c.fact 63 (f := .mkr "Rules") rfl)⟩
theorem hd_Rules_u__eq_u_ {K : PySem.W.Frag} (c : He.SaysD hfa hfn K) : DefM K (He.ga K "Rules") "__eq__" "Rules.__eq__" s_Rules_u__eq_u_ := by
  obtain ⟨fd, F⟩ := c.def_ 31 (d := d_Rules_u__eq_u_) rfl
  exact ⟨_, fd, He5.fun_of F, He.meth_ok (c.fact 68 (f := .meth "Rules" "__eq__") rfl)⟩
theorem hd_Rules_u__len_u_ {K : PySem.W.Frag} (c : He.SaysD hfa hfn K) : DefM K (He.ga K "Rules") "__len__" "Rules.__len__" s_Rules_u__len_u_ := by
  obtain ⟨fd, F⟩ := c.def_ 32 (d := d_Rules_u__len_u_) rfl
  exact ⟨_, fd, He5.fun_of F, He.meth_ok (c.fact 69 (f := .meth "Rules" "__len__") rfl)⟩
theorem hd_Rules_led {K : PySem.W.Frag} (c : He.SaysD hfa hfn K) : DefM K (He.ga K "Rules") "led" "Rules.led" s_Rules_led := by
  obtain ⟨fd, F⟩ := c.def_ 33 (d := d_Rules_led) rfl
  exact ⟨_, fd, He5.fun_of F, He.meth_ok (c.fact 70 (f := .meth "Rules" "led") rfl)⟩
theorem hd__law_draw {K : PySem.W.Frag} {h : Heap} {mg : Str → Option Value} (X : K.In h) (G : h.Ns mainGlobals mg) (c : He.SaysD hfa hfn K) : Def K mg "_law_draw" s__law_draw := by
  obtain ⟨fd, F⟩ := c.def_ 20 (d := d__law_draw) rfl
  exact ⟨_, fd, He5.fun_of F, He.glo_ok X G (c.fact 20 (f := .glo "_law_draw") rfl)⟩
theorem hd__law_pick {K : PySem.W.Frag} {h : Heap} {mg : Str → Option Value} (X : K.In h) (G : h.Ns mainGlobals mg) (c : He.SaysD hfa hfn K) : Def K mg "_law_pick" s__law_pick := by
  obtain ⟨fd, F⟩ := c.def_ 21 (d := d__law_pick) rfl
  exact ⟨_, fd, He5.fun_of F, He.glo_ok X G (c.fact 21 (f := .glo "_law_pick") rfl)⟩
theorem hd__law_deck {K : PySem.W.Frag} {h : Heap} {mg : Str → Option Value} (X : K.In h) (G : h.Ns mainGlobals mg) (c : He.SaysD hfa hfn K) : Def K mg "_law_deck" s__law_deck := by
  obtain ⟨fd, F⟩ := c.def_ 19 (d := d__law_deck) rfl
  exact ⟨_, fd, He5.fun_of F, He.glo_ok X G (c.fact 19 (f := .glo "_law_deck") rfl)⟩
theorem hd__law_signs {K : PySem.W.Frag} {h : Heap} {mg : Str → Option Value} (X : K.In h) (G : h.Ns mainGlobals mg) (c : He.SaysD hfa hfn K) : Def K mg "_law_signs" s__law_signs := by
  obtain ⟨fd, F⟩ := c.def_ 22 (d := d__law_signs) rfl
  exact ⟨_, fd, He5.fun_of F, He.glo_ok X G (c.fact 22 (f := .glo "_law_signs") rfl)⟩
theorem hd__law_world {K : PySem.W.Frag} {h : Heap} {mg : Str → Option Value} (X : K.In h) (G : h.Ns mainGlobals mg) (c : He.SaysD hfa hfn K) : Def K mg "_law_world" s__law_world := by
  obtain ⟨fd, F⟩ := c.def_ 23 (d := d__law_world) rfl
  exact ⟨_, fd, He5.fun_of F, He.glo_ok X G (c.fact 23 (f := .glo "_law_world") rfl)⟩
theorem hd__law_code {K : PySem.W.Frag} {h : Heap} {mg : Str → Option Value} (X : K.In h) (G : h.Ns mainGlobals mg) (c : He.SaysD hfa hfn K) : Def K mg "_law_code" s__law_code := by
  obtain ⟨fd, F⟩ := c.def_ 24 (d := d__law_code) rfl
  exact ⟨_, fd, He5.fun_of F, He.glo_ok X G (c.fact 24 (f := .glo "_law_code") rfl)⟩
theorem hd__law_texts {K : PySem.W.Frag} {h : Heap} {mg : Str → Option Value} (X : K.In h) (G : h.Ns mainGlobals mg) (c : He.SaysD hfa hfn K) : Def K mg "_law_texts" s__law_texts := by
  obtain ⟨fd, F⟩ := c.def_ 26 (d := d__law_texts) rfl
  exact ⟨_, fd, He5.fun_of F, He.glo_ok X G (c.fact 26 (f := .glo "_law_texts") rfl)⟩
theorem hd__law_led {K : PySem.W.Frag} {h : Heap} {mg : Str → Option Value} (X : K.In h) (G : h.Ns mainGlobals mg) (c : He.SaysD hfa hfn K) : Def K mg "_law_led" s__law_led := by
  obtain ⟨fd, F⟩ := c.def_ 25 (d := d__law_led) rfl
  exact ⟨_, fd, He5.fun_of F, He.glo_ok X G (c.fact 25 (f := .glo "_law_led") rfl)⟩
theorem hd_text_of {K : PySem.W.Frag} {h : Heap} {mg : Str → Option Value} (X : K.In h) (G : h.Ns mainGlobals mg) (c : He.SaysD hfa hfn K) : Def K mg "text_of" s_text_of := by
  obtain ⟨fd, F⟩ := c.def_ 3 (d := d_text_of) rfl
  exact ⟨_, fd, He5.fun_of F, He.glo_ok X G (c.fact 3 (f := .glo "text_of") rfl)⟩
theorem hd_Rules_u__str_u_ {K : PySem.W.Frag} (c : He.SaysD hfa hfn K) : DefM K (He.ga K "Rules") "__str__" "Rules.__str__" s_Rules_u__str_u_ := by
  obtain ⟨fd, F⟩ := c.def_ 34 (d := d_Rules_u__str_u_) rfl
  exact ⟨_, fd, He5.fun_of F, He.meth_ok (c.fact 71 (f := .meth "Rules" "__str__") rfl)⟩
theorem hd_number_in {K : PySem.W.Frag} {h : Heap} {mg : Str → Option Value} (X : K.In h) (G : h.Ns mainGlobals mg) (c : He.SaysD hfa hfn K) : Def K mg "number_in" s_number_in := by
  obtain ⟨fd, F⟩ := c.def_ 2 (d := d_number_in) rfl
  exact ⟨_, fd, He5.fun_of F, He.glo_ok X G (c.fact 2 (f := .glo "number_in") rfl)⟩
theorem hd_first_line {K : PySem.W.Frag} {h : Heap} {mg : Str → Option Value} (X : K.In h) (G : h.Ns mainGlobals mg) (c : He.SaysD hfa hfn K) : Def K mg "first_line" s_first_line := by
  obtain ⟨fd, F⟩ := c.def_ 4 (d := d_first_line) rfl
  exact ⟨_, fd, He5.fun_of F, He.glo_ok X G (c.fact 4 (f := .glo "first_line") rfl)⟩
theorem hd_move_line {K : PySem.W.Frag} {h : Heap} {mg : Str → Option Value} (X : K.In h) (G : h.Ns mainGlobals mg) (c : He.SaysD hfa hfn K) : Def K mg "move_line" s_move_line := by
  obtain ⟨fd, F⟩ := c.def_ 5 (d := d_move_line) rfl
  exact ⟨_, fd, He5.fun_of F, He.glo_ok X G (c.fact 5 (f := .glo "move_line") rfl)⟩
theorem hd_parts_in {K : PySem.W.Frag} {h : Heap} {mg : Str → Option Value} (X : K.In h) (G : h.Ns mainGlobals mg) (c : He.SaysD hfa hfn K) : Def K mg "parts_in" s_parts_in := by
  obtain ⟨fd, F⟩ := c.def_ 6 (d := d_parts_in) rfl
  exact ⟨_, fd, He5.fun_of F, He.glo_ok X G (c.fact 6 (f := .glo "parts_in") rfl)⟩
theorem hd_Rules_read {K : PySem.W.Frag} (cx : hex K = true) (ce : fnA K (cmG K (He.ga K "Rules") "read") = d_Rules_read.val) : DefC K (He.ga K "Rules") "read" "Rules.read" s_Rules_read := by
  have h := Bool.and_eq_true_iff.mp (Bool.and_eq_true_iff.mp (Bool.and_eq_true_iff.mp cx).2).2
  obtain ⟨fd, F⟩ := funA ce h.2
  obtain ⟨cr, cm⟩ := cmB_ok h.1
  exact ⟨_, _, _, fd, He5.fun_of F, cr, cm⟩
theorem hd__law_written {K : PySem.W.Frag} {h : Heap} {mg : Str → Option Value} (X : K.In h) (G : h.Ns mainGlobals mg) (c : He.SaysD hfa hfn K) : Def K mg "_law_written" s__law_written := by
  obtain ⟨fd, F⟩ := c.def_ 27 (d := d__law_written) rfl
  exact ⟨_, fd, He5.fun_of F, He.glo_ok X G (c.fact 27 (f := .glo "_law_written") rfl)⟩
theorem hd__law_right {K : PySem.W.Frag} {h : Heap} {mg : Str → Option Value} (X : K.In h) (G : h.Ns mainGlobals mg) (c : He.SaysD hfa hfn K) : Def K mg "_law_right" s__law_right := by
  obtain ⟨fd, F⟩ := c.def_ 28 (d := d__law_right) rfl
  exact ⟨_, fd, He5.fun_of F, He.glo_ok X G (c.fact 28 (f := .glo "_law_right") rfl)⟩
theorem hfacts {P : Program} {w : World} {K : PySem.W.Frag} {h : Heap} {mg : Str → Option Value} {f : Addr} (X : K.In h) (G : h.Ns mainGlobals mg) (hfa0 : mg ("law" : Str) = some (.ref f)) (c : He.SaysD hfa hfn K) (cx : hex K = true) (ce : fnA K (cmG K (He.ga K "Rules") "read") = d_Rules_read.val) :
    ∃ fd : FuncData, (∀ (s : Shared) (v : Value), BindsTo s fd ⟨[v], []⟩ [("_law_script", v)]) ∧ ∀ base : Heap, K.In base → base.Ns mainGlobals mg → FnG P w K mg base CX0 8 f fd ["_law_script"] (SpOf K (spLaw 63)) := by
  obtain ⟨fd, F⟩ := c.def_ 29 (d := d_law) rfl
  have e := hfa0.symm.trans (He.glo_ok X G (c.fact 29 (f := .glo "law") rfl))
  cases e
  have b := FunD.bindsA (ps := ["_law_script"]) F fun _ _ _ _ _ _ us hl => match us, hl with | [_], _ => rfl
  have T := htxt X G c cx
  refine ⟨fd, fun s v => b s [v] rfl, fun base _ _ => ?_⟩
  have q_is_integer := c_is_integer (P := P) (w := w) (base := base) T (hd_is_integer X G c)
  have q_is_letter_of := c_is_letter_of (P := P) (w := w) (base := base) T (hd_is_letter_of X G c)
  have q_are_letters := c_are_letters (P := P) (w := w) (base := base) T (hd_are_letters X G c)
  have q_is_move := c_is_move (P := P) (w := w) (base := base) T (hd_is_move X G c) q_is_letter_of q_is_integer
  have q_is_row := c_is_row (P := P) (w := w) (base := base) T (hd_is_row X G c) q_is_move
  have q_steps_of := c_steps_of (P := P) (w := w) (base := base) T (hd_steps_of X G c)
  have q_Rules_u__init_u_ := c_Rules_u__init_u_ (P := P) (w := w) (base := base) T (hd_Rules_u__init_u_ c) q_are_letters q_is_row q_steps_of
  have q_Rules_u__eq_u_ := c_Rules_u__eq_u_ (P := P) (w := w) (base := base) T (hd_Rules_u__eq_u_ c)
  have q_Rules_u__len_u_ := c_Rules_u__len_u_ (P := P) (w := w) (base := base) T (hd_Rules_u__len_u_ c)
  have q_Rules_led := c_Rules_led (P := P) (w := w) (base := base) T (hd_Rules_led c)
  have q__law_draw := c__law_draw (P := P) (w := w) (base := base) T (hd__law_draw X G c)
  have q__law_pick := c__law_pick (P := P) (w := w) (base := base) T (hd__law_pick X G c) q__law_draw
  have q__law_deck := c__law_deck (P := P) (w := w) (base := base) T (hd__law_deck X G c)
  have q__law_signs := c__law_signs (P := P) (w := w) (base := base) T (hd__law_signs X G c) q__law_pick q__law_draw
  have q__law_world := c__law_world (P := P) (w := w) (base := base) T (hd__law_world X G c) q__law_signs q__law_pick q__law_draw
  have q__law_code := c__law_code (P := P) (w := w) (base := base) T (hd__law_code X G c) q_Rules_u__init_u_
  have q__law_texts := c__law_texts (P := P) (w := w) (base := base) T (hd__law_texts X G c)
  have q__law_led := c__law_led (P := P) (w := w) (base := base) T (hd__law_led X G c)
  have q_text_of := c_text_of (P := P) (w := w) (base := base) T (hd_text_of X G c)
  have q_Rules_u__str_u_ := c_Rules_u__str_u_ (P := P) (w := w) (base := base) T (hd_Rules_u__str_u_ c) q_text_of
  have q_number_in := c_number_in (P := P) (w := w) (base := base) T (hd_number_in X G c)
  have q_first_line := c_first_line (P := P) (w := w) (base := base) T (hd_first_line X G c) q_number_in q_are_letters
  have q_move_line := c_move_line (P := P) (w := w) (base := base) T (hd_move_line X G c) q_number_in
  have q_parts_in := c_parts_in (P := P) (w := w) (base := base) T (hd_parts_in X G c) q_first_line q_move_line
  have q_Rules_read := c_Rules_read (P := P) (w := w) (base := base) T (hd_Rules_read cx ce) q_parts_in q_Rules_u__init_u_
  have q__law_written := c__law_written (P := P) (w := w) (base := base) T (hd__law_written X G c)
  have q__law_right := c__law_right (P := P) (w := w) (base := base) T (hd__law_right X G c) q__law_code q__law_written q_Rules_u__str_u_ q_Rules_read.1 q_Rules_read.2 q_Rules_u__eq_u_ q_Rules_u__len_u_ q__law_texts q_Rules_led q__law_led
  exact c_law (P := P) (w := w) (base := base) T (He5.fun_of F) q__law_deck q__law_world q__law_right q__law_code q_Rules_u__str_u_ q_Rules_u__eq_u_ q_Rules_u__init_u_ q_Rules_read.1 q_Rules_read.2
end Pace
open PySem PySem.W PySem.Calls PyProof.Rows
theorem PySem.Challenge.cw_pacehouse_k02_texts_of_rules_holds : PySem.Challenge.rw_pacehouse_k02_texts_of_rules.Holds := by
  w_on; o_law
  refine HandSHeadRun.head_any (r := OpenLaw.row PySem.Challenge.rw_pacehouse_k02_texts_of_rules) (q := view (OpenLaw.row PySem.Challenge.rw_pacehouse_k02_texts_of_rules).prog [50]) (H := Pace.hhk) (ob := Pace.hob) (M := 20000) (loose := Pace.hnm) (d := HandSHeadRun.topDef (OpenLaw.row PySem.Challenge.rw_pacehouse_k02_texts_of_rules).prog 50) (kwd := []) Pace.hob_eq
    (by kernel_rfl) (fun s => by kernel_rfl) Pace.hrun (by kernel_rfl) (by kernel_rfl) (by kernel_rfl) (by rfl) (by first | assumption | decide +kernel) (by decide +kernel) ⟨rfl, rfl, rfl, rfl, rfl, by decide +kernel⟩ ?hw ?hc
  case hw => w_witness2
  case hc =>
    refine DL.walk_G (l := PySem.Challenge.rw_pacehouse_k02_texts_of_rules) (n := 63) (k := 8) (x := "_law_script") rfl (by decide) (by kernel_rfl) ⟨rfl, by decide, by decide⟩ ?F
    intro w mg fa h Y G hmg0
    obtain ⟨K, KX, c, cx, ce⟩ := Y
    have hmg : mg ("law" : PySem.Str) = some (.ref fa) := by
      have e : (HandSHeadRun.topDef (OpenLaw.row PySem.Challenge.rw_pacehouse_k02_texts_of_rules).prog 50).name = ("law" : PySem.Str) := by kernel_rfl
      rw [← e]
      exact hmg0
    obtain ⟨fd, hb, hF⟩ := Pace.hfacts (P := (PySem.Challenge.rw_pacehouse_k02_texts_of_rules).prog) (w := w) KX G hmg c cx ce
    exact ⟨K, fd, KX, hb, hF⟩
end
