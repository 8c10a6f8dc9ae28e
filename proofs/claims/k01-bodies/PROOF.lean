import PyProof.Rows.All
import Wide.All
import OpenK.AllK
import Wide.FinOn
import HandS.Base
import HandS.Call
import HandS.List
import HandS.Exc
import HandS.Wide
import HandS.Comp
import HandS.SlotsOwn
import KE.KDictKeyed
import KE.KDictCopyH
import HandS.Flow
import KE.KExcSuper
import KE.DataEq
import HandS.TupAny
import HandS.Deep
import HandS.Text
import PyProof.Rows.MatchSeqLen
import HandS.IsInst
import HandS.ExcOwn
import PyProof.DictRoads
import PyProof.DictTruth
import HandS.Dict
import PyProof.MeetsDict
import PyProof.DictStraight
import PyProof.Rows.SeqItemCall
import HandS.SortInts
import HandS.TupSets
import HandS.Defaults
import HandS.Property
import KE.KCallOwn
import PyProof.Rows.Range3
import HandS.TryMany
import HandS.Iter
import PyProof.ListRange
import HandS.RaiseMore
import HandS.DictComp
import PyProof.DictTable
import HandS.TupMul
import HandS.Style
import HandS.EndBits
import HandS.HeadEnd
import HandS.Head2
import HandS.HeadHook2
import HandS.Head0
import HandS.Head1
import PySem.Challenge.RW_safeupto_k01_bodies_recognized
set_option Elab.async false
set_option linter.all false
set_option maxRecDepth 100000
set_option maxHeartbeats 4000000
namespace DL
open PySem PySem.Spec PyProof.Rows L2

/-- a value: tuples are trees, lists, dicts and instances stand at addresses -/
inductive D where
  | non | bl (b : Bool) | int (i : Int) | str (x : Str) | tup (xs : List D) | rol (xs : List D) | ref (a : Addr) | ty (n : String) | glo (x : Str)

/-- what stands at an address of the store -/
inductive SO where
  | lst (xs : List D) | ins (c : Str) (fs : List (Str × D)) | slo (c : Str) (vs : List (Option D))
  /-- a dict, its pairs in their order -/
  | dic (kvs : List (D × D))
  /-- a caught exception's fields -/
  | exd (fs : List (Str × D))
abbrev Sto := Addr → Option SO
abbrev DSt := List (Option D)
abbrev VSt := L2.St
def sup (S : Sto) (a : Addr) (o : SO) : Sto := fun b => if b = a then some o else S b
theorem sup_same {S : Sto} {a : Addr} {o : SO} : sup S a o a = some o := if_pos rfl
theorem sup_ne {S : Sto} {a b : Addr} {o : SO} (h : b ≠ a) : sup S a o b = S b := if_neg h

/-- the written part, the module's names -/
structure GP where
  K : PySem.W.Frag
  mg : Str → Option Value
  w : World
abbrev gp (X : Cx) : GP := ⟨X.K, X.mg, X.w⟩

/-- a list that is only read: the script -/
def SqR (K : PySem.W.Frag) (H : Hp) (a : Addr) (xs : List V) : Prop :=
  (∃ o, H a = some (.frz o (.lst xs))) ∨
    ∃ (o : Obj) (its : Array Value) (n : Nat), K.lookup a = some o ∧ o.cls = .type "list" ∧ o.dict = none ∧ o.data = .seq its n ∧ its.size ≤ sizeLine ∧ Vals xs its.toList
theorem SqR.sql {K : PySem.W.Frag} {H : Hp} {a : Addr} {xs : List V} (h : SqR K H a xs) : SqL K H a xs := by
  rcases h with h | h
  · exact .inl (.inr h)
  · exact .inr h
mutual
def DRel (g : GP) (H : Hp) : D → V → Prop
  | .non, v => v = .non
  | .bl b, v => v = .bl b
  | .int i, v => v = .int i
  | .str x, v => v = .str x
  | .ref a, v => v = .ref a
  | .ty n, v => v = .ty n
  | .glo x, v => ∃ a, g.mg x = some (.ref a) ∧ v = .ref a
  | .tup ds, v => ∃ a vs, v = .ref a ∧ SqT g.K H a vs ∧ DRels g H ds vs
  | .rol ds, v => ∃ a vs, v = .ref a ∧ SqR g.K H a vs ∧ DRels g H ds vs
def DRels (g : GP) (H : Hp) : List D → List V → Prop
  | [], vs => vs = []
  | d :: ds, vs => ∃ v r, vs = v :: r ∧ DRel g H d v ∧ DRels g H ds r
end
/-- tuples stay -/
structure Ext (K : PySem.W.Frag) (H H' : Hp) : Prop where
  t : ∀ a vs, SqT K H a vs → SqT K H' a vs
  l : ∀ a vs, SqR K H a vs → SqR K H' a vs
theorem Ext.refl {K : PySem.W.Frag} {H : Hp} : Ext K H H := ⟨fun _ _ h => h, fun _ _ h => h⟩
theorem Ext.trans {K : PySem.W.Frag} {H H1 H2 : Hp} (a : Ext K H H1) (b : Ext K H1 H2) : Ext K H H2 := ⟨fun p vs h => b.t p vs (a.t p vs h), fun p vs h => b.l p vs (a.l p vs h)⟩
/-- a store at an address that holds no tuple -/
def NoTup : Option HO → Prop
  | some (.tup _) => False
  | some (.frz _ (.tup _)) => False
  | some (.frz _ (.lst _)) => False
  | _ => True
theorem Ext.upd {K : PySem.W.Frag} {H : Hp} {p : Addr} {o : HO} (h : NoTup (H p)) : Ext K H (upd H p o) := by
  refine ⟨fun a vs q => ?_, fun a vs q => ?_⟩
  · rcases q with q | q
    · have ne : a ≠ p := by
        rintro rfl
        rcases q with q | ⟨o', q⟩
        · rw [q] at h; exact h
        · rw [q] at h; exact h
      refine .inl ?_
      rcases q with q | ⟨o', q⟩
      · exact .inl (by rw [upd_ne ne]; exact q)
      · exact .inr ⟨o', by rw [upd_ne ne]; exact q⟩
    · exact .inr q
  · rcases q with ⟨o', q⟩ | q
    · have ne : a ≠ p := by
        rintro rfl
        rw [q] at h; exact h
      exact .inl ⟨o', by rw [upd_ne ne]; exact q⟩
    · exact .inr q
theorem Ext.new {K : PySem.W.Frag} {H : Hp} {p : Addr} {o : HO} (h : H p = none) : Ext K H (L2.upd H p o) := Ext.upd (by rw [h]; trivial)
theorem Ext.mut {K : PySem.W.Frag} {H : Hp} {p : Addr} {o : HO} (h : Mut (H p)) : Ext K H (L2.upd H p o) := Ext.upd (by
  cases e : H p with
  | none => trivial
  | some q => rw [e] at h; cases q <;> first | trivial | exact h.elim)
mutual
theorem DRel.ext {g : GP} {H H' : Hp} (x : Ext g.K H H') : ∀ (d : D) {v : V}, DRel g H d v → DRel g H' d v
  | .non, _, h => h
  | .bl _, _, h => h
  | .int _, _, h => h
  | .str _, _, h => h
  | .ref _, _, h => h
  | .ty _, _, h => h
  | .glo _, _, h => h
  | .tup ds, v, h => by
    unfold DRel at h ⊢
    obtain ⟨a, vs, e, q, r⟩ := h
    exact ⟨a, vs, e, x.t a vs q, DRels.ext x ds r⟩
  | .rol ds, v, h => by
    unfold DRel at h ⊢
    obtain ⟨a, vs, e, q, r⟩ := h
    exact ⟨a, vs, e, x.l a vs q, DRels.ext x ds r⟩
theorem DRels.ext {g : GP} {H H' : Hp} (x : Ext g.K H H') : ∀ (ds : List D) {vs : List V}, DRels g H ds vs → DRels g H' ds vs
  | [], _, h => h
  | d :: ds, vs, h => by
    unfold DRels at h ⊢
    obtain ⟨v, r, e, h1, h2⟩ := h
    exact ⟨v, r, e, DRel.ext x d h1, DRels.ext x ds h2⟩
end
theorem DRels.length {g : GP} {H : Hp} : ∀ {ds : List D} {vs : List V}, DRels g H ds vs → ds.length = vs.length
  | [], vs, h => by unfold DRels at h; rw [h]; rfl
  | d :: ds, vs, h => by
    unfold DRels at h
    obtain ⟨v, r, e, _, h2⟩ := h
    rw [e, List.length_cons, List.length_cons, DRels.length h2]
theorem DRels.get {g : GP} {H : Hp} : ∀ {ds : List D} {vs : List V} {i : Nat} {d : D}, DRels g H ds vs → ds[i]? = some d → ∃ v, vs[i]? = some v ∧ DRel g H d v
  | [], vs, i, d, h, e => by simp at e
  | d :: ds, vs, 0, d', h, e => by
    unfold DRels at h
    obtain ⟨v, r, e1, h1, h2⟩ := h
    simp at e; subst e
    exact ⟨v, by rw [e1]; rfl, h1⟩
  | d :: ds, vs, i + 1, d', h, e => by
    unfold DRels at h
    obtain ⟨v, r, e1, h1, h2⟩ := h
    obtain ⟨u, q, w⟩ := DRels.get (i := i) h2 (by simpa using e)
    exact ⟨u, by rw [e1]; simpa using q, w⟩
theorem DRels.back {g : GP} {H : Hp} {ds : List D} {vs : List V} {i : Nat} {v : V} (h : DRels g H ds vs) (e : vs[i]? = some v) : ∃ d, ds[i]? = some d ∧ DRel g H d v := by
  have hl := h.length
  have hi : i < vs.length := (List.getElem?_eq_some_iff.mp e).1
  obtain ⟨d, hd⟩ : ∃ d, ds[i]? = some d := ⟨ds[i]'(by omega), by simp⟩
  obtain ⟨u, q, w⟩ := h.get hd
  rw [e] at q; cases q
  exact ⟨d, hd, w⟩
theorem DRels.append {g : GP} {H : Hp} : ∀ {ds es : List D} {vs us : List V}, DRels g H ds vs → DRels g H es us → DRels g H (ds ++ es) (vs ++ us)
  | [], _, vs, _, h, k => by unfold DRels at h; rw [h]; exact k
  | d :: ds, es, vs, us, h, k => by
    unfold DRels at h
    obtain ⟨v, r, e, h1, h2⟩ := h
    rw [e]
    show DRels g H (d :: (ds ++ es)) (v :: (r ++ us))
    unfold DRels
    exact ⟨v, r ++ us, rfl, h1, DRels.append h2 k⟩
theorem DRels.set {g : GP} {H : Hp} {d : D} {v : V} (r : DRel g H d v) : ∀ {ds : List D} {vs : List V} (i : Nat), DRels g H ds vs → DRels g H (ds.set i d) (vs.set i v)
  | [], vs, i, h => by unfold DRels at h; rw [h]; simp [DRels]
  | e :: ds, vs, 0, h => by
    unfold DRels at h
    obtain ⟨u, q, e1, h1, h2⟩ := h
    rw [e1]
    show DRels g H (d :: ds) (v :: q)
    unfold DRels
    exact ⟨v, q, rfl, r, h2⟩
  | e :: ds, vs, i + 1, h => by
    unfold DRels at h
    obtain ⟨u, q, e1, h1, h2⟩ := h
    rw [e1]
    show DRels g H (e :: ds.set i d) (u :: q.set i v)
    unfold DRels
    exact ⟨u, _, rfl, h1, DRels.set r i h2⟩
theorem DRels.take {g : GP} {H : Hp} : ∀ {ds : List D} {vs : List V} (i : Nat), DRels g H ds vs → DRels g H (ds.take i) (vs.take i)
  | _, _, 0, h => by simp [DRels]
  | [], vs, i + 1, h => by unfold DRels at h; rw [h]; simp [DRels]
  | e :: ds, vs, i + 1, h => by
    unfold DRels at h
    obtain ⟨u, q, e1, h1, h2⟩ := h
    rw [e1]
    show DRels g H (e :: ds.take i) (u :: q.take i)
    unfold DRels
    exact ⟨u, _, rfl, h1, DRels.take i h2⟩
theorem DRels.drop {g : GP} {H : Hp} : ∀ {ds : List D} {vs : List V} (i : Nat), DRels g H ds vs → DRels g H (ds.drop i) (vs.drop i)
  | _, _, 0, h => h
  | [], vs, i + 1, h => by unfold DRels at h; rw [h]; simp [DRels]
  | e :: ds, vs, i + 1, h => by
    unfold DRels at h
    obtain ⟨u, q, e1, h1, h2⟩ := h
    rw [e1]
    exact DRels.drop i h2
theorem DRels.cons {g : GP} {H : Hp} {d : D} {v : V} {ds : List D} {vs : List V} (h1 : DRel g H d v) (h2 : DRels g H ds vs) : DRels g H (d :: ds) (v :: vs) := by
  unfold DRels; exact ⟨v, vs, rfl, h1, h2⟩
theorem DRels.nil {g : GP} {H : Hp} : DRels g H [] [] := by unfold DRels; rfl
theorem DRels.one {g : GP} {H : Hp} {d : D} {v : V} (h : DRel g H d v) : DRels g H [d] [v] := .cons h .nil
/-- fields -/
def FRel (g : GP) (H : Hp) : List (Str × D) → List (Str × V) → Prop
  | [], vs => vs = []
  | d :: ds, vs => ∃ v r, vs = (d.1, v) :: r ∧ DRel g H d.2 v ∧ FRel g H ds r
theorem FRel.ext {g : GP} {H H' : Hp} (x : Ext g.K H H') : ∀ {ds : List (Str × D)} {vs : List (Str × V)}, FRel g H ds vs → FRel g H' ds vs
  | [], _, h => h
  | d :: ds, vs, h => let ⟨v, r, e, h1, h2⟩ := h; ⟨v, r, e, h1.ext x, FRel.ext x h2⟩
theorem FRel.length {g : GP} {H : Hp} : ∀ {ds : List (Str × D)} {vs : List (Str × V)}, FRel g H ds vs → ds.length = vs.length
  | [], vs, h => by rw [show vs = [] from h]; rfl
  | d :: ds, vs, h => by
    obtain ⟨v, r, e, _, h2⟩ := h
    rw [e, List.length_cons, List.length_cons, FRel.length h2]
theorem FRel.look {g : GP} {H : Hp} {f : Str} {d : D} : ∀ {ds : List (Str × D)} {vs : List (Str × V)}, FRel g H ds vs → ds.lookup f = some d → ∃ v, vs.lookup f = some v ∧ DRel g H d v
  | [], vs, h, e => by simp at e
  | (f', d') :: ds, vs, h, e => by
    obtain ⟨v, r, e1, h1, h2⟩ := h
    subst e1
    rw [List.lookup_cons] at e ⊢
    cases q : f == f' with
    | true => rw [q] at e; cases e; exact ⟨v, rfl, h1⟩
    | false => rw [q] at e; exact FRel.look h2 e
theorem FRel.none {g : GP} {H : Hp} {f : Str} : ∀ {ds : List (Str × D)} {vs : List (Str × V)}, FRel g H ds vs → ds.lookup f = none → vs.lookup f = none
  | [], vs, h, e => by rw [show vs = [] from h]; rfl
  | (f', d') :: ds, vs, h, e => by
    obtain ⟨v, r, e1, h1, h2⟩ := h
    subst e1
    rw [List.lookup_cons] at e ⊢
    cases q : f == f' with
    | true => rw [q] at e; cases e
    | false => rw [q] at e; exact FRel.none h2 e
/-- fields stored -/
def putD (f : Str) (d : D) : List (Str × D) → List (Str × D)
  | [] => [(f, d)]
  | (g, x) :: r => if g = f then (g, d) :: r else (g, x) :: putD f d r
theorem putF_eq : ∀ (f : Str) (v : V) (l : List (Str × V)), putF f v l = match l with | [] => [(f, v)] | (g, x) :: r => if g = f then (g, v) :: r else (g, x) :: putF f v r := by
  intro f v l; cases l <;> rfl
theorem FRel.put {g : GP} {H : Hp} {f : Str} {d : D} {v : V} (r : DRel g H d v) : ∀ {ds : List (Str × D)} {vs : List (Str × V)}, FRel g H ds vs → FRel g H (putD f d ds) (putF f v vs)
  | [], vs, h => by rw [show vs = [] from h]; exact ⟨v, [], rfl, r, rfl⟩
  | (f', d') :: ds, vs, h => by
    obtain ⟨u, q, e1, h1, h2⟩ := h
    subst e1
    rw [putF_eq]
    unfold putD
    by_cases e : f' = f
    · simp only [e, if_true]
      exact ⟨v, q, rfl, r, h2⟩
    · simp only [e, if_false]
      exact ⟨u, _, rfl, h1, FRel.put r h2⟩
/-- slots -/
def ORelS (g : GP) (H : Hp) : List (Option D) → List (Option V) → Prop
  | [], vs => vs = []
  | d :: ds, vs => ∃ v r, vs = v :: r ∧ (match d, v with | some d, some v => DRel g H d v | none, none => True | _, _ => False) ∧ ORelS g H ds r
theorem ORelS.ext {g : GP} {H H' : Hp} (x : Ext g.K H H') : ∀ {ds : List (Option D)} {vs : List (Option V)}, ORelS g H ds vs → ORelS g H' ds vs
  | [], _, h => h
  | d :: ds, vs, h => by
    obtain ⟨v, r, e, h1, h2⟩ := h
    refine ⟨v, r, e, ?_, ORelS.ext x h2⟩
    cases d <;> cases v <;> first | trivial | exact h1 | exact DRel.ext x _ h1
/-- an instance with slots, just made or written -/
def SlQ (H : Hp) (a C dx : Addr) (vs : List (Option V)) : Prop := dx ≠ a ∧ ((H a = some (.ins C dx []) ∧ vs = [] ∧ H dx = some (.own a)) ∨ (H a = some (SlX.SlO a C dx vs) ∧ H dx = some (.xd [])))
theorem SlQ.slt {H : Hp} {a C dx : Addr} {vs : List (Option V)} (h : SlQ H a C dx vs) : SlX.Slt H a C dx vs := by
  rcases h.2 with ⟨h1, h2, _⟩ | h
  · exact .inl ⟨h1, h2⟩
  · exact .inr h
mutual
def toNK : D → Option NestedKey
  | .non => some .none
  | .bl b => some (.num (if b = true then 1 else 0))
  | .int i => some (.num i)
  | .str x => some (.text x)
  | .tup ds => (toNKs ds).map .tup
  | _ => none
def toNKs : List D → Option (List NestedKey)
  | [] => some []
  | d :: ds => match toNK d, toNKs ds with
    | some k, some ks => some (k :: ks)
    | _, _ => none
end
/-- a dict's entries -/
def DicRel (g : GP) (H : Hp) : List (D × D) → List DictEntry → Prop
  | [], es => es = []
  | p :: r, es => ∃ e es', es = e :: es' ∧ (∃ kv, DRel g H p.1 kv ∧ RelV kv e.key) ∧ (∃ vv, DRel g H p.2 vv ∧ RelV vv e.val) ∧ (∃ nk, toNK p.1 = some nk ∧ e.hash = nk.hash g.w) ∧ DicRel g H r es'
theorem DicRel.ext {g : GP} {H H' : Hp} (x : Ext g.K H H') : ∀ {kvs : List (D × D)} {es : List DictEntry}, DicRel g H kvs es → DicRel g H' kvs es
  | [], _, h => h
  | p :: r, _, h => by
    obtain ⟨e, es', e1, ⟨kv, k1, k2⟩, ⟨vv, v1, v2⟩, hh, h⟩ := h
    exact ⟨e, es', e1, ⟨kv, DRel.ext x _ k1, k2⟩, ⟨vv, DRel.ext x _ v1, v2⟩, hh, DicRel.ext x h⟩
/-- the dict's object -/
def DicP (a : Addr) (es : Array DictEntry) (ep : Nat) (h : Heap) : Prop := (a == sysModules) = false ∧ es.size ≤ sizeLine ∧ ∃ o, h.get? a = some o ∧ o.ExactDict ∧ o.data = .dict es ep
def DicO (a : Addr) (es : Array DictEntry) (ep : Nat) : HO := .ext (DicP a es ep)
/-- what stands at an address -/
def ORel (g : GP) (H : Hp) (a : Addr) : SO → Prop
  | .lst ds => ∃ vs, H a = some (.lst vs) ∧ DRels g H ds vs
  | .ins c fs => ∃ C dx vs, g.mg c = some (.ref C) ∧ H a = some (.ins C dx vs) ∧ H dx = some (.own a) ∧ FRel g H fs vs
  | .slo c ds => ∃ C dx vs, g.mg c = some (.ref C) ∧ SlQ H a C dx vs ∧ ORelS g H ds vs
  | .dic kvs => ∃ es ep, H a = some (DicO a es ep) ∧ DicRel g H kvs es.toList ∧ (kvs.map fun p => toNK p.1).Nodup
  | .exd fs => ∃ vs, H a = some (.xd vs) ∧ FRel g H fs vs
/-- the store is held -/
def Sim (g : GP) (H : Hp) (S : Sto) : Prop := ∀ a o, S a = some o → ORel g H a o
theorem Sim.fresh {g : GP} {H : Hp} {S : Sto} {p : Addr} (h : Sim g H S) (n : H p = none) : S p = none := by
  cases e : S p with
  | none => rfl
  | some o =>
    have q := h p o e
    cases o with
    | lst ds => obtain ⟨vs, q, _⟩ := q; rw [n] at q; cases q
    | ins c fs => obtain ⟨C, dx, vs, _, q, _⟩ := q; rw [n] at q; cases q
    | slo c ds => obtain ⟨C, dx, vs, _, ⟨_, q⟩, _⟩ := q; rcases q with ⟨q, _⟩ | ⟨q, _⟩ <;> rw [n] at q <;> cases q
    | dic kvs => obtain ⟨es, ep, q, _⟩ := q; rw [n] at q; cases q
    | exd fs => obtain ⟨vs, q, _⟩ := q; rw [n] at q; cases q
end DL

set_option Elab.async false
set_option linter.all false
set_option maxRecDepth 100000
set_option maxHeartbeats 4000000
namespace DL
open PySem PySem.Spec PyProof.Rows L2

/-- what is wanted of an exception: its class's name, its fields -/
abbrev DX := Str → List (Str × D) → Sto → Prop
/-- .. with the slots -/
abbrev DXs := Str → List (Str × D) → DSt → Sto → Prop
abbrev DK := D → Sto → Prop
abbrev DE := DSt → Sto → DK → DX → Prop
abbrev DT := DSt → Sto → (Bool → Sto → Prop) → DX → Prop
abbrev DA := DSt → Sto → (List D → Sto → Prop) → DX → Prop

/-- the slots -/
structure SRel (g : GP) (H : Hp) (σD : DSt) (σ : VSt) : Prop where
  len : σD.length = σ.length
  at_ : ∀ (i : Nat) d, σD[i]? = some (some d) → ∃ v, σ[i]? = some (some v) ∧ DRel g H d v
theorem SRel.ext {g : GP} {H H' : Hp} {σD : DSt} {σ : VSt} (h : SRel g H σD σ) (x : Ext g.K H H') : SRel g H' σD σ := ⟨h.len, fun i d e => let ⟨v, a, b⟩ := h.at_ i d e; ⟨v, a, DRel.ext x d b⟩⟩
theorem SRel.set {g : GP} {H : Hp} {σD : DSt} {σ : VSt} (h : SRel g H σD σ) {i : Nat} {d : D} {v : V} (r : DRel g H d v) : SRel g H (σD.set i (some d)) (σ.set i (some v)) := by
  refine ⟨by simpa using h.len, fun j e q => ?_⟩
  by_cases hj : j = i
  · subst hj
    by_cases hl : j < σD.length
    · rw [List.getElem?_set_self hl] at q
      cases q
      exact ⟨v, List.getElem?_set_self (by rw [← h.len]; exact hl), r⟩
    · rw [List.getElem?_eq_none (by simpa using hl)] at q; cases q
  · rw [List.getElem?_set_ne (Ne.symm hj)] at q
    obtain ⟨u, a, b⟩ := h.at_ j e q
    exact ⟨u, by rw [List.getElem?_set_ne (Ne.symm hj)]; exact a, b⟩
theorem SRel.unset {g : GP} {H : Hp} {σD : DSt} {σ : VSt} (h : SRel g H σD σ) {i : Nat} {o : Option V} : SRel g H (σD.set i none) (σ.set i o) := by
  refine ⟨by simpa using h.len, fun j e q => ?_⟩
  by_cases hj : j = i
  · subst hj
    by_cases hl : j < σD.length
    · rw [List.getElem?_set_self hl] at q; cases q
    · rw [List.getElem?_eq_none (by simpa using hl)] at q; cases q
  · rw [List.getElem?_set_ne (Ne.symm hj)] at q
    obtain ⟨u, a, b⟩ := h.at_ j e q
    exact ⟨u, by rw [List.getElem?_set_ne (Ne.symm hj)]; exact a, b⟩

def XRel (g : GP) (H : Hp) (d : Option Addr) (fs : List (Str × D)) : Prop :=
  match d with
  | none => fs = []
  | some dd => ∃ vs, H dd = some (.xd vs) ∧ FRel g H fs vs
/-- an exception as the hand layer wishes it -/
def lX (X : Cx) (H₀ : Hp) (ex : DXs) : WX := fun cls d σ H => ∃ c C fs σD S, cls = .ref C ∧ X.mg c = some (.ref C) ∧ XRel (gp X) H d fs ∧ SRel (gp X) H σD σ ∧ Sim (gp X) H S ∧ Ext X.K H₀ H ∧ ex c fs σD S

/-- further on -/
theorem _root_.L2.Takes.up {X : Cx} {H H1 : Hp} {ex : DXs} (tk : Takes X (lX X H ex)) (x : Ext X.K H H1) : Takes X (lX X H1 ex) := tk.imp fun _ _ _ _ ⟨c, C, fs, σD, S, e1, e2, e3, e4, e5, e6, e7⟩ => ⟨c, C, fs, σD, S, e1, e2, e3, e4, e5, x.trans e6, e7⟩
/-- where we stand -/
structure Sit (X : Cx) (pins : List (Addr × Obj)) (σ : VSt) (H : Hp) (s : Shared) (σD : DSt) (S : Sto) : Prop where
  I : Inv X pins σ H s
  r : SRel (gp X) H σD σ
  m : Sim (gp X) H S
def EQ (X : Cx) (pins : List (Addr × Obj)) (σ : VSt) (H₀ : Hp) (Kt : DK) (u : Value) (s' : Shared) : Prop :=
  ∃ v H' d S', Inv X pins σ H' s' ∧ RelV v u ∧ Ext X.K H₀ H' ∧ DRel (gp X) H' d v ∧ Sim (gp X) H' S' ∧ Kt d S'
def TQ (X : Cx) (pins : List (Addr × Obj)) (σ : VSt) (H₀ : Hp) (Kt : Bool → Sto → Prop) (b : Bool) (s' : Shared) : Prop :=
  ∃ H' S', Inv X pins σ H' s' ∧ Ext X.K H₀ H' ∧ Sim (gp X) H' S' ∧ Kt b S'
def AQ (X : Cx) (pins : List (Addr × Obj)) (σ : VSt) (H₀ : Hp) (Kt : List D → Sto → Prop) (us : List Value) (s' : Shared) : Prop :=
  ∃ vs H' ds S', Inv X pins σ H' s' ∧ Vals vs us ∧ Ext X.K H₀ H' ∧ DRels (gp X) H' ds vs ∧ Sim (gp X) H' S' ∧ Kt ds S'

/-- an expression, a test, an argument list -/
def QE (X : Cx) (e : Expr) (t : DE) : Prop := ∀ (pins : List (Addr × Obj)) (s : Shared) (σ : VSt) (H : Hp) (σD : DSt) (S : Sto) (ex : DXs) (Kt : DK), Takes X (lX X H ex) → Sit X pins σ H s σD S →
  t σD S Kt (fun c fs S => ex c fs σD S) → wpAny (model X.prog X.w) X.A (eval e X.env) (EQ X pins σ H Kt) X.xe s
def QT (X : Cx) (e : Expr) (t : DT) : Prop := ∀ (pins : List (Addr × Obj)) (s : Shared) (σ : VSt) (H : Hp) (σD : DSt) (S : Sto) (ex : DXs) (Kt : Bool → Sto → Prop), Takes X (lX X H ex) → Sit X pins σ H s σD S →
  t σD S Kt (fun c fs S => ex c fs σD S) → wpAny (model X.prog X.w) X.A (isTrue e X.env (eval e X.env)) (TQ X pins σ H Kt) X.xe s
def QW (X : Cx) (e : Expr) (t : DT) : Prop := ∀ (whole : Sem Value) (pins : List (Addr × Obj)) (s : Shared) (σ : VSt) (H : Hp) (σD : DSt) (S : Sto) (ex : DXs) (Kt : Bool → Sto → Prop), Takes X (lX X H ex) → Sit X pins σ H s σD S →
  t σD S Kt (fun c fs S => ex c fs σD S) → wpAny (model X.prog X.w) X.A (isTrue e X.env whole) (TQ X pins σ H Kt) X.xe s
def QA (X : Cx) (es : List Expr) (t : DA) : Prop := ∀ (pos : Pos) (pins : List (Addr × Obj)) (s : Shared) (σ : VSt) (H : Hp) (σD : DSt) (S : Sto) (ex : DXs) (Kt : List D → Sto → Prop), Takes X (lX X H ex) → Sit X pins σ H s σD S →
  t σD S Kt (fun c fs S => ex c fs σD S) → wpAny (model X.prog X.w) X.A (spliced (backTo pos (starEach es X.env))) (AQ X pins σ H Kt) X.xe s
theorem QW.qt {X : Cx} {e : Expr} {t : DT} (h : QW X e t) : QT X e t := h _

section
variable {X : Cx} {pins : List (Addr × Obj)} {σ : VSt} {H : Hp} {s : Shared} {σD : DSt} {S : Sto} {ex : DXs}
theorem Sit.on (T : Sit X pins σ H s σD S) {H' : Hp} {s' : Shared} {S' : Sto} (I : Inv X pins σ H' s') (x : Ext X.K H H') (m : Sim (gp X) H' S') : Sit X pins σ H' s' σD S' := ⟨I, T.r.ext x, m⟩
/-- from a rule of the hand layer -/
theorem thnE {e : Expr} {t : TE} (h : PE X e t) {Kt : DK} (I : Inv X pins σ H s) (q : t σ H fun v H' => ∃ d S', Ext X.K H H' ∧ DRel (gp X) H' d v ∧ Sim (gp X) H' S' ∧ Kt d S') :
    wpAny (model X.prog X.w) X.A (eval e X.env) (EQ X pins σ H Kt) X.xe s :=
  thn (h.run pins s σ H _ I q) fun u s1 ⟨v, H', I', r, d, S', x, dr, m, k⟩ => ⟨v, H', d, S', I', r, x, dr, m, k⟩
/-- one step further -/
theorem EQ.up {H1 : Hp} {Kt : DK} {u : Value} {s' : Shared} (x : Ext X.K H H1) (h : EQ X pins σ H1 Kt u s') : EQ X pins σ H Kt u s' :=
  let ⟨v, H', d, S', I, r, x', dr, m, k⟩ := h; ⟨v, H', d, S', I, r, x.trans x', dr, m, k⟩
theorem TQ.up {H1 : Hp} {Kt : Bool → Sto → Prop} {b : Bool} {s' : Shared} (x : Ext X.K H H1) (h : TQ X pins σ H1 Kt b s') : TQ X pins σ H Kt b s' :=
  let ⟨H', S', I, x', m, k⟩ := h; ⟨H', S', I, x.trans x', m, k⟩
theorem AQ.up {H1 : Hp} {Kt : List D → Sto → Prop} {us : List Value} {s' : Shared} (x : Ext X.K H H1) (h : AQ X pins σ H1 Kt us s') : AQ X pins σ H Kt us s' :=
  let ⟨vs, H', ds, S', I, r, x', dr, m, k⟩ := h; ⟨vs, H', ds, S', I, r, x.trans x', dr, m, k⟩
/-- two expressions in a row -/
theorem dbin {a b : Expr} {ta tb : DE} (ha : QE X a ta) (hb : QE X b tb) (tk : Takes X (lX X H ex)) (T : Sit X pins σ H s σD S) {R : D → D → Sto → Prop}
    (h : ta σD S (fun x S1 => tb σD S1 (fun y S2 => R x y S2) (fun c fs S => ex c fs σD S)) (fun c fs S => ex c fs σD S))
    {α : Type} {Q : α → Shared → Prop} {f : Value → Value → Sem α}
    (hf : ∀ v u s2 xv yv x y H2 S2, Sit X pins σ H2 s2 σD S2 → Ext X.K H H2 → RelV xv v → RelV yv u → DRel (gp X) H2 x xv → DRel (gp X) H2 y yv → R x y S2 → wpAny (model X.prog X.w) X.A (f v u) Q X.xe s2) :
    wpAny (model X.prog X.w) X.A (eval a X.env) (fun v s₁ => wpAny (model X.prog X.w) X.A (eval b X.env) (fun u s₂ => wpAny (model X.prog X.w) X.A (f v u) Q X.xe s₂) X.xe s₁) X.xe s := by
  refine thn (ha pins s σ H σD S ex _ tk T h) fun v s1 ⟨xv, H1, x, S1, I1, r1, x1, d1, m1, q1⟩ => ?_
  refine thn (hb pins s1 σ H1 σD S1 ex _ (tk.up x1) (T.on I1 x1 m1) q1) fun u s2 ⟨yv, H2, y, S2, I2, r2, x2, d2, m2, q2⟩ => ?_
  exact hf v u s2 xv yv x y H2 S2 (T.on I2 (x1.trans x2) m2) (x1.trans x2) r1 r2 (DRel.ext x2 _ d1) d2 q2
end

section
variable {g : GP} {H : Hp} {S : Sto} {p : Addr}
/-- no instance's dict -/
def NoDict : Option HO → Prop
  | some (.own _) => False
  | some (.xd _) => False
  | _ => True
theorem ORel.upd {ho : HO} (nt : NoTup (H p)) (no : NoDict (H p)) : ∀ {a : Addr} {o : SO}, a ≠ p → ORel g H a o → ORel g (upd H p ho) a o := fun {a o} ne h => by
  have x : Ext g.K H (L2.upd H p ho) := Ext.upd nt
  have nd : ∀ {b : Addr} {x : Addr}, H b = some (.own x) → b ≠ p := fun {b x} e z => by
    rw [← z, e] at no; exact no
  have nx : ∀ {b : Addr} {x : List (Str × V)}, H b = some (.xd x) → b ≠ p := fun {b x} e z => by
    rw [← z, e] at no; exact no
  cases o with
  | lst ds =>
    obtain ⟨vs, e, r⟩ := h
    exact ⟨vs, by rw [upd_ne ne]; exact e, DRels.ext x ds r⟩
  | ins c fs =>
    obtain ⟨C, dx, vs, e1, e2, e3, r⟩ := h
    exact ⟨C, dx, vs, e1, by rw [upd_ne ne]; exact e2, by rw [upd_ne (nd e3)]; exact e3, r.ext x⟩
  | slo c ds =>
    obtain ⟨C, dx, vs, e1, ⟨e0, e2⟩, r⟩ := h
    refine ⟨C, dx, vs, e1, ⟨e0, ?_⟩, r.ext x⟩
    rcases e2 with ⟨h1, h2, h3⟩ | ⟨h1, h2⟩
    · exact .inl ⟨by rw [upd_ne ne]; exact h1, h2, by rw [upd_ne (nd h3)]; exact h3⟩
    · exact .inr ⟨by rw [upd_ne ne]; exact h1, by rw [upd_ne (nx h2)]; exact h2⟩
  | dic kvs =>
    obtain ⟨es, ep, h1, h2, h3⟩ := h
    exact ⟨es, ep, by rw [upd_ne ne]; exact h1, h2.ext x, h3⟩
  | exd fs =>
    obtain ⟨vs, h1, h2⟩ := h
    exact ⟨vs, by rw [upd_ne ne]; exact h1, h2.ext x⟩
theorem Sim.put {ho : HO} {o : SO} (m : Sim g H S) (nt : NoTup (H p)) (no : NoDict (H p)) (h : ORel g (L2.upd H p ho) p o) : Sim g (L2.upd H p ho) (sup S p o) := fun a o' e => by
  by_cases ha : a = p
  · subst ha; rw [sup_same] at e; cases e; exact h
  · rw [sup_ne ha] at e; exact ORel.upd nt no ha (m a o' e)
/-- a new object -/
theorem Sim.new {ho : HO} {o : SO} (m : Sim g H S) (n : H p = none) (h : ORel g (L2.upd H p ho) p o) : Sim g (L2.upd H p ho) (sup S p o) :=
  m.put (by rw [n]; trivial) (by rw [n]; trivial) h
/-- a new object that is no part of the store -/
theorem Sim.hid {ho : HO} (m : Sim g H S) (n : H p = none) : Sim g (L2.upd H p ho) S := fun a o' e => by
  have ha : a ≠ p := by
    rintro rfl
    rw [m.fresh n] at e; cases e
  exact ORel.upd (by rw [n]; trivial) (by rw [n]; trivial) ha (m a o' e)
theorem Sim.newL {ds : List D} {vs : List V} (m : Sim g H S) (n : H p = none) (r : DRels g H ds vs) : Sim g (L2.upd H p (.lst vs)) (sup S p (.lst ds)) :=
  m.new n ⟨vs, upd_same, DRels.ext (Ext.new n) ds r⟩
theorem Sim.setL {ds ds' : List D} {vs' : List V} (m : Sim g H S) (e : S p = some (.lst ds)) (r : DRels g H ds' vs') : Sim g (L2.upd H p (.lst vs')) (sup S p (.lst ds')) := by
  obtain ⟨vs, e1, _⟩ := m p _ e
  have x : Ext g.K H (L2.upd H p (.lst vs')) := Ext.mut (by rw [e1]; trivial)
  exact m.put (by rw [e1]; trivial) (by rw [e1]; trivial) ⟨vs', upd_same, DRels.ext x ds' r⟩
theorem Sim.ext_setL {ds : List D} {vs' : List V} (m : Sim g H S) (e : S p = some (.lst ds)) : Ext g.K H (L2.upd H p (.lst vs')) := by
  obtain ⟨vs, e1, _⟩ := m p _ e
  exact Ext.mut (by rw [e1]; trivial)
theorem sit_tup {ds : List D} {vs : List V} (n : H p = none) (r : DRels g H ds vs) : DRel g (L2.upd H p (.tup vs)) (.tup ds) (.ref p) := by
  unfold DRel
  exact ⟨p, vs, rfl, .inl (.inl upd_same), DRels.ext (Ext.new n) ds r⟩
end

section
variable {X : Cx}
def dC (d : D) : DE := fun _ S K _ => K d S
def dV (i : Nat) : DE := fun σ S K _ => ∃ d, σ[i]? = some (some d) ∧ K d S
theorem qe_var {i : Nat} {x : Str} {pos : Pos} (hN : X.N[i]? = some x) (hv : Vis X.env.scope x) (hd : (x == ("__debug__" : Str)) = false) (hcd : (x == ("__classdict__" : Str)) = false) : QE X (.Name x pos) (dV i) := fun pins s σ H σD S ex Kt tk T h => by
  obtain ⟨d, e, h⟩ := h
  obtain ⟨v, ev, r⟩ := T.r.at_ i d e
  exact thnE (pe_var hN hv hd hcd) T.I ⟨v, ev, d, S, .refl, r, T.m, h⟩
theorem qe_int {i : Int} {j : Nat} {pos : Pos} : QE X (.Constant (.int i) j pos) (dC (.int i)) := fun pins s σ H σD S ex Kt tk T h =>
  thnE pe_int T.I ⟨.int i, S, .refl, by simp [DRel], T.m, h⟩
theorem qe_bl {b : Bool} {j : Nat} {pos : Pos} : QE X (.Constant (.bool b) j pos) (dC (.bl b)) := fun pins s σ H σD S ex Kt tk T h =>
  thnE pe_bl T.I ⟨.bl b, S, .refl, by simp [DRel], T.m, h⟩
theorem qe_non {j : Nat} {pos : Pos} : QE X (.Constant .none j pos) (dC .non) := fun pins s σ H σD S ex Kt tk T h =>
  thnE pe_non T.I ⟨.non, S, .refl, by simp [DRel], T.m, h⟩
theorem qe_str {x : Str} {j : Nat} {pos : Pos} : QE X (.Constant (.str x) j pos) (dC (.str x)) := fun pins s σ H σD S ex Kt tk T h =>
  thnE pe_str T.I ⟨.str x, S, .refl, by simp [DRel], T.m, h⟩
/-- a module's int, text, def, class as a value -/
theorem qe_glob {x : Str} {v : V} {u : Value} {d : D} {pos : Pos} (hg : Gl X x) (hm : X.mg x = some u) (r : RelV v u) (hd : (x == ("__debug__" : Str)) = false) (dr : ∀ H, DRel (gp X) H d v) : QE X (.Name x pos) (dC d) := fun pins s σ H σD S ex Kt tk T h =>
  thnE (pe_glob hg hm r hd) T.I ⟨d, S, .refl, dr H, T.m, h⟩

def dNil : DA := fun _ S K _ => K [] S
def dCons (ta : DE) (tr : DA) : DA := fun σ S K E => ta σ S (fun x S1 => tr σ S1 (fun xs S2 => K (x :: xs) S2) E) E
variable {e : Expr} {es : List Expr} {te : DE} {t : DA} {pos : Pos}
theorem qa_nil : QA X [] dNil := fun pos pins s σ H σD S ex Kt tk T h => Calls.spliced_nil ⟨[], H, [], S, T.I, .nil, .refl, .nil, T.m, h⟩
theorem qa_cons (ha : QE X e te) (hr : QA X es t) (hs : starEach (e :: es) X.env = (false, eval e X.env) :: starEach es X.env) : QA X (e :: es) (dCons te t) := fun pos pins s σ H σD S ex Kt tk T h => by
  rw [hs]
  show wpAny _ _ (spliced ((false, eval e X.env) :: backTo pos (starEach es X.env))) _ _ s
  refine Calls.spliced_cons (thn (ha pins s σ H σD S ex _ tk T h) fun u s1 ⟨v, H1, x, S1, I1, r1, x1, d1, m1, q1⟩ => ?_)
  exact thn (hr pos pins s1 σ H1 σD S1 ex _ (tk.up x1) (T.on I1 x1 m1) q1) fun us s2 ⟨vs, H2, ds, S2, I2, r2, x2, d2, m2, q2⟩ => ⟨v :: vs, H2, x :: ds, S2, I2, .cons r1 r2, x1.trans x2, .cons (DRel.ext x2 _ d1) d2, m2, q2⟩
def dTup (t : DA) : DE := fun σ S K E => t σ S (fun xs S1 => xs.length ≤ sizeLine ∧ K (.tup xs) S1) E
def dLst (t : DA) : DE := fun σ S K E => t σ S (fun xs S1 => xs.length ≤ sizeLine ∧ ∀ p, S1 p = none → K (.ref p) (sup S1 p (.lst xs))) E
theorem qe_tup {k : Nat} (h : QA X es t) : QE X (.Tuple es k pos) (dTup t) := fun pins s σ H σD S ex Kt tk T hq => by
  refine wpAny_Tuple_spliced (thn (h pos pins s σ H σD S ex _ tk T hq) fun us s1 ⟨xs, H1, ds, S1, I1, r, x1, dr, m1, z, q⟩ => ⟨by rw [← r.length, ← dr.length]; exact z, ?_⟩)
  have hf : H1 s1.heap.objs.size = none := I1.hok.fresh (Nat.le_refl _)
  refine ⟨.ref s1.heap.objs.size, L2.upd H1 s1.heap.objs.size (.tup xs), .tup ds, S1, I1.laid (t' := s1.toks) (fun b u e => Heap.get?_push_of_some _ e) (Nat.le_refl _) ?_, rfl, x1.trans (Ext.new hf), sit_tup hf dr, m1.hid hf, q⟩
  exact ⟨by rw [← dr.length]; exact z, us, r, ⟨_, Heap.get?_push_size _ rfl, rfl, _, rfl⟩⟩
theorem qe_lst (h : QA X es t) : QE X (.List es pos) (dLst t) := fun pins s σ H σD S ex Kt tk T hq => by
  refine wpAny_List_spliced (thn (h pos pins s σ H σD S ex _ tk T hq) fun us s1 ⟨xs, H1, ds, S1, I1, r, x1, dr, m1, z, q⟩ => ⟨by rw [← r.length, ← dr.length]; exact z, ?_⟩)
  have hf : H1 s1.heap.objs.size = none := I1.hok.fresh (Nat.le_refl _)
  refine ⟨.ref s1.heap.objs.size, L2.upd H1 s1.heap.objs.size (.lst xs), .ref s1.heap.objs.size, _, I1.laid (t' := s1.toks) (fun b u e => Heap.get?_push_of_some _ e) (Nat.le_refl _) ?_, rfl, x1.trans (Ext.new hf), by simp [DRel], m1.newL hf dr, q _ (m1.fresh hf)⟩
  exact ⟨by rw [← dr.length]; exact z, us, 0, r, Heap.get?_push_size _ rfl⟩
end

abbrev DR2 := D → D → Sto → DK → DX → Prop
def OpD (X : Cx) (f : Value → Value → Sem Value) (r : DR2) : Prop := ∀ (pins : List (Addr × Obj)) (s : Shared) (σ : VSt) (H : Hp) (σD : DSt) (S : Sto) (ex : DXs) (Kt : DK) (x y : D) (xv yv : V) (v u : Value), Takes X (lX X H ex) → Sit X pins σ H s σD S →
  DRel (gp X) H x xv → DRel (gp X) H y yv → RelV xv v → RelV yv u → r x y S Kt (fun c fs S => ex c fs σD S) → wpAny (model X.prog X.w) X.A (f v u) (EQ X pins σ H Kt) X.xe s
section
variable {X : Cx} {a b c : Expr} {ta tb tc : DE} {pos : Pos} {r r' : DR2}
/-- from the hand layer's operator -/
theorem OpD.of {f : Value → Value → Sem Value} {r0 : R2} (ho : OpR X f r0) (h : ∀ (H : Hp) (S : Sto) (Kt : DK) (E : DX) (x y : D) (xv yv : V), Sim (gp X) H S → DRel (gp X) H x xv → DRel (gp X) H y yv → r x y S Kt E →
    r0 xv yv H fun v H' => ∃ d S', Ext X.K H H' ∧ DRel (gp X) H' d v ∧ Sim (gp X) H' S' ∧ Kt d S') : OpD X f r := fun pins s σ H σD S ex Kt x y xv yv v u tk T dx dy rx ry q =>
  thn (ho pins s σ H xv yv v u _ T.I rx ry (h H S Kt _ x y xv yv T.m dx dy q)) fun u s1 ⟨v, H', I', r, d, S', x, dr, m, k⟩ => ⟨v, H', d, S', I', r, x, dr, m, k⟩
def dOp (r : DR2) (ta tb : DE) : DE := fun σ S K E => ta σ S (fun x S1 => tb σ S1 (fun y S2 => r x y S2 K E) E) E
theorem qe_op {op : Operator} (ho : OpD X (binaryOp op) r) (ha : QE X a ta) (hb : QE X b tb) : QE X (.BinOp a op b pos) (dOp r ta tb) := fun pins s σ H σD S ex Kt tk T h =>
  wpAny_BinOp (dbin ha hb tk T h fun v u s2 xv yv x y H2 S2 T2 x2 r1 r2 d1 d2 q => thn (ho pins s2 σ H2 σD S2 ex Kt x y xv yv v u (tk.up x2) T2 d1 d2 r1 r2 q) fun _ _ z => z.up x2)
theorem qe_cmp {op : CmpOp} (ho : OpD X (compareOp op) r) (ha : QE X a ta) (hb : QE X b tb) (hm : behindInMarks op b = false) : QE X (.Compare a [op] [b] pos) (dOp r ta tb) := fun pins s σ H σD S ex Kt tk T h =>
  wpAny_Compare1 (dbin ha hb tk T h fun v u s2 xv yv x y H2 S2 T2 x2 r1 r2 d1 d2 q => thn (ho pins s2 σ H2 σD S2 ex Kt x y xv yv v u (tk.up x2) T2 d1 d2 r1 r2 q) fun _ _ z => z.up x2) hm
/-- a value that is a bool, as a test -/
def kB (K : Bool → Sto → Prop) : DK := fun d S => ∃ k, d = .bl k ∧ K k S
theorem truthyB {pins : List (Addr × Obj)} {σ : VSt} {H : Hp} {s : Shared} {K : Bool → Sto → Prop} {u : Value} (h : EQ X pins σ H (kB K) u s) : wpAny (model X.prog X.w) X.A (truthy u) (TQ X pins σ H K) X.xe s := by
  obtain ⟨v, H', d, S', I, r, x, dr, m, k, e, q⟩ := h
  subst e
  have dr' : v = .bl k := by simpa [DRel] using dr
  subst dr'
  cases r
  exact wpAny_truthy_bool ⟨H', S', I, x, m, q⟩
def dTst (t : DE) : DT := fun σ S K E => t σ S (kB K) E
theorem qt_cmp {op : CmpOp} (ho : OpD X (compareOp op) r) (ha : QE X a ta) (hb : QE X b tb) (hm : behindInMarks op b = false) : QT X (.Compare a [op] [b] pos) (dTst (dOp r ta tb)) := fun pins s σ H σD S ex Kt tk T h => by
  refine wpAny_isTrue_Compare1 (thn (ha pins s σ H σD S ex _ tk T h) fun v s1 ⟨xv, H1, x, S1, I1, r1, x1, d1, m1, q1⟩ => ?_) hm
  refine thn (hb pins s1 σ H1 σD S1 ex _ (tk.up x1) (T.on I1 x1 m1) q1) fun u s2 ⟨yv, H2, y, S2, I2, r2, x2, d2, m2, q2⟩ => ?_
  refine thn (ho pins s2 σ H2 σD S2 ex _ x y xv yv v u (tk.up (x1.trans x2)) (T.on I2 (x1.trans x2) m2) (DRel.ext x2 _ d1) d2 r1 r2 q2) fun c s3 z => ?_
  exact thn (truthyB z) fun _ _ w => w.up (x1.trans x2)
def dChain (r r' : DR2) (ta tb tc : DE) : DE := fun σ S K E => ta σ S (fun x S1 => tb σ S1 (fun y S2 => r x y S2 (fun z S3 => ∃ k, z = .bl k ∧ (if k = true then tc σ S3 (fun w S4 => r' y w S4 K E) E else K (.bl false) S3)) E) E) E
theorem qe_chain {op op' : CmpOp} (ho : OpD X (compareOp op) r) (ho' : OpD X (compareOp op') r') (ha : QE X a ta) (hb : QE X b tb) (hc : QE X c tc) (hm : lastMarks [op, op'] [b, c] = false) : QE X (.Compare a [op, op'] [b, c] pos) (dChain r r' ta tb tc) := fun pins s σ H σD S ex Kt tk T h => by
  refine Compare_chain (thn (ha pins s σ H σD S ex _ tk T h) fun v s1 ⟨xv, H1, x, S1, I1, r1, x1, d1, m1, q1⟩ => chain_link (thn (hb pins s1 σ H1 σD S1 ex _ (tk.up x1) (T.on I1 x1 m1) q1) fun u s2 ⟨yv, H2, y, S2, I2, r2, x2, d2, m2, q2⟩ =>
    thn (ho pins s2 σ H2 σD S2 ex _ x y xv yv v u (tk.up (x1.trans x2)) (T.on I2 (x1.trans x2) m2) (DRel.ext x2 _ d1) d2 r1 r2 q2) fun c s3 ⟨zv, H3, z, S3, I3, r3, x3, d3, m3, k, e, q3⟩ => ?_)) hm
  subst e
  have d3' : zv = .bl k := by simpa [DRel] using d3
  subst d3'
  cases r3
  refine wpAny_truthy_bool ?_
  cases k with
  | false => exact ite_ff ⟨.bl false, H3, .bl false, S3, I3, rfl, x1.trans (x2.trans x3), by simp [DRel], m3, q3⟩
  | true => exact ite_tt (chain_last (thn (hc pins s3 σ H3 σD S3 ex _ (tk.up (x1.trans (x2.trans x3))) (T.on I3 (x1.trans (x2.trans x3)) m3) q3) fun w' s4 ⟨wv, H4, w, S4, I4, r4, x4, d4, m4, q4⟩ =>
      thn (ho' pins s4 σ H4 σD S4 ex Kt y w yv wv u w' (tk.up (x1.trans (x2.trans (x3.trans x4)))) (T.on I4 (x1.trans (x2.trans (x3.trans x4))) m4) (DRel.ext (x3.trans x4) _ d2) d4 r2 r4 q4) fun _ _ z => z.up (x1.trans (x2.trans (x3.trans x4)))))
theorem qt_chain {op op' : CmpOp} (ho : OpD X (compareOp op) r) (ho' : OpD X (compareOp op') r') (ha : QE X a ta) (hb : QE X b tb) (hc : QE X c tc) (hm : lastMarks [op, op'] [b, c] = false) : QT X (.Compare a [op, op'] [b, c] pos) (dTst (dChain r r' ta tb tc)) := fun pins s σ H σD S ex Kt tk T h => by
  refine isTrue_chain (thn (ha pins s σ H σD S ex _ tk T h) fun v s1 ⟨xv, H1, x, S1, I1, r1, x1, d1, m1, q1⟩ => test_link (thn (hb pins s1 σ H1 σD S1 ex _ (tk.up x1) (T.on I1 x1 m1) q1) fun u s2 ⟨yv, H2, y, S2, I2, r2, x2, d2, m2, q2⟩ =>
    thn (ho pins s2 σ H2 σD S2 ex _ x y xv yv v u (tk.up (x1.trans x2)) (T.on I2 (x1.trans x2) m2) (DRel.ext x2 _ d1) d2 r1 r2 q2) fun c s3 ⟨zv, H3, z, S3, I3, r3, x3, d3, m3, k, e, q3⟩ => ?_)) hm
  subst e
  have d3' : zv = .bl k := by simpa [DRel] using d3
  subst d3'
  cases r3
  refine wpAny_truthy_bool ?_
  cases k with
  | false =>
    obtain ⟨k', e', q'⟩ := q3
    cases e'
    exact ite_ff ⟨H3, S3, I3, x1.trans (x2.trans x3), m3, q'⟩
  | true => exact ite_tt (test_last (thn (hc pins s3 σ H3 σD S3 ex _ (tk.up (x1.trans (x2.trans x3))) (T.on I3 (x1.trans (x2.trans x3)) m3) q3) fun w' s4 ⟨wv, H4, w, S4, I4, r4, x4, d4, m4, q4⟩ =>
      thn (ho' pins s4 σ H4 σD S4 ex _ y w yv wv u w' (tk.up (x1.trans (x2.trans (x3.trans x4)))) (T.on I4 (x1.trans (x2.trans (x3.trans x4))) m4) (DRel.ext (x3.trans x4) _ d2) d4 r2 r4 q4) fun c s5 z => thn (truthyB z) fun _ _ w => w.up (x1.trans (x2.trans (x3.trans x4)))))
end
end DL

set_option Elab.async false
set_option linter.all false
set_option maxRecDepth 100000
set_option maxHeartbeats 4000000
namespace PySem
namespace ExW
open PySem.W PySem.Calls PyProof.Rows PySem.HandSPX

def iA (f : Str) (p1 p2 : Pos) : Arguments := { posonlyargs := [], args := [{ arg := "self", annotation := none, pos := p1 }, { arg := f, annotation := none, pos := p2 }], vararg := none, kwonlyargs := [], kw_defaults := [], kwarg := none, defaults := [] }
def iB (f msg : Str) (n : Nat) (p1 p2 p3 p4 p5 p6 q1 q2 q3 q4 : Pos) : List Stmt :=
  [.Expr (.Call (.Attribute (.Call (.Name "super" p1) [] [] p2) "__init__" p3) [.Constant (.str msg) n p4] [] p5) p6, .Assign [.Attribute (.Name "self" q1) f q2] (.Name f q3) q4]
def iS (f : Str) : Scope := { kind := .function, names := [("self", .local), (f, .local), ("__class__", .free), ("super", .globalImplicit)], isGenerator := false, isCoroutine := false, more := [] }
/-- what the written part says of the class at C and of its __init__, at fI; f: the field -/
structure ExT (prog : Program) (K : Frag) (mg : Str → Option Value) (cn f : Str) (C fI : Addr) : Prop where
  gC : mg cn = some (.ref C)
  cls : ∃ nm q N bs bm sn sub ab col dd k0 k1 k2 k3 k5, K.lookup C = some (excClassObj nm q C N bs bm true sn sub ab col dd k0 k1 k2 k3 k5 "ValueError.__new__") ∧ refsVE bm = true
  sa : findIn K (.ref C) "__setattr__" = some (some (.builtin "object.__setattr__"))
  ga : findIn K (.ref C) "__getattribute__" = some (some (.builtin "BaseException.__getattribute__"))
  gg : findIn K (.ref C) "__getattr__" = some none
  noN : findIn K (.ref C) f = some none
  iC : findIn K (.ref C) "__init__" = some (some (.ref fI))
  tC : typeIn K (.ref fI) = some (.type "function")
  kC : keepIn K (.ref C) = true
  exC : subIn K (.ref C) (.type "BaseException") = some true
  tyC : typeIn K (.ref C) = some (.type "type")
  hdC : hasDictIn K C = true
  te : exmOne K (.ref C) (.ref C) = some true
  own : mroIn K C (.ref C) = some true
  ve : subIn K (.ref C) (.type "ValueError") = some true
  ns : nsIn K mainGlobals "super" = some none
  op : nsIn K cStatics "thirdparty.any" = some none
  sup : ks_superIn K C C "__init__" = some (some (.builtin "ValueError.__init__"))
  top : (prog.main.scope.names.lookup ("super" : Str)).isSome = false
  fs : f = "value" ∨ f = "line" ∨ f = "limit"
  fn : ∃ (oc : Value) (od : Option Addr) (doc pm : Value) (an : Option Addr) (cda : Addr) (ct : Value) (osl : Array (Option Value)) (cc : Addr) (qual msg : Str) (n : Nat) (a1 a2 p1 p2 p3 p4 p5 p6 q1 q2 q3 q4 : Pos)
      (ccl : Value) (cdd : Option Addr) (vs : Array Value) (ccs : Array (Option Value)) (file : Str) (tf : Tok) (cl : Value) (cld : Option Addr) (csl : Array (Option Value)),
    K.lookup fI = some ⟨oc, od, .func (ksFn "__init__" qual (iA f a1 a2) (iB f msg n p1 p2 p3 p4 p5 p6 q1 q2 q3 q4) (iS f) .none .none doc pm an (.ref cda) ct cc), osl⟩ ∧ codeIn K (.ref cda) qual = true ∧
    K.lookup cda = some ⟨ccl, cdd, .fields vs, ccs⟩ ∧ vs[2]? = some (.str file tf) ∧ ((prog.main.file : Str) == file) = true ∧ K.lookup cc = some ⟨cl, cld, .cell (some (.ref C)), csl⟩ ∧ (p3.endLine == p5.line) = true
section
variable {prog : Program} {w : World} {M : Model} {A : Around} {E : Value → Shared → Prop} {R : Result → Shared → Prop} {s : Shared} {K : Frag} {mg : Str → Option Value} {C fI : Addr} {cn f : Str}
/-- the bound ValueError.__init__ called with one text -/
theorem mw_call {u e t0 : Addr} {rest : List Value} {nm q : Str} {N : Addr} {bs bm : List Value} {sn : List Str} {sub : List Value} {ab : Bool} {col : Option Bool} {dd : Option Addr} {k0 k1 k2 k3 k5 : Option Value} {Q : Value → Shared → Prop}
    {h : Heap} {g : Array GenState} {d : Drawn} {t : Nat} {os : OsState}
    (hC : h.get? C = some (excClassObj nm q C N bs bm true sn sub ab col dd k0 k1 k2 k3 k5 "ValueError.__new__")) (he : h.get? e = some (excO C t0)) (hu : h.get? u = some (kxs_mw "ValueError.__init__" e)) (hrest : rest.length ≤ sizeLine)
    (hq : ∀ h' t1, (∀ b o, b ≠ e → h.get? b = some o → h'.get? b = some o) → h'.get? e = some (excO C t1) → Q .none ⟨h', g, d, t, os⟩) : wpAny (model prog w) A (call (.ref u) rest) Q E ⟨h, g, d, t, os⟩ := by
  refine wpAny_call (codeAny_of_tree ?_)
  show wpAny _ A.in1 (callAny (.ref u) ⟨rest, []⟩) _ _ _
  simp only [callAny]
  refine wpAny_bind (wpAny_load hu ?_)
  simp only [kxs_mw, show (Value.type "method-wrapper" == Value.type "method" || Value.type "method-wrapper" == Value.type "builtin_function_or_method" || Value.type "method-wrapper" == Value.type "method-wrapper") = true by decide, if_true]
  refine KFB.if_so (by decide) ?_
  refine wpAny_bind (check_bound_init F.excBase_ValueError.toExcCallFacts hC he rfl ?_)
  refine wpAny_bind (wpAny_pure (wpAny_pure ?_))
  refine ⟨plainId_quiet F.excBase_ValueError.init.plain _, codeAny_builtin F.excBase_ValueError.initEntry ?_⟩
  exact exc_init_tree (cls := .ref C) (t0 := t0) (dv := none) (c2 := .none) (c3 := .none) (b4 := .bool false) he hrest fun h' k e' _ => hq h' _ k e'
theorem one_size (v : Value) : [v].length ≤ sizeLine := by
  rw [sizeLine_eq]
  exact (by decide : 1 ≤ 16777216)
/-- what __init__ leaves of a fresh exception at x -/
structure InitEnd (h h' : Heap) (x C dx t1 : Addr) (f : Str) (v : Value) : Prop where
  keep : ∀ b o, b ≠ x → h.get? b = some o → h'.get? b = some o
  obj : h'.get? x = some { cls := .ref C, dict := some dx, data := .fields #[.ref t1, .none, .none, .none, .bool false, .none] }
  dbig : h.objs.size ≤ dx
  dne : dx ≠ x
  ns : h'.Ns1 dx (fun y => if y = f then some v else none)
/-- a made exception -/
structure OwnMade (h h' : Heap) (e C d : Addr) (f : Str) (v : Value) : Prop where
  keep : ∀ b o, h.get? b = some o → h'.get? b = some o
  new : h.objs.size ≤ e
  obj : ∃ oe vs, h'.get? e = some oe ∧ oe.cls = .ref C ∧ oe.dict = some d ∧ oe.data = .fields vs ∧ vs[1]? = some .none
  dbig : h.objs.size ≤ d
  dne : d ≠ e
  ns : h'.Ns1 d (fun y => if y = f then some v else none)
theorem ldX {M : Model} {s : Shared} {env : Env} {m : Str → Option Value} {x : Str} {pos : Pos} {v : Value} {Q : Value → Shared → Prop} {A : Around} {E : Value → Shared → Prop} (hn : s.heap.Ns env.locals m) (hv : m x = some v) (h : Q v s)
    (hk : env.scope.kind = .function) (hl : env.kindOf x = some .local) (hd : (x == ("__debug__" : Str)) = false) :
    wpAny M A (eval (.Name x pos) env) Q E s := wpAny_Name (wpAny_loadName_local hk hl hn hv h) hd
theorem ex_init (T : ExT prog K mg cn f C fI) {x t0 : Addr} {v : Value} {mb : Str → Option Value} (X : K.In s.heap) (hlim : s.heap.NoLimit) (hg : s.heap.Ns mainGlobals mg) (hb : s.heap.Ns builtinsNs mb) (hbs : mb "super" = bootBuiltins "super")
    (hx : s.heap.get? x = some (excO C t0)) (hnx : K.lookup x = none) (hxg : x ≠ mainGlobals) (hxb : x ≠ builtinsNs) (hroom : A.depth < recursionLimit)
    (hq : ∀ h' tk dx t1, InitEnd s.heap h' x C dx t1 f v → R (.ok (.ret .none)) { s with heap := h', toks := tk }) :
    codeAny (model prog w) A (.call (.ref fI) ⟨[.ref x, v], []⟩) R s := by
  obtain ⟨oc, od, doc, pm, an, cda, ct, osl, cc, qual, msg, n, a1, a2, p1, p2, p3, p4, p5, p6, q1, q2, q3, q4, ccl, cdd, vs, ccs, file, tf, cl, cld, csl, ho, hcd, hcode, hvs, hfile, hcell, hl⟩ := T.fn
  obtain ⟨nm, q, N, bs, bm, sn, sub, ab, col, dd, k0, k1, k2, k3, k5, hC, hbm⟩ := T.cls
  have hcl : clsIn K C = some { name := nm, bases := bs, mro := .ref C :: bm, ns := N, qualname := q, hasDict := true, slotNames := sn, subclasses := sub, abstract := ab, collection := col, hasDel := false } := by unfold clsIn; rw [hC] <;> rfl
  have fself : ((f : Str) == ("self" : Str)) = false := by rcases T.fs with e | e | e <;> (subst e; decide +kernel)
  have selff : (("self" : Str) == f) = false := by rcases T.fs with e | e | e <;> (subst e; decide +kernel)
  have fdeb : (f == ("__debug__" : Str)) = false := by rcases T.fs with e | e | e <;> (subst e; decide +kernel)
  have lf : (iS f).names.lookup f = some .local := by
    show List.lookup f [(("self" : Str), NameKind.local), (f, .local), ("__class__", .free), ("super", .globalImplicit)] = _
    rw [List.lookup_cons, fself, List.lookup_cons, beq_self_eq_true]
  have ls : (iS f).names.lookup (PySem.Str.ofString "self") = some NameKind.local := rfl
  have bind : bindArgs (ksFn "__init__" qual (iA f a1 a2) (iB f msg n p1 p2 p3 p4 p5 p6 q1 q2 q3 q4) (iS f) .none .none doc pm an (.ref cda) ct cc) ⟨[.ref x, v], []⟩ = pure ([("self", .ref x), (f, v)] : List (Str × Value)) := by rcases T.fs with e | e | e <;> (subst e; rfl)
  refine ks_codeAny_call_defAt (fd := ksFn "__init__" qual (iA f a1 a2) (iB f msg n p1 p2 p3 p4 p5 p6 q1 q2 q3 q4) (iS f) .none .none doc pm an (.ref cda) ct cc) (body := iB f msg n p1 p2 p3 p4 p5 p6 q1 q2 q3 q4) (binds := ([("self", .ref x), (f, v)] : List (Str × Value)))
    hroom (X _ _ ho) rfl hlim (codeRec_of X hcd) rfl (BindsTo.of_eq bind) (fun y hy => ?_) (fun y hy => ?_) (fun h₁ hns hk => ?_) rfl rfl rfl
  · have hy' : y ∈ [(PySem.Str.ofString "self", NameKind.local), (f, .local), (PySem.Str.ofString "__class__", .free), (PySem.Str.ofString "super", .globalImplicit)] := hy
    simp only [List.mem_cons, List.not_mem_nil, or_false] at hy'
    rcases hy' with rfl | rfl | rfl | rfl <;> intro z <;> cases z
  · simp only [List.mem_cons, List.not_mem_nil, or_false] at hy
    rcases hy with rfl | rfl
    · exact ls
    · exact lf
  obtain ⟨hp, g, dr, tk, os⟩ := s
  have X₁ : K.In h₁ := X.keeps hk
  have hx₁ := hk _ _ hx
  have hxL : x ≠ hp.objs.size := Nat.ne_of_lt (Heap.lt_size hx)
  have mself : List.lookup (PySem.Str.ofString "self") (List.reverse [(PySem.Str.ofString "self", Value.ref x), (f, v)]) = some (.ref x) := by
    show List.lookup (PySem.Str.ofString "self") [(f, v), (PySem.Str.ofString "self", Value.ref x)] = _
    rw [List.lookup_cons, selff, List.lookup_cons, beq_self_eq_true]
  have mf : List.lookup f (List.reverse [(PySem.Str.ofString "self", Value.ref x), (f, v)]) = some v := by
    show List.lookup f [(f, v), (PySem.Str.ofString "self", Value.ref x)] = _
    rw [List.lookup_cons, beq_self_eq_true]
  show wpAt (model prog w) (A.deeper (ksEnv qual (iS f) hp.objs.size fI (.ref cda) cc)) (.func _ (ksEnv qual (iS f) hp.objs.size fI (.ref cda) cc)) (execs (iB f msg n p1 p2 p3 p4 p5 p6 q1 q2 q3 q4) (ksEnv qual (iS f) hp.objs.size fI (.ref cda) cc)) _ _ _
  refine ks_wpAt_execs_cons (ks_wpAt_Expr_any (ks_wpAt_MethodCall (pl := do return (← importBound (.Call (.Name "super" p1) [] [] p2) (ksEnv qual (iS f) hp.objs.size fI (.ref cda) cc)).getD true) (ks_wpAt_super_base (env := ksEnv qual (iS f) hp.objs.size fI (.ref cda) cc) (ar := { arg := "self", annotation := none, pos := a1 }) ?k1 ?k2 (by decide +kernel) rfl (X₁ _ _ ho) rfl rfl rfl (X₁ _ _ hcode) rfl hvs hfile T.top ?_) ?he))
  case he =>
    show (do
      let ov ← attributeBase (.Call (.Name "super" p1) [] [] p2) "__init__" (ksEnv qual (iS f) hp.objs.size fI (.ref cda) cc) (eval (.Call (.Name "super" p1) [] [] p2) (ksEnv qual (iS f) hp.objs.size fI (.ref cda) cc))
      standAt p3.atName
      methodCall (.Call (.Name "super" p1) [] [] p2) "__init__" p3 p5 (ksEnv qual (iS f) hp.objs.size fI (.ref cda) cc) ov 1 (backTo p5 (starEach [.Constant (.str msg) n p4] (ksEnv qual (iS f) hp.objs.size fI (.ref cda) cc))) []) = _
    unfold methodCall methodCallPos
    rw [hl]
    rfl
  case k1 =>
    show (iS f).names.lookup (PySem.Str.ofString "super") = some NameKind.globalImplicit
    rcases T.fs with e | e | e <;> (subst e; decide +kernel)
  case k2 =>
    show (iS f).names.lookup (PySem.Str.ofString "__class__") = some NameKind.free
    rcases T.fs with e | e | e <;> (subst e; decide +kernel)
  have hks : (ksEnv qual (iS f) hp.objs.size fI (.ref cda) cc).kindOf "super" = some .globalImplicit := by
    show (iS f).names.lookup (PySem.Str.ofString "super") = some NameKind.globalImplicit
    rcases T.fs with e | e | e <;> (subst e; decide +kernel)
  have hkc : (ksEnv qual (iS f) hp.objs.size fI (.ref cda) cc).kindOf "__class__" = some .free := by
    show (iS f).names.lookup (PySem.Str.ofString "__class__") = some NameKind.free
    rcases T.fs with e | e | e <;> (subst e; decide +kernel)
  have hC1 : h₁.get? C = _ := X₁ _ _ hC
  have hxC : x ≠ C := fun z => by rw [z, show List.lookup C K = _ from hC] at hnx; cases hnx
  have ix : InstAt h₁ x (excO C t0) C none := ⟨hx₁, rfl, rfl, trivial⟩
  refine ks_loadName_global rfl hks (loadGlobal_builtin (env := ksEnv qual (iS f) hp.objs.size fI (.ref cda) cc) (hg.keeps hk) (mg_none_of X hg T.ns) (hb.keeps hk) (hbs.trans (by decide +kernel)) ⟨rfl, ?_⟩)
  refine wpAny_loadName_free rfl hkc rfl ⟨_, X₁ _ _ hcell, rfl⟩ ?_
  refine wpAny_loadName_local rfl (show (ksEnv qual (iS f) hp.objs.size fI (.ref cda) cc).kindOf "self" = some .local from ls) hns mself ?_
  refine ks_wpAny_isType_cls hC1 rfl ⟨rfl, ?_⟩
  refine ks_wpAny_call_super hC1 rfl hx₁ rfl (fun c e => by cases e) (looks_mroIn X₁ T.own) (fun h2 e2 k2 => ?_)
  have X₂ : K.In h2 := X₁.keeps k2
  have hx2 := k2 _ _ hx₁
  -- getMethod
  have hI2 : Looks (model prog w) h2 (isInstance (.ref x) (.type "ValueError")) true := (InstAt.type (M := model prog w) (show InstAt h2 x (excO C t0) C none from ⟨hx2, rfl, rfl, trivial⟩)).andThen (looks_subIn X₂ T.ve)
  have hsup := T.sup
  unfold ks_superIn at hsup
  rw [hcl] at hsup
  refine kxs_getMethod kxs_ValueError e2 (looks_opaque X₂ T.op) (l₀ := .ref C :: bm) ?_ rfl X₂ hsup hI2 hxC (by decide +kernel) ?_
  · exact fun A Q E s k q => wpAny_bind ((looks_clsIn X₂ hcl) A _ E s k (wpAny_pure q))
  -- the text, the call
  refine kxs_callWith (i := "ValueError.__init__") (x := x) rfl ?_
  refine evalArgs_plain (Calls.spliced_cons (Calls.Constant_str (k := n) (pos := p4) (Calls.spliced_nil ?_)))
  have hput : (h2.push (kxs_mw "ValueError.__init__" x)).get? h2.objs.size = some (kxs_mw "ValueError.__init__" x) := Heap.get?_push_at rfl rfl
  have k3 : ∀ b o, h2.get? b = some o → (h2.push (kxs_mw "ValueError.__init__" x)).get? b = some o := fun b o e => Heap.get?_push_of_some _ e
  refine ⟨hput, ?_⟩
  show wpAny _ _ (call (.ref h2.objs.size) [Value.str msg _]) _ _ _
  refine mw_call (k3 _ _ (X₂ _ _ hC)) (k3 _ _ hx2) hput (one_size _) fun h4 t1 k4 hx4 => ?_
  have big : ∀ b o, h₁.get? b = some o → b ≠ x → h4.get? b = some o := fun b o e ne => k4 b o ne (k3 b o (k2 b o e))
  have X₄ : K.In h4 := fun b o e => k4 b o (fun z => by rw [z, hnx] at e; cases e) (k3 b o (k2 b o (X₁ b o e)))
  have hn4 : h4.Ns hp.objs.size (fun y => List.lookup y (List.reverse ([(PySem.Str.ofString "self", Value.ref x), (f, v)] : List (Str × Value)))) := by
    obtain ⟨oL, es, ep, hL, r⟩ := hns
    exact ⟨oL, es, ep, big _ _ hL (Ne.symm hxL), r⟩
  -- self.f = f
  refine wpAt_of_wpAny (wpAny_execs_cons (plainObj_wpAny_Assign_Attribute ?_))
  refine ldX (env := ksEnv qual (iS f) hp.objs.size fI (.ref cda) cc) (v := v) hn4 mf (ldX (env := ksEnv qual (iS f) hp.objs.size fI (.ref cda) cc) (v := .ref x) hn4 mself ?_ rfl ls (by decide +kernel)) rfl lf fdeb
  refine set_plain X₄ (ox := excO C t1) (od := none) ⟨hx4, rfl, rfl, trivial⟩ T.sa ?_
  refine exc_osa X₄ hx4 hcl (show refsVE (.ref C :: bm) = true from hbm) rfl T.noN (fun h5 tk5 dx k5 dn dne hx5 hn5 => ?_)
  show wpAny _ _ (execs _ _) _ _ _
  have z1 : hp.objs.size < h₁.objs.size := hns.lt
  have z2 : hp.objs.size < h4.objs.size := hn4.lt
  exact wpAny_execs_nil (hq h5 tk5 dx t1 ⟨fun b o hb e => k5 b o hb (big b o (hk b o e) hb), hx5, Nat.le_of_lt (Nat.lt_of_lt_of_le z2 dn), dne, hn5⟩)
theorem ex_made (T : ExT prog K mg cn f C fI) {v : Value} {mb : Str → Option Value} (X : K.In s.heap) (hlim : s.heap.NoLimit) (hg : s.heap.Ns mainGlobals mg) (hb : s.heap.Ns builtinsNs mb) (hbs : mb "super" = bootBuiltins "super") (hroom : A.depth + 1 < recursionLimit)
    (hq : ∀ h' tk e d, OwnMade s.heap h' e C d f v → R (.ok (.ret (.ref e))) { s with heap := h', toks := tk }) :
    codeAny (model prog w) A (.call (.ref C) ⟨[v], []⟩) R s := by
  obtain ⟨nm, q, N, bs, bm, sn, sub, ab, col, dd, k0, k1, k2, k3, k5, hC, hbm⟩ := T.cls
  obtain ⟨hp, g, dr, tk, os⟩ := s
  have k : ∀ b o, hp.get? b = some o → ((hp.push (kdv_tup [v])).push (excO C hp.objs.size)).get? b = some o := fun b o e => Heap.get?_push_of_some _ (Heap.get?_push_of_some _ e)
  have hget : ((hp.push (kdv_tup [v])).push (excO C hp.objs.size)).get? (hp.objs.size + 1) = some (excO C hp.objs.size) := by heap_get
  have hnx : K.lookup (hp.objs.size + 1) = none := by
    cases e : K.lookup (hp.objs.size + 1) with
    | none => rfl
    | some o =>
      have z : hp.get? (hp.objs.size + 1) = some o := X _ _ e
      exact absurd (Nat.lt_of_succ_lt (Heap.lt_size z)) (Nat.lt_irrefl _)
  have hxg : hp.objs.size + 1 ≠ mainGlobals := fun z => by
    have y := hg.lt
    rw [← z] at y
    exact absurd (Nat.lt_of_succ_lt y) (Nat.lt_irrefl _)
  have hxb : hp.objs.size + 1 ≠ builtinsNs := fun z => by
    have y := hb.lt
    rw [← z] at y
    exact absurd (Nat.lt_of_succ_lt y) (Nat.lt_irrefl _)
  refine call_own F.excBase_ValueError (fun X => refsVE_contains X bm hbm) (X _ _ hC) (looks_findIn X T.iC) (fun self => bind_fn X self T.tC) (one_size v) ?_
  refine ex_init (s := ⟨(hp.push (kdv_tup [v])).push (excO C hp.objs.size), g, dr, tk, os⟩) T (X.keeps k) (hlim.keeps k) (hg.keeps k) (hb.keeps k) hbs hget hnx hxg hxb ?_ fun h' tk' dx t1 ⟨k', hx, dn, dne, hns⟩ => ?_
  · show A.depth + 1 < recursionLimit
    exact hroom
  · have old : ∀ b o, hp.get? b = some o → h'.get? b = some o := fun b o e => k' b o (Nat.ne_of_lt (Nat.lt_succ_of_lt (Heap.lt_size e))) (k b o e)
    have z : hp.objs.size + 1 + 1 ≤ dx := by
      first
        | (simpa only [Heap.size_push] using dn)
        | exact dn
        | (have q := dn; rw [Heap.size_push, Heap.size_push] at q; exact q)
    exact ⟨rfl, hq h' tk' (hp.objs.size + 1) dx ⟨old, Nat.le_succ _, ⟨_, _, hx, rfl, rfl, rfl, rfl⟩, Nat.le_trans (Nat.le_trans (Nat.le_succ _) (Nat.le_succ _)) z, dne, hns⟩⟩
end
end ExW
end PySem

set_option Elab.async false
set_option linter.all false
set_option maxRecDepth 100000
set_option maxHeartbeats 4000000
namespace DL
open PySem PySem.Spec PyProof.Rows L2

def mapO {α β : Type} (f : α → Option β) : List α → Option (List β)
  | [] => some []
  | x :: xs => match f x, mapO f xs with
    | some y, some ys => some (y :: ys)
    | _, _ => none
theorem mapO_cons {α β : Type} {f : α → Option β} {x : α} {xs : List α} {l : List β} (h : mapO f (x :: xs) = some l) : ∃ y ys, f x = some y ∧ mapO f xs = some ys ∧ l = y :: ys := by
  unfold mapO at h
  cases e : f x with
  | none => rw [e] at h; cases h
  | some y =>
    rw [e] at h
    cases e2 : mapO f xs with
    | none => rw [e2] at h; cases h
    | some ys => rw [e2] at h; cases h; exact ⟨y, ys, rfl, rfl, rfl⟩
/-- a value as data: lists are looked up -/
def toPy (S : Sto) : Nat → D → Option PyData
  | 0, _ => none
  | n + 1, .tup xs => (mapO (toPy S n) xs).map .tuple
  | n + 1, .rol xs => (mapO (toPy S n) xs).map .list
  | n + 1, .ref a => match S a with
    | some (.lst xs) => (mapO (toPy S n) xs).map .list
    | _ => none
  | _ + 1, .non => some .none
  | _ + 1, .bl b => some (.bool b)
  | _ + 1, .int i => some (.int i)
  | _ + 1, .str x => some (.str x)
  | _ + 1, .ty _ => none
  | _ + 1, .glo _ => none
section
variable {g : GP} {H : Hp} {S : Sto}
theorem mapO_dp {f : D → Option PyData} (hf : ∀ d p v, f d = some p → DRel g H d v → Dp g.K H v p) : ∀ {xs : List D} {l : List PyData} {vs : List V}, mapO f xs = some l → DRels g H xs vs → DpAll g.K H vs l
  | [], l, vs, e, r => by
    cases e
    unfold DRels at r; rw [r]; exact .nil
  | x :: xs, l, vs, e, r => by
    obtain ⟨y, ys, e1, e2, rfl⟩ := mapO_cons e
    unfold DRels at r
    obtain ⟨v, q, rfl, r1, r2⟩ := r
    exact .cons (hf x y v e1 r1) (mapO_dp hf e2 r2)
theorem toPy_dp (m : Sim g H S) : ∀ (n : Nat) (d : D) (p : PyData) (v : V), toPy S n d = some p → DRel g H d v → Dp g.K H v p
  | 0, d, p, v, e, r => by cases e
  | n + 1, .tup xs, p, v, e, r => by
    unfold toPy at e
    obtain ⟨l, e1, rfl⟩ := Option.map_eq_some_iff.mp e
    unfold DRel at r
    obtain ⟨a, vs, rfl, q, r⟩ := r
    exact .tup q (mapO_dp (toPy_dp m n) e1 r)
  | n + 1, .rol xs, p, v, e, r => by
    unfold toPy at e
    obtain ⟨l, e1, rfl⟩ := Option.map_eq_some_iff.mp e
    unfold DRel at r
    obtain ⟨a, vs, rfl, q, r⟩ := r
    exact .lst q.sql (mapO_dp (toPy_dp m n) e1 r)
  | n + 1, .ref a, p, v, e, r => by
    unfold toPy at e
    unfold DRel at r
    subst r
    cases q : S a with
    | none => rw [q] at e; cases e
    | some o =>
      rw [q] at e
      cases o with
      | lst xs =>
        obtain ⟨l, e1, rfl⟩ := Option.map_eq_some_iff.mp e
        obtain ⟨vs, h1, h2⟩ := m a _ q
        exact .lst (SqL.of h1) (mapO_dp (toPy_dp m n) e1 h2)
      | ins _ _ => cases e
      | slo _ _ => cases e
      | dic _ => cases e
      | exd _ => cases e
  | n + 1, .non, p, v, e, r => by cases e; unfold DRel at r; rw [r]; exact .non
  | n + 1, .bl b, p, v, e, r => by cases e; unfold DRel at r; rw [r]; exact .bl b
  | n + 1, .int b, p, v, e, r => by cases e; unfold DRel at r; rw [r]; exact .int b
  | n + 1, .str b, p, v, e, r => by cases e; unfold DRel at r; rw [r]; exact .str b
  | n + 1, .ty _, p, v, e, r => by cases e
  | n + 1, .glo _, p, v, e, r => by cases e
theorem mapO_plain {f : D → Option PyData} {n : Nat} (hf : ∀ d p, f d = some p → p.plain = true ∧ p.depth ≤ n) : ∀ {xs : List D} {l : List PyData}, mapO f xs = some l → PyData.plainAll l = true ∧ PyData.depthAll l ≤ n
  | [], l, e => by cases e; exact ⟨rfl, by simp [PyData.depthAll]⟩
  | x :: xs, l, e => by
    obtain ⟨y, ys, e1, e2, rfl⟩ := mapO_cons e
    obtain ⟨a, b⟩ := hf x y e1
    obtain ⟨c, d⟩ := mapO_plain hf e2
    refine ⟨?_, ?_⟩
    · simp only [PyData.plainAll, a, c, Bool.and_self]
    · simp only [PyData.depthAll]; omega
theorem toPy_plain : ∀ (n : Nat) (d : D) (p : PyData), toPy S n d = some p → p.plain = true ∧ p.depth ≤ n
  | 0, d, p, e => by cases e
  | n + 1, .tup xs, p, e => by
    unfold toPy at e
    obtain ⟨l, e1, rfl⟩ := Option.map_eq_some_iff.mp e
    obtain ⟨a, b⟩ := mapO_plain (toPy_plain n) e1
    exact ⟨by simp only [PyData.plain]; exact a, by simp only [PyData.depth]; omega⟩
  | n + 1, .rol xs, p, e => by
    unfold toPy at e
    obtain ⟨l, e1, rfl⟩ := Option.map_eq_some_iff.mp e
    obtain ⟨a, b⟩ := mapO_plain (toPy_plain n) e1
    exact ⟨by simp only [PyData.plain]; exact a, by simp only [PyData.depth]; omega⟩
  | n + 1, .ref a, p, e => by
    unfold toPy at e
    cases q : S a with
    | none => rw [q] at e; cases e
    | some o =>
      rw [q] at e
      cases o with
      | lst xs =>
        obtain ⟨l, e1, rfl⟩ := Option.map_eq_some_iff.mp e
        obtain ⟨a, b⟩ := mapO_plain (toPy_plain n) e1
        exact ⟨by simp only [PyData.plain]; exact a, by simp only [PyData.depth]; omega⟩
      | ins _ _ => cases e
      | slo _ _ => cases e
      | dic _ => cases e
      | exd _ => cases e
  | n + 1, .non, p, e => by cases e; exact ⟨rfl, by simp [PyData.depth]⟩
  | n + 1, .bl b, p, e => by cases e; exact ⟨rfl, by simp [PyData.depth]⟩
  | n + 1, .int b, p, e => by cases e; exact ⟨rfl, by simp [PyData.depth]⟩
  | n + 1, .str b, p, e => by cases e; exact ⟨rfl, by simp [PyData.depth]⟩
  | n + 1, .ty _, p, e => by cases e
  | n + 1, .glo _, p, e => by cases e
end

section
variable {X : Cx} {pins : List (Addr × Obj)} {σ : VSt} {H : Hp} {s : Shared} {σD : DSt} {S : Sto} {ex : DXs} {Kt : DK} {x y : D} {xv yv : V} {v u : Value}
/-- what is wanted of the hand layer's rule -/
abbrev PQ (X : Cx) (H : Hp) (Kt : DK) : VK := fun v H' => ∃ d S', Ext X.K H H' ∧ DRel (gp X) H' d v ∧ Sim (gp X) H' S' ∧ Kt d S'
theorem go2 {f : Value → Value → Sem Value} {r0 : R2} (ho : OpR X f r0) (T : Sit X pins σ H s σD S) (rx : RelV xv v) (ry : RelV yv u) (q : r0 xv yv H (PQ X H Kt)) : wpAny (model X.prog X.w) X.A (f v u) (EQ X pins σ H Kt) X.xe s :=
  thn (ho pins s σ H xv yv v u _ T.I rx ry q) fun u s1 ⟨v, H', I', r, d, S', x, dr, m, k⟩ => ⟨v, H', d, S', I', r, x, dr, m, k⟩
theorem PQ.same {d : D} {v : V} (m : Sim (gp X) H S) (dr : DRel (gp X) H d v) (k : Kt d S) : PQ X H Kt v H := ⟨d, S, .refl, dr, m, k⟩
theorem PQ.int {i : Int} (m : Sim (gp X) H S) (k : Kt (.int i) S) : PQ X H Kt (.int i) H := ⟨.int i, S, .refl, by simp [DRel], m, k⟩
theorem PQ.bl {i : Bool} (m : Sim (gp X) H S) (k : Kt (.bl i) S) : PQ X H Kt (.bl i) H := ⟨.bl i, S, .refl, by simp [DRel], m, k⟩
theorem PQ.str {i : Str} (m : Sim (gp X) H S) (k : Kt (.str i) S) : PQ X H Kt (.str i) H := ⟨.str i, S, .refl, by simp [DRel], m, k⟩
theorem PQ.newL {ds : List D} {vs : List V} {p : Addr} (m : Sim (gp X) H S) (n : H p = none) (r : DRels (gp X) H ds vs) (k : Kt (.ref p) (sup S p (.lst ds))) : PQ X H Kt (.ref p) (L2.upd H p (.lst vs)) :=
  ⟨.ref p, _, Ext.new n, by simp [DRel], m.newL n r, k⟩
theorem PQ.newT {ds : List D} {vs : List V} {p : Addr} (m : Sim (gp X) H S) (n : H p = none) (r : DRels (gp X) H ds vs) (k : Kt (.tup ds) S) : PQ X H Kt (.ref p) (L2.upd H p (.tup vs)) :=
  ⟨.tup ds, _, Ext.new n, sit_tup n r, m.hid n, k⟩

/-- an operator of an instance's own class -/
abbrev Own := Str → D → D → Sto → DK → DX → Prop
def isIns : Option SO → Bool
  | some (.ins _ _) => true
  | some (.slo _ _) => true
  | _ => false
def ownR (ow : Own) (nm : Str) : DR2 := fun x y S K E => ∃ a, x = .ref a ∧ isIns (S a) = true ∧ ow nm x y S K E

def addD (ow : Own) : DR2 := fun x y S K E => match x, y with
  | .int i, .int j => K (.int (i + j)) S
  | .str a, .str b => a.length + b.length ≤ sizeLine ∧ K (.str (a ++ b)) S
  | .tup a, .tup b => a.length + b.length ≤ sizeLine ∧ K (.tup (a ++ b)) S
  | .ref a, y => match S a, y with
    | some (.lst xs), .ref b => (match S b with
      | some (.lst ys) => xs.length + ys.length ≤ sizeLine ∧ ∀ p, S p = none → K (.ref p) (sup S p (.lst (xs ++ ys)))
      | _ => False)
    | some (.lst _), _ => False
    | some (.ins _ _), y => ow "__add__" (.ref a) y S K E
    | some (.slo _ _), y => ow "__add__" (.ref a) y S K E
    | _, _ => False
  | _, _ => False
theorem opD_add {ow : Own} (hw : OpD X (binaryOp .Add) (ownR ow "__add__")) : OpD X (binaryOp .Add) (addD ow) := by
  intro pins s σ H σD S ex Kt x y xv yv v u tk T dx dy rx ry q
  cases x with
  | int i => cases y with
    | int j =>
      unfold DRel at dx dy
      exact go2 op_add T rx ry ⟨i, j, dx, dy, PQ.int T.m q⟩
    | _ => exact (show False from q).elim
  | str i => cases y with
    | str j =>
      unfold DRel at dx dy
      exact go2 op_add_str T rx ry ⟨i, j, dx, dy, q.1, PQ.str T.m q.2⟩
    | _ => exact (show False from q).elim
  | tup i => cases y with
    | tup j =>
      have dx0 := dx
      have dy0 := dy
      unfold DRel at dx dy
      obtain ⟨a, vs, e1, h1, r1⟩ := dx
      obtain ⟨b, us, e2, h2, r2⟩ := dy
      subst e1 e2
      have l1 := r1.length
      have l2 := r2.length
      refine go2 op_catA T rx ry ⟨a, b, vs, us, rfl, rfl, h1, h2, by rw [← l1, ← l2]; exact q.1, fun e => ?_, fun _ e => ?_, fun _ _ p hp => PQ.newT T.m hp (r1.append r2) q.2⟩
      · have : i = [] := List.length_eq_zero_iff.mp (by rw [l1, e]; rfl)
        subst this
        exact PQ.same T.m dy0 q.2
      · have : j = [] := List.length_eq_zero_iff.mp (by rw [l2, e]; rfl)
        subst this
        refine PQ.same T.m dx0 ?_
        have q2 := q.2
        rw [List.append_nil] at q2
        exact q2
    | _ => exact (show False from q).elim
  | ref a =>
    cases e : S a with
    | none => simp only [addD, e] at q
    | some o =>
      cases o with
      | lst xs =>
        cases y with
        | ref b =>
          cases e2 : S b with
          | none => simp only [addD, e, e2] at q
          | some o2 =>
            cases o2 with
            | lst ys =>
              simp only [addD, e, e2] at q
              unfold DRel at dx dy
              obtain ⟨vs, h1, r1⟩ := T.m a _ e
              obtain ⟨us, h2, r2⟩ := T.m b _ e2
              have l1 := r1.length
              have l2 := r2.length
              exact go2 op_cat T rx ry ⟨a, b, vs, us, dx, dy, h1, h2, by rw [← l1, ← l2]; exact q.1, fun p hp => PQ.newL T.m hp (r1.append r2) (q.2 p (T.m.fresh hp))⟩
            | ins _ _ => simp only [addD, e, e2] at q
            | slo _ _ => simp only [addD, e, e2] at q
            | dic _ => simp only [addD, e, e2] at q
            | exd _ => simp only [addD, e, e2] at q
        | _ => simp only [addD, e] at q
      | ins c fs => exact hw pins s σ H σD S ex Kt _ y xv yv v u tk T dx dy rx ry ⟨a, rfl, by rw [e]; rfl, by simpa only [addD, e] using q⟩
      | slo c fs => exact hw pins s σ H σD S ex Kt _ y xv yv v u tk T dx dy rx ry ⟨a, rfl, by rw [e]; rfl, by simpa only [addD, e] using q⟩
      | dic _ => simp only [addD, e] at q
      | exd _ => simp only [addD, e] at q
  | _ => exact (show False from q).elim
def intD (C : Int → Int → Prop) (f : Int → Int → D) : DR2 := fun x y S K E => match x, y with
  | .int i, .int j => C i j ∧ K (f i j) S
  | _, _ => False
theorem opD_int {f : Value → Value → Sem Value} {C C0 : Int → Int → Prop} {fd : Int → Int → D} {fv : Int → Int → V} (ho : OpR X f (rI C0 fv)) (hc : ∀ i j, C i j → C0 i j) (hf : ∀ H i j, C i j → DRel (gp X) H (fd i j) (fv i j)) : OpD X f (intD C fd) := by
  intro pins s σ H σD S ex Kt x y xv yv v u tk T dx dy rx ry q
  cases x with
  | int i => cases y with
    | int j =>
      unfold DRel at dx dy
      exact go2 ho T rx ry ⟨i, j, dx, dy, hc _ _ q.1, PQ.same T.m (hf H i j q.1) q.2⟩
    | _ => exact (show False from q).elim
  | _ => exact (show False from q).elim
theorem rI_of0 {f : Value → Value → Sem Value} {fv : Int → Int → V} (h : OpR X f (rI0 fv)) : OpR X f (rI (fun _ _ => True) fv) := fun pins s σ H x y v u Q I rx ry ⟨i, j, a, b, _, q⟩ => h pins s σ H x y v u Q I rx ry ⟨i, j, a, b, q⟩
def subD : DR2 := intD (fun _ _ => True) fun i j => .int (i - j)
theorem opD_sub : OpD X (binaryOp .Sub) subD := opD_int (rI_of0 op_sub) (fun _ _ h => h) fun _ _ _ _ => by simp [DRel]
/-- what a product asks: one factor is small, or both are not very great -/
def CMulD (i j : Int) : Prop := CMul i j ∨ CMulW i j
theorem op_mulD : OpR X (binaryOp .Mult) (rI CMulD fun i j => .int (i * j)) := fun pins s σ H x y v u Q I rx ry ⟨i, j, a, b, c, q⟩ => by
  rcases c with c | c
  · exact op_mul pins s σ H x y v u Q I rx ry ⟨i, j, a, b, c, q⟩
  · exact op_mulW pins s σ H x y v u Q I rx ry ⟨i, j, a, b, c, q⟩
def mulD : DR2 := fun x y S K E => match x, y with
  | .int i, .int j => CMulD i j ∧ K (.int (i * j)) S
  | .ref a, .int k => (match S a with
    | some (.lst xs) => (-(2 ^ 63) ≤ k ∧ k < 2 ^ 63 ∧ xs.length * k.toNat ≤ sizeLine) ∧ ∀ p, S p = none → K (.ref p) (sup S p (.lst ((List.replicate k.toNat xs).flatten)))
    | _ => False)
  | _, _ => False
theorem DRels.rep {g : GP} {H : Hp} {ds : List D} {vs : List V} (r : DRels g H ds vs) : ∀ n, DRels g H (List.replicate n ds).flatten (List.replicate n vs).flatten
  | 0 => by simp [DRels]
  | n + 1 => by
    rw [List.replicate_succ, List.replicate_succ, List.flatten_cons, List.flatten_cons]
    exact r.append (DRels.rep r n)
def divD : DR2 := intD CDivW fun i j => .int (i / j)
theorem opD_div : OpD X (binaryOp .FloorDiv) divD := opD_int op_fdivW (fun _ _ h => h) fun _ _ _ _ => by simp [DRel]
def modD : DR2 := intD (fun _ j => 0 < j) fun i j => .int (i % j)
theorem opD_mod : OpD X (binaryOp .Mod) modD := opD_int op_mod (fun _ _ h => h) fun _ _ _ _ => by simp [DRel]
def powD : DR2 := intD CPow fun i j => .int (i ^ j.toNat)
theorem opD_pow : OpD X (binaryOp .Pow) powD := opD_int op_pow (fun _ _ h => h) fun _ _ _ _ => by simp [DRel]
end
end DL

set_option Elab.async false
set_option linter.all false
set_option maxRecDepth 100000
set_option maxHeartbeats 4000000
namespace DL
open PySem PySem.Spec PyProof.Rows L2
section
variable {X : Cx} {pins : List (Addr × Obj)} {σ : VSt} {H : Hp} {s : Shared} {σD : DSt} {S : Sto} {ex : DXs} {Kt : DK} {x y : D} {xv yv : V} {v u : Value}
theorem opD_mul : OpD X (binaryOp .Mult) mulD := by
  intro pins s σ H σD S ex Kt x y xv yv v u tk T dx dy rx ry q
  cases x with
  | int i => cases y with
    | int j =>
      unfold DRel at dx dy
      exact go2 op_mulD T rx ry ⟨i, j, dx, dy, q.1, PQ.int T.m q.2⟩
    | _ => exact (show False from q).elim
  | ref a => cases y with
    | int k =>
      cases e : S a with
      | none => simp only [mulD, e] at q
      | some o => cases o with
        | lst xs =>
          simp only [mulD, e] at q
          unfold DRel at dx dy
          obtain ⟨vs, h1, r1⟩ := T.m a _ e
          have l1 := r1.length
          exact go2 op_rep T rx ry ⟨a, k, vs, dx, dy, h1, q.1.1, q.1.2.1, by rw [← l1]; exact q.1.2.2, fun p hp => PQ.newL T.m hp (r1.rep _) (q.2 p (T.m.fresh hp))⟩
        | ins _ _ => simp only [mulD, e] at q
        | slo _ _ => simp only [mulD, e] at q
        | dic _ => simp only [mulD, e] at q
        | exd _ => simp only [mulD, e] at q
    | _ => exact (show False from q).elim
  | _ => exact (show False from q).elim
/-- == of two values: data, else an own __eq__ of the left one -/
def eqDn (neg : Bool) (ow : Own) : DR2 := fun x y S K E => match toPy S 64 x, toPy S 64 y with
  | some p, some q => K (.bl (neg ^^ PyData.eqv p q)) S
  | _, _ => ownR ow (if neg then "__ne__" else "__eq__") x y S K E
theorem reads_of (T : Sit X pins σ H s σD S) (dx : DRel (gp X) H x xv) (rx : RelV xv v) {p : PyData} (e : toPy S 64 x = some p) : ∃ as, Reads s.heap v p as :=
  Dp.reads T.I p xv v (toPy_dp T.m 64 x p xv e dx) rx
theorem opD_eq {ow : Own} (hu : X.A.units + 64 < cLine) (hw : OpD X (compareOp .Eq) (ownR ow "__eq__")) : OpD X (compareOp .Eq) (eqDn false ow) := by
  intro pins s σ H σD S ex Kt x y xv yv v u tk T dx dy rx ry q
  cases e1 : toPy S 64 x with
  | none => exact hw pins s σ H σD S ex Kt x y xv yv v u tk T dx dy rx ry (by simpa only [eqDn, e1, if_true, if_false, Bool.false_eq_true] using q)
  | some p => cases e2 : toPy S 64 y with
    | none => exact hw pins s σ H σD S ex Kt x y xv yv v u tk T dx dy rx ry (by simpa only [eqDn, e1, e2, if_true, if_false, Bool.false_eq_true] using q)
    | some p' =>
      obtain ⟨as, r1⟩ := reads_of T dx rx e1
      obtain ⟨bs, r2⟩ := reads_of T dy ry e2
      obtain ⟨a1, a2⟩ := toPy_plain 64 x p e1
      obtain ⟨b1, b2⟩ := toPy_plain 64 y p' e2
      simp only [eqDn, e1, e2, Bool.false_xor] at q
      exact SeqAt.eq_plain r1 r2 a1 b1 (by omega) ⟨.bl _, H, .bl _, S, T.I, rfl, .refl, by simp [DRel], T.m, q⟩
theorem opD_ne {ow : Own} (hu : X.A.units + 64 < cLine) (hw : OpD X (compareOp .NotEq) (ownR ow "__ne__")) : OpD X (compareOp .NotEq) (eqDn true ow) := by
  intro pins s σ H σD S ex Kt x y xv yv v u tk T dx dy rx ry q
  cases e1 : toPy S 64 x with
  | none => exact hw pins s σ H σD S ex Kt x y xv yv v u tk T dx dy rx ry (by simpa only [eqDn, e1, if_true, if_false, Bool.false_eq_true] using q)
  | some p => cases e2 : toPy S 64 y with
    | none => exact hw pins s σ H σD S ex Kt x y xv yv v u tk T dx dy rx ry (by simpa only [eqDn, e1, e2, if_true, if_false, Bool.false_eq_true] using q)
    | some p' =>
      obtain ⟨as, r1⟩ := reads_of T dx rx e1
      obtain ⟨bs, r2⟩ := reads_of T dy ry e2
      obtain ⟨a1, a2⟩ := toPy_plain 64 x p e1
      obtain ⟨b1, b2⟩ := toPy_plain 64 y p' e2
      simp only [eqDn, e1, e2, Bool.true_xor] at q
      exact SeqAt.ne_plain r1 r2 a1 b1 (by omega) ⟨.bl _, H, .bl _, S, T.I, rfl, .refl, by simp [DRel], T.m, q⟩
def cmpD (ci : Int → Int → Bool) (cs : Str → Str → Bool) : DR2 := fun x y S K E => match x, y with
  | .int i, .int j => K (.bl (ci i j)) S
  | .str i, .str j => K (.bl (cs i j)) S
  | _, _ => False
theorem opD_cmp {f : Value → Value → Sem Value} {ci : Int → Int → Bool} {cs : Str → Str → Bool} (hi : OpR X f (rI0 fun i j => .bl (ci i j))) (hs : OpR X f (fun x y H Q => ∃ i j, x = .str i ∧ y = .str j ∧ Q (.bl (cs i j)) H)) : OpD X f (cmpD ci cs) := by
  intro pins s σ H σD S ex Kt x y xv yv v u tk T dx dy rx ry q
  cases x with
  | int i => cases y with
    | int j =>
      unfold DRel at dx dy
      exact go2 hi T rx ry ⟨i, j, dx, dy, PQ.bl T.m q⟩
    | _ => exact (show False from q).elim
  | str i => cases y with
    | str j =>
      unfold DRel at dx dy
      exact go2 hs T rx ry ⟨i, j, dx, dy, PQ.bl T.m q⟩
    | _ => exact (show False from q).elim
  | _ => exact (show False from q).elim
def ltD : DR2 := cmpD (fun i j => decide (i < j)) fun i j => decide (i.cps.toList < j.cps.toList)
def leD : DR2 := cmpD (fun i j => decide (i ≤ j)) fun i j => !decide (j.cps.toList < i.cps.toList)
def gtD : DR2 := cmpD (fun i j => decide (j < i)) fun i j => decide (j.cps.toList < i.cps.toList)
def geD : DR2 := cmpD (fun i j => decide (j ≤ i)) fun i j => !decide (i.cps.toList < j.cps.toList)
theorem opD_lt : OpD X (compareOp .Lt) ltD := opD_cmp op_lt op_lt_str
def isN : D → Bool
  | .non => true
  | _ => false
def isD : DR2 := fun x y S K E => y = .non ∧ K (.bl (isN x)) S
def isnD : DR2 := fun x y S K E => y = .non ∧ K (.bl (!isN x)) S
theorem isN_rel {g : GP} {H : Hp} {d : D} {v : V} (h : DRel g H d v) : isN d = decide (v = .non) := by
  cases d with
  | tup xs => unfold DRel at h; obtain ⟨a, vs, e, _⟩ := h; subst e; rfl
  | rol xs => unfold DRel at h; obtain ⟨a, vs, e, _⟩ := h; subst e; rfl
  | glo xs => unfold DRel at h; obtain ⟨a, _, e⟩ := h; subst e; rfl
  | _ => unfold DRel at h; subst h; rfl
theorem opD_is : OpD X (compareOp .Is) isD := by
  intro pins s σ H σD S ex Kt x y xv yv v u tk T dx dy rx ry ⟨e, q⟩
  subst e
  have e2 := isN_rel dx
  unfold DRel at dy
  exact go2 op_isN T rx ry ⟨dy, PQ.bl T.m (by rw [← e2]; exact q)⟩
theorem opD_isn : OpD X (compareOp .IsNot) isnD := by
  intro pins s σ H σD S ex Kt x y xv yv v u tk T dx dy rx ry ⟨e, q⟩
  subst e
  have e2 := isN_rel dx
  unfold DRel at dy
  exact go2 op_notN T rx ry ⟨dy, PQ.bl T.m (by rw [← e2]; exact q)⟩
/-- the items of a list or tuple -/
def seqOf (S : Sto) : D → Option (List D)
  | .tup xs => some xs
  | .rol xs => some xs
  | .ref a => match S a with
    | some (.lst xs) => some xs
    | _ => none
  | _ => none
/-- x in y: texts, lists and tuples of data, an own __contains__ -/
def inDn (neg : Bool) (ow : Own) : DR2 := fun x y S K E => match x, y with
  | .str a, .str b => K (.bl (neg ^^ !(Builtin.Str.occurrences b a 0 b.length 1).isEmpty)) S
  | x, y => match toPy S 64 x, toPy S 64 y with
    | some p, some (.list l) => K (.bl (neg ^^ l.any fun z => PyData.eqv z p)) S
    | some p, some (.tuple l) => K (.bl (neg ^^ l.any fun z => PyData.eqv z p)) S
    | _, _ => ∃ a, y = .ref a ∧ isIns (S a) = true ∧ ow (if neg then "not in" else "__contains__") x y S K E
theorem plainL {l : List PyData} {n : Nat} (h : (PyData.list l).plain = true ∧ (PyData.list l).depth ≤ n) : PyData.plainAll l = true ∧ PyData.depthAll l ≤ n := by
  obtain ⟨a, b⟩ := h
  simp only [PyData.plain, PyData.depth] at a b
  exact ⟨a, by omega⟩
theorem plainT {l : List PyData} {n : Nat} (h : (PyData.tuple l).plain = true ∧ (PyData.tuple l).depth ≤ n) : PyData.plainAll l = true ∧ PyData.depthAll l ≤ n := by
  obtain ⟨a, b⟩ := h
  simp only [PyData.plain, PyData.depth] at a b
  exact ⟨a, by omega⟩
theorem opD_in {ow : Own} (hu : X.A.units + 65 < cLine) (hw : OpD X (compareOp .In) (fun x y S K E => ∃ a, y = .ref a ∧ isIns (S a) = true ∧ ow "__contains__" x y S K E)) : OpD X (compareOp .In) (inDn false ow) := by
  intro pins s σ H σD S ex Kt x y xv yv v u tk T dx dy rx ry q
  by_cases hs : ∃ a b, x = .str a ∧ y = .str b
  · obtain ⟨a, b, rfl, rfl⟩ := hs
    unfold DRel at dx dy
    simp only [inDn, Bool.false_xor] at q
    exact go2 op_in_str T rx ry ⟨a, b, dx, dy, PQ.bl T.m q⟩
  · have q' : (match toPy S 64 x, toPy S 64 y with
      | some p, some (.list l) => Kt (.bl (l.any fun z => PyData.eqv z p)) S
      | some p, some (.tuple l) => Kt (.bl (l.any fun z => PyData.eqv z p)) S
      | _, _ => ∃ a, y = .ref a ∧ isIns (S a) = true ∧ ow "__contains__" x y S Kt (fun c fs S => ex c fs σD S)) := by
      cases x <;> first
        | (simpa only [inDn, Bool.false_xor, if_false, Bool.false_eq_true] using q)
        | (cases y <;> first
            | (exact absurd ⟨_, _, rfl, rfl⟩ hs)
            | (simpa only [inDn, Bool.false_xor, if_false, Bool.false_eq_true] using q))
    clear q
    cases e1 : toPy S 64 x with
    | none => exact hw pins s σ H σD S ex Kt x y xv yv v u tk T dx dy rx ry (by rw [e1] at q'; exact q')
    | some p => cases e2 : toPy S 64 y with
      | none => exact hw pins s σ H σD S ex Kt x y xv yv v u tk T dx dy rx ry (by rw [e1, e2] at q'; exact q')
      | some p' =>
        rw [e1, e2] at q'
        obtain ⟨as, r1⟩ := reads_of T dx rx e1
        obtain ⟨bs, r2⟩ := reads_of T dy ry e2
        obtain ⟨a1, a2⟩ := toPy_plain 64 x p e1
        have b := toPy_plain 64 y p' e2
        cases p' with
        | list l => exact SeqAt.in_list_data r2 r1 (plainL b).1 a1 (by omega) ⟨.bl _, H, .bl _, S, T.I, rfl, .refl, by simp [DRel], T.m, q'⟩
        | tuple l => exact SeqAt.in_tuple_data r2 r1 (plainT b).1 a1 (by omega) ⟨.bl _, H, .bl _, S, T.I, rfl, .refl, by simp [DRel], T.m, q'⟩
        | _ => exact hw pins s σ H σD S ex Kt x y xv yv v u tk T dx dy rx ry q'
theorem opD_nin {ow : Own} (hu : X.A.units + 65 < cLine) (hw : OpD X (compareOp .NotIn) (fun x y S K E => ∃ a, y = .ref a ∧ isIns (S a) = true ∧ ow "not in" x y S K E)) : OpD X (compareOp .NotIn) (inDn true ow) := by
  intro pins s σ H σD S ex Kt x y xv yv v u tk T dx dy rx ry q
  by_cases hs : ∃ a b, x = .str a ∧ y = .str b
  · obtain ⟨a, b, rfl, rfl⟩ := hs
    unfold DRel at dx dy
    simp only [inDn, Bool.true_xor] at q
    exact go2 op_notin_str T rx ry ⟨a, b, dx, dy, PQ.bl T.m q⟩
  · have q' : (match toPy S 64 x, toPy S 64 y with
      | some p, some (.list l) => Kt (.bl (!(l.any fun z => PyData.eqv z p))) S
      | some p, some (.tuple l) => Kt (.bl (!(l.any fun z => PyData.eqv z p))) S
      | _, _ => ∃ a, y = .ref a ∧ isIns (S a) = true ∧ ow "not in" x y S Kt (fun c fs S => ex c fs σD S)) := by
      cases x <;> first
        | (simpa only [inDn, Bool.true_xor, if_true] using q)
        | (cases y <;> first
            | (exact absurd ⟨_, _, rfl, rfl⟩ hs)
            | (simpa only [inDn, Bool.true_xor, if_true] using q))
    clear q
    cases e1 : toPy S 64 x with
    | none => exact hw pins s σ H σD S ex Kt x y xv yv v u tk T dx dy rx ry (by rw [e1] at q'; exact q')
    | some p => cases e2 : toPy S 64 y with
      | none => exact hw pins s σ H σD S ex Kt x y xv yv v u tk T dx dy rx ry (by rw [e1, e2] at q'; exact q')
      | some p' =>
        rw [e1, e2] at q'
        obtain ⟨as, r1⟩ := reads_of T dx rx e1
        obtain ⟨bs, r2⟩ := reads_of T dy ry e2
        obtain ⟨a1, a2⟩ := toPy_plain 64 x p e1
        have b := toPy_plain 64 y p' e2
        cases p' with
        | list l => exact SeqAt.notIn_list_data r2 r1 (plainL b).1 a1 (by omega) ⟨.bl _, H, .bl _, S, T.I, rfl, .refl, by simp [DRel], T.m, q'⟩
        | tuple l => exact SeqAt.notIn_tuple_data r2 r1 (plainT b).1 a1 (by omega) ⟨.bl _, H, .bl _, S, T.I, rfl, .refl, by simp [DRel], T.m, q'⟩
        | _ => exact hw pins s σ H σD S ex Kt x y xv yv v u tk T dx dy rx ry q'

abbrev OwnT := D → Sto → (Bool → Sto → Prop) → DX → Prop
def truD (ow : OwnT) : D → Sto → (Bool → Sto → Prop) → DX → Prop := fun x S K E => match x with
  | .non => K false S
  | .bl b => K b S
  | .int i => K (i != 0) S
  | .str x => x.length ≤ sizeLine ∧ K ((x.length : Int) != 0) S
  | .tup xs => K (!xs.isEmpty) S
  | .rol xs => K (!xs.isEmpty) S
  | .ref a => match S a with
    | some (.lst xs) => K (!xs.isEmpty) S
    | some (.ins _ _) => ow (.ref a) S K E
    | some (.slo _ _) => ow (.ref a) S K E
    | _ => False
  | _ => False
def TruD (X : Cx) (r : D → Sto → (Bool → Sto → Prop) → DX → Prop) : Prop := ∀ (pins : List (Addr × Obj)) (s : Shared) (σ : VSt) (H : Hp) (σD : DSt) (S : Sto) (ex : DXs) (Kt : Bool → Sto → Prop) (x : D) (xv : V) (v : Value), Takes X (lX X H ex) → Sit X pins σ H s σD S →
  DRel (gp X) H x xv → RelV xv v → r x S Kt (fun c fs S => ex c fs σD S) → wpAny (model X.prog X.w) X.A (truthy v) (TQ X pins σ H Kt) X.xe s
theorem goT {Kt : Bool → Sto → Prop} (T : Sit X pins σ H s σD S) (rx : RelV xv v) {k : Bool} (h : TruV X.K xv H k) (q : Kt k S) : wpAny (model X.prog X.w) X.A (truthy v) (TQ X pins σ H Kt) X.xe s :=
  thn (tru_ok pins s σ H xv v (fun c H' => c = k ∧ H' = H) T.I rx ⟨k, h, rfl, rfl⟩) fun c s1 ⟨H', I', e1, e2⟩ => by
    subst e1 e2
    exact ⟨H', S, I', .refl, T.m, q⟩
theorem isEmptyD {g : GP} {H : Hp} {ds : List D} {vs : List V} (r : DRels g H ds vs) : (!ds.isEmpty) = !vs.isEmpty := by
  have l := r.length
  cases ds with
  | nil => cases vs with
    | nil => rfl
    | cons _ _ => cases l
  | cons _ _ => cases vs with
    | nil => cases l
    | cons _ _ => rfl
theorem truD_ok {ow : OwnT} (hw : TruD X (fun x S K E => ∃ a, x = .ref a ∧ isIns (S a) = true ∧ ow x S K E)) : TruD X (truD ow) := by
  intro pins s σ H σD S ex Kt x xv v tk T dx rx q
  cases x with
  | non => unfold DRel at dx; subst dx; exact goT T rx rfl q
  | bl b => unfold DRel at dx; subst dx; exact goT T rx rfl q
  | int b => unfold DRel at dx; subst dx; exact goT T rx rfl q
  | str b => unfold DRel at dx; subst dx; exact goT T rx ⟨q.1, rfl⟩ q.2
  | tup xs =>
    unfold DRel at dx
    obtain ⟨a, vs, e, h, r⟩ := dx
    subst e
    exact goT T rx (.inr (.inl ⟨vs, h, isEmptyD r⟩)) q
  | rol xs =>
    unfold DRel at dx
    obtain ⟨a, vs, e, h, r⟩ := dx
    subst e
    exact goT T rx (.inl ⟨vs, h.sql, isEmptyD r⟩) q
  | ref a =>
    cases e : S a with
    | none => simp only [truD, e] at q
    | some o => cases o with
      | lst xs =>
        simp only [truD, e] at q
        unfold DRel at dx
        subst dx
        obtain ⟨vs, h1, r1⟩ := T.m a _ e
        exact goT T rx (.inl ⟨vs, SqL.of h1, isEmptyD r1⟩) q
      | ins _ _ => exact hw pins s σ H σD S ex Kt _ xv v tk T dx rx ⟨a, rfl, by rw [e]; rfl, by simpa only [truD, e] using q⟩
      | slo _ _ => exact hw pins s σ H σD S ex Kt _ xv v tk T dx rx ⟨a, rfl, by rw [e]; rfl, by simpa only [truD, e] using q⟩
      | dic _ => simp only [truD, e] at q
      | exd _ => simp only [truD, e] at q
  | _ => exact (show False from q).elim

variable {a b e : Expr} {ta tb te : DE} {rest : List Expr} {pos : Pos} {r : D → Sto → (Bool → Sto → Prop) → DX → Prop}
def dOr (r : D → Sto → (Bool → Sto → Prop) → DX → Prop) (ta tb : DE) : DE := fun σ S K E => ta σ S (fun x S1 => r x S1 (fun k S2 => if k = true then K x S2 else tb σ S2 K E) E) E
def dAnd (r : D → Sto → (Bool → Sto → Prop) → DX → Prop) (ta tb : DE) : DE := fun σ S K E => ta σ S (fun x S1 => r x S1 (fun k S2 => if k = true then tb σ S2 K E else K x S2) E) E
def dNot (r : D → Sto → (Bool → Sto → Prop) → DX → Prop) (ta : DE) : DE := fun σ S K E => ta σ S (fun x S1 => r x S1 (fun k S2 => K (.bl (!k)) S2) E) E
theorem qe_one {op : BoolOp} (h : QE X a ta) : QE X (.BoolOp op [a] pos) ta := fun pins s σ H σD S ex Kt tk T q => BoolOp_one (h pins s σ H σD S ex Kt tk T q)
theorem qe_or (hr : TruD X r) (ha : QE X a ta) (hb : QE X (.BoolOp .Or (b :: rest) pos) tb) : QE X (.BoolOp .Or (a :: b :: rest) pos) (dOr r ta tb) := fun pins s σ H σD S ex Kt tk T h => by
  refine BoolOp_or (thn (ha pins s σ H σD S ex _ tk T h) fun v s1 ⟨xv, H1, x, S1, I1, r1, x1, d1, m1, q1⟩ => ?_)
  refine thn (hr pins s1 σ H1 σD S1 ex _ x xv v (tk.up x1) (T.on I1 x1 m1) d1 r1 q1) fun k s2 ⟨H2, S2, I2, x2, m2, q2⟩ => ?_
  cases k with
  | true => exact ⟨xv, H2, x, S2, I2, r1, x1.trans x2, DRel.ext x2 _ d1, m2, by simpa using q2⟩
  | false => exact thn (hb pins s2 σ H2 σD S2 ex Kt (tk.up (x1.trans x2)) (T.on I2 (x1.trans x2) m2) (by simpa using q2)) fun _ _ z => z.up (x1.trans x2)
theorem qe_and (hr : TruD X r) (ha : QE X a ta) (hb : QE X (.BoolOp .And (b :: rest) pos) tb) : QE X (.BoolOp .And (a :: b :: rest) pos) (dAnd r ta tb) := fun pins s σ H σD S ex Kt tk T h => by
  refine BoolOp_and (thn (ha pins s σ H σD S ex _ tk T h) fun v s1 ⟨xv, H1, x, S1, I1, r1, x1, d1, m1, q1⟩ => ?_)
  refine thn (hr pins s1 σ H1 σD S1 ex _ x xv v (tk.up x1) (T.on I1 x1 m1) d1 r1 q1) fun k s2 ⟨H2, S2, I2, x2, m2, q2⟩ => ?_
  cases k with
  | false => exact ⟨xv, H2, x, S2, I2, r1, x1.trans x2, DRel.ext x2 _ d1, m2, by simpa using q2⟩
  | true => exact thn (hb pins s2 σ H2 σD S2 ex Kt (tk.up (x1.trans x2)) (T.on I2 (x1.trans x2) m2) (by simpa using q2)) fun _ _ z => z.up (x1.trans x2)
theorem qe_not (hr : TruD X r) (ha : QE X a ta) : QE X (.UnaryOp .Not a pos) (dNot r ta) := fun pins s σ H σD S ex Kt tk T h => by
  refine UnaryOp_ (thn (ha pins s σ H σD S ex _ tk T h) fun v s1 ⟨xv, H1, x, S1, I1, r1, x1, d1, m1, q1⟩ => ?_)
  refine not_of (thn (hr pins s1 σ H1 σD S1 ex _ x xv v (tk.up x1) (T.on I1 x1 m1) d1 r1 q1) fun k s2 ⟨H2, S2, I2, x2, m2, q2⟩ => ?_)
  exact ⟨.bl (!k), H2, .bl (!k), S2, I2, rfl, x1.trans x2, by simp [DRel], m2, q2⟩
def dNeg (ta : DE) : DE := fun σ S K E => ta σ S (fun x S1 => match x with
  | .int i => K (.int (-i)) S1
  | _ => False) E
theorem qe_neg (ha : QE X a ta) : QE X (.UnaryOp .USub a pos) (dNeg ta) := fun pins s σ H σD S ex Kt tk T h => by
  refine UnaryOp_ (thn (ha pins s σ H σD S ex _ tk T h) fun v s1 ⟨xv, H1, x, S1, I1, r1, x1, d1, m1, q1⟩ => ?_)
  cases x with
  | int i =>
    unfold DRel at d1
    subst d1
    refine thn (un_neg pins s1 σ H1 _ v (fun z H' => z = .int (-i) ∧ H' = H1) I1 r1 ⟨i, rfl, rfl, rfl⟩) fun u s2 ⟨z, H2, I2, r2, e1, e2⟩ => ?_
    subst e1 e2
    exact ⟨.int (-i), H2, .int (-i), S1, I2, r2, x1, by simp [DRel], m1, q1⟩
  | _ => exact (show False from q1).elim
def dIf (t : DT) (ta tb : DE) : DE := fun σ S K E => t σ S (fun c S1 => if c = true then ta σ S1 K E else tb σ S1 K E) E
theorem qe_if {c : Expr} {t : DT} (hc : QT X c t) (ha : QE X a ta) (hb : QE X b tb) : QE X (.IfExp c a b pos) (dIf t ta tb) := fun pins s σ H σD S ex Kt tk T h => by
  refine wpAny_IfExp (thn (hc pins s σ H σD S ex _ tk T h) fun d s1 ⟨H1, S1, I1, x1, m1, q1⟩ => ?_)
  cases d with
  | true => exact thn (ha pins s1 σ H1 σD S1 ex Kt (tk.up x1) (T.on I1 x1 m1) (by simpa using q1)) fun _ _ z => z.up x1
  | false => exact thn (hb pins s1 σ H1 σD S1 ex Kt (tk.up x1) (T.on I1 x1 m1) (by simpa using q1)) fun _ _ z => z.up x1
/-- a test by its value's truth -/
def dTru (r : D → Sto → (Bool → Sto → Prop) → DX → Prop) (te : DE) : DT := fun σ S K E => te σ S (fun x S1 => r x S1 K E) E
theorem qt_tru (hr : TruD X r) (h : QE X e te) (he : ∀ whole, isTrue e X.env whole = (do let v ← whole; standAt e.pos; holding [v] (truthy v))) : QT X e (dTru r te) := fun pins s σ H σD S ex Kt tk T q => by
  refine isTrue_plain (thn (h pins s σ H σD S ex _ tk T q) fun v s1 ⟨xv, H1, x, S1, I1, r1, x1, d1, m1, q1⟩ => ?_) (he _)
  exact thn (hr pins s1 σ H1 σD S1 ex Kt x xv v (tk.up x1) (T.on I1 x1 m1) d1 r1 q1) fun _ _ z => z.up x1
def dtAnd (t u : DT) : DT := fun σ S K E => t σ S (fun c S1 => if c = true then u σ S1 K E else K false S1) E
def dtOr (t u : DT) : DT := fun σ S K E => t σ S (fun c S1 => if c = true then K true S1 else u σ S1 K E) E
def dtNot (t : DT) : DT := fun σ S K E => t σ S (fun c S1 => K (!c) S1) E
variable {t t' : DT}
theorem qw_and1 (ha : QT X a t) : QW X (.BoolOp .And [a] pos) t := fun wh pins s σ H σD S ex Kt tk T h => by
  refine isTrue_and (thn (ha pins s σ H σD S ex Kt tk T h) fun c s1 e => ?_)
  cases c with
  | true => exact isTrue_and_nil e
  | false => exact e
theorem qw_or1 (ha : QT X a t) : QW X (.BoolOp .Or [a] pos) t := fun wh pins s σ H σD S ex Kt tk T h => by
  refine isTrue_or (thn (ha pins s σ H σD S ex Kt tk T h) fun c s1 e => ?_)
  cases c with
  | false => exact isTrue_or_nil e
  | true => exact e
theorem qw_and (ha : QT X a t) (hb : QW X (.BoolOp .And (b :: rest) pos) t') : QW X (.BoolOp .And (a :: b :: rest) pos) (dtAnd t t') := fun wh pins s σ H σD S ex Kt tk T h => by
  refine isTrue_and (thn (ha pins s σ H σD S ex _ tk T h) fun c s1 ⟨H1, S1, I1, x1, m1, q1⟩ => ?_)
  cases c with
  | true => exact thn (hb wh pins s1 σ H1 σD S1 ex Kt (tk.up x1) (T.on I1 x1 m1) (by simpa using q1)) fun _ _ z => z.up x1
  | false => exact ⟨H1, S1, I1, x1, m1, by simpa using q1⟩
theorem qw_or (ha : QT X a t) (hb : QW X (.BoolOp .Or (b :: rest) pos) t') : QW X (.BoolOp .Or (a :: b :: rest) pos) (dtOr t t') := fun wh pins s σ H σD S ex Kt tk T h => by
  refine isTrue_or (thn (ha pins s σ H σD S ex _ tk T h) fun c s1 ⟨H1, S1, I1, x1, m1, q1⟩ => ?_)
  cases c with
  | false => exact thn (hb wh pins s1 σ H1 σD S1 ex Kt (tk.up x1) (T.on I1 x1 m1) (by simpa using q1)) fun _ _ z => z.up x1
  | true => exact ⟨H1, S1, I1, x1, m1, by simpa using q1⟩
theorem qt_not (ha : QT X a t) : QT X (.UnaryOp .Not a pos) (dtNot t) := fun pins s σ H σD S ex Kt tk T h =>
  isTrue_not (ha pins s σ H σD S ex (fun c S1 => Kt (!c) S1) tk T h)
/-- a if t else b, as a test -/
def dtIf (t u w : DT) : DT := fun σ S K E => t σ S (fun c S1 => if c = true then u σ S1 K E else w σ S1 K E) E

def ixD2 (ow : Own) : DR2 := fun x y S K E => match seqOf S x, y with
  | some xs, .int i => ∃ d, atI xs i = some d ∧ K d S
  | _, y => ownR ow "__getitem__" x y S K E
def ixD (ow : Own) : DR2 := fun x y S K E => match x, y with
  | .str z, .int i => z.length ≤ sizeLine ∧ ∃ c, atI z.cps.toList i = some c ∧ K (.str ⟨#[c]⟩) S
  | x, y => ixD2 ow x y S K E
theorem atI_rel {g : GP} {H : Hp} {ds : List D} {vs : List V} {i : Int} {d : D} (r : DRels g H ds vs) (h : atI ds i = some d) : ∃ v, atI vs i = some v ∧ DRel g H d v := by
  unfold atI at h ⊢
  rw [← r.length]
  cases e : ixN ds.length i with
  | none => rw [e] at h; cases h
  | some j =>
    rw [e] at h
    exact r.get h
theorem seqOf_rel (m : Sim (gp X) H S) (dx : DRel (gp X) H x xv) {xs : List D} (e : seqOf S x = some xs) : ∃ a vs, xv = .ref a ∧ (SqL X.K H a vs ∨ SqT X.K H a vs) ∧ DRels (gp X) H xs vs := by
  cases x with
  | tup ys =>
    cases e
    unfold DRel at dx
    obtain ⟨a, vs, e, h, r⟩ := dx
    exact ⟨a, vs, e, .inr h, r⟩
  | rol ys =>
    cases e
    unfold DRel at dx
    obtain ⟨a, vs, e, h, r⟩ := dx
    exact ⟨a, vs, e, .inl h.sql, r⟩
  | ref a =>
    cases q : S a with
    | none => simp only [seqOf, q] at e; cases e
    | some o => cases o with
      | lst ys =>
        simp only [seqOf, q] at e
        cases e
        obtain ⟨vs, h1, r1⟩ := m a _ q
        unfold DRel at dx
        exact ⟨a, vs, dx, .inl (SqL.of h1), r1⟩
      | ins _ _ => simp only [seqOf, q] at e; cases e
      | slo _ _ => simp only [seqOf, q] at e; cases e
      | dic _ => simp only [seqOf, q] at e; cases e
      | exd _ => simp only [seqOf, q] at e; cases e
  | _ => cases e
def IxD (X : Cx) (r : DR2) : Prop := ∀ (value slice : Expr) (pins : List (Addr × Obj)) (s : Shared) (σ : VSt) (H : Hp) (σD : DSt) (S : Sto) (ex : DXs) (Kt : DK) (x y : D) (xv yv : V) (v u : Value), Takes X (lX X H ex) → Sit X pins σ H s σD S →
  DRel (gp X) H x xv → DRel (gp X) H y yv → RelV xv v → RelV yv u → r x y S Kt (fun c fs S => ex c fs σD S) → subscripted slice false v u = operate [v, u] (getItem v u) → wpAny (model X.prog X.w) X.A (subscriptTail value slice v u) (EQ X pins σ H Kt) X.xe s
theorem goI {r0 : R2} {value slice : Expr} (ho : IxR X r0) (T : Sit X pins σ H s σD S) (rx : RelV xv v) (ry : RelV yv u) (hs : subscripted slice false v u = operate [v, u] (getItem v u)) (q : r0 xv yv H (PQ X H Kt)) : wpAny (model X.prog X.w) X.A (subscriptTail value slice v u) (EQ X pins σ H Kt) X.xe s :=
  thn (ho value slice pins s σ H xv yv v u _ T.I rx ry q hs) fun u s1 ⟨v, H', I', r, d, S', x, dr, m, k⟩ => ⟨v, H', d, S', I', r, x, dr, m, k⟩
theorem ixD_ok {ow : Own} (hw : IxD X (ownR ow "__getitem__")) : IxD X (ixD ow) := by
  intro value slice pins s σ H σD S ex Kt x y xv yv v u tk T dx dy rx ry q hs
  by_cases hz : ∃ z i, x = .str z ∧ y = .int i
  · obtain ⟨z, i, rfl, rfl⟩ := hz
    unfold DRel at dx dy
    obtain ⟨h1, c, h2, h3⟩ := q
    exact goI ix_str T rx ry hs ⟨z, i, c, dx, dy, h1, h2, PQ.str T.m h3⟩
  · have q' : ixD2 ow x y S Kt (fun c fs S => ex c fs σD S) := by
      cases x <;> first
        | exact q
        | (cases y <;> first
            | (exact absurd ⟨_, _, rfl, rfl⟩ hz)
            | exact q)
    clear q
    cases e : seqOf S x with
    | none => exact hw value slice pins s σ H σD S ex Kt x y xv yv v u tk T dx dy rx ry (by simp only [ixD2, e] at q'; exact q') hs
    | some xs => cases y with
      | int i =>
        simp only [ixD2, e] at q'
        obtain ⟨d, h1, h2⟩ := q'
        obtain ⟨a, vs, e1, h, r⟩ := seqOf_rel T.m dx e
        subst e1
        unfold DRel at dy
        obtain ⟨w, h3, h4⟩ := atI_rel r h1
        rcases h with h | h
        · exact goI ix_list T rx ry hs ⟨a, vs, i, w, rfl, dy, h, h3, PQ.same T.m h4 h2⟩
        · exact goI ix_tup T rx ry hs ⟨a, vs, i, w, rfl, dy, h, h3, PQ.same T.m h4 h2⟩
      | _ => exact hw value slice pins s σ H σD S ex Kt x _ xv yv v u tk T dx dy rx ry (by simp only [ixD2, e] at q'; exact q') hs
theorem qe_ix {r : DR2} (hr : IxD X r) (ha : QE X a ta) (hb : QE X b tb) (hs : PlainIx b) : QE X (.Subscript a b pos) (dOp r ta tb) := fun pins s σ H σD S ex Kt tk T h =>
  Subscript_ (dbin ha hb tk T h fun v u s2 xv yv x y H2 S2 T2 x2 r1 r2 d1 d2 q => thn (hr a b pins s2 σ H2 σD S2 ex Kt x y xv yv v u (tk.up x2) T2 d1 d2 r1 r2 q (hs _ _)) fun _ _ z => z.up x2)
end
end DL

set_option Elab.async false
set_option linter.all false
set_option maxRecDepth 100000
set_option maxHeartbeats 4000000
namespace DL
open PySem PySem.Spec PyProof.Rows L2
section
variable {prog : Program} {w : World} {A : Around} {E : Value → Shared → Prop} {s : Shared}
theorem draw_lst {it l : Addr} {items : Array Value} (hne : l ≠ it) : ∀ (n i : Nat) (s : Shared) (Q : List Value → Shared → Prop), s.heap.IsListIter it l i → s.heap.IsList l items → i + n ≤ items.size →
    (∀ h', h'.IsListIter it l (i + n) → Heap.SameBut it s.heap h' → Q ((items.toList.drop i).take n) { s with heap := h' }) → wpAny (model prog w) A (draw (.ref it) n) Q E s
  | 0, i, s, Q, hit, _, _, hQ => by
    show wpAny _ _ (pure []) Q E s
    exact wpAny_pure (by simpa using hQ s.heap hit (Heap.SameBut.refl ..))
  | n + 1, i, s, Q, hit, hl, hle, hQ => by
    have lt : i < items.size := by omega
    show wpAny _ _ (pyNext (.ref it) >>= _) Q E s
    refine wpAny_bind (wpAny_pyNext_list_item hit hl (x := items[i]) (by simp [lt]) fun g1 it1 s1 => ?_)
    refine wpAny_bind (wpAny_holding (draw_lst hne n (i + 1) _ _ it1 (hl.extBut s1.extBut hne) (by omega) fun g2 it2 s2 => wpAny_pure ?_))
    have e1 : items.toList.drop i = items[i] :: items.toList.drop (i + 1) := by
      rw [List.drop_eq_getElem_cons (by simpa using lt)]; simp
    have q := hQ g2 (by rw [show i + (n + 1) = i + 1 + n by omega]; exact it2) (s1.trans s2)
    rw [e1, List.take_succ_cons] at q
    exact q
theorem unpack_items_lst {l : Addr} {items : Array Value} {Q : List Value → Shared → Prop} (hh : A.handled = none) (hl : s.heap.IsList l items)
    (hQ : ∀ h', Heap.ExtBut s.heap.objs.size s.heap h' → Q items.toList { s with heap := h' }) : wpAny (model prog w) A (unpackItems (.ref l) items.size none) Q E s := by
  have lt : l ≠ s.heap.objs.size := by obtain ⟨o, ho, _⟩ := hl; exact Nat.ne_of_lt (Heap.lt_size ho)
  unfold unpackItems
  refine wpAny_bind ?_
  · unfold notIterableAtAll
    refine wpAny_bind (wpAny_specialOf hl.typeIs slot_list_iter.lookup ?_)
    refine wpAny_pure ?_
    simp only [Bool.false_eq_true, if_false]
    refine wpAny_bind (wpAny_holding (wpAny_pyIter_list hl ?_))
    refine wpAny_bind (wpAny_holding (draw_lst lt items.size 0 _ _ ⟨_, Heap.get?_push_size _ rfl, rfl, rfl⟩ (hl.push _) (by omega) fun g1 it1 s1 => ?_))
    have e1 : List.take items.size (List.drop 0 items.toList) = items.toList := by
      rw [List.drop_zero, List.take_of_length_le]; simp
    rw [e1, if_neg (by simp)]
    have l1 : Heap.IsList g1 l items := (hl.push _).extBut s1.extBut lt
    refine wpAny_bind (wpAny_holding (wpAny_pyNext_list_end hh it1 l1 (by simp) fun g2 x2 => ?_))
    simp only [Option.isSome_none, Bool.false_eq_true, if_false]
    refine wpAny_pure (hQ g2 fun b o hb e => x2 b o hb (s1.extBut b o hb (Heap.get?_push_of_some _ e)))
theorem assign_tup_lst {env : Env} {elts : List Expr} {x1} {pos : Pos} {l : Addr} {items : Array Value} {Q : Unit → Shared → Prop} (hh : A.handled = none) (hl : s.heap.IsList l items)
    (hn : (assignEach elts env).length = items.size) (hstar : (assignEach elts env).findIdx? (·.1) = none)
    (h : ∀ h', Heap.ExtBut s.heap.objs.size s.heap h' → wpAny (model prog w) A (assignInOrder ((assignEach elts env).map (·.2)) items.toList) Q E { s with heap := h' }) :
    wpAny (model prog w) A (assign (.Tuple elts x1 pos) env (.ref l)) Q E s := by
  rw [assign_Tuple]
  refine wpAny_bind (wpAny_standAt ?_)
  unfold unpack
  rw [hn, hstar]
  exact wpAny_bind (wpAny_holding (unpack_items_lst hh hl h))
/-- o.f = v, as a target -/
theorem assign_att {env : Env} {o : Expr} {f : Str} {pos : Pos} {v : Value} {Q : Unit → Shared → Prop}
    (h : wpAny (model prog w) A (eval o env) (fun ov s2 => wpAny (model prog w) A (setAttr ov f v) (fun _ => Q ()) E s2) E s) : wpAny (model prog w) A (assign (.Attribute o f pos) env v) Q E s := fun Γ p hΓ => by
  simp only [assign_Attribute, Sem.wp_bind', Sem.wp_holding, Sem.wp_cmd_standAt, Sem.wp_release, Sem.wp_pure']
  exact Sem.wp_mono _ Γ _ (fun ov _ s2 h2 => h2 Γ _ hΓ) (fun _ _ _ h' => h') _ _ (h Γ _ hΓ)
end
end DL

set_option Elab.async false
set_option linter.all false
set_option maxRecDepth 100000
set_option maxHeartbeats 4000000
namespace DL
open PySem PySem.Spec PyProof.Rows L2

/-- what is wanted behind a statement -/
structure DKs where
  nx : DSt → Sto → Prop
  rt : DK
  bk : DSt → Sto → Prop
  ct : DSt → Sto → Prop
  ex : DXs
abbrev DS := DKs → DSt → Sto → Prop
def GQ (X : Cx) (pins : List (Addr × Obj)) (H₀ : Hp) (P : DSt → Sto → Prop) (s' : Shared) : Prop := ∃ σ' H' σD' S', Sit X pins σ' H' s' σD' S' ∧ Ext X.K H₀ H' ∧ P σD' S'
def SQ (X : Cx) (pins : List (Addr × Obj)) (H₀ : Hp) (D : DKs) (f : Flow) (s' : Shared) : Prop :=
  match f with
  | .next => GQ X pins H₀ D.nx s'
  | .brk => GQ X pins H₀ D.bk s'
  | .cont => GQ X pins H₀ D.ct s'
  | .ret u => ∃ v σ' H' d S', Inv X pins σ' H' s' ∧ RelV v u ∧ Ext X.K H₀ H' ∧ DRel (gp X) H' d v ∧ Sim (gp X) H' S' ∧ D.rt d S'
def QS (X : Cx) (st : Stmt) (t : DS) : Prop := ∀ (pins : List (Addr × Obj)) (s : Shared) (σ : VSt) (H : Hp) (σD : DSt) (S : Sto) (D : DKs), Takes X (lX X H D.ex) → Sit X pins σ H s σD S → t D σD S → wpAny (model X.prog X.w) X.A (exec st X.env) (SQ X pins H D) X.xe s
def QSs (X : Cx) (st : List Stmt) (t : DS) : Prop := ∀ (pins : List (Addr × Obj)) (s : Shared) (σ : VSt) (H : Hp) (σD : DSt) (S : Sto) (D : DKs), Takes X (lX X H D.ex) → Sit X pins σ H s σD S → t D σD S → wpAny (model X.prog X.w) X.A (execs st X.env) (SQ X pins H D) X.xe s
section
variable {X : Cx} {pins : List (Addr × Obj)} {σ : VSt} {H H1 : Hp} {s : Shared} {σD : DSt} {S : Sto} {D : DKs}
theorem GQ.up {P : DSt → Sto → Prop} {s' : Shared} (x : Ext X.K H H1) (h : GQ X pins H1 P s') : GQ X pins H P s' := let ⟨σ', H', σD', S', T, x', p⟩ := h; ⟨σ', H', σD', S', T, x.trans x', p⟩
theorem SQ.up {f : Flow} {s' : Shared} (x : Ext X.K H H1) (h : SQ X pins H1 D f s') : SQ X pins H D f s' := by
  cases f with
  | next => exact GQ.up x h
  | brk => exact GQ.up x h
  | cont => exact GQ.up x h
  | ret u => obtain ⟨v, σ', H', d, S', I, r, x', dr, m, k⟩ := h; exact ⟨v, σ', H', d, S', I, r, x.trans x', dr, m, k⟩
/-- the wish about exceptions of an expression within a statement -/
abbrev eX (D : DKs) (σ : DSt) : DX := fun c fs S => D.ex c fs σ S
end
section
variable {X : Cx} {st : Stmt} {rest : List Stmt} {t u : DS} {e : Expr} {te : DE} {pos : Pos}
def sNext : DS := fun D σ S => D.nx σ S
def sSeq (t u : DS) : DS := fun D σ S => t { D with nx := u D } σ S
theorem qss_nil : QSs X [] sNext := fun pins s σ H σD S D tk T h => wpAny_execs_nil ⟨σ, H, σD, S, T, .refl, h⟩
theorem qss_cons (h1 : QS X st t) (h2 : QSs X rest u) : QSs X (st :: rest) (sSeq t u) := fun pins s σ H σD S D tk T h => by
  refine wpAny_execs_cons (thn (h1 pins s σ H σD S { D with nx := u D } tk T h) fun f s1 q => ?_)
  cases f with
  | next =>
    obtain ⟨σ', H', σD', S', T', x', q⟩ := q
    exact thn (h2 pins s1 σ' H' σD' S' D (tk.up x') T' q) fun _ _ z => z.up x'
  | ret v => exact q
  | brk => exact q
  | cont => exact q
def sBreak : DS := fun D σ S => D.bk σ S
def sCont : DS := fun D σ S => D.ct σ S
theorem qs_pass : QS X (.Pass pos) sNext := fun pins s σ H σD S D tk T h => wpAny_Pass ⟨σ, H, σD, S, T, .refl, h⟩
theorem qs_break : QS X (.Break pos) sBreak := fun pins s σ H σD S D tk T h => wpAny_Break ⟨σ, H, σD, S, T, .refl, h⟩
theorem qs_continue : QS X (.Continue pos) sCont := fun pins s σ H σD S D tk T h => wpAny_Continue ⟨σ, H, σD, S, T, .refl, h⟩
def sExpr (te : DE) : DS := fun D σ S => te σ S (fun _ S1 => D.nx σ S1) (eX D σ)
theorem qs_expr (he : QE X e te) (hs : swapsWith e none pos.line X.env = pure false) : QS X (.Expr e pos) (sExpr te) := fun pins s σ H σD S D tk T h =>
  wpAny_Expr_any (thn (he pins s σ H σD S D.ex _ tk T h) fun v s1 ⟨xv, H1, x, S1, I1, r1, x1, d1, m1, q1⟩ => ⟨σ, H1, σD, S1, T.on I1 x1 m1, x1, q1⟩) T.I.quiet hs
def sRet (te : DE) : DS := fun D σ S => te σ S D.rt (eX D σ)
theorem qs_ret (he : QE X e te) : QS X (.Return (some e) pos) (sRet te) := fun pins s σ H σD S D tk T h =>
  wpAny_Return_some (thn (he pins s σ H σD S D.ex _ tk T h) fun v s1 ⟨xv, H1, x, S1, I1, r1, x1, d1, m1, q1⟩ => ⟨xv, σ, H1, x, S1, I1, r1, x1, d1, m1, q1⟩)
def sRetN : DS := fun D σ S => D.rt .non S
theorem qs_retN : QS X (.Return none pos) sRetN := fun pins s σ H σD S D tk T h => wpAny_Return_none ⟨.non, σ, H, .non, S, T.I, rfl, .refl, by simp [DRel], T.m, h⟩
def sIf (c : DT) (t u : DS) : DS := fun D σ S => c σ S (fun b S1 => if b = true then t D σ S1 else u D σ S1) (eX D σ)
theorem qs_if {c : Expr} {a b : List Stmt} {tc : DT} (hc : QT X c tc) (ha : QSs X a t) (hb : QSs X b u) : QS X (.If c a b pos) (sIf tc t u) := fun pins s σ H σD S D tk T h => by
  refine wpAny_If (thn (hc pins s σ H σD S D.ex _ tk T h) fun d s1 ⟨H1, S1, I1, x1, m1, q1⟩ => ?_)
  cases d with
  | true => exact thn (ha pins s1 σ H1 σD S1 D (tk.up x1) (T.on I1 x1 m1) (by simpa using q1)) fun _ _ z => z.up x1
  | false => exact thn (hb pins s1 σ H1 σD S1 D (tk.up x1) (T.on I1 x1 m1) (by simpa using q1)) fun _ _ z => z.up x1
end

abbrev DG := D → DSt → Sto → (DSt → Sto → Prop) → Prop
abbrev DGs := List D → DSt → Sto → (DSt → Sto → Prop) → Prop
/-- .. a target's slots are among vs -/
def GQw (X : Cx) (pins : List (Addr × Obj)) (vs : List Nat) (σ : VSt) (H₀ : Hp) (P : DSt → Sto → Prop) (s' : Shared) : Prop := ∃ σ' H' σD' S', Sit X pins σ' H' s' σD' S' ∧ Ext X.K H₀ H' ∧ wipe σ' vs = wipe σ vs ∧ P σD' S'
def QG (X : Cx) (vs : List Nat) (target : Expr) (g : DG) : Prop := ∀ (pins : List (Addr × Obj)) (s : Shared) (σ : VSt) (H : Hp) (σD : DSt) (S : Sto) (d : D) (v : V) (u : Value) (P : DSt → Sto → Prop), Sit X pins σ H s σD S → DRel (gp X) H d v → RelV v u → g d σD S P →
  wpAny (model X.prog X.w) X.A (assign target X.env u) (fun _ s' => GQw X pins vs σ H P s') X.xe s
def QGs (X : Cx) (vs : List Nat) (ts : List Expr) (g : DGs) : Prop := ∀ (pins : List (Addr × Obj)) (s : Shared) (σ : VSt) (H : Hp) (σD : DSt) (S : Sto) (ds : List D) (ws : List V) (us : List Value) (P : DSt → Sto → Prop), Sit X pins σ H s σD S → DRels (gp X) H ds ws → Vals ws us → g ds σD S P →
  wpAny (model X.prog X.w) X.A (assignInOrder ((assignEach ts X.env).map (·.2)) us) (fun _ s' => GQw X pins vs σ H P s') X.xe s
theorem GQw.gq {X : Cx} {pins : List (Addr × Obj)} {vs : List Nat} {σ : VSt} {H H₀ : Hp} {P : DSt → Sto → Prop} {s' : Shared} (x : Ext X.K H₀ H) (h : GQw X pins vs σ H P s') : GQ X pins H₀ P s' := let ⟨σ', H', σD', S', T, x', _, p⟩ := h; ⟨σ', H', σD', S', T, x.trans x', p⟩
theorem wipe_set {σ : VSt} {i : Nat} {o : Option V} : ∀ {vs : List Nat}, i ∈ vs → wipe (σ.set i o) vs = wipe σ vs
  | [], h => by cases h
  | w :: vs, h => by
    unfold wipe
    by_cases hi : i ∈ vs
    · rw [wipe_set hi]
    · have e : i = w := by
        rcases List.mem_cons.mp h with e | e
        · exact e
        · exact absurd e hi
      subst e
      clear h
      have go : ∀ {vs : List Nat}, i ∉ vs → (wipe (σ.set i o) vs).set i none = (wipe σ vs).set i none := by
        intro vs
        induction vs with
        | nil => intro _; unfold wipe; simp
        | cons w vs ih =>
          intro hn
          simp only [List.mem_cons, not_or] at hn
          unfold wipe
          rw [List.set_comm _ _ (Ne.symm hn.1), List.set_comm _ _ (Ne.symm hn.1), ih hn.2]
      exact go hi
section
variable {X : Cx} {pos : Pos}
def gNm (i : Nat) : DG := fun d σ S P => P (σ.set i (some d)) S
theorem qg_name {i : Nat} {x : Str} (hN : X.N.Nodup) (hi : X.N[i]? = some x) (hx : Loc X.env.scope x) (hf : X.fn x = true ∨ X.env.scope.names.lookup x = some .local) {vs : List Nat} (hv : i ∈ vs) : QG X vs (.Name x pos) (gNm i) := fun pins s σ H σD S d v u P T dr r h =>
  wpAny_assign_Name (store_ok T.I hN hi hx r (fun s' I' => ⟨_, H, _, S, ⟨I', T.r.set dr, T.m⟩, .refl, wipe_set hv, h⟩) hf)
def gN : DGs := fun ds σ S P => ds = [] ∧ P σ S
def gC (g : DG) (u : DGs) : DGs := fun ds σ S P => ∃ d r, ds = d :: r ∧ g d σ S (fun σ1 S1 => u r σ1 S1 P)
theorem qgs_nil {vs : List Nat} : QGs X vs [] gN := fun pins s σ H σD S ds ws us P T dr r h => by
  obtain ⟨e, h⟩ := h
  subst e
  unfold DRels at dr
  subst dr
  cases r
  exact assignInOrder_nil ⟨σ, H, σD, S, T, .refl, rfl, h⟩
theorem qgs_cons {vs : List Nat} {e : Expr} {es : List Expr} {g : DG} {u : DGs} (h1 : QG X vs e g) (h2 : QGs X vs es u)
    (hs : (assignEach (e :: es) X.env).map (·.2) = assign e X.env :: (assignEach es X.env).map (·.2)) : QGs X vs (e :: es) (gC g u) := fun pins s σ H σD S ds ws us P T dr r h => by
  obtain ⟨d, rr, e1, h⟩ := h
  subst e1
  unfold DRels at dr
  obtain ⟨v, vr, e2, d1, d2⟩ := dr
  subst e2
  cases r with
  | cons r1 r2 =>
    rw [hs]
    refine assignInOrder_cons (thn (h1 pins s σ H σD S d v _ _ T d1 r1 h) fun _ s1 ⟨σ1, H1, σD1, S1, T1, x1, w1, q1⟩ => ?_)
    exact thn (h2 pins s1 σ1 H1 σD1 S1 rr vr _ P T1 (DRels.ext x1 _ d2) r2 q1) fun _ s2 ⟨σ2, H2, σD2, S2, T2, x2, w2, q2⟩ => ⟨σ2, H2, σD2, S2, T2, x1.trans x2, w2.trans w1, q2⟩
def gTp (n : Nat) (u : DGs) : DG := fun d σ S P => ∃ xs, seqOf S d = some xs ∧ xs.length = n ∧ u xs σ S P
theorem qg_tup {vs : List Nat} {es : List Expr} {k : Nat} {u : DGs} {n : Nat} (hc : X.calm = true) (h : QGs X vs es u)
    (hn : (assignEach es X.env).length = n) (hst : (assignEach es X.env).findIdx? (·.1) = none) : QG X vs (.Tuple es k pos) (gTp n u) := fun pins s σ H σD S d v u' P T dr r ⟨xs, e, hl, hw⟩ => by
  have tup : ∀ {a : Addr} {ws : List V}, SqT X.K H a ws → DRels (gp X) H xs ws → wpAny (model X.prog X.w) X.A (assign (.Tuple es k pos) X.env (.ref a)) (fun _ s' => GQw X pins vs σ H P s') X.xe s := fun {a ws} hq dr => by
    obtain ⟨its, rv, ht, hz⟩ := T.I.tuple hq
    have l2 := dr.length
    refine assign_Tuple_tuple (T.I.ok.hd hc) ht (by simp [hn, ← hl, l2, rv.length]) hst fun h' hx => ?_
    have I1 : Inv X pins σ H { s with heap := h' } := T.I.kept (t' := s.toks) fun b o e => hx b o (Nat.ne_of_lt (Heap.lt_size e)) e
    exact h pins _ σ H σD S xs ws _ P ⟨I1, T.r, T.m⟩ dr (by simpa using rv) hw
  have lst : ∀ {a : Addr} {ws : List V}, SqL X.K H a ws → DRels (gp X) H xs ws → wpAny (model X.prog X.w) X.A (assign (.Tuple es k pos) X.env (.ref a)) (fun _ s' => GQw X pins vs σ H P s') X.xe s := fun {a ws} hq dr => by
    obtain ⟨its, rv, p, hz⟩ := T.I.list hq
    have l2 := dr.length
    refine assign_tup_lst (T.I.ok.hd hc) p.isList (by simp [hn, ← hl, l2, rv.length]) hst fun h' hx => ?_
    have I1 : Inv X pins σ H { s with heap := h' } := T.I.kept (t' := s.toks) fun b o e => hx b o (Nat.ne_of_lt (Heap.lt_size e)) e
    exact h pins _ σ H σD S xs ws _ P ⟨I1, T.r, T.m⟩ dr (by simpa using rv) hw
  cases d with
  | tup ys =>
    cases e
    unfold DRel at dr
    obtain ⟨a, ws, rfl, hq, dr⟩ := dr
    cases r
    exact tup hq dr
  | rol ys =>
    cases e
    unfold DRel at dr
    obtain ⟨a, ws, rfl, hq, dr⟩ := dr
    cases r
    exact lst hq.sql dr
  | ref a =>
    unfold DRel at dr
    subst dr
    cases r
    cases q : S a with
    | none => simp only [seqOf, q] at e; cases e
    | some o =>
      cases o with
      | lst ys =>
        simp only [seqOf, q] at e
        cases e
        obtain ⟨ws, h1, h2⟩ := T.m a _ q
        exact lst (SqL.of h1) h2
      | _ => simp only [seqOf, q] at e; cases e
  | _ => cases e
/-- o[i] = d: a list's item; a dict's -/
abbrev DSet := D → D → D → Sto → (Sto → Prop) → Prop
def SetD (X : Cx) (t : DSet) : Prop := ∀ (pins : List (Addr × Obj)) (s : Shared) (σ : VSt) (H : Hp) (σD : DSt) (S : Sto) (o i d : D) (ov iv vv : V) (ou iu vu : Value) (P : Sto → Prop), Sit X pins σ H s σD S → DRel (gp X) H o ov → DRel (gp X) H i iv → DRel (gp X) H d vv → RelV ov ou → RelV iv iu → RelV vv vu → t o i d S P →
  wpAny (model X.prog X.w) X.A (setItem ou iu vu) (fun _ s' => ∃ H' S', Inv X pins σ H' s' ∧ Ext X.K H H' ∧ Sim (gp X) H' S' ∧ P S') X.xe s
def setD : DSet := fun o i d S P => match o, i with
  | .ref a, .int k => (match S a with
    | some (.lst xs) => ∃ j, ixN xs.length k = some j ∧ P (sup S a (.lst (xs.set j d)))
    | _ => False)
  | _, _ => False
theorem setD_ok : SetD X setD := by
  intro pins s σ H σD S o i d ov iv vv ou iu vu P T d1 d2 d3 r1 r2 r3 h
  cases o with
  | ref a => cases i with
    | int k =>
      cases e : S a with
      | none => simp only [setD, e] at h
      | some q => cases q with
        | lst xs =>
          simp only [setD, e] at h
          obtain ⟨j, hj, h⟩ := h
          unfold DRel at d1 d2
          obtain ⟨vs, h1, h2⟩ := T.m a _ e
          have l := h2.length
          refine thn (set_list pins s σ H ov iv vv ou iu vu (fun H' => H' = L2.upd H a (.lst (vs.set j vv))) T.I r1 r2 r3 ⟨a, vs, k, j, d1, d2, h1, by rw [← l]; exact hj, rfl⟩) fun _ s1 ⟨H', I', e'⟩ => ?_
          subst e'
          exact ⟨_, _, I', T.m.ext_setL e, T.m.setL e (h2.set d3 j), h⟩
        | ins _ _ => simp only [setD, e] at h
        | slo _ _ => simp only [setD, e] at h
        | dic _ => simp only [setD, e] at h
        | exd _ => simp only [setD, e] at h
    | _ => exact (show False from h).elim
  | _ => exact (show False from h).elim
/- statements that store -/
variable {tg e o i : Expr} {te to ti : DE} {g : DG} {t : DSet}
def sAsg (te : DE) (g : DG) : DS := fun D σ S => te σ S (fun x S1 => g x σ S1 D.nx) (eX D σ)
theorem qs_asg {vs : List Nat} (he : QE X e te) (hg : QG X vs tg g) (hs : swapsWithSole [tg] e pos.line X.env = pure false) (hw : swappedStores [tg] e X.env = pure none)
    (h1 : (assignEach [tg] X.env).map (·.2) = [assign tg X.env]) : QS X (.Assign [tg] e pos) (sAsg te g) := fun pins s σ H σD S D tk T h => by
  refine wpAny_Assign_stores (thn (he pins s σ H σD S D.ex _ tk T h) fun v s1 ⟨xv, H1, x, S1, I1, r1, x1, d1, m1, q1⟩ => ?_) hs hw
  rw [h1]
  exact thn (hg pins s1 σ H1 σD S1 x xv v _ (T.on I1 x1 m1) d1 r1 q1) fun _ s2 z => z.gq x1
/-- o[i] = e -/
def sSub (te to ti : DE) (t : DSet) : DS := fun D σ S => te σ S (fun x S1 => to σ S1 (fun o S2 => ti σ S2 (fun i S3 => t o i x S3 fun S4 => D.nx σ S4) (eX D σ)) (eX D σ)) (eX D σ)
theorem qs_sub (he : QE X e te) (ho : QE X o to) (hi : QE X i ti) (ht : SetD X t) {p : Pos} (hs : swapsWithSole [.Subscript o i p] e pos.line X.env = pure false) (hw : swappedStores [.Subscript o i p] e X.env = pure none)
    (h1 : (assignEach [.Subscript o i p] X.env).map (·.2) = [assign (.Subscript o i p) X.env])
    (ha : ∀ v, assign (.Subscript o i p) X.env v = (do
      let ov ← holding [v] (eval o X.env)
      let iv ← holding [v, ov] (eval i X.env)
      standAt p
      holding [v, ov, iv] (setItem ov iv v)
      release [v, ov, iv] [])) : QS X (.Assign [.Subscript o i p] e pos) (sSub te to ti t) := fun pins s σ H σD S D tk T h => by
  refine wpAny_Assign_stores (thn (he pins s σ H σD S D.ex _ tk T h) fun v s1 ⟨xv, H1, x, S1, I1, r1, x1, d1, m1, q1⟩ => ?_) hs hw
  rw [h1]
  show wpAny _ _ (assign (.Subscript o i p) X.env v) _ _ _
  rw [ha]
  refine wpAny_bind (wpAny_holding (thn (ho pins s1 σ H1 σD S1 D.ex _ (tk.up x1) (T.on I1 x1 m1) q1) fun ov s2 ⟨yv, H2, y, S2, I2, r2, x2, d2, m2, q2⟩ => ?_))
  refine wpAny_bind (wpAny_holding (thn (hi pins s2 σ H2 σD S2 D.ex _ (tk.up (x1.trans x2)) (T.on I2 (x1.trans x2) m2) q2) fun iv s3 ⟨zv, H3, z, S3, I3, r3, x3, d3, m3, q3⟩ => ?_))
  refine wpAny_bind (wpAny_standAt (wpAny_bind (wpAny_holding (thn (ht pins s3 σ H3 σD S3 y z x yv zv xv ov iv v _ (T.on I3 (x1.trans (x2.trans x3)) m3) (DRel.ext x3 _ d2) d3 (DRel.ext (x2.trans x3) _ d1) r2 r3 r1 q3) fun _ s4 ⟨H4, S4, I4, x4, m4, q4⟩ => ?_))))
  exact wpAny_release ⟨σ, H4, σD, S4, T.on I4 (x1.trans (x2.trans (x3.trans x4))) m4, x1.trans (x2.trans (x3.trans x4)), q4⟩
/-- name = e, on its own (a comprehension is another) -/
theorem qs_set {i : Nat} {x : Str} {pos' : Pos} (hN : X.N.Nodup) (hi : X.N[i]? = some x) (hx : Loc X.env.scope x) (he : QE X e te) (hs : swapsWith e (some (.Name x pos')) pos.line X.env = pure false) (hf : X.fn x = true ∨ X.env.scope.names.lookup x = some .local) :
    QS X (.Assign [.Name x pos'] e pos) (sAsg te (gNm i)) := fun pins s σ H σD S D tk T h =>
  wpAny_Assign_Name (thn (he pins s σ H σD S D.ex _ tk T h) fun v s1 ⟨xv, H1, y, S1, I1, r1, x1, d1, m1, q1⟩ =>
    store_ok I1 hN hi hx r1 (fun s2 I2 => ⟨_, H1, _, S1, ⟨I2, (T.r.ext x1).set d1, m1⟩, x1, q1⟩) hf) hs
/-- a, b = x, y -/
def sPar (i j : Nat) (ta : DA) : DS := fun D σ S => ta σ S (fun vs S1 => ∃ v w, vs = [v, w] ∧ D.nx ((σ.set i (some v)).set j (some w)) S1) (eX D σ)
theorem qs_par {i j : Nat} {x y : Str} {a b : Expr} {ta : DA} {px py pt : Pos} {kt k2 : Nat} {pt2 : Pos} (hc : X.calm = true) (hN : X.N.Nodup) (hi : X.N[i]? = some x) (hj : X.N[j]? = some y) (hij : i ≠ j)
    (hx : X.env.scope.names.lookup x = some .local) (hy : X.env.scope.names.lookup y = some .local) (ha : QA X [a, b] ta)
    (hw : swappedStores [.Tuple [.Name x px, .Name y py] kt pt] (.Tuple [a, b] k2 pt2) X.env = pure (some [x, y]))
    (hs : swapsWithSole [.Tuple [.Name x px, .Name y py] kt pt] (.Tuple [a, b] k2 pt2) pos.line X.env = pure false) :
    QS X (.Assign [.Tuple [.Name x px, .Name y py] kt pt] (.Tuple [a, b] k2 pt2) pos) (sPar i j ta) := fun pins s σ H σD S D tk T h => by
  rw [exec_Assign_arm]
  refine wpAny_bind (wpAny_standAt ?_)
  rw [hs]
  refine wpAny_bind (wpAny_pure ?_)
  rw [if_neg (by decide)]
  refine wpAny_bind (Tuple_ (thn (ha _ pins s σ H σD S D.ex _ tk T h) fun us s1 ⟨vs, H1, ds, S1, I1, r1, x1, d1, m1, q1⟩ => ?_))
  obtain ⟨v, w, e1, q1⟩ := q1
  subst e1
  unfold DRels at d1
  obtain ⟨vv, r', e2, dv, d1⟩ := d1
  unfold DRels at d1
  obtain ⟨wv, r'', e3, dw, d1⟩ := d1
  unfold DRels at d1
  subst d1 e3 e2
  obtain ⟨u1, u2, rfl, rv, rw'⟩ : ∃ u1 u2, us = [u1, u2] ∧ RelV vv u1 ∧ RelV wv u2 := by
    cases r1 with
    | cons p q =>
      cases q with
      | cons p' q' =>
        cases q'
        exact ⟨_, _, rfl, p, p'⟩
  refine wpAny_newObj_type ?_ (by show 2 ≤ sizeLine; decide)
  have I2 : Inv X pins σ H1 { s1 with heap := s1.heap.push { cls := .type "tuple", data := .seq [u1, u2].toArray } } := I1.kept (t' := s1.toks) fun b o e => Heap.get?_push_of_some _ e
  rw [hw]
  refine wpAny_bind (wpAny_pure ?_)
  show wpAny (model X.prog X.w) X.A (do rule "assign.swapped-stores"; let items ← unpackItems (.ref s1.heap.objs.size) 2 none; assignInOrder [fun v => bindName X.env y v, fun v => bindName X.env x v] items.reverse; pure Flow.next) _ _ _
  refine wpAny_bind (wpAny_rule (wpAny_bind (unpackItems_tuple (items := #[u1, u2]) (T.I.ok.hd hc) (IsTup.new s1.heap _) fun h' hx' => ?_)))
  have I3 := I2.kept (h' := h') (t' := s1.toks) fun b o e => hx' b o (Nat.ne_of_lt (Heap.lt_size e)) e
  show wpAny _ _ (assignInOrder [fun v => bindName X.env y v, fun v => bindName X.env x v] [u2, u1] >>= fun _ => pure Flow.next) _ _ _
  refine wpAny_bind (assignInOrder_cons (wpAny_bindName (store_ok I3 hN hj (.inl hy) rw' (fun s2 I4 => ?_) (.inr hy))))
  refine assignInOrder_cons (wpAny_bindName (store_ok I4 hN hi (.inl hx) rv (fun s3 I5 => assignInOrder_nil (wpAny_pure ?_)) (.inr hx)))
  rw [List.set_comm _ _ (Ne.symm hij)] at I5
  exact ⟨_, H1, _, S1, ⟨I5, ((T.r.ext x1).set dv).set dw, m1⟩, x1, q1⟩
/-- name op= e -/
def InpD (X : Cx) (op : Operator) (r : DR2) : Prop := OpD X (inplaceOp op) r
def sAug (i : Nat) (te : DE) (r : DR2) : DS := fun D σ S => ∃ x, σ[i]? = some (some x) ∧ te σ S (fun y S1 => r x y S1 (fun z S2 => D.nx (σ.set i (some z)) S2) (eX D σ)) (eX D σ)
theorem qs_aug {i : Nat} {x : Str} {op : Operator} {r : DR2} {pos' : Pos} (hN : X.N.Nodup) (hi : X.N[i]? = some x) (hx : Loc X.env.scope x) (he : QE X e te) (ho : OpD X (inplaceOp op) r) (hf : X.fn x = true ∨ X.env.scope.names.lookup x = some .local) :
    QS X (.AugAssign (.Name x pos') op e pos) (sAug i te r) := fun pins s σ H σD S D tk T h => by
  obtain ⟨d, ed, h⟩ := h
  obtain ⟨v, e1, dv⟩ := T.r.at_ i d ed
  obtain ⟨m, hn, hl⟩ := T.I.loc
  have vis : Vis X.env.scope x := by rcases hx with k | k; exact .inl k; exact .inr (.inl k)
  obtain ⟨u, r', l⟩ := hl i x v hi e1 vis
  refine wpAny_AugAssign_Name ?_
  have go : wpAny (model X.prog X.w) X.A (eval e X.env) (fun w s₂ => wpAny (model X.prog X.w) X.A (inplaceOp op u w) (fun r s₃ => wpAny (model X.prog X.w) X.A (storeName X.env x r) (fun _ => SQ X pins H D .next) X.xe s₃) X.xe s₂) X.xe s := by
    refine thn (he pins s σ H σD S D.ex _ tk T h) fun w s1 ⟨yv, H1, y, S1, I1, r1, x1, d1, m1, q1⟩ => ?_
    refine thn (ho pins s1 σ H1 σD S1 D.ex _ d y v yv u w (tk.up x1) (T.on I1 x1 m1) (DRel.ext x1 _ dv) d1 r' r1 q1) fun z s2 ⟨zv, H2, zd, S2, I2, r2, x2, d2, m2, q2⟩ => ?_
    exact store_ok I2 hN hi hx r2 (fun s3 I3 => ⟨_, H2, _, S2, ⟨I3, (T.r.ext (x1.trans x2)).set d2, m2⟩, x1.trans x2, q2⟩) hf
  rcases l with ⟨hk, hm⟩ | ⟨hk, c, hc, hcell⟩
  · exact wpAny_loadName_local T.I.ok.kind hk hn hm go
  · rcases hk with hk | hk
    · exact wpAny_loadName_cell T.I.ok.kind hk hc hcell go
    · rcases hx with k | k
      · have : X.env.scope.names.lookup x = some .free := hk
        rw [k] at this; cases this
      · have : X.env.scope.names.lookup x = some .free := hk
        rw [k] at this; cases this
end
end DL

set_option Elab.async false
set_option linter.all false
set_option maxRecDepth 100000
set_option maxHeartbeats 4000000
namespace DL
open PySem PySem.Spec PyProof.Rows L2
inductive MPat where
  | any
  | val (w : Str)
  | seq (w : Str) (is : List Nat)
def eqW (S : Sto) (d : D) (w : Str) (Y Z : Prop) : Prop := ∃ p, toPy S 64 d = some p ∧ if PyData.eqv p (.str w) = true then Y else Z
/-- a pattern: what is wanted of the items caught, or of a miss -/
def mPat : MPat → D → Sto → (List D → Prop) → Prop → Prop
  | .any, _, _, Y, _ => Y []
  | .val w, d, S, Y, Z => eqW S d w (Y []) Z
  | .seq w is, .tup (x :: r), S, Y, Z => if r.length = is.length then eqW S x w (Y r) Z else Z
  | .seq _ _, .tup [], _, _, Z => Z
  | .seq _ _, .non, _, _, Z => Z
  | .seq _ _, .bl _, _, _, Z => Z
  | .seq _ _, .int _, _, _, Z => Z
  | .seq _ _, .str _, _, _, Z => Z
  | _, _, _, _, _ => False
def MR (X : Cx) (pins : List (Addr × Obj)) (σ : VSt) (H : Hp) (σD : DSt) (S : Sto) (ns : List Str) (Y : List D → Prop) (Z : Prop) (r : Option (List (Str × Value))) (s' : Shared) : Prop :=
  Sit X pins σ H s' σD S ∧ match r with
  | none => Z
  | some bs => ∃ ds vs, Y ds ∧ DRels (gp X) H ds vs ∧ Vals vs (bs.map (·.2)) ∧ bs.map (·.1) = ns
def QPa (X : Cx) (p : Pattern) (mp : MPat) (ns : List Str) : Prop := ∀ (pins : List (Addr × Obj)) (s : Shared) (σ : VSt) (H : Hp) (σD : DSt) (S : Sto) (d : D) (v : V) (u : Value) (Y : List D → Prop) (Z : Prop), Sit X pins σ H s σD S → DRel (gp X) H d v → RelV v u → mPat mp d S Y Z →
  wpAny (model X.prog X.w) X.A (matchPattern p X.env u) (MR X pins σ H σD S ns Y Z) X.xe s
section
variable {X : Cx} {pos : Pos} {pins : List (Addr × Obj)} {σ : VSt} {H : Hp} {s : Shared} {σD : DSt} {S : Sto}
/-- a value that equals a text -/
theorem mp_val {w : Str} {j : Nat} {pc : Pos} {d : D} {v : V} {u : Value} {Y Z : Prop} {Q : Option (List (Str × Value)) → Shared → Prop} (hu : X.A.units + 64 < cLine) (T : Sit X pins σ H s σD S) (dr : DRel (gp X) H d v) (r : RelV v u) (h : eqW S d w Y Z)
    (k1 : ∀ s', Sit X pins σ H s' σD S → Y → Q (some []) s') (k2 : ∀ s', Sit X pins σ H s' σD S → Z → Q none s') : wpAny (model X.prog X.w) X.A (matchPattern (.MatchValue (.Constant (.str w) j pc) pos) X.env u) Q X.xe s := by
  obtain ⟨p, e, h⟩ := h
  refine wpAny_matchPattern_Value ?_
  refine wpAny_Constant_str ?_
  obtain ⟨as, r1⟩ := reads_of T dr r e
  obtain ⟨bs, r2⟩ := reads_of (x := .str w) (xv := .str w) (v := .str w _) (p := .str w) T (by simp [DRel]) ⟨_, rfl⟩ rfl
  obtain ⟨a1, a2⟩ := toPy_plain 64 d p e
  refine SeqAt.eq_plain r1 r2 a1 rfl (by have : PyData.depth (.str w) ≤ 64 := by simp [PyData.depth]
                                         omega) ?_
  refine wpAny_truthy_bool ?_
  by_cases hb : PyData.eqv p (.str w) = true
  · rw [if_pos hb] at h
    rw [if_pos hb]
    exact k1 _ ⟨T.I.kept (h' := s.heap) (t' := s.toks + 1) fun b o e => e, T.r, T.m⟩ h
  · rw [if_neg hb] at h
    rw [if_neg hb]
    exact k2 _ ⟨T.I.kept (h' := s.heap) (t' := s.toks + 1) fun b o e => e, T.r, T.m⟩ h
theorem qp_any : QPa X (.MatchAs none none pos) .any [] := fun pins s σ H σD S d v u Y Z T dr r h =>
  wpAny_matchPattern_Capture ⟨T, [], [], h, by simp [DRels], .nil, rfl⟩
theorem qp_val {w : Str} {j : Nat} {pc : Pos} (hu : X.A.units + 64 < cLine) : QPa X (.MatchValue (.Constant (.str w) j pc) pos) (.val w) [] := fun pins s σ H σD S d v u Y Z T dr r h =>
  mp_val hu T dr r h (fun s' T' y => ⟨T', [], [], y, by simp [DRels], .nil, rfl⟩) fun s' T' z => ⟨T', z⟩
/-- captures alone -/
def caps : List (Str × Pos) → List Pattern
  | [] => []
  | (x, p) :: r => .MatchAs none (some x) p :: caps r
theorem caps_len : ∀ ns : List (Str × Pos), (caps ns).length = ns.length
  | [] => rfl
  | (x, p) :: r => by simp only [caps, List.length_cons, caps_len r]
theorem me_caps {Q : Option (List (Str × Value)) → Shared → Prop} (ns : List (Str × Pos)) : ∀ (vs : List Value) (s : Shared), vs.length = ns.length → (∀ bs : List (Str × Value), bs.map (·.2) = vs → bs.map (·.1) = ns.map (·.1) → Q (some bs) s) → wpAny (model X.prog X.w) X.A (matchEach (caps ns) X.env vs) Q X.xe s := by
  induction ns generalizing Q with
  | nil =>
    intro vs s h k
    cases vs with
    | nil => exact wpAny_matchEach_nil (k [] rfl rfl)
    | cons v vs => cases h
  | cons n ns ih =>
    intro vs s h k
    obtain ⟨x, p⟩ := n
    cases vs with
    | nil => cases h
    | cons v vs =>
      have hl : vs.length = ns.length := by simpa using h
      unfold caps
      refine wpAny_matchEach_cons (wpAny_matchPattern_Capture ?_) (by rfl)
      have q := ih (Q := fun r' s2 => match r' with | none => Q none s2 | some more => Q (some ((x, v) :: more)) s2) vs s hl fun bs e1 e2 => k ((x, v) :: bs) (by rw [List.map_cons, e1]) (by rw [List.map_cons, e2, List.map_cons])
      show wpAny (model X.prog X.w) X.A (matchEach (caps ns) X.env vs) _ X.xe s
      exact thn q fun r s2 z => by
        cases r with
        | none => exact z
        | some more =>
          show Q (some ((x, v) :: more)) s2
          exact z
theorem seqAtoms {ps : List Pattern} {T : String} {u : Value} {Q : Option (List (Str × Value)) → Shared → Prop} (hT : s.TypeIs u T) (hb : flagOfType true (.type T) = pure false) (h : Q none s)
    (hstar : ps.findIdx? (·.isStar) = none) (hwild : (ps.all fun p => p.isWildcard || (p.isStar && p.names.isEmpty)) = false) : wpAny (model X.prog X.w) X.A (matchPattern (.MatchSequence ps pos) X.env u) Q X.xe s := by
  refine wpAny_matchPattern_Sequence (wpAny_collectionFlag hT hb ?_) hstar hwild
  rw [if_neg (by decide)]
  exact h
theorem qp_seq {w : Str} {j : Nat} {pc pv : Pos} {ns : List (Str × Pos)} {is : List Nat} (hc : X.calm = true) (hu : X.A.units + 64 < cLine) (hl : is.length = ns.length)
    (hstar : (Pattern.MatchValue (.Constant (.str w) j pc) pv :: caps ns).findIdx? (·.isStar) = none) (hwild : ((Pattern.MatchValue (.Constant (.str w) j pc) pv :: caps ns).all fun p => p.isWildcard || (p.isStar && p.names.isEmpty)) = false) :
    QPa X (.MatchSequence (.MatchValue (.Constant (.str w) j pc) pv :: caps ns) pos) (.seq w is) (ns.map (·.1)) := fun pins s σ H σD S d v u Y Z T dr r h => by
  cases d with
  | non =>
    unfold DRel at dr
    subst dr
    cases r
    exact seqAtoms (T := "NoneType") (by trivial) flag_seq_None ⟨T, h⟩ hstar hwild
  | bl b =>
    unfold DRel at dr
    subst dr
    cases r
    exact seqAtoms (T := "bool") (by trivial) flag_seq_bool ⟨T, h⟩ hstar hwild
  | int b =>
    unfold DRel at dr
    subst dr
    obtain ⟨t, rfl⟩ := r
    exact seqAtoms (T := "int") (by trivial) flag_seq_int ⟨T, h⟩ hstar hwild
  | str b =>
    unfold DRel at dr
    subst dr
    obtain ⟨t, rfl⟩ := r
    exact seqAtoms (T := "str") (by trivial) flag_seq_str ⟨T, h⟩ hstar hwild
  | tup xs =>
    unfold DRel at dr
    obtain ⟨a, ws, rfl, hq, dr⟩ := dr
    cases r
    obtain ⟨its, rv, ht, hz⟩ := T.I.tuple hq
    have hlen : its.length = xs.length := rv.length.symm.trans dr.length.symm
    have hfit : ((its.toArray.size : Nat) : Int) < 2 ^ 63 := by
      have e1 : sizeLine < 2 ^ 62 := by decide
      have e2 : its.toArray.size = its.length := by simp
      have e3 := rv.length
      omega
    have I1 : ∀ t', Inv X pins σ H { s with toks := t' } := fun t' => T.I.kept (h' := s.heap) fun b o e => e
    cases xs with
    | nil =>
      refine matchSeq_tuple_miss ht hfit (by simp [hlen]) ?_ hstar hwild
      exact ⟨⟨I1 _, T.r, T.m⟩, h⟩
    | cons x xr =>
      simp only [mPat] at h
      by_cases hn : xr.length = is.length
      · rw [if_pos hn] at h
        have hsz : its.toArray.size = (Pattern.MatchValue (.Constant (.str w) j pc) pv :: caps ns).length := by
          rw [List.size_toArray, hlen, List.length_cons, List.length_cons, caps_len, ← hl, hn]
        refine matchSeq_tuple_hit ht hfit hsz ?_ hstar hwild
        rw [← hsz]
        refine wpAny_unpackItems_tuple (T.I.ok.hd hc) ht fun h' hx => ?_
        have I2 : Inv X pins σ H { s with heap := h', toks := s.toks + 1 + 1 } := T.I.kept (t' := s.toks + 1 + 1) fun b o e => hx b o (Nat.ne_of_lt (Heap.lt_size e)) e
        unfold DRels at dr
        obtain ⟨v1, wr, rfl, d1, d2⟩ := dr
        cases rv with
        | cons r1 r2 =>
          refine wpAny_matchEach_cons (mp_val hu ⟨I2, T.r, T.m⟩ d1 r1 h (fun s2 T2 y => ?_) fun s2 T2 z => ⟨T2, z⟩) rfl
          refine me_caps ns _ s2 ?_ fun bs e1 e2 => ?_
          · have := r2.length
            have := d2.length
            omega
          · exact ⟨T2, xr, wr, y, d2, by simpa [e1] using r2, by simp [e2]⟩
      · rw [if_neg hn] at h
        refine matchSeq_tuple_miss ht hfit (by rw [List.size_toArray, hlen, List.length_cons, List.length_cons, caps_len, ← hl]; omega) ?_ hstar hwild
        exact ⟨⟨I1 _, T.r, T.m⟩, h⟩
  | _ => exact absurd h (by simp [mPat])
/-- the caught items, laid into their slots -/
def setAll : List Nat → List D → DSt → DSt
  | i :: is, d :: ds, σ => setAll is ds (σ.set i (some d))
  | _, _, σ => σ
def SlN (X : Cx) : List Nat → List Str → Prop
  | [], [] => True
  | i :: is, x :: ns => (X.N[i]? = some x ∧ Loc X.env.scope x ∧ (X.fn x = true ∨ X.env.scope.names.lookup x = some .local)) ∧ SlN X is ns
  | _, _ => False
theorem slN_inv {i : Nat} {is : List Nat} {ns : List Str} (h : SlN X (i :: is) ns) : ∃ x r, ns = x :: r ∧ (X.N[i]? = some x ∧ Loc X.env.scope x ∧ (X.fn x = true ∨ X.env.scope.names.lookup x = some .local)) ∧ SlN X is r := by
  cases ns with
  | nil => exact h.elim
  | cons x r => exact ⟨x, r, rfl, h⟩
theorem bind_ok (hN : X.N.Nodup) {Q : Unit → Shared → Prop} (is : List Nat) : ∀ (ns : List Str) (ds : List D) (vs : List V) (us : List Value) (s : Shared) (σ : VSt) (σD : DSt), SlN X is ns → Sit X pins σ H s σD S → DRels (gp X) H ds vs → Vals vs us → ds.length = is.length →
    (∀ s' σ', Sit X pins σ' H s' (setAll is ds σD) S → Q () s') → wpAny (model X.prog X.w) X.A (assignInOrder (ns.map fun n => bindName X.env n) us) Q X.xe s := by
  induction is with
  | nil =>
    intro ns ds vs us s σ σD h T dr r hl k
    cases ns with
    | cons x r => exact h.elim
    | nil =>
      cases ds with
      | cons d ds => cases hl
      | nil =>
        unfold DRels at dr
        subst dr
        cases r
        exact assignInOrder_nil (k s σ T)
  | cons i is ih =>
    intro ns ds vs us s σ σD h T dr r hl k
    obtain ⟨x, ns', rfl, ⟨h1, h2, h3⟩, h⟩ := slN_inv h
    cases ds with
    | nil => cases hl
    | cons d ds =>
      unfold DRels at dr
      obtain ⟨v, wr, rfl, d1, d2⟩ := dr
      cases r with
      | cons r1 r2 =>
        have hl' : ds.length = is.length := by simpa using hl
        rw [List.map_cons]
        refine assignInOrder_cons (wpAny_bindName (store_ok T.I hN h1 h2 r1 (fun s' I' => ?_) h3))
        exact ih ns' ds wr _ s' _ _ h ⟨I', T.r.set d1, T.m⟩ d2 r2 hl' k
def mpIs : MPat → List Nat
  | .seq _ is => is
  | _ => []
abbrev DCs := D → DS
def cNil : DCs := fun _ D σ S => D.nx σ S
def cCons (mp : MPat) (b : DS) (r : DCs) : DCs := fun d D σ S => mPat mp d S (fun ds => b D (setAll (mpIs mp) ds σ) S) (r d D σ S)
def QCs (X : Cx) (cases : List MatchCase) (t : DCs) : Prop := ∀ (pins : List (Addr × Obj)) (s : Shared) (σ : VSt) (H : Hp) (σD : DSt) (S : Sto) (D : DKs) (d : DL.D) (v : V) (u : Value) (first : Bool), Takes X (lX X H D.ex) → Sit X pins σ H s σD S → DRel (gp X) H d v → RelV v u → t d D σD S →
  wpAny (model X.prog X.w) X.A (matchCases cases X.env u first) (SQ X pins H D) X.xe s
theorem eqW_imp {d : D} {w : Str} {Y Y' Z : Prop} (f : Y → Y') (h : eqW S d w Y Z) : eqW S d w Y' Z := by
  obtain ⟨p, e, h⟩ := h
  refine ⟨p, e, ?_⟩
  by_cases hb : PyData.eqv p (.str w) = true
  · rw [if_pos hb] at h ⊢; exact f h
  · rw [if_neg hb] at h ⊢; exact h
theorem mPat_len {mp : MPat} {d : D} {Y : List D → Prop} {Z : Prop} (h : mPat mp d S Y Z) : mPat mp d S (fun ds => ds.length = (mpIs mp).length ∧ Y ds) Z := by
  cases mp with
  | any => exact ⟨rfl, h⟩
  | val w => exact eqW_imp (fun y => ⟨rfl, y⟩) h
  | seq w is =>
    cases d with
    | tup xs =>
      cases xs with
      | nil => exact h
      | cons x r =>
        simp only [mPat] at h ⊢
        by_cases hn : r.length = is.length
        · rw [if_pos hn] at h ⊢
          exact eqW_imp (fun y => ⟨hn, y⟩) h
        · rw [if_neg hn] at h ⊢; exact h
    | _ => exact h
theorem qcs_nil : QCs X [] cNil := fun pins s σ H σD S D d v u first tk T dr r h => wpAny_matchCases_nil ⟨σ, H, σD, S, T, .refl, h⟩
theorem qcs_cons {p : Pattern} {mp : MPat} {ns : List Str} {body : List Stmt} {rest : List MatchCase} {b : DS} {t : DCs} (hN : X.N.Nodup) (hp : QPa X p mp ns) (hs : SlN X (mpIs mp) ns) (hb : QSs X body b) (hr : QCs X rest t) : QCs X (⟨p, none, body⟩ :: rest) (cCons mp b t) := fun pins s σ H σD S D d v u first tk T dr r h => by
  refine wpAny_matchCases_cons (thn (hp pins s σ H σD S d v u _ _ T dr r (mPat_len h)) fun q s1 z => ?_)
  obtain ⟨T1, z⟩ := z
  cases q with
  | none => exact hr pins s1 σ H σD S D d v u false tk T1 dr r z
  | some bs =>
    obtain ⟨ds, vs, ⟨hl, y⟩, d2, r2, e2⟩ := z
    have := bind_ok (Q := fun _ s2 => wpAny (model X.prog X.w) X.A (execs body X.env) (SQ X pins H D) X.xe s2) hN (mpIs mp) ns ds vs (bs.map (·.2)) s1 σ σD hs T1 d2 r2 hl fun s' σ' T' => hb pins s' σ' H _ S D tk T' y
    rw [← e2, List.map_map] at this
    exact this
def sMat (te : DE) (t : DCs) : DS := fun D σ S => te σ S (fun d S1 => t d D σ S1) (eX D σ)
theorem qs_mat {e : Expr} {te : DE} {cases : List MatchCase} {t : DCs} (he : QE X e te) (hc : QCs X cases t) : QS X (.Match e cases pos) (sMat te t) := fun pins s σ H σD S D tk T h =>
  wpAny_Match (thn (he pins s σ H σD S D.ex _ tk T h) fun v s1 ⟨xv, H1, x, S1, I1, r1, x1, d1, m1, q1⟩ => thn (hc pins s1 σ H1 σD S1 D x xv v true (tk.up x1) (T.on I1 x1 m1) d1 r1 q1) fun _ _ z => z.up x1)
end
end DL

set_option Elab.async false
set_option linter.all false
set_option maxRecDepth 100000
set_option maxHeartbeats 4000000
namespace DL
open PySem PySem.Spec PyProof.Rows L2

def noSt : Expr → Bool
  | .Starred .. => false
  | _ => true
theorem star_cons {e : Expr} {es : List Expr} {env : Env} (h : noSt e = true) : starEach (e :: es) env = (false, eval e env) :: starEach es env := by
  cases e <;> first | rfl | (simp [noSt] at h)
theorem star_plain {env : Env} {pos : Pos} : ∀ {es : List Expr}, es.all noSt = true → (backTo pos (starEach es env)).any (·.1) = false
  | [], _ => rfl
  | e :: es, h => by
    simp only [List.all_cons, Bool.and_eq_true] at h
    rw [star_cons h.1]
    show (false || (backTo pos (starEach es env)).any (·.1)) = false
    rw [star_plain h.2]; rfl

abbrev DB := List D → Sto → DK → DX → Prop
def CallD (X : Cx) (f : Value) (r : DB) : Prop := ∀ (pins : List (Addr × Obj)) (s : Shared) (σ : VSt) (H : Hp) (σD : DSt) (S : Sto) (ex : DXs) (Kt : DK) (ds : List D) (vs : List V) (us : List Value), Takes X (lX X H ex) → Sit X pins σ H s σD S → DRels (gp X) H ds vs → Vals vs us →
  r ds S Kt (fun c fs S => ex c fs σD S) → wpAny (model X.prog X.w) X.A (call f us) (EQ X pins σ H Kt) X.xe s
section
variable {X : Cx}
theorem CallD.of {f : Value} {r0 : List V → Hp → VK → Prop} {r : DB} (ho : CallR X f r0) (h : ∀ (H : Hp) (S : Sto) (Kt : DK) (E : DX) (ds : List D) (vs : List V), Sim (gp X) H S → DRels (gp X) H ds vs → r ds S Kt E →
    r0 vs H fun v H' => ∃ d S', Ext X.K H H' ∧ DRel (gp X) H' d v ∧ Sim (gp X) H' S' ∧ Kt d S') : CallD X f r := fun pins s σ H σD S ex Kt ds vs us tk T dr rv q =>
  thn (ho pins s σ H vs us _ T.I rv (h H S Kt _ ds vs T.m dr q)) fun u s1 ⟨v, H', I', r, d, S', x, dr, m, k⟩ => ⟨v, H', d, S', I', r, x, dr, m, k⟩
theorem CallD.imp {f : Value} {r r' : DB} (h : CallD X f r) (hi : ∀ ds S K E, r' ds S K E → r ds S K E) : CallD X f r' := fun pins s σ H σD S ex Kt ds vs us tk T dr rv q => h pins s σ H σD S ex Kt ds vs us tk T dr rv (hi _ _ _ _ q)
theorem CallD.or {f : Value} {r r' : DB} (h : CallD X f r) (h' : CallD X f r') : CallD X f (fun ds S K E => r ds S K E ∨ r' ds S K E) := fun pins s σ H σD S ex Kt ds vs us tk T dr rv q => by
  rcases q with q | q
  · exact h pins s σ H σD S ex Kt ds vs us tk T dr rv q
  · exact h' pins s σ H σD S ex Kt ds vs us tk T dr rv q
def dCall (r : DB) (t : DA) : DE := fun σ S K E => t σ S (fun ds S1 => r ds S1 K E) E
variable {x : Str} {e : Expr} {es : List Expr} {t : DA} {r : DB} {p pos : Pos} {id : String}
theorem qe_callB (hc : CallD X (.builtin id) r) (hg : Gl X x) (hm : X.mg x = none) (hv : bootBuiltins x = some (.builtin id)) (ha : QA X (e :: es) t) (hst : (e :: es).all noSt = true) (hn : x ≠ "__name__") (hdb : (x == ("__debug__" : Str)) = false) :
    QE X (.Call (.Name x p) (e :: es) [] pos) (dCall r t) := fun pins s σ H σD S ex Kt tk T h => by
  simp only [List.all_cons, Bool.and_eq_true] at hst
  refine wpAny_Call_Name_kw (ld_blt T.I hg hm hv ?_ hn hdb)
  exact PyProof.Rows.callWith_builtin1 (thn (ha pos pins s σ H σD S ex _ tk T h) fun us s1 ⟨vs, H1, ds, S1, I1, r1, x1, d1, m1, q1⟩ =>
    thn (hc pins s1 σ H1 σD S1 ex Kt ds vs us (tk.up x1) (T.on I1 x1 m1) d1 r1 q1) fun _ _ z => z.up x1) (star_cons hst.1) (star_plain hst.2)
theorem qe_callTy (hc : CallD X (.type id) r) (hg : Gl X x) (hm : X.mg x = none) (hv : bootBuiltins x = some (.type id)) (ha : QA X (e :: es) t) (hst : (e :: es).all noSt = true) (hn : x ≠ "__name__") (hdb : (x == ("__debug__" : Str)) = false) :
    QE X (.Call (.Name x p) (e :: es) [] pos) (dCall r t) := fun pins s σ H σD S ex Kt tk T h => by
  simp only [List.all_cons, Bool.and_eq_true] at hst
  refine wpAny_Call_Name_kw (ld_blt T.I hg hm hv ?_ hn hdb)
  exact PyProof.Rows.callWith_type1 (thn (ha pos pins s σ H σD S ex _ tk T h) fun us s1 ⟨vs, H1, ds, S1, I1, r1, x1, d1, m1, q1⟩ =>
    thn (hc pins s1 σ H1 σD S1 ex Kt ds vs us (tk.up x1) (T.on I1 x1 m1) d1 r1 q1) fun _ _ z => z.up x1) (star_cons hst.1) (star_plain hst.2)
end

section
variable {X : Cx}
theorem drels1 {g : GP} {H : Hp} {d : D} {vs : List V} (h : DRels g H [d] vs) : ∃ v, vs = [v] ∧ DRel g H d v := by
  unfold DRels at h
  obtain ⟨v, r, e, h1, h2⟩ := h
  unfold DRels at h2
  exact ⟨v, by rw [e, h2], h1⟩
theorem drels2 {g : GP} {H : Hp} {d d' : D} {vs : List V} (h : DRels g H [d, d'] vs) : ∃ v w, vs = [v, w] ∧ DRel g H d v ∧ DRel g H d' w := by
  unfold DRels at h
  obtain ⟨v, r, e, h1, h2⟩ := h
  obtain ⟨w, e2, h3⟩ := drels1 h2
  exact ⟨v, w, by rw [e, e2], h1, h3⟩
theorem drels3 {g : GP} {H : Hp} {d d' d'' : D} {vs : List V} (h : DRels g H [d, d', d''] vs) : ∃ v w z, vs = [v, w, z] ∧ DRel g H d v ∧ DRel g H d' w ∧ DRel g H d'' z := by
  unfold DRels at h
  obtain ⟨v, r, e, h1, h2⟩ := h
  obtain ⟨w, z, e2, h3, h4⟩ := drels2 h2
  exact ⟨v, w, z, by rw [e, e2], h1, h3, h4⟩
def absD : DB := fun ds S K _ => ∃ i, ds = [.int i] ∧ K (.int (if i < 0 then -i else i)) S
theorem cd_abs : CallD X (.builtin "abs") absD := .of call_abs fun H S Kt E ds vs m dr ⟨i, e, k⟩ => by
  subst e
  obtain ⟨v, rfl, h⟩ := drels1 dr
  unfold DRel at h; subst h
  exact ⟨i, rfl, _, S, .refl, by simp [DRel], m, k⟩
def int1D : DB := fun ds S K _ => (∃ i, ds = [.int i] ∧ K (.int i) S) ∨ ∃ b : Bool, ds = [.bl b] ∧ K (.int (if b then 1 else 0)) S
theorem cd_int : CallD X (.type "int") int1D := .of call_int1 fun H S Kt E ds vs m dr h => by
  rcases h with ⟨i, e, k⟩ | ⟨b, e, k⟩
  · subst e
    obtain ⟨v, rfl, h⟩ := drels1 dr
    unfold DRel at h; subst h
    exact .inl ⟨i, rfl, _, S, .refl, by simp [DRel], m, k⟩
  · subst e
    obtain ⟨v, rfl, h⟩ := drels1 dr
    unfold DRel at h; subst h
    exact .inr ⟨b, rfl, _, S, .refl, by simp [DRel], m, k⟩
def bool1D : DB := fun ds S K _ => (∃ i : Int, ds = [.int i] ∧ K (.bl (i != 0)) S) ∨ ∃ b : Bool, ds = [.bl b] ∧ K (.bl b) S
theorem cd_bool : CallD X (.type "bool") bool1D := .of call_bool1 fun H S Kt E ds vs m dr h => by
  rcases h with ⟨i, e, k⟩ | ⟨b, e, k⟩
  · subst e
    obtain ⟨v, rfl, h⟩ := drels1 dr
    unfold DRel at h; subst h
    exact .inl ⟨i, rfl, _, S, .refl, by simp [DRel], m, k⟩
  · subst e
    obtain ⟨v, rfl, h⟩ := drels1 dr
    unfold DRel at h; subst h
    exact .inr ⟨b, rfl, _, S, .refl, by simp [DRel], m, k⟩
def max2D : DB := fun ds S K _ => ∃ i j, ds = [.int i, .int j] ∧ K (.int (if j > i then j else i)) S
def min2D : DB := fun ds S K _ => ∃ i j, ds = [.int i, .int j] ∧ K (.int (if j < i then j else i)) S
theorem cd_max2 (hc : X.calm = true) : CallD X (.builtin "max") max2D := .of (call_max2 hc) fun H S Kt E ds vs m dr ⟨i, j, e, k⟩ => by
  subst e
  obtain ⟨v, w, rfl, h1, h2⟩ := drels2 dr
  unfold DRel at h1 h2; subst h1 h2
  exact ⟨i, j, rfl, _, S, .refl, by simp [DRel], m, k⟩
theorem cd_min2 (hc : X.calm = true) : CallD X (.builtin "min") min2D := .of (call_min2 hc) fun H S Kt E ds vs m dr ⟨i, j, e, k⟩ => by
  subst e
  obtain ⟨v, w, rfl, h1, h2⟩ := drels2 dr
  unfold DRel at h1 h2; subst h1 h2
  exact ⟨i, j, rfl, _, S, .refl, by simp [DRel], m, k⟩
/-- the items of a list, of a tuple -/
def itemsD (S : Sto) : D → Option (List D)
  | .tup xs => some xs
  | .rol xs => some xs
  | .ref a => match S a with
    | some (.lst xs) => some xs
    | _ => none
  | _ => none
/-- .. of a list alone -/
def litemsD (S : Sto) : D → Option (List D)
  | .rol xs => some xs
  | .ref a => match S a with
    | some (.lst xs) => some xs
    | _ => none
  | _ => none
theorem litems_sql {g : GP} {H : Hp} {S : Sto} {d : D} {v : V} {xs : List D} (m : Sim g H S) (r : DRel g H d v) (h : litemsD S d = some xs) : ∃ a vs, v = .ref a ∧ SqL g.K H a vs ∧ DRels g H xs vs := by
  cases d with
  | rol ys =>
    cases h
    unfold DRel at r
    obtain ⟨a, vs, e, q, dr⟩ := r
    exact ⟨a, vs, e, q.sql, dr⟩
  | ref a =>
    simp only [litemsD] at h
    cases e : S a with
    | none => rw [e] at h; cases h
    | some o =>
      rw [e] at h
      cases o with
      | lst ys =>
        cases h
        unfold DRel at r
        obtain ⟨vs, h1, h2⟩ := m a _ e
        exact ⟨a, vs, r, .inl (.inl h1), h2⟩
      | ins _ _ => cases h
      | slo _ _ => cases h
      | dic _ => cases h
      | exd _ => cases h
  | _ => cases h
theorem items_sq {g : GP} {H : Hp} {S : Sto} {d : D} {v : V} {xs : List D} (m : Sim g H S) (r : DRel g H d v) (h : itemsD S d = some xs) : ∃ a vs, v = .ref a ∧ (SqL g.K H a vs ∨ SqT g.K H a vs) ∧ DRels g H xs vs := by
  cases d with
  | tup ys =>
    cases h
    unfold DRel at r
    obtain ⟨a, vs, e, q, dr⟩ := r
    exact ⟨a, vs, e, .inr q, dr⟩
  | rol ys =>
    obtain ⟨a, vs, e, q, dr⟩ := litems_sql m r (xs := xs) h
    exact ⟨a, vs, e, .inl q, dr⟩
  | ref a =>
    obtain ⟨a, vs, e, q, dr⟩ := litems_sql m r (xs := xs) h
    exact ⟨a, vs, e, .inl q, dr⟩
  | _ => cases h
def lenD : DB := fun ds S K _ => ∃ d, ds = [d] ∧ ((∃ xs, itemsD S d = some xs ∧ K (.int xs.length) S) ∨ ∃ x, d = .str x ∧ x.length ≤ sizeLine ∧ K (.int x.length) S)
theorem cd_len : CallD X (.builtin "len") lenD := .of call_len fun H S Kt E ds vs m dr ⟨d, e, h⟩ => by
  subst e
  obtain ⟨v, rfl, hd⟩ := drels1 dr
  rcases h with ⟨xs, hx, k⟩ | ⟨x, rfl, hz, k⟩
  · obtain ⟨a, ws, rfl, q, dr2⟩ := items_sq m hd hx
    refine ⟨_, ws.length, rfl, ?_, .int xs.length, S, .refl, by rw [dr2.length]; simp [DRel], m, k⟩
    rcases q with q | q
    · exact .inl ⟨ws, q, rfl⟩
    · exact .inr ⟨ws, q, rfl⟩
  · unfold DRel at hd; subst hd
    exact ⟨_, x.length, rfl, ⟨hz, rfl⟩, _, S, .refl, by simp [DRel], m, k⟩
def listD : DB := fun ds S K _ => ∃ d xs, ds = [d] ∧ itemsD S d = some xs ∧ ∀ p, S p = none → K (.ref p) (sup S p (.lst xs))
theorem cd_list : CallD X (.type "list") listD := .of call_list_of fun H S Kt E ds vs m dr ⟨d, xs, e, hx, k⟩ => by
  subst e
  obtain ⟨v, rfl, hd⟩ := drels1 dr
  obtain ⟨a, ws, rfl, q, dr2⟩ := items_sq m hd hx
  exact ⟨a, ws, rfl, q, fun l hl => ⟨.ref l, _, Ext.new hl, by simp [DRel], m.newL hl dr2, k l (m.fresh hl)⟩⟩
def tupleD : DB := fun ds S K _ => ∃ d xs, ds = [d] ∧ itemsD S d = some xs ∧ K (.tup xs) S
theorem cd_tuple : CallD X (.type "tuple") tupleD := .of call_tuple_of fun H S Kt E ds vs m dr ⟨d, xs, e, hx, k⟩ => by
  subst e
  obtain ⟨v, rfl, hd⟩ := drels1 dr
  obtain ⟨a, ws, rfl, q, dr2⟩ := items_sq m hd hx
  refine ⟨a, ws, rfl, ?_⟩
  rcases q with q | q
  · exact .inl ⟨q, fun l hl => ⟨.tup xs, S, Ext.new hl, sit_tup hl dr2, m.hid hl, k⟩⟩
  · exact .inr ⟨q, .tup xs, S, .refl, by unfold DRel; exact ⟨a, ws, rfl, q, dr2⟩, m, k⟩
theorem drels_ints {g : GP} {H : Hp} : ∀ {ns : List Int} {vs : List V}, DRels g H (ns.map D.int) vs → vs = ns.map V.int
  | [], vs, h => by simpa [DRels] using h
  | n :: ns, vs, h => by
    rw [List.map_cons] at h
    unfold DRels at h
    obtain ⟨v, r, e, h1, h2⟩ := h
    rw [e, drels_ints h2, show v = .int n by simpa [DRel] using h1]; rfl
theorem drels_bls {g : GP} {H : Hp} : ∀ {ns : List Bool} {vs : List V}, DRels g H (ns.map D.bl) vs → vs = ns.map V.bl
  | [], vs, h => by simpa [DRels] using h
  | n :: ns, vs, h => by
    rw [List.map_cons] at h
    unfold DRels at h
    obtain ⟨v, r, e, h1, h2⟩ := h
    rw [e, drels_bls h2, show v = .bl n by simpa [DRel] using h1]; rfl
def sumD : DB := fun ds S K _ => ∃ (d : D) (ns : List Int), ds = [d] ∧ litemsD S d = some (ns.map D.int) ∧ K (.int ns.sum) S
theorem cd_sum (hc : X.calm = true) : CallD X (.builtin "sum") sumD := .of (cr_sum hc) fun H S Kt E ds vs m dr ⟨d, ns, e, hx, k⟩ => by
  subst e
  obtain ⟨v, rfl, hd⟩ := drels1 dr
  obtain ⟨a, ws, rfl, q, dr2⟩ := litems_sql m hd hx
  have := drels_ints dr2; subst this
  exact ⟨a, ns, rfl, q, _, S, .refl, by simp [DRel], m, k⟩
def maxlD : DB := fun ds S K _ => ∃ (d : D) (ns : List Int), ds = [d] ∧ litemsD S d = some (ns.map D.int) ∧ 0 < ns.length ∧ ∀ m, m ∈ ns → (∀ y, y ∈ ns → y ≤ m) → K (.int m) S
theorem cd_maxl (hc : X.calm = true) : CallD X (.builtin "max") maxlD := .of (cr_max hc) fun H S Kt E ds vs m dr ⟨d, ns, e, hx, h0, k⟩ => by
  subst e
  obtain ⟨v, rfl, hd⟩ := drels1 dr
  obtain ⟨a, ws, rfl, q, dr2⟩ := litems_sql m hd hx
  have := drels_ints dr2; subst this
  exact ⟨a, ns, rfl, q, h0, fun i h1 h2 => ⟨_, S, .refl, by simp [DRel], m, k i h1 h2⟩⟩
def minlD : DB := fun ds S K _ => ∃ (d : D) (ns : List Int), ds = [d] ∧ litemsD S d = some (ns.map D.int) ∧ 0 < ns.length ∧ ∀ m, m ∈ ns → (∀ y, y ∈ ns → m ≤ y) → K (.int m) S
theorem cd_minl (hc : X.calm = true) : CallD X (.builtin "min") minlD := .of (cr_min hc) fun H S Kt E ds vs m dr ⟨d, ns, e, hx, h0, k⟩ => by
  subst e
  obtain ⟨v, rfl, hd⟩ := drels1 dr
  obtain ⟨a, ws, rfl, q, dr2⟩ := litems_sql m hd hx
  have := drels_ints dr2; subst this
  exact ⟨a, ns, rfl, q, h0, fun i h1 h2 => ⟨_, S, .refl, by simp [DRel], m, k i h1 h2⟩⟩
def allD : DB := fun ds S K _ => ∃ (d : D) (bs : List Bool), ds = [d] ∧ litemsD S d = some (bs.map D.bl) ∧ K (.bl (bs.all id)) S
theorem cd_all (hc : X.calm = true) : CallD X (.builtin "all") allD := .of (cr_all hc) fun H S Kt E ds vs m dr ⟨d, ns, e, hx, k⟩ => by
  subst e
  obtain ⟨v, rfl, hd⟩ := drels1 dr
  obtain ⟨a, ws, rfl, q, dr2⟩ := litems_sql m hd hx
  have := drels_bls dr2; subst this
  exact ⟨a, ns, rfl, q, _, S, .refl, by simp [DRel], m, k⟩
def anyD : DB := fun ds S K _ => ∃ (d : D) (bs : List Bool), ds = [d] ∧ litemsD S d = some (bs.map D.bl) ∧ K (.bl (bs.any id)) S
theorem cd_any (hc : X.calm = true) : CallD X (.builtin "any") anyD := .of (cr_any hc) fun H S Kt E ds vs m dr ⟨d, ns, e, hx, k⟩ => by
  subst e
  obtain ⟨v, rfl, hd⟩ := drels1 dr
  obtain ⟨a, ws, rfl, q, dr2⟩ := litems_sql m hd hx
  have := drels_bls dr2; subst this
  exact ⟨a, ns, rfl, q, _, S, .refl, by simp [DRel], m, k⟩
end
end DL

set_option Elab.async false
set_option linter.all false
set_option maxRecDepth 100000
set_option maxHeartbeats 4000000
namespace DL
open PySem PySem.Spec PyProof.Rows L2

/-- a key carried by value -/
def lfD : D → Option Leaf
  | .non => some .none
  | .int i => some (.num i)
  | .str x => some (.text x)
  | _ => none
def nbV : Value → Bool
  | .bool _ => false
  | _ => true
theorem nb_strs {P : Program} {w : World} (k : Leaf) (x : Str) (t : Tok) (v : Value) (h : (Leaf.isOf k (.str x t) && nbV (.str x t)) = true) : (Leaf.isOf k v && nbV v) = v.isStr x := by
  have h1 : Leaf.isOf k (.str x t) = true := by simpa [nbV] using h
  have e : Leaf.isOf k v = v.isStr x := (leafKind P w).strs k x t v h1
  rw [e]
  cases v <;> first | rfl | (simp [nbV])
def nbKind (P : Program) (w : World) : KeyKind P w Leaf where
  is := fun k v => Leaf.isOf k v && nbV v
  hash := fun k => k.key.hash w
  inj := fun v a b ha hb => (leafKind P w).inj v a b (by simp only [Bool.and_eq_true] at ha; exact ha.1) (by simp only [Bool.and_eq_true] at hb; exact hb.1)
  byValue := fun k v h => Leaf.byValue (k := k) (by simp only [Bool.and_eq_true] at h; exact h.1)
  pyHash := fun hv h => pyHash_leaf (by simp only [Bool.and_eq_true] at hv; exact hv.1) h
  eqBool := fun hu hv h => eqAt_leaf (by simp only [Bool.and_eq_true] at hu; exact hu.1) (by simp only [Bool.and_eq_true] at hv; exact hv.1) _ _ _ _ h
  «strs» := fun k x t v h => nb_strs (P := P) (w := w) k x t v h
section
variable {P : Program} {w : World} {g : GP} {H : Hp}
theorem lf_is {d : D} {v : V} {u : Value} {l : Leaf} (h : lfD d = some l) (dr : DRel g H d v) (r : RelV v u) : (nbKind P w).is l u = true := by
  cases d with
  | non =>
    cases h
    unfold DRel at dr; subst dr; cases r; rfl
  | int i =>
    cases h
    unfold DRel at dr; subst dr
    obtain ⟨t, rfl⟩ := r
    show (decide (i = i) && true) = true
    simp
  | str x =>
    cases h
    unfold DRel at dr; subst dr
    obtain ⟨t, rfl⟩ := r
    show (Value.isStrOf x (.str x t) && true) = true
    simp [Value.isStrOf]
  | _ => cases h
theorem lf_back {d : D} {u : Value} {l : Leaf} (h : lfD d = some l) (q : (nbKind P w).is l u = true) : ∃ v, DRel g H d v ∧ RelV v u := by
  have q1 : Leaf.isOf l u = true := by
    have q : (Leaf.isOf l u && nbV u) = true := q
    simp only [Bool.and_eq_true] at q; exact q.1
  have q2 : nbV u = true := by
    have q : (Leaf.isOf l u && nbV u) = true := q
    simp only [Bool.and_eq_true] at q; exact q.2
  cases d with
  | non =>
    cases h
    refine ⟨.non, by simp [DRel], ?_⟩
    cases u <;> first | rfl | (simp [Leaf.isOf] at q1)
  | int i =>
    cases h
    refine ⟨.int i, by simp [DRel], ?_⟩
    cases u with
    | int j t =>
      have e : j = i := of_decide_eq_true q1
      subst e
      exact ⟨t, rfl⟩
    | bool b => cases q2
    | _ => simp [Leaf.isOf] at q1
  | str x =>
    cases h
    obtain ⟨t, e⟩ := Value.isStrOf_shape (show Value.isStrOf x u = true from q1)
    exact ⟨.str x, by simp [DRel], ⟨t, e⟩⟩
  | _ => cases h
theorem lf_nk {d : D} {l : Leaf} (h : lfD d = some l) : toNK d = some l.key := by
  cases d <;> first | (cases h; rfl) | (cases h)
theorem lf_inj {d d' : D} {l l' : Leaf} (h : lfD d = some l) (h' : lfD d' = some l') : decide (toNK d = toNK d') = decide (l = l') := by
  rw [lf_nk h, lf_nk h']
  by_cases e : l = l'
  · subst e; simp
  · rw [decide_eq_false e, decide_eq_false]
    intro z
    exact e (Leaf.key_inj (Option.some.inj z))
end
def keq (a b : D) : Bool := decide (toNK a = toNK b)
def atD (kvs : List (D × D)) (k : D) : Option D := (kvs.find? fun p => keq p.1 k).map (·.2)
def putKD (kvs : List (D × D)) (k v : D) : List (D × D) := if (kvs.any fun p => keq p.1 k) = true then kvs.map fun p => if keq p.1 k = true then (p.1, v) else p else kvs ++ [(k, v)]
def allLf (kvs : List (D × D)) : Bool := kvs.all fun p => (lfD p.1).isSome
def LPr (g : GP) (H : Hp) : List (D × D) → List (Leaf × Value) → Prop
  | [], ps => ps = []
  | p :: r, ps => ∃ q qs, ps = q :: qs ∧ lfD p.1 = some q.1 ∧ (∃ vv, DRel g H p.2 vv ∧ RelV vv q.2) ∧ LPr g H r qs
section
variable {P : Program} {g : GP} {H : Hp}
theorem LPr.length {kvs : List (D × D)} : ∀ {ps : List (Leaf × Value)}, LPr g H kvs ps → kvs.length = ps.length := by
  induction kvs with
  | nil => intro ps h; rw [show ps = [] from h]; rfl
  | cons p r ih =>
    intro ps h
    obtain ⟨q, qs, e, _, _, h⟩ := h
    rw [e, List.length_cons, List.length_cons, ih h]
theorem LPr.keys {kvs : List (D × D)} : ∀ {ps : List (Leaf × Value)}, LPr g H kvs ps → (kvs.map fun p => toNK p.1) = (ps.map (·.1)).map fun l => some l.key := by
  induction kvs with
  | nil => intro ps h; rw [show ps = [] from h]; rfl
  | cons p r ih =>
    intro ps h
    obtain ⟨q, qs, e, h1, _, h⟩ := h
    rw [e, List.map_cons, List.map_cons, List.map_cons, ih h, lf_nk h1]
theorem lk_inj {a b : Leaf} : (some a.key = some b.key) ↔ a = b := ⟨fun e => Leaf.key_inj (Option.some.inj e), fun e => by rw [e]⟩
theorem LPr.nodup {kvs : List (D × D)} {ps : List (Leaf × Value)} (h : LPr g H kvs ps) : (kvs.map fun p => toNK p.1).Nodup ↔ (ps.map (·.1)).Nodup := by
  rw [h.keys]
  unfold List.Nodup
  rw [List.pairwise_map]
  exact ⟨fun q => q.imp fun n e => n (lk_inj.mpr e), fun q => q.imp fun n e => n (lk_inj.mp e)⟩
theorem LPr.all {kvs : List (D × D)} : ∀ {ps : List (Leaf × Value)}, LPr g H kvs ps → allLf kvs = true := by
  induction kvs with
  | nil => intro ps h; rfl
  | cons p r ih =>
    intro ps h
    obtain ⟨q, qs, e, h1, _, h⟩ := h
    show ((lfD p.1).isSome && allLf r) = true
    rw [h1, ih h]
    rfl
theorem LPr.ext {H' : Hp} (x : Ext g.K H H') {kvs : List (D × D)} : ∀ {ps : List (Leaf × Value)}, LPr g H kvs ps → LPr g H' kvs ps := by
  induction kvs with
  | nil => intro ps h; exact h
  | cons p r ih =>
    intro ps h
    obtain ⟨q, qs, e, h1, ⟨vv, h2, h3⟩, h⟩ := h
    exact ⟨q, qs, e, h1, ⟨vv, DRel.ext x _ h2, h3⟩, ih h⟩
/-- the entries, as pairs -/
theorem dic_ps {kvs : List (D × D)} : ∀ {es : List DictEntry}, DicRel g H kvs es → allLf kvs = true → ∃ ps, LPr g H kvs ps ∧ Pairs (nbKind P g.w) es ps ∧ ∀ e ∈ es, ∃ k, (nbKind P g.w).is k e.key = true ∧ e.hash = (nbKind P g.w).hash k := by
  induction kvs with
  | nil =>
    intro es h _
    rw [show es = [] from h]
    exact ⟨[], rfl, .nil, fun e he => nomatch he⟩
  | cons p r ih =>
    intro es h ha
    obtain ⟨e, es', rfl, ⟨kv, k1, k2⟩, ⟨vv, v1, v2⟩, ⟨nk, n1, n2⟩, h⟩ := h
    have ha' : ((lfD p.1).isSome && allLf r) = true := ha
    simp only [Bool.and_eq_true] at ha'
    obtain ⟨l, hl⟩ := Option.isSome_iff_exists.mp ha'.1
    obtain ⟨ps, q1, q2, q3⟩ := ih h ha'.2
    have hi := lf_is (P := P) (w := g.w) hl k1 k2
    refine ⟨(l, e.val) :: ps, ⟨_, _, rfl, hl, ⟨vv, v1, v2⟩, q1⟩, .cons hi rfl q2, fun x hx => ?_⟩
    rcases List.mem_cons.mp hx with rfl | hx
    · refine ⟨l, hi, ?_⟩
      rw [lf_nk hl] at n1
      cases n1
      exact n2
    · exact q3 x hx
theorem dic_back {kvs : List (D × D)} : ∀ {es : List DictEntry} {ps : List (Leaf × Value)}, LPr g H kvs ps → Pairs (nbKind P g.w) es ps → (∀ e ∈ es, ∃ k, (nbKind P g.w).is k e.key = true ∧ e.hash = (nbKind P g.w).hash k) → DicRel g H kvs es := by
  induction kvs with
  | nil =>
    intro es ps h q _
    rw [show ps = [] from h] at q
    cases q
    rfl
  | cons p r ih =>
    intro es ps h q hk
    obtain ⟨q', qs, rfl, h1, ⟨vv, h2, h3⟩, h⟩ := h
    cases q with
    | cons i1 i2 i3 =>
      rename_i e es'
      refine ⟨e, es', rfl, lf_back h1 i1, ⟨vv, h2, by rw [i2]; exact h3⟩, ⟨_, lf_nk h1, ?_⟩, ih h i3 fun x hx => hk x (List.mem_cons_of_mem _ hx)⟩
      obtain ⟨k, j1, j2⟩ := hk e List.mem_cons_self
      have : k = q'.1 := (nbKind P g.w).inj _ _ _ j1 i1
      subst this
      exact j2
def OptR (g : GP) (H : Hp) : Option D → Option Value → Prop
  | some d, some u => ∃ v, DRel g H d v ∧ RelV v u
  | none, none => True
  | _, _ => False
theorem LPr.at {k : D} {l : Leaf} (hk : lfD k = some l) {kvs : List (D × D)} : ∀ {ps : List (Leaf × Value)}, LPr g H kvs ps → OptR g H (atD kvs k) (valueAt ps l) := by
  induction kvs with
  | nil => intro ps h; rw [show ps = [] from h]; trivial
  | cons p r ih =>
    intro ps h
    obtain ⟨q, qs, rfl, h1, h2, h⟩ := h
    have e : keq p.1 k = decide (q.1 = l) := lf_inj h1 hk
    unfold atD valueAt
    rw [List.find?_cons, List.find?_cons, e]
    by_cases c : q.1 = l
    · rw [decide_eq_true c]
      exact h2
    · rw [decide_eq_false c]
      exact ih h
theorem LPr.any {k : D} {l : Leaf} (hk : lfD k = some l) {kvs : List (D × D)} : ∀ {ps : List (Leaf × Value)}, LPr g H kvs ps → (kvs.any fun p => keq p.1 k) = ps.any fun q => decide (q.1 = l) := by
  induction kvs with
  | nil => intro ps h; rw [show ps = [] from h]; rfl
  | cons p r ih =>
    intro ps h
    obtain ⟨q, qs, rfl, h1, h2, h⟩ := h
    have e : keq p.1 k = decide (q.1 = l) := lf_inj h1 hk
    rw [List.any_cons, List.any_cons, e, ih h]
theorem LPr.repl {k d : D} {l : Leaf} {u : Value} (hk : lfD k = some l) (hd : ∃ v, DRel g H d v ∧ RelV v u) {kvs : List (D × D)} : ∀ {ps : List (Leaf × Value)}, LPr g H kvs ps → LPr g H (kvs.map fun p => if keq p.1 k = true then (p.1, d) else p) (ps.map fun q => if q.1 = l then (q.1, u) else q) := by
  induction kvs with
  | nil => intro ps h; rw [show ps = [] from h]; rfl
  | cons p r ih =>
    intro ps h
    obtain ⟨q, qs, rfl, h1, h2, h⟩ := h
    have e : keq p.1 k = decide (q.1 = l) := lf_inj h1 hk
    rw [List.map_cons, List.map_cons]
    by_cases c : q.1 = l
    · rw [if_pos (by rw [e]; exact decide_eq_true c), if_pos c]
      exact ⟨_, _, rfl, h1, hd, ih h⟩
    · rw [if_neg (by rw [e]; simpa using c), if_neg c]
      exact ⟨_, _, rfl, h1, h2, ih h⟩
theorem LPr.snoc {k d : D} {l : Leaf} {u : Value} (hk : lfD k = some l) (hd : ∃ v, DRel g H d v ∧ RelV v u) {kvs : List (D × D)} : ∀ {ps : List (Leaf × Value)}, LPr g H kvs ps → LPr g H (kvs ++ [(k, d)]) (ps ++ [(l, u)]) := by
  induction kvs with
  | nil => intro ps h; rw [show ps = [] from h]; exact ⟨_, [], rfl, hk, hd, rfl⟩
  | cons p r ih =>
    intro ps h
    obtain ⟨q, qs, rfl, h1, h2, h⟩ := h
    exact ⟨_, _, rfl, h1, h2, ih h⟩
theorem LPr.put {k d : D} {l : Leaf} {u : Value} (hk : lfD k = some l) (hd : ∃ v, DRel g H d v ∧ RelV v u) {kvs : List (D × D)} {ps : List (Leaf × Value)} (h : LPr g H kvs ps) : LPr g H (putKD kvs k d) (stored ps l u) := by
  unfold putKD stored
  rw [h.any hk]
  by_cases c : (ps.any fun q => decide (q.1 = l)) = true
  · rw [if_pos c, if_pos c]; exact h.repl hk hd
  · rw [if_neg c, if_neg c]; exact h.snoc hk hd
theorem putKD_len (kvs : List (D × D)) (k d : D) : (putKD kvs k d).length ≤ kvs.length + 1 := by
  unfold putKD
  split
  · rw [List.length_map]; omega
  · rw [List.length_append]; simp
end
section
variable {X : Cx} {pins : List (Addr × Obj)} {σ : VSt} {H : Hp} {s : Shared} {σD : DSt} {S : Sto} {a : Addr} {kvs : List (D × D)}
theorem dic_of (T : Sit X pins σ H s σD S) (e : S a = some (.dic kvs)) (hl : allLf kvs = true) :
    (a == sysModules) = false ∧ kvs.length ≤ sizeLine ∧ Mut (H a) ∧ ∃ ps, LPr (gp X) H kvs ps ∧ s.heap.DictOf (nbKind X.prog X.w) a ps := by
  obtain ⟨es, ep, h1, h2, h3⟩ := T.m a _ e
  obtain ⟨⟨q1, q2, o, q3, q4, q5⟩, _⟩ := (show ObjOk X.prog X.w H s.heap a (DicO a es ep) from T.I.hok a _ h1)
  obtain ⟨ps, r1, r2, r3⟩ := dic_ps (P := X.prog) h2 hl
  have hlen : kvs.length = es.size := by rw [r1.length, ← r2.length]; simp
  refine ⟨q1, by omega, by rw [h1]; trivial, ps, r1, o, es, ep, q3, q4, q5, fun x hx => r3 x (by simpa using hx), r2, r1.nodup.mp h3⟩
theorem dic_new {H' : Hp} {h' : Heap} {ps : List (Leaf × Value)} (hs : (a == sysModules) = false) (hz : kvs.length ≤ sizeLine) (q : LPr (gp X) H' kvs ps) (d : h'.DictOf (nbKind X.prog X.w) a ps) :
    ∃ es ep, ObjOk X.prog X.w H' h' a (DicO a es ep) ∧ (∃ o, h'.get? a = some o) ∧ DicRel (gp X) H' kvs es.toList ∧ (kvs.map fun p => toNK p.1).Nodup := by
  obtain ⟨o, es, ep, d1, d2, d3, d4, d5, d6⟩ := d
  have hlen : kvs.length = es.size := by rw [q.length, ← d5.length]; simp
  refine ⟨es, ep, ⟨⟨hs, by omega, o, d1, d2, d3⟩, ⟨o, d1⟩, ?_⟩, ⟨o, d1⟩, dic_back q d5 (fun x hx => d4 x (by simpa using hx)), q.nodup.mpr d6⟩
  exact fun h1 h2 ⟨a, b, o, q, r⟩ k => ⟨a, b, o, k o q, r⟩
/-- a dict written -/
theorem dic_write {kvs' : List (D × D)} {ps' : List (Leaf × Value)} {h' : Heap} {t' : Nat} (T : Sit X pins σ H s σD S) (e : S a = some (.dic kvs)) (hl : allLf kvs = true) (hz : kvs'.length ≤ sizeLine) (q : LPr (gp X) H kvs' ps') (d : h'.DictOf (nbKind X.prog X.w) a ps') (hs : Heap.SameBut a s.heap h') :
    ∃ H', Inv X pins σ H' { s with heap := h', toks := t' } ∧ Ext X.K H H' ∧ Sim (gp X) H' (sup S a (.dic kvs')) := by
  obtain ⟨n1, _, mu, _⟩ := dic_of T e hl
  have nt : NoTup (H a) := by
    obtain ⟨es, ep, h1, _⟩ := T.m a _ e
    rw [h1]; trivial
  have nd : NoDict (H a) := by
    obtain ⟨es, ep, h1, _⟩ := T.m a _ e
    rw [h1]; trivial
  have x : ∀ ob, Ext X.K H (L2.upd H a ob) := fun ob => Ext.upd nt
  obtain ⟨es, ep, o1, o2, o3, o4⟩ := dic_new (X := X) (H' := H) n1 hz q d
  have o1' : ObjOk X.prog X.w (L2.upd H a (DicO a es ep)) h' a (DicO a es ep) := o1
  refine ⟨_, d_write T.I mu hs o2 o1', x _, T.m.put nt nd ?_⟩
  exact ⟨es, ep, upd_same, o3.ext (x _), o4⟩
abbrev isLf (d : D) : Bool := (lfD d).isSome
theorem RelV.refR {a : Addr} {v : V} {u : Value} (e : v = .ref a) (r : RelV v u) : u = .ref a := by subst e; exact r
/-- y in d -/
def inLf (neg : Bool) : DR2 := fun x y S K _ => ∃ a kvs, y = .ref a ∧ S a = some (.dic kvs) ∧ isLf x = true ∧ allLf kvs = true ∧ K (.bl (neg ^^ (atD kvs x).isSome)) S
theorem OptR.isSome {g : GP} {H : Hp} {o : Option D} {u : Option Value} (h : OptR g H o u) : o.isSome = u.isSome := by
  cases o <;> cases u <;> first | rfl | exact h.elim
theorem opD_inLf : OpD X (compareOp .In) (inLf false) := fun pins s σ H σD S ex Kt x y xv yv v u tk T dx dy rx ry q => by
  obtain ⟨a, kvs, rfl, e, hx, hl, q⟩ := q
  unfold DRel at dy
  obtain rfl := RelV.refR dy ry
  obtain ⟨l, hx⟩ := Option.isSome_iff_exists.mp hx
  obtain ⟨n1, n2, mu, ps, h1, h2⟩ := dic_of T e hl
  refine wpAny_in_of (lf_is (P := X.prog) (w := X.w) hx dx rx) n1 h2.mapOf ?_
  rw [← (h1.at hx).isSome]
  exact ⟨.bl (atD kvs x).isSome, H, .bl (atD kvs x).isSome, S, T.I.kept (h' := s.heap) (t' := s.toks + 1) (fun b o e => e), rfl, .refl, by simp [DRel], T.m, by simpa using q⟩
theorem opD_ninLf : OpD X (compareOp .NotIn) (inLf true) := fun pins s σ H σD S ex Kt x y xv yv v u tk T dx dy rx ry q => by
  obtain ⟨a, kvs, rfl, e, hx, hl, q⟩ := q
  unfold DRel at dy
  obtain rfl := RelV.refR dy ry
  obtain ⟨l, hx⟩ := Option.isSome_iff_exists.mp hx
  obtain ⟨n1, n2, mu, ps, h1, h2⟩ := dic_of T e hl
  refine wpAny_notIn_of (lf_is (P := X.prog) (w := X.w) hx dx rx) n1 h2.mapOf ?_
  rw [← (h1.at hx).isSome]
  exact ⟨.bl (!(atD kvs x).isSome), H, .bl (!(atD kvs x).isSome), S, T.I.kept (h' := s.heap) (t' := s.toks + 1) (fun b o e => e), rfl, .refl, by simp [DRel], T.m, by simpa using q⟩
/-- d[y] -/
def ixLf : DR2 := fun x y S K _ => ∃ a kvs d, x = .ref a ∧ S a = some (.dic kvs) ∧ isLf y = true ∧ allLf kvs = true ∧ atD kvs y = some d ∧ K d S
theorem ixLf_ok : IxD X ixLf := by
  intro value slice pins s σ H σD S ex Kt x y xv yv v u tk T dx dy rx ry q hs
  obtain ⟨a, kvs, d, rfl, e, hx, hl, hd, q⟩ := q
  unfold DRel at dx
  obtain rfl := RelV.refR dx rx
  obtain ⟨l, hx⟩ := Option.isSome_iff_exists.mp hx
  obtain ⟨n1, n2, mu, ps, h1, h2⟩ := dic_of T e hl
  have hat := h1.at hx
  rw [hd] at hat
  cases hv : valueAt ps l with
  | none => rw [hv] at hat; exact hat.elim
  | some w =>
    rw [hv] at hat
    obtain ⟨wv, w1, w2⟩ := hat
    refine subscriptTail_builtinR (x := w) h2.typeIs slot_dict_getitem.lookup (wpAny_getItem_of (lf_is (P := X.prog) (w := X.w) hx dy ry) h2.mapOf hv ⟨rfl, ?_⟩) hs
    exact ⟨wv, H, d, S, T.I.kept (h' := s.heap) (t' := s.toks + 1) (fun b o e => e), w2, .refl, w1, T.m, q⟩
/-- d[y] = v -/
def setLf : DSet := fun o i d S P => ∃ a kvs, o = .ref a ∧ S a = some (.dic kvs) ∧ isLf i = true ∧ allLf kvs = true ∧ kvs.length < sizeLine ∧ P (sup S a (.dic (putKD kvs i d)))
theorem setLf_ok : SetD X setLf := by
  intro pins s σ H σD S o i d ov iv vv ou iu vu P T d1 d2 d3 r1 r2 r3 h
  obtain ⟨a, kvs, rfl, e, hx, hl, hz, q⟩ := h
  unfold DRel at d1
  obtain rfl := RelV.refR d1 r1
  obtain ⟨l, hx⟩ := Option.isSome_iff_exists.mp hx
  obtain ⟨n1, n2, mu, ps, h1, h2⟩ := dic_of T e hl
  have hlen := h1.length
  refine wpAny_setItem_pairs (hsz := by omega) (lf_is (P := X.prog) (w := X.w) hx d2 r2) h2 fun h' q1 q2 => ?_
  have := putKD_len kvs i d
  obtain ⟨H', I', x', m'⟩ := dic_write (t' := s.toks + 1) T e hl (by omega) (h1.put hx ⟨vv, d3, r3⟩) q1 q2
  exact ⟨H', _, I', x', m', q⟩
/-- .. within a comprehension -/
theorem dictSet_ok {a : Addr} {kvs : List (D × D)} {i d : D} {iv vv : V} {iu vu : Value} {E : Value → Shared → Prop} {Q : Unit → Shared → Prop} (T : Sit X pins σ H s σD S) (e : S a = some (.dic kvs)) (hx : isLf i = true) (hl : allLf kvs = true) (hz : kvs.length < sizeLine) (d2 : DRel (gp X) H i iv) (d3 : DRel (gp X) H d vv) (r2 : RelV iv iu) (r3 : RelV vv vu)
    (h : ∀ s' H', Inv X pins σ H' s' → Ext X.K H H' → Sim (gp X) H' (sup S a (.dic (putKD kvs i d))) → Q () s') : wpAny (model X.prog X.w) X.A (dictSet a iu vu) Q E s := by
  obtain ⟨l, hx⟩ := Option.isSome_iff_exists.mp hx
  obtain ⟨n1, n2, mu, ps, h1, h2⟩ := dic_of T e hl
  have hlen := h1.length
  refine wpAny_dictSet_pairs (hsz := by omega) (lf_is (P := X.prog) (w := X.w) hx d2 r2) h2 fun h' q1 q2 => ?_
  have := putKD_len kvs i d
  obtain ⟨H', I', x', m'⟩ := dic_write (t' := s.toks + 1) T e hl (by omega) (h1.put hx ⟨vv, d3, r3⟩) q1 q2
  exact h _ H' I' x' m'
/-- d.get(y), d.get(y, z) -/
def getLf : DB := fun ds S K _ => ∃ a kvs y z, (ds = [.ref a, y] ∧ z = .non ∨ ds = [.ref a, y, z]) ∧ S a = some (.dic kvs) ∧ isLf y = true ∧ allLf kvs = true ∧ K ((atD kvs y).getD z) S
theorem OptR.getD {g : GP} {H : Hp} {o : Option D} {u : Option Value} {z : D} {zu : Value} (h : OptR g H o u) (hz : ∃ v, DRel g H z v ∧ RelV v zu) : ∃ v, DRel g H (o.getD z) v ∧ RelV v (u.getD zu) := by
  cases o <;> cases u <;> first | exact hz | exact h | exact h.elim
theorem cd_getLf : CallD X (.builtin "dict.get") getLf := fun pins s σ H σD S ex Kt ds vs us tk T dr rv q => by
  obtain ⟨a, kvs, y, z, hds, e, hx, hl, q⟩ := q
  obtain ⟨l, hx⟩ := Option.isSome_iff_exists.mp hx
  obtain ⟨n1, n2, mu, ps, h1, h2⟩ := dic_of T e hl
  have hat := h1.at hx
  rcases hds with ⟨rfl, rfl⟩ | rfl
  · obtain ⟨v1, v2, rfl, d1, d2⟩ := drels2 dr
    cases rv with
    | cons r1 rv => cases rv with
      | cons r2 rv =>
        cases rv
        unfold DRel at d1
        obtain rfl := RelV.refR d1 r1
        obtain ⟨wv, w1, w2⟩ := hat.getD (z := .non) (zu := .none) ⟨.non, by simp [DRel], rfl⟩
        refine call_meetsIn PySem.F.slot_dict_get h2.typeIs PySem.F.entry_dict_get (PySem.F.args_dict_get_2 _ _) (meets_dict_get (nbKind X.prog X.w) a (lf_is (P := X.prog) (w := X.w) hx d2 r2) n1) ⟨_, h2.mapOf, ?_⟩
        exact ⟨wv, H, _, S, T.I.kept (h' := s.heap) (t' := s.toks + 1) (fun b o e => e), w2, .refl, w1, T.m, q⟩
  · obtain ⟨v1, v2, v3, rfl, d1, d2, d3⟩ := drels3 dr
    cases rv with
    | cons r1 rv => cases rv with
      | cons r2 rv => cases rv with
        | cons r3 rv =>
          cases rv
          unfold DRel at d1
          obtain rfl := RelV.refR d1 r1
          obtain ⟨wv, w1, w2⟩ := hat.getD ⟨_, d3, r3⟩
          refine call_meetsIn PySem.F.slot_dict_get h2.typeIs PySem.F.entry_dict_get (PySem.F.args_dict_get_3 _ _ _) (meets_dict_get_default (nbKind X.prog X.w) a (lf_is (P := X.prog) (w := X.w) hx d2 r2) n1 _) ⟨_, h2.mapOf, ?_⟩
          exact ⟨wv, H, _, S, T.I.kept (h' := s.heap) (t' := s.toks + 1) (fun b o e => e), w2, .refl, w1, T.m, q⟩
/-- len(d) -/
def lenLf : DB := fun ds S K _ => ∃ a kvs, ds = [.ref a] ∧ S a = some (.dic kvs) ∧ allLf kvs = true ∧ K (.int kvs.length) S
theorem cd_lenLf : CallD X (.builtin "len") lenLf := fun pins s σ H σD S ex Kt ds vs us tk T dr rv q => by
  obtain ⟨a, kvs, rfl, e, hl, q⟩ := q
  obtain ⟨n1, n2, mu, ps, h1, h2⟩ := dic_of T e hl
  obtain ⟨v1, rfl, d1⟩ := drels1 dr
  cases rv with
  | cons r1 rv =>
    cases rv
    unfold DRel at d1
    obtain rfl := RelV.refR d1 r1
    have hlen := h1.length
    have hz : sizeLine < 2 ^ 62 := by decide
    refine call_len_dict n1 h2 (by omega) ?_
    exact ⟨.int ps.length, H, .int kvs.length, S, T.I.kept (h' := s.heap) (t' := s.toks + 1 + 1) (fun b o e => e), ⟨_, rfl⟩, .refl, by rw [hlen]; simp [DRel], T.m, q⟩
/-- the truth of a dict -/
def truLf : D → Sto → (Bool → Sto → Prop) → DX → Prop := fun x S K _ => ∃ a kvs, x = .ref a ∧ S a = some (.dic kvs) ∧ allLf kvs = true ∧ K (!kvs.isEmpty) S
theorem truLf_ok : TruD X truLf := fun pins s σ H σD S ex Kt x xv v tk T dx rx q => by
  obtain ⟨a, kvs, rfl, e, hl, q⟩ := q
  obtain ⟨n1, n2, mu, ps, h1, h2⟩ := dic_of T e hl
  unfold DRel at dx
  obtain rfl := RelV.refR dx rx
  have hlen := h1.length
  have hz : sizeLine < 2 ^ 62 := by decide
  refine wpAny_truthy_dict n1 h2 (by omega) ?_
  have he : ps.isEmpty = kvs.isEmpty := by cases ps <;> cases kvs <;> first | rfl | (simp at hlen)
  rw [he]
  exact ⟨H, S, T.I.kept (h' := s.heap) (t' := s.toks + 1 + 1) (fun b o e => e), .refl, T.m, q⟩
theorem OpD.or {f : Value → Value → Sem Value} {r r' : DR2} (h : OpD X f r) (h' : OpD X f r') : OpD X f (fun x y S K E => r x y S K E ∨ r' x y S K E) := fun pins s σ H σD S ex Kt x y xv yv v u tk T dx dy rx ry q =>
  q.elim (h pins s σ H σD S ex Kt x y xv yv v u tk T dx dy rx ry) (h' pins s σ H σD S ex Kt x y xv yv v u tk T dx dy rx ry)
theorem IxD.or {r r' : DR2} (h : IxD X r) (h' : IxD X r') : IxD X (fun x y S K E => r x y S K E ∨ r' x y S K E) := fun vl sl pins s σ H σD S ex Kt x y xv yv v u tk T dx dy rx ry q hs =>
  q.elim (fun q => h vl sl pins s σ H σD S ex Kt x y xv yv v u tk T dx dy rx ry q hs) fun q => h' vl sl pins s σ H σD S ex Kt x y xv yv v u tk T dx dy rx ry q hs
theorem SetD.or {r r' : DSet} (h : SetD X r) (h' : SetD X r') : SetD X (fun o i d S P => r o i d S P ∨ r' o i d S P) := fun pins s σ H σD S o i d ov iv vv ou iu vu P T d1 d2 d3 r1 r2 r3 q =>
  q.elim (h pins s σ H σD S o i d ov iv vv ou iu vu P T d1 d2 d3 r1 r2 r3) (h' pins s σ H σD S o i d ov iv vv ou iu vu P T d1 d2 d3 r1 r2 r3)
theorem TruD.or {r r' : D → Sto → (Bool → Sto → Prop) → DX → Prop} (h : TruD X r) (h' : TruD X r') : TruD X (fun x S K E => r x S K E ∨ r' x S K E) := fun pins s σ H σD S ex Kt x xv v tk T dx rx q =>
  q.elim (h pins s σ H σD S ex Kt x xv v tk T dx rx) (h' pins s σ H σD S ex Kt x xv v tk T dx rx)
def isDic : SO → Bool
  | .dic _ => true
  | _ => false
def isDm (m : Str) : Bool := decide (m = "get")
def dmId (m : Str) : String := "dict.get"
def dmD (m : Str) : DB := fun ds S K E => if m = "get" then getLf ds S K E else False
theorem cd_dm {m : Str} : CallD X (.builtin (dmId m)) (dmD m) := fun pins s σ H σD S ex Kt ds vs us tk T dr rv q => by
  unfold dmD at q
  split at q
  · exact cd_getLf pins s σ H σD S ex Kt ds vs us tk T dr rv q
  · exact q.elim
theorem dm_slot {m : Str} (h : isDm m = true) : Slot "dict" m (dmId m) ∧ typeOf (.builtin (dmId m)) = pure (.type "method_descriptor") := by
  unfold isDm at h
  simp only [decide_eq_true_eq] at h
  subst h
  exact ⟨PySem.F.slot_dict_get, PySem.F.type_dict_get⟩
theorem dic_ty (T : Sit X pins σ H s σD S) (e : S a = some (.dic kvs)) : s.TypeIs (.ref a) "dict" ∧ ∀ b, Value.ref a = .ref b → ∃ ob, s.heap.get? b = some ob ∧ ob.dict = none := by
  obtain ⟨es, ep, h1, h2, h3⟩ := T.m a _ e
  obtain ⟨⟨q1, q2, o, q3, q4, q5⟩, _⟩ := (show ObjOk X.prog X.w H s.heap a (DicO a es ep) from T.I.hok a _ h1)
  exact ⟨⟨o, q3, q4.1⟩, fun b hb => by cases hb; exact ⟨o, q3, q4.2.1⟩⟩
end
end DL

set_option Elab.async false
set_option linter.all false
set_option maxRecDepth 100000
set_option maxHeartbeats 4000000
namespace DL
open PySem PySem.Spec PyProof.Rows L2 SrtO
/-- the order of tuples of ints -/
def lexI : List Int → List Int → Bool
  | x :: xs, y :: ys => if x = y then lexI xs ys else decide (x < y)
  | _, _ => false
theorem lexI_asym : ∀ {x y : List Int}, lexI x y = true → lexI y x = false
  | [], _, h => by simp [lexI] at h
  | _ :: _, [], h => by simp [lexI] at h
  | a :: x, b :: y, h => by
    unfold lexI at h ⊢
    by_cases e : a = b
    · rw [if_pos e] at h
      rw [if_pos e.symm]
      exact lexI_asym h
    · rw [if_neg e] at h
      rw [if_neg (Ne.symm e)]
      have := of_decide_eq_true h
      exact decide_eq_false (by omega)
theorem lexI_tr : ∀ {x y z : List Int}, x.length = y.length → y.length = z.length → lexI y x = false → lexI z y = false → lexI z x = false
  | [], _, [], _, _, _, _ => by simp [lexI]
  | [], _, _ :: _, _, _, _, _ => by simp [lexI]
  | _ :: _, _, [], _, _, _, _ => by simp [lexI]
  | _ :: _, [], _ :: _, h, _, _, _ => by simp at h
  | a :: x, b :: y, c :: z, h1, h2, p, q => by
    unfold lexI at p q ⊢
    by_cases e1 : b = a
    · rw [if_pos e1] at p
      subst e1
      by_cases e2 : c = b
      · rw [if_pos e2] at q ⊢
        exact lexI_tr (by simpa using h1) (by simpa using h2) p q
      · rw [if_neg e2] at q ⊢
        exact q
    · rw [if_neg e1] at p
      have p' := of_decide_eq_false p
      by_cases e2 : c = b
      · subst e2
        rw [if_neg e1]
        exact decide_eq_false p'
      · rw [if_neg e2] at q
        have q' := of_decide_eq_false q
        rw [if_neg (by omega)]
        exact decide_eq_false (by omega)
theorem lexI_anti : ∀ {x y : List Int}, x.length = y.length → lexI x y = false → lexI y x = false → x = y
  | [], [], _, _, _ => rfl
  | [], _ :: _, h, _, _ => by simp at h
  | _ :: _, [], h, _, _ => by simp at h
  | a :: x, b :: y, h, p, q => by
    unfold lexI at p q
    by_cases e : a = b
    · subst e
      rw [if_pos rfl] at p q
      rw [lexI_anti (by simpa using h) p q]
    · rw [if_neg e] at p
      rw [if_neg (Ne.symm e)] at q
      have p' := of_decide_eq_false p
      have q' := of_decide_eq_false q
      omega
/-- two arrangements of the same tuples, both in order, are one -/
theorem sorted_uniq {d : Nat} : ∀ {xs ys : List (List Int)}, xs.Perm ys → (∀ x ∈ xs, x.length = d) → xs.Pairwise (fun x y => lexI y x = false) → ys.Pairwise (fun x y => lexI y x = false) → xs = ys
  | [], ys, p, _, _, _ => by rw [List.nil_perm.mp p]
  | x :: xs, [], p, _, _, _ => absurd p.length_eq (by simp)
  | x :: xs, y :: ys, p, hd, hx, hy => by
    have ex : x = y := by
      rcases List.mem_cons.mp (p.mem_iff.mp (List.mem_cons_self (a := x) (l := xs))) with e | m1
      · exact e
      · rcases List.mem_cons.mp (p.mem_iff.mpr (List.mem_cons_self (a := y) (l := ys))) with e | m2
        · exact e.symm
        · have a := (List.pairwise_cons.mp hx).1 y m2
          have b := (List.pairwise_cons.mp hy).1 x m1
          exact lexI_anti ((hd x List.mem_cons_self).trans (hd y (List.mem_cons_of_mem _ m2)).symm) b a
    subst ex
    rw [sorted_uniq ((List.perm_cons x).mp p) (fun z hz => hd z (List.mem_cons_of_mem _ hz)) (List.pairwise_cons.mp hx).2 (List.pairwise_cons.mp hy).2]
section
variable {prog : Program} {w : World} {A : Around} {s : Shared}
theorem lex_at {us vs : List Value} {ns ms : List Int} : ∀ (i : Nat), IntsAre us ns → IntsAre vs ms → us.length = vs.length → PySem.W.KatLex prog w A true false (fun r s' => s' = s ∧ r = lexI ns ms) (us.zip vs) i s := by
  intro i h1
  induction h1 generalizing vs ms i with
  | nil => intro h2 hl; cases h2 with
    | nil => exact PySem.W.kat_nil ⟨rfl, rfl⟩
    | cons _ _ _ => simp at hl
  | cons n t h1 ih =>
    intro h2 hl
    cases h2 with
    | nil => simp at hl
    | cons m u h2 =>
      show PySem.W.KatLex prog w A true false _ ((_, _) :: _) i s
      refine PySem.W.kat_cons (SeqAt.EqAt.int_int _ _ _ _ prog w _ _ ?_)
      refine PySem.W.kat_go (fun e => ?_) (fun e => ?_)
      · have e' : n = m := by simpa using e
        have q := ih (i + 1) h2 (by simpa using hl)
        unfold lexI
        rw [if_pos e']
        exact PySem.W.kat_yes q
      · have e' : ¬ n = m := by simpa using e
        unfold lexI
        rw [if_neg e']
        refine PySem.W.kat_no ?_
        cases hb : (true && i == 0) with
        | true => exact oneLt_int ⟨rfl, rfl⟩
        | false => exact PySem.W.kat_one _ _ (PyProof.Rows.lt_int (show s = s ∧ _ from ⟨rfl, rfl⟩))
theorem tup_cmp {vs : List Value} {k : Value → List Int} {d : Nat} (hp : ∀ v ∈ vs, TS.TupInts s.heap v (k v) ∧ (k v).length = d) : Cmp prog w A s (tuples' true) (fun p => p.1 ∈ vs) (lt2 fun v u => lexI (k v) (k u)) := by
  intro p q hm hm'
  obtain ⟨⟨a, xs, e, ⟨o, ho, hc, n, hd⟩, i1⟩, l1⟩ := hp _ hm
  obtain ⟨⟨a', xs', e', ⟨o', ho', hc', n', hd'⟩, i2⟩, l2⟩ := hp _ hm'
  show wpAny (model prog w) A (keyLt' (tuples' true) p.1 q.1) (fun r s' => s' = s ∧ r = lexI (k p.1) (k q.1)) (fun _ _ => False) s
  generalize k p.1 = kp at *
  generalize k q.1 = kq at *
  rw [e, e']
  have s1 : xs.toList.length = d := by rw [i1.length]; exact l1
  have s2 : xs'.toList.length = d := by rw [i2.length]; exact l2
  have sz : decide (xs.size < xs'.size) = false := by
    rw [← Array.length_toList, ← Array.length_toList, s1, s2]
    exact decide_eq_false (Nat.lt_irrefl _)
  refine PySem.W.kat_lt ho hd ho' hd' ?_
  rw [sz]
  exact lex_at 0 i1 i2 (s1.trans s2.symm)
theorem firsts_i {h : Heap} {d : Nat} (hd : 1 ≤ d) : ∀ {vs : List Value}, (∀ v ∈ vs, ∃ ns, TS.TupInts h v ns ∧ ns.length = d) → ∃ fs : List Value, PySem.W.KatTups h vs fs ∧ fs.length = vs.length ∧ ∀ f ∈ fs, ∃ x t, f = Value.int x t
  | [], _ => ⟨[], PySem.W.KatTups.nil, rfl, fun _ hm => by simp at hm⟩
  | v :: vs, hp => by
    obtain ⟨fs, h1, h2, h3⟩ := firsts_i hd (vs := vs) fun u hm => hp u (List.mem_cons_of_mem _ hm)
    obtain ⟨ns, ⟨a, xs, e, ⟨o, ho, hc, n, hdt⟩, i1⟩, l1⟩ := hp v List.mem_cons_self
    subst e
    cases hx : xs.toList with
    | nil =>
      rw [hx] at i1
      cases i1
      simp at l1
      omega
    | cons f r =>
      rw [hx] at i1
      cases i1 with
      | cons x t q =>
        have e0 : xs[0]? = some (Value.int x t) := by rw [← Array.getElem?_toList, hx]; rfl
        refine ⟨.int x t :: fs, PySem.W.KatTups.cons ho hc hdt e0 h1, by rw [List.length_cons, List.length_cons, h2], fun g hm => ?_⟩
        rcases List.mem_cons.mp hm with rfl | hm
        · exact ⟨x, t, rfl⟩
        · exact h3 g hm
theorem tups_sortable {a : Addr} {vs : List Value} {k : Value → List Int} {d : Nat} (hd : 1 ≤ d) (h0 : 0 < vs.length) (hp : ∀ v ∈ vs, TS.TupInts s.heap v (k v) ∧ (k v).length = d) (ha : ∀ o, s.heap.get? a = some o → o.cls ≠ .type "tuple") : SortableO prog w A s a vs fun v u => lexI (k v) (k u) := by
  intro h' keep
  have hp' : ∀ v ∈ vs, TS.TupInts h' v (k v) ∧ (k v).length = d := fun v hm => ⟨(hp v hm).1.keeps fun b o e c => keep b o (fun z => by subst z; exact ha o e c) e, (hp v hm).2⟩
  obtain ⟨fs, h1, h2, h3⟩ := firsts_i hd fun v hm => ⟨_, hp' v hm⟩
  refine ⟨tuples' true, fun Q E hq => ?_, tup_cmp hp'⟩
  refine PySem.W.kat_kind (T := .type "int") h1 (by omega) (fun f hm => ?_) (by rfl) ?_
  · obtain ⟨x, t, rfl⟩ := h3 f hm
    exact PySem.W.Looks.now
  · have e : (Value.type "int" != Value.type "tuple") = true := by decide +kernel
    rw [e]
    exact hq
end
section
variable {X : Cx}
abbrev tupI (ns : List Int) : D := .tup (ns.map D.int)
/-- lexicographic, cut to one length so that it is a strict weak order -/
theorem swo_tup {k : Value → List Int} {d : Nat} (hk : ∀ v, (k v).length = d) : Swo fun v u => lexI (k v) (k u) := ⟨fun x y h => lexI_asym h, fun x y z h1 h2 => lexI_tr ((hk x).trans (hk y).symm) ((hk y).trans (hk z).symm) h1 h2⟩
def sortedD : DB := fun ds S K _ => ∃ (a : Addr) (nss : List (List Int)) (d : Nat), ds = [.ref a] ∧ S a = some (.lst (nss.map tupI)) ∧ 1 ≤ d ∧ (∀ ns ∈ nss, ns.length = d) ∧
  ∀ (mss : List (List Int)) (p : Addr), mss.Perm nss → mss.Pairwise (fun x y => lexI y x = false) → S p = none → K (.ref p) (sup S p (.lst (mss.map tupI)))
theorem tups_rel {g : GP} {H : Hp} : ∀ {nss : List (List Int)} {vs : List V}, DRels g H (nss.map tupI) vs → ∀ v ∈ vs, ∃ ns ∈ nss, ∃ t, v = .ref t ∧ SqT g.K H t (ns.map V.int)
  | [], vs, h, v, hv => by
    have : vs = [] := by simpa [DRels] using h
    subst this; cases hv
  | n :: nss, vs, h, v, hv => by
    rw [List.map_cons] at h
    unfold DRels at h
    obtain ⟨u, r, e, h1, h2⟩ := h
    subst e
    rcases List.mem_cons.mp hv with e | hv
    · subst e
      unfold DRel at h1
      obtain ⟨t, ws, e1, q, dr⟩ := h1
      rw [drels_ints dr] at q
      exact ⟨n, List.mem_cons_self, t, e1, q⟩
    · obtain ⟨ns, m, r⟩ := tups_rel h2 v hv
      exact ⟨ns, List.mem_cons_of_mem _ m, r⟩
theorem tups_map {g : GP} {H : Hp} {k : V → List Int} : ∀ {vs : List V}, (∀ v ∈ vs, ∃ t, v = .ref t ∧ SqT g.K H t ((k v).map V.int)) → DRels g H ((vs.map k).map tupI) vs
  | [], _ => .nil
  | v :: vs, h => by
    obtain ⟨t, e, q⟩ := h v List.mem_cons_self
    refine .cons ?_ (tups_map fun u hu => h u (List.mem_cons_of_mem _ hu))
    unfold DRel
    exact ⟨t, _, e, q, ints_rel _⟩
where
  ints_rel {g : GP} {H : Hp} : ∀ ns : List Int, DRels g H (ns.map D.int) (ns.map V.int)
    | [] => .nil
    | n :: ns => .cons (by simp [DRel]) (ints_rel ns)
def toV : Value → V
  | .ref a => .ref a
  | _ => .non
theorem toV_refs : ∀ {xs : List V} {us : List Value}, Vals xs us → (∀ x ∈ xs, ∃ a, x = V.ref a) → ∀ u ∈ us, ∃ a, u = Value.ref a ∧ V.ref a ∈ xs
  | _, _, .nil, _, u, hu => by cases hu
  | x :: xs, _ :: us, .cons r t, h, u, hu => by
    obtain ⟨a, e⟩ := h x List.mem_cons_self
    subst e
    cases r
    rcases List.mem_cons.mp hu with e | hu
    · exact ⟨a, e, List.mem_cons_self⟩
    · obtain ⟨b, e, m⟩ := toV_refs t (fun y hy => h y (List.mem_cons_of_mem _ hy)) u hu
      exact ⟨b, e, List.mem_cons_of_mem _ m⟩
theorem toV_vals : ∀ {us : List Value}, (∀ u ∈ us, ∃ a, u = Value.ref a) → Vals (us.map toV) us
  | [], _ => .nil
  | u :: us, h => by
    obtain ⟨a, e⟩ := h u List.mem_cons_self
    subst e
    exact .cons (show RelV (.ref a) (.ref a) from rfl) (toV_vals fun y hy => h y (List.mem_cons_of_mem _ hy))
theorem vals_keys {K : PySem.W.Frag} {H : Hp} {h : Heap} {f : V → List Int} {k : Value → List Int} : ∀ {xs : List V} {us : List Value}, Vals xs us → (∀ x ∈ xs, ∃ a, x = V.ref a ∧ k (.ref a) = f (.ref a)) → us.map k = xs.map f
  | _, _, .nil, _ => rfl
  | x :: xs, _ :: us, .cons r t, hh => by
    obtain ⟨a, e, q⟩ := hh x List.mem_cons_self
    subst e
    cases r
    rw [List.map_cons, List.map_cons, q, vals_keys (K := K) (H := H) (h := h) t fun y hy => hh y (List.mem_cons_of_mem _ hy)]
/-- the ints of the tuples, one by one -/
theorem tups_keys {g : GP} {H : Hp} {k : Value → List Int} : ∀ {nss : List (List Int)} {vs : List V} {us : List Value}, DRels g H (nss.map tupI) vs → Vals vs us → (∀ (t : Addr) (ns : List Int), SqT g.K H t (ns.map V.int) → k (.ref t) = ns) → us.map k = nss
  | [], vs, us, h, r, _ => by
    have : vs = [] := by simpa [DRels] using h
    subst this; cases r; rfl
  | n :: nss, vs, us, h, r, hk => by
    rw [List.map_cons] at h
    unfold DRels at h
    obtain ⟨v, vr, e, h1, h2⟩ := h
    subst e
    unfold DRel at h1
    obtain ⟨t, ws, e1, q, dr⟩ := h1
    subst e1
    rw [drels_ints dr] at q
    cases r with
    | cons r1 r2 =>
      cases r1
      rw [List.map_cons, hk t n q, tups_keys h2 r2 hk]
theorem cd_sorted : CallD X (.builtin "sorted") sortedD := fun pins s σ H σD S ex Kt ds vs us tk T dr rv ⟨a, nss, d, e, ha, hd, hl, q⟩ => by
  subst e
  obtain ⟨v, rfl, d1⟩ := drels1 dr
  unfold DRel at d1; subst d1
  rw [Vals.ref1 rv]
  obtain ⟨ws, h1, h2⟩ := T.m a _ ha
  obtain ⟨its, rv', hls, hz⟩ := T.I.list (SqL.of h1)
  have tl := tups_rel h2
  let k : Value → List Int := fun v => TS.intsOf s.heap v
  have kt : ∀ (t : Addr) (ns : List Int), SqT X.K H t (ns.map V.int) → TS.TupInts s.heap (.ref t) ns := fun t ns q => tupI_raw T.I q
  have keys : its.map k = nss := tups_keys h2 rv' fun t ns q => (kt t ns q).ints
  -- keys of one length everywhere
  let k' : Value → List Int := fun v => if (k v).length = d then k v else List.replicate d 0
  have kl : ∀ v, (k' v).length = d := fun v => by
    show (if (k v).length = d then k v else List.replicate d 0).length = d
    by_cases h : (k v).length = d
    · rw [if_pos h]; exact h
    · rw [if_neg h, List.length_replicate]
  have ok : ∀ v ∈ its, TS.TupInts s.heap v (k' v) ∧ ∃ t, v = .ref t ∧ SqT X.K H t ((k' v).map V.int) ∧ k' v = k v := fun v hv => by
    obtain ⟨t, rfl, mt⟩ := toV_refs rv' (fun x hx => let ⟨ns, _, t, e, _⟩ := tl x hx; ⟨t, e⟩) v hv
    obtain ⟨ns, mn, t', e, q⟩ := tl _ mt
    cases e
    have e1 : k (.ref t) = ns := (kt t ns q).ints
    have e2 : k' (.ref t) = ns := by
      show (if (k (.ref t)).length = d then k (.ref t) else List.replicate d 0) = ns
      rw [e1, if_pos (hl ns mn)]
    rw [e2, e1]
    exact ⟨kt t ns q, t, rfl, q, rfl⟩
  have hz' : its.length ≤ sizeLine := by rw [← rv'.length]; exact hz
  refine SrtO.sorted_ord (ltv := fun v u => lexI (k' v) (k' u)) (swo_tup kl) hls.isList hz' (fun h2 h₁ a' ha' kk => ?_) fun out hs hb => ?_
  · refine tups_sortable (s := { s with heap := h₁ }) hd (by omega) (fun v hm => ⟨(ok v hm).1.keeps fun b o e _ => (kk b o e).2, kl v⟩) fun o e => ?_
    have e' : some o = some (seqObj "list" its.toArray 0) := e.symm.trans ha'
    cases e'
    intro c
    exact absurd (Value.type.inj c) (by decide)
  · obtain ⟨ep, he'⟩ := PyProof.Rows.sortedAll_at s.heap its out.toArray
    have mem : ∀ v ∈ out, v ∈ its := fun v hv => hb.perm.mem_iff.mp hv
    have hout : ∀ v ∈ out, ∃ t, v = Value.ref t := fun v hv => let ⟨t, e, _⟩ := (ok v (mem v hv)).2; ⟨t, e⟩
    have hf : H (s.heap.objs.size + 1) = none := T.I.hok.fresh (Nat.le_succ _)
    have pm : (out.map k').Perm nss := by
      have e : its.map k' = its.map k := List.map_congr_left fun v hv => let ⟨_, _, _, e⟩ := (ok v hv).2; e
      rw [← keys, ← e]
      exact hb.perm.map k'
    have dr' : DRels (gp X) H ((out.map k').map tupI) (out.map toV) := by
      have : ∀ {l : List Value}, (∀ v ∈ l, v ∈ its) → DRels (gp X) H ((l.map k').map tupI) (l.map toV) := by
        intro l
        induction l with
        | nil => intro _; exact .nil
        | cons v l ih =>
          intro hm
          obtain ⟨t, e, q, _⟩ := (ok v (hm v List.mem_cons_self)).2
          refine .cons ?_ (ih fun u hu => hm u (List.mem_cons_of_mem _ hu))
          unfold DRel
          subst e
          exact ⟨t, _, rfl, q, tups_map.ints_rel _⟩
      exact this mem
    refine ⟨.ref _, upd H (s.heap.objs.size + 1) (.lst (out.map toV)), .ref _, _, T.I.laid (t' := s.toks) (fun _ _ => PyProof.Rows.sortedAll_old) (Nat.le_succ _) ⟨?_, out, ep, toV_vals hout, he'⟩, rfl, Ext.new hf, by simp [DRel], T.m.newL hf dr', q _ _ pm ?_ (T.m.fresh hf)⟩
    · rw [List.length_map, hb.perm.length_eq]; exact hz'
    · exact List.pairwise_map.mpr hs
end
end DL

set_option Elab.async false
set_option linter.all false
set_option maxRecDepth 100000
set_option maxHeartbeats 4000000
namespace DL
open PySem PySem.Spec PyProof.Rows L2

/-- room, and no repr around -/
structure RoomG (k : Nat) (A : Around) : Prop extends Room k A where
  gd : A.guards = some []
theorem RoomG.mono {j k : Nat} {A : Around} (r : RoomG k A) (h : j ≤ k) : RoomG j A := ⟨r.toRoom.mono h, r.gd⟩
theorem RoomG.deeper {k : Nat} {A : Around} (r : RoomG (k + 1) A) (env : Env) : RoomG k (A.deeper env) := ⟨r.toRoom.deeper env, r.gd⟩
theorem RoomG.in1 {k : Nat} {A : Around} (r : RoomG (k + 1) A) : RoomG k A.in1 := ⟨r.toRoom.in1, r.gd⟩
theorem make_guards {A : Around} {C : Addr} {us : List Value} {kw : List (Str × Value)} : (A.under (.builtin "type.__call__" ⟨.ref C :: us, kw⟩)).guards = pushGuards [] A.guards := by
  first | rfl | simp [Around.under, Code.guards, Code.isGuard, guardIds]
theorem RoomG.make {k : Nat} {A : Around} (r : RoomG (k + 1) A) (C : Addr) (us : List Value) (kw : List (Str × Value)) : RoomG k (A.under (.builtin "type.__call__" ⟨.ref C :: us, kw⟩)) :=
  ⟨r.toRoom.make C us kw, by rw [make_guards, r.gd]; rfl⟩
structure FnG (P : Program) (w : World) (K : PySem.W.Frag) (mg : Str → Option Value) (base : Heap) (CX : CXT) (k : Nat) (f : Addr) (fd : FuncData) (ps : List Str) (sp : Sp) : Prop where
  len : ∀ vs H Q E, sp vs H Q E → vs.length = ps.length
  run : ∀ (A : Around) (outer : List Env) (s : Shared) (H : Hp) (args : Args) (us : List Value) (vs : List V) (Q : VK) (E : XK), RoomG k A → Env0 P w K mg base A outer s H → BindsTo s fd args (ps.zip us) → Vals vs us → sp vs H Q E →
    codeAny (model P w) A (.call (.ref f) args) (CR CX outer P w H s Q E) s
theorem FnG.mono {P : Program} {w : World} {K : PySem.W.Frag} {mg : Str → Option Value} {base : Heap} {CX : CXT} {j k : Nat} {f : Addr} {fd : FuncData} {ps : List Str} {sp : Sp} (F : FnG P w K mg base CX j f fd ps sp) (h : j ≤ k) : FnG P w K mg base CX k f fd ps sp :=
  ⟨F.len, fun A outer s H args us vs Q E hr => F.run A outer s H args us vs Q E (hr.mono h)⟩
/-- a def's body keeps its promise -/
theorem fnG_of {CX : CXT} {P : Program} {w : World} {K : PySem.W.Frag} {mg : Str → Option Value} {base : Heap} {k : Nat} {x qual : Str} {params : Arguments} {body : List Stmt} {scope : Scope} {dvs : List V} {kws : List (Str × V)} {f : Addr} {fd : FuncData} {N ps : List Str} {sp : Sp}
    (FD : FunD K x qual params body scope dvs kws f fd) (Sc : FnScope N ps scope) (len : ∀ vs H Q E, sp vs H Q E → vs.length = ps.length)
    (hbody : ∀ (cdv : Value) (A : Around) (outer : List Env) (s s1 : Shared) (H : Hp) (vs : List V) (Q : VK) (E : XK), RoomG k (A.deeper (envOfC qual scope s.heap.objs.size f cdv)) → Inv (cxOf CX P w K mg base N qual scope f cdv A outer s H E) [] (start N vs) H s1 → sp vs H Q E →
      wpAny (model P w) (A.deeper (envOfC qual scope s.heap.objs.size f cdv)) (execs body (envOfC qual scope s.heap.objs.size f cdv)) (SP (cxOf CX P w K mg base N qual scope f cdv A outer s H E) [] { nx := fun _ H' => Q .non H', rt := Q }) (cxOf CX P w K mg base N qual scope f cdv A outer s H E).xe s1) :
    FnG P w K mg base CX (k + 1) f fd ps sp := by
  obtain ⟨oc, od, dV, kV, doc, pm, an, cdv, ct, osl, rfl, lk, hcd, _, _⟩ := FD.ex
  refine ⟨len, fun A outer s H args us vs Q E hr e0 hb r hsp => ?_⟩
  have hl := len _ _ _ _ hsp
  have keep : ∀ b o, base.get? b = some o → s.heap.get? b = some o := fun b o e => (e0.bs b o e).1
  have KX := e0.mod.kin.keeps keep
  have lim := e0.mod.nolimit.keeps keep
  have kinds : ∀ y ∈ ps.zip us, scope.names.lookup y.1 = some .local ∨ (scope.names.lookup y.1 = some .cell ∧ ((cellsFrom (s.heap.objs.size + 1) scope.names []).lookup y.1).isSome = true) := by
    rintro ⟨n, v⟩ hy
    refine (Sc.par n (List.of_mem_zip hy).1).imp id fun q => ⟨q, PySem.W.cellsFrom_some _ _ _ (.inl q)⟩
  refine codeAny_call_function hr.depth (KX _ _ lk) rfl Sc.co Sc.gen rfl (PySem.W.codeRec_of KX hcd) (hb _ _ _ _ (wpAny_newFunctionEnv_cells Sc.kind kinds fun env he s1 x => ?_))
  subst he
  refine ⟨lim.keeps x.toInCall.keep, codeAny_func ?_⟩
  have I : Inv (cxOf CX P w K mg base N qual scope f cdv A outer s H E) [] (start N vs) H s1 := inv_start Sc hr.hd e0 hl r x
  refine wpAny_mono (hbody cdv A outer s s1 H vs Q E (hr.deeper _) I hsp) (fun fl s' hs => ?_) fun e s' hs => hs
  have fin : ∀ {σ' : VSt} {H' : Hp} {v : V} {u : Value}, Inv (cxOf CX P w K mg base N qual scope f cdv A outer s H E) [] σ' H' s' → RelV v u → Q v H' → CE outer P w H s Q u s' := fun {σ' H' v u} J rv q => ⟨v, H', J.os, J.bare, J.base, J.hok, rv, q⟩
  match fl, hs with
  | .ret u, hs => exact let ⟨v, σ', H', J, rv, q⟩ := hs; fin J rv q
  | .next, hs => exact let ⟨σ', H', J, q⟩ := hs; fin (v := V.non) (u := Value.none) J rfl q
  | .brk, hs => exact let ⟨_, _, _, q⟩ := hs; False.elim q
  | .cont, hs => exact let ⟨_, _, _, q⟩ := hs; False.elim q
end DL

set_option Elab.async false
set_option linter.all false
set_option maxRecDepth 100000
set_option maxHeartbeats 4000000
namespace DL
open PySem PySem.Spec PyProof.Rows L2

def SO.cn : SO → Option Str
  | .lst _ => none
  | .ins c _ => some c
  | .slo c _ => some c
  | .dic _ => none
  | .exd _ => none
/-- its own attributes do not have the name -/
def SO.bare (o : SO) (m : Str) : Prop :=
  match o with
  | .ins _ fs => fs.lookup m = none
  | _ => True
section
variable {X : Cx} {pins : List (Addr × Obj)} {σ : VSt} {H : Hp} {s : Shared} {σD : DSt} {S : Sto} {a : Addr} {o : SO} {c : Str}
theorem inst_pl (T : Sit X pins σ H s σD S) (e : S a = some o) (hc : o.cn = some c) : ∃ C ox od, X.mg c = some (.ref C) ∧ PySem.W.InstAt s.heap a ox C (some od) ∧ (∀ m, o.bare m → PySem.W.lookIn m od = some none) ∧ ox.data = .plain := by
  have q := T.m a o e
  cases o with
  | lst _ => cases hc
  | dic _ => cases hc
  | exd _ => cases hc
  | ins c' fs =>
    cases hc
    obtain ⟨C, dx, vs, e1, e2, e3, r⟩ := q
    obtain ⟨mA, O, rf, _, _, _⟩ := ins_get T.I.hok e2
    obtain ⟨od, J, hl⟩ := O.look
    refine ⟨C, _, od, e1, J, fun m hm => ?_, rfl⟩
    have z := rf m
    rw [r.none hm] at z
    rw [hl m]
    exact congrArg some (RelO.none_of z)
  | slo c' ds =>
    cases hc
    obtain ⟨C, dx, vs, e1, e2, r⟩ := q
    obtain ⟨sl, od, _, J, hl⟩ := SlX.slt_inst T.I e2.slt
    exact ⟨C, _, od, e1, J, fun m _ => hl m, rfl⟩
theorem inst_at (T : Sit X pins σ H s σD S) (e : S a = some o) (hc : o.cn = some c) : ∃ C ox od, X.mg c = some (.ref C) ∧ PySem.W.InstAt s.heap a ox C (some od) ∧ ∀ m, o.bare m → PySem.W.lookIn m od = some none := by
  obtain ⟨C, ox, od, h1, h2, h3, _⟩ := inst_pl T e hc
  exact ⟨C, ox, od, h1, h2, h3⟩
end

section
variable {g : GP} {H : Hp} {S : Sto} {a : Addr}
theorem Sim.setF {c f : Str} {fs : List (Str × D)} {C dx : Addr} {vs : List (Str × V)} {d : D} {v : V} (m : Sim g H S) (e : S a = some (.ins c fs)) (e1 : g.mg c = some (.ref C)) (e2 : H a = some (.ins C dx vs)) (e3 : H dx = some (.own a)) (r : FRel g H fs vs) (dr : DRel g H d v) :
    Ext g.K H (L2.upd H a (.ins C dx (putF f v vs))) ∧ Sim g (L2.upd H a (.ins C dx (putF f v vs))) (sup S a (.ins c (putD f d fs))) := by
  have x : Ext g.K H (L2.upd H a (.ins C dx (putF f v vs))) := Ext.mut (by rw [e2]; trivial)
  have ne : dx ≠ a := fun z => by rw [z, e2] at e3; cases e3
  exact ⟨x, m.put (by rw [e2]; trivial) (by rw [e2]; trivial) ⟨C, dx, _, e1, upd_same, by rw [upd_ne ne]; exact e3, (r.put dr).ext x⟩⟩
theorem ORelS.put {d : D} {v : V} (dr : DRel g H d v) : ∀ {ds : List (Option D)} {vs : List (Option V)} (i : Nat), ORelS g H ds vs → ORelS g H ((ds ++ List.replicate (i + 1 - ds.length) none).set i (some d)) (SlX.putS i v vs) := by
  have app : ∀ {ds : List (Option D)} {vs : List (Option V)} (n : Nat), ORelS g H ds vs → ORelS g H (ds ++ List.replicate n none) (vs ++ List.replicate n none) := by
    intro ds
    induction ds with
    | nil =>
      intro vs n h
      rw [show vs = [] from h]
      show ORelS g H (List.replicate n none) (List.replicate n none)
      induction n with
      | zero => rfl
      | succ n ih => exact ⟨none, _, rfl, trivial, ih⟩
    | cons d ds ih =>
      intro vs n h
      obtain ⟨v, r, e, h1, h2⟩ := h
      subst e
      exact ⟨v, _, rfl, h1, ih n h2⟩
  have st : ∀ {ds : List (Option D)} {vs : List (Option V)} (i : Nat), ORelS g H ds vs → ORelS g H (ds.set i (some d)) (vs.set i (some v)) := by
    intro ds
    induction ds with
    | nil => intro vs i h; rw [show vs = [] from h]; rfl
    | cons x ds ih =>
      intro vs i h
      obtain ⟨w, r, e, h1, h2⟩ := h
      subst e
      cases i with
      | zero => exact ⟨some v, r, rfl, dr, h2⟩
      | succ i => exact ⟨w, _, rfl, h1, ih i h2⟩
  have len : ∀ {ds : List (Option D)} {vs : List (Option V)}, ORelS g H ds vs → ds.length = vs.length := by
    intro ds
    induction ds with
    | nil => intro vs h; rw [show vs = [] from h]; rfl
    | cons x ds ih =>
      intro vs h
      obtain ⟨w, r, e, _, h2⟩ := h
      rw [e, List.length_cons, List.length_cons, ih h2]
  intro ds vs i h
  unfold SlX.putS
  rw [← len h]
  exact st i (app _ h)
theorem Sim.setS {c : Str} {ds : List (Option D)} {C dx : Addr} {vs : List (Option V)} {d : D} {v : V} {i : Nat} (m : Sim g H S) (e : S a = some (.slo c ds)) (e1 : g.mg c = some (.ref C)) (e2 : SlQ H a C dx vs) (r : ORelS g H ds vs) (dr : DRel g H d v) :
    Ext g.K H (SlX.slH H a C dx (SlX.putS i v vs)) ∧ Sim g (SlX.slH H a C dx (SlX.putS i v vs)) (sup S a (.slo c ((ds ++ List.replicate (i + 1 - ds.length) none).set i (some d)))) := by
  obtain ⟨ne, h⟩ := e2
  -- the dict
  have k1 : Ext g.K H (L2.upd H dx (.xd [])) ∧ ∀ b o, b ≠ a → S b = some o → ORel g (L2.upd H dx (.xd [])) b o := by
    rcases h with ⟨h1, _, h3⟩ | ⟨h1, h3⟩
    · have x : Ext g.K H (L2.upd H dx (.xd [])) := Ext.upd (by rw [h3]; trivial)
      refine ⟨x, fun b o nb hb => ?_⟩
      have q := m b o hb
      have nd : ∀ {y : Addr} {u : HO}, H y = some u → (∀ z, u = .own z → z ≠ a) → y ≠ dx := fun {y u} e n z => by
        rw [z, h3] at e
        cases e
        exact n a rfl rfl
      cases o with
      | lst ds => obtain ⟨vs, e, r⟩ := q; exact ⟨vs, by rw [upd_ne (nd e (fun z w => by cases w))]; exact e, DRels.ext x ds r⟩
      | ins c fs =>
        obtain ⟨C, dy, vs, q1, q2, q3, r⟩ := q
        exact ⟨C, dy, vs, q1, by rw [upd_ne (nd q2 (fun z w => by cases w))]; exact q2, by rw [upd_ne (nd q3 (fun z w => by cases w; exact nb))]; exact q3, r.ext x⟩
      | slo c ds =>
        obtain ⟨C, dy, vs, q1, ⟨q0, q2⟩, r⟩ := q
        refine ⟨C, dy, vs, q1, ⟨q0, ?_⟩, r.ext x⟩
        rcases q2 with ⟨p1, p2, p3⟩ | ⟨p1, p2⟩
        · exact .inl ⟨by rw [upd_ne (nd p1 (fun z w => by cases w))]; exact p1, p2, by rw [upd_ne (nd p3 (fun z w => by cases w; exact nb))]; exact p3⟩
        · exact .inr ⟨by rw [upd_ne (nd p1 (fun z w => by unfold SlX.SlO at w; cases w))]; exact p1, by rw [upd_ne (nd p2 (fun z w => by cases w))]; exact p2⟩
      | dic kvs => obtain ⟨es, ep, q1, q2, q3⟩ := q; exact ⟨es, ep, by rw [upd_ne (nd q1 (fun z w => by unfold DicO at w; cases w))]; exact q1, q2.ext x, q3⟩
      | exd fs => obtain ⟨vs, q1, q2⟩ := q; exact ⟨vs, by rw [upd_ne (nd q1 (fun z w => by cases w))]; exact q1, q2.ext x⟩
    · have hu : L2.upd H dx (.xd []) = H := by
        funext b
        by_cases hb : b = dx
        · rw [hb, upd_same, h3]
        · rw [upd_ne hb]
      rw [hu]
      exact ⟨.refl, fun b o _ hb => m b o hb⟩
  obtain ⟨x1, k1⟩ := k1
  have ha : NoTup ((L2.upd H dx (.xd [])) a) ∧ NoDict ((L2.upd H dx (.xd [])) a) := by
    rw [upd_ne (Ne.symm ne)]
    rcases h with ⟨h1, _⟩ | ⟨h1, _⟩ <;> rw [h1] <;> exact ⟨trivial, trivial⟩
  have x2 : Ext g.K (L2.upd H dx (.xd [])) (SlX.slH H a C dx (SlX.putS i v vs)) := Ext.upd ha.1
  have x := x1.trans x2
  refine ⟨x, fun b o e' => ?_⟩
  by_cases hb : b = a
  · subst hb
    rw [sup_same] at e'
    cases e'
    refine ⟨C, dx, _, e1, ⟨ne, .inr ⟨by unfold SlX.slH; exact upd_same, by unfold SlX.slH; rw [upd_ne ne]; exact upd_same⟩⟩, (ORelS.put dr i r).ext x⟩
  · rw [sup_ne hb] at e'
    exact ORel.upd ha.1 ha.2 hb (k1 b o hb e')
/-- an instance without attributes -/
theorem Sim.made {c : Str} {C x dx : Addr} (m : Sim g H S) (e1 : g.mg c = some (.ref C)) (hx : H x = none) (hd : H dx = none) (ne : dx ≠ x) :
    Ext g.K H (L2.upd (L2.upd H dx (.own x)) x (.ins C dx [])) ∧ Sim g (L2.upd (L2.upd H dx (.own x)) x (.ins C dx [])) (sup S x (.ins c [])) ∧ Sim g (L2.upd (L2.upd H dx (.own x)) x (.ins C dx [])) (sup S x (.slo c [])) := by
  have m1 : Sim g (L2.upd H dx (.own x)) S := m.hid hd
  have x1 : Ext g.K H (L2.upd H dx (.own x)) := Ext.new hd
  have hx1 : (L2.upd H dx (.own x)) x = none := by rw [upd_ne (Ne.symm ne)]; exact hx
  refine ⟨x1.trans (Ext.new hx1), m1.new hx1 ⟨C, dx, [], e1, upd_same, by rw [upd_ne ne]; exact upd_same, rfl⟩, m1.new hx1 ⟨C, dx, [], e1, ⟨ne, .inl ⟨upd_same, rfl, by rw [upd_ne ne]; exact upd_same⟩⟩, rfl⟩⟩
end

/-- a promise: cal by the bound arguments -/
def spD (g : GP) (n : Nat) (cal : DB) : Sp := fun vs H Q E => vs.length = n ∧ ∃ (ds : List D) (S : Sto) (Kt : DK) (Ex : DX), DRels g H ds vs ∧ Sim g H S ∧ cal ds S Kt Ex ∧ (∀ v H' d S', Ext g.K H H' → DRel g H' d v → Sim g H' S' → Kt d S' → Q v H') ∧
  ∀ c C fs dd H' S', g.mg c = some (.ref C) → XRel g H' dd fs → Sim g H' S' → Ext g.K H H' → Ex c fs S' → E (.ref C) dd H'
abbrev CXp (X : Cx) : CXT := L2.CX X.prog X.w
theorem Sit.ext0 {X : Cx} {pins : List (Addr × Obj)} {σ : VSt} {H : Hp} {s : Shared} {σD : DSt} {S : Sto} (T : Sit X pins σ H s σD S) : Ext X.K X.H_0 H := by
  refine ⟨fun a vs q => ?_, fun a vs q => ?_⟩
  · rcases q with (q | ⟨o, q⟩) | q
    · exact .inl (.inl (T.I.base.tups a vs q))
    · exact .inl (.inr ⟨o, T.I.base.frzs a o _ q⟩)
    · exact .inr q
  · rcases q with ⟨o, q⟩ | q
    · exact .inl ⟨o, T.I.base.frzs a o _ q⟩
    · exact .inr q
/-- what is wished of a callee's exceptions -/
theorem wish {X : Cx} {ex : DXs} {pins : List (Addr × Obj)} {σ : VSt} {H : Hp} {s : Shared} {σD : DSt} {S : Sto} (T : Sit X pins σ H s σD S) {c : Str} {C : Addr} {fs : List (Str × D)} {dd : Option Addr} {H' : Hp} {S' : Sto} (hc : X.mg c = some (.ref C)) (xr : XRel (gp X) H' dd fs) (m : Sim (gp X) H' S') (x : Ext X.K H H') (h : ex c fs σD S') :
    lX X H ex (.ref C) dd σ H' := ⟨c, C, fs, σD, S', rfl, hc, xr, T.r.ext x, m, x, h⟩
section
variable {X : Cx} {k : Nat} {f : Addr} {fd : FuncData} {ps : List Str} {cal : DB} {dd : List D} {dvs : List V} {ds : List Value}
/-- f(..), f a def: the given arguments, then dd the defaults -/
theorem cd_own (F : FnG X.prog X.w X.K X.mg X.base (CXp X) k f fd ps (spD (gp X) ps.length cal)) (hr : RoomG k X.A) (hb : Binds X.K fd ps ds) (hd : Vals dvs ds) (hdd : ∀ H, DRels (gp X) H dd dvs) :
    CallD X (.ref f) (fun xs S K E => (xs ++ dd).length = ps.length ∧ cal (xs ++ dd) S K E) := fun pins s σ H σD S ex Kt xs vs us tk T dr rv ⟨hl, q⟩ => by
  have dr2 := dr.append (hdd H)
  have l := dr2.length
  have r2 : Vals (vs ++ dvs) (us ++ ds) := rv.append hd
  have hl2 : (us ++ ds).length = ps.length := by rw [← r2.length, ← l]; exact hl
  have hsp : spD (gp X) ps.length cal (vs ++ dvs) H (fun v H' => ∃ d S', Ext X.K H H' ∧ DRel (gp X) H' d v ∧ Sim (gp X) H' S' ∧ Kt d S') (WE (lX X H ex) σ) :=
    ⟨by rw [← l]; exact hl, xs ++ dd, S, Kt, _, dr2, T.m, q, fun v H' d S' x dr m k => ⟨d, S', x, dr, m, k⟩, fun c C fs dd' H' S' hc xr m x h => wish T hc xr m x h⟩
  refine wpAny_call (codeAny_mono (F.run X.A X.stack s H ⟨us, []⟩ (us ++ ds) (vs ++ dvs) _ (WE (lX X H ex) σ) hr T.I.env0 (hb s us T.I.kIn hl2) r2 hsp) fun r s' hq => ?_)
  cases r with
  | error e => exact passAt tk σ pins H s e s' T.I hq
  | ok fl =>
    cases fl with
    | ret u =>
      obtain ⟨v, H', I', rv', d, S', x, dr', m', k'⟩ := T.I.after hq
      exact ⟨v, H', d, S', I', rv', x, dr', m', k'⟩
    | next => exact False.elim hq
    | brk => exact False.elim hq
    | cont => exact False.elim hq
/-- .. with keywords -/
def CallKD (X : Cx) (f : Value) (ks : List Str) (r : DB) : Prop := ∀ (pins : List (Addr × Obj)) (s : Shared) (σ : VSt) (H : Hp) (σD : DSt) (S : Sto) (ex : DXs) (Kt : DK) (ds es : List D) (vs zs : List V) (us ws : List Value), Takes X (lX X H ex) → Sit X pins σ H s σD S → DRels (gp X) H ds vs → DRels (gp X) H es zs → Vals vs us → Vals zs ws →
  es.length = ks.length → r (ds ++ es) S Kt (fun c fs S => ex c fs σD S) → wpAny (model X.prog X.w) X.A (call f us (ks.zip ws)) (EQ X pins σ H Kt) X.xe s
/-- f(e, ..): by name -/
theorem qe_callF {x : Str} {e : Expr} {es : List Expr} {t : DA} {r : DB} {p pos : Pos} (hc : CallD X (.ref f) r) (hg : Gl X x) (hm : X.mg x = some (.ref f)) (hk : PySem.W.keepIn X.K (.ref f) = true) (ha : QA X (e :: es) t) (hst : (e :: es).all noSt = true) (hdb : (x == ("__debug__" : Str)) = false) :
    QE X (.Call (.Name x p) (e :: es) [] pos) (dCall r t) := fun pins s σ H σD S ex Kt tk T h => by
  simp only [List.all_cons, Bool.and_eq_true] at hst
  refine wpAny_Call_Name_kw (ld_glob T.I hg hm ?_ hdb)
  refine PySem.W.callWith_K (h₀ := X.base) T.I.ok.mod.kin hk (thn (ha pos pins s σ H σD S ex _ tk T h) fun us s1 ⟨vs, H1, ds, S1, I1, r1, x1, d1, m1, q1⟩ => ⟨I1.kIn, ?_⟩) (star_cons hst.1) (star_plain hst.2)
  exact thn (hc pins s1 σ H1 σD S1 ex Kt ds vs us (tk.up x1) (T.on I1 x1 m1) d1 r1 q1) fun _ _ z => z.up x1
theorem qe_callF0 {x : Str} {r : DB} {p pos : Pos} (hc : CallD X (.ref f) r) (hg : Gl X x) (hm : X.mg x = some (.ref f)) (hk : PySem.W.keepIn X.K (.ref f) = true) (hdb : (x == ("__debug__" : Str)) = false) :
    QE X (.Call (.Name x p) [] [] pos) (dCall r dNil) := fun pins s σ H σD S ex Kt tk T h => by
  refine wpAny_Call_Name_kw (ld_glob T.I hg hm ?_ hdb)
  exact PySem.W.callWith_K0 T.I.kIn hk (hc pins s σ H σD S ex Kt [] [] [] tk T .nil .nil h)
/-- C(..), a class with an own __init__ -/
def mkD (slo : Bool) (c : Str) (cal : DB) : DB := fun xs S K E => ∀ x, S x = none → cal (.ref x :: xs) (sup S x (if slo then .slo c [] else .ins c [])) (fun v S' => v = .non ∧ K (.ref x) S') E
theorem cd_make {C : Addr} {c : Str} {slo : Bool} (hc : X.mg c = some (.ref C)) (M : Mk X.K C f) (F : FnG X.prog X.w X.K X.mg X.base (CXp X) k f fd ps (spD (gp X) ps.length cal)) (hr : RoomG (k + 1) X.A) (hb : Binds X.K fd ps ds) (hd : Vals dvs ds) (hdd : ∀ H, DRels (gp X) H dd dvs) :
    CallD X (.ref C) (mkD slo c (fun xs S K E => (xs ++ dd).length = ps.length ∧ cal (xs ++ dd) S K E)) := fun pins s σ H σD S ex Kt xs vs us tk T dr rv q => by
  have fx : H (s.heap.objs.size + 1) = none := T.I.hok.fresh (Nat.le_succ _)
  have fd' : H s.heap.objs.size = none := T.I.hok.fresh (Nat.le_refl _)
  have ne : s.heap.objs.size ≠ s.heap.objs.size + 1 := Nat.ne_of_lt (Nat.lt_succ_self _)
  obtain ⟨hl, hq⟩ := q (s.heap.objs.size + 1) (T.m.fresh fx)
  obtain ⟨x0, ma, mb⟩ := T.m.made hc fx fd' ne
  have m0 : Sim (gp X) (upd (upd H s.heap.objs.size (.own (s.heap.objs.size + 1))) (s.heap.objs.size + 1) (.ins C s.heap.objs.size [])) (sup S (s.heap.objs.size + 1) (if slo then .slo c [] else .ins c [])) := by
    cases slo
    · exact ma
    · exact mb
  have I2 := Inv.made (C := C) T.I
  have dr1 : DRels (gp X) (upd (upd H s.heap.objs.size (.own (s.heap.objs.size + 1))) (s.heap.objs.size + 1) (.ins C s.heap.objs.size [])) (.ref (s.heap.objs.size + 1) :: xs ++ dd) (.ref (s.heap.objs.size + 1) :: vs ++ dvs) :=
    DRels.append (.cons (by simp [DRel]) (DRels.ext x0 xs dr)) (hdd _)
  have l := dr1.length
  have r2 : Vals (V.ref (s.heap.objs.size + 1) :: vs ++ dvs) (Value.ref (s.heap.objs.size + 1) :: us ++ ds) := .cons rfl (rv.append hd)
  have hl2 : (Value.ref (s.heap.objs.size + 1) :: us ++ ds).length = ps.length := by rw [← r2.length, ← l]; exact hl
  have T2 : Sit X pins σ (upd (upd H s.heap.objs.size (.own (s.heap.objs.size + 1))) (s.heap.objs.size + 1) (.ins C s.heap.objs.size [])) _ σD (sup S (s.heap.objs.size + 1) (if slo then .slo c [] else .ins c [])) := ⟨I2, T.r.ext x0, m0⟩
  have hsp : spD (gp X) ps.length cal (V.ref (s.heap.objs.size + 1) :: vs ++ dvs) (upd (upd H s.heap.objs.size (.own (s.heap.objs.size + 1))) (s.heap.objs.size + 1) (.ins C s.heap.objs.size []))
      (fun v H' => v = .non ∧ ∃ S', Ext X.K (upd (upd H s.heap.objs.size (.own (s.heap.objs.size + 1))) (s.heap.objs.size + 1) (.ins C s.heap.objs.size [])) H' ∧ Sim (gp X) H' S' ∧ Kt (.ref (s.heap.objs.size + 1)) S') (WE (lX X H ex) σ) :=
    ⟨by rw [← l]; exact hl, _, _, _, _, dr1, m0, hq, fun v H' d S' x dr m ⟨k1, k2⟩ => ⟨by subst k1; simpa [DRel] using dr, S', x, m, k2⟩, fun c C fs dd' H' S' hc xr m x h => wish T hc xr m (x0.trans x) h⟩
  refine wpAny_call (make_map (f := f) T.I.kIn M.makes M.init (beq_iff_eq.mp M.fn) (codeAny_mono (F.run _ X.stack _ _ ⟨Value.ref (s.heap.objs.size + 1) :: us, []⟩ (Value.ref (s.heap.objs.size + 1) :: us ++ ds) _ _ (WE (lX X H ex) σ) (hr.make C us [])
    (I2.env0.make C us []) (hb _ (Value.ref (s.heap.objs.size + 1) :: us) I2.kIn hl2) r2 hsp) fun r s' hq' => ?_))
  cases r with
  | error e => exact passAt tk σ pins _ _ e s' I2 hq'
  | ok fl =>
    cases fl with
    | ret u =>
      obtain ⟨v, H', I3, rv', ev, S', x, m, q3⟩ := I2.after hq'
      subst ev
      exact ⟨rv', ⟨V.ref (s.heap.objs.size + 1), H', .ref (s.heap.objs.size + 1), S', I3, rfl, x0.trans x, by simp [DRel], m, q3⟩⟩
    | next => exact False.elim hq'
    | brk => exact False.elim hq'
    | cont => exact False.elim hq'
end
end DL

set_option Elab.async false
set_option linter.all false
set_option maxRecDepth 100000
set_option maxHeartbeats 4000000
namespace DL
open PySem PySem.Spec PyProof.Rows L2

/-- a class: slo: it has slots; its attributes (slots in their order), properties, methods -/
structure ClsE where
  slo : Bool
  fields : List Str
  props : List Str
  meths : List Str
/-- a def: its parameters, its defaults -/
structure FI where
  ps : List Str
  dfl : List D
abbrev Key := Str × Option Str
abbrev Orc := Key → DB
/-- what K has of the class c at C -/
structure ClsOk (K : PySem.W.Frag) (fa : Key → Addr) (c : Str) (ce : ClsE) (C : Addr) : Prop where
  s : SlX.SCls K C
  i : SlX.SIsi K C
  d : ce.slo = false → Cls K C ∧ ∀ f ∈ ce.fields, NoAttr K C f
  sl : ce.slo = true → ∀ (i : Nat) f, ce.fields[i]? = some f → ∃ p, SlX.Slot1 K C f p i
  pr : ∀ f ∈ ce.props, ∃ p, PropOf K C f p (fa (c, some f))
  me : ∀ m ∈ ce.meths, Meth K C m (fa (c, some m))
  mak : Mk K C (fa (c, some "__init__"))
/-- the classes -/
abbrev Tb := Str → Option ClsE
def TbOk (X : Cx) (fa : Key → Addr) (tb : Tb) : Prop := ∀ c ce, tb c = some ce → ∃ C, X.mg c = some (.ref C) ∧ ClsOk X.K fa c ce C
/-- the defaults may lack from behind -/
def BdOk (X : Cx) (fd : FuncData) (p : FI) : Prop := ∀ j, j ≤ p.dfl.length → ∃ (dvs : List V) (ds : List Value), Binds X.K fd p.ps ds ∧ Vals dvs ds ∧ ∀ H, DRels (gp X) H (p.dfl.drop (p.dfl.length - j)) dvs
/-- the defs -/
def OrcOk (X : Cx) (k : Nat) (fa : Key → Addr) (fi : Key → Option FI) (orc : Orc) : Prop := ∀ key p, fi key = some p → ∃ fd, FnG X.prog X.w X.K X.mg X.base (CXp X) k (fa key) fd p.ps (spD (gp X) p.ps.length (orc key)) ∧ BdOk X fd p
def callO (fi : Key → Option FI) (orc : Orc) (key : Key) : DB := fun xs S K E => ∃ p, fi key = some p ∧ xs.length ≤ p.ps.length ∧ p.ps.length ≤ xs.length + p.dfl.length ∧ orc key (xs ++ p.dfl.drop (p.dfl.length - (p.ps.length - xs.length))) S K E
section
variable {X : Cx} {k : Nat} {fa : Key → Addr} {fi : Key → Option FI} {orc : Orc} {tb : Tb}
theorem cd_orc (O : OrcOk X k fa fi orc) (hr : RoomG k X.A) (key : Key) : CallD X (.ref (fa key)) (callO fi orc key) := fun pins s σ H σD S ex Kt xs vs us tk T dr rv ⟨p, hp, h1, h2, q⟩ => by
  obtain ⟨fd, F, B⟩ := O key p hp
  obtain ⟨dvs, ds, hb, hd, hdd⟩ := B (p.ps.length - xs.length) (by omega)
  refine cd_own F hr hb hd hdd pins s σ H σD S ex Kt xs vs us tk T dr rv ⟨?_, q⟩
  rw [List.length_append, List.length_drop]
  omega
/-- C(..) -/
def makeO (tb : Tb) (fi : Key → Option FI) (orc : Orc) (c : Str) : DB := fun xs S K E => ∃ ce, tb c = some ce ∧ ∃ p, fi (c, some "__init__") = some p ∧ xs.length + 1 ≤ p.ps.length ∧ p.ps.length ≤ xs.length + 1 + p.dfl.length ∧
  ∀ x, S x = none → orc (c, some "__init__") (.ref x :: xs ++ p.dfl.drop (p.dfl.length - (p.ps.length - (xs.length + 1)))) (sup S x (if ce.slo then .slo c [] else .ins c [])) (fun v S' => v = .non ∧ K (.ref x) S') E
theorem cd_makeO {c : Str} {C : Addr} (W : TbOk X fa tb) (O : OrcOk X k fa fi orc) (hr : RoomG (k + 1) X.A) (hC : X.mg c = some (.ref C)) : CallD X (.ref C) (makeO tb fi orc c) := fun pins s σ H σD S ex Kt xs vs us tk T dr rv ⟨ce, hce, p, hp, h1, h2, q⟩ => by
  obtain ⟨C', hC', c'⟩ := W c ce hce
  rw [hC] at hC'
  cases hC'
  obtain ⟨fd, F, B⟩ := O _ p hp
  obtain ⟨dvs, ds, hb, hd, hdd⟩ := B (p.ps.length - (xs.length + 1)) (by omega)
  refine cd_make (slo := ce.slo) hC c'.mak F hr hb hd hdd pins s σ H σD S ex Kt xs vs us tk T dr rv fun x hx => ⟨?_, q x hx⟩
  simp only [List.length_append, List.length_cons, List.length_drop]
  omega

def baseOk : Expr → Bool
  | .Call (.Name x _) [] [] _ => x != "super"
  | _ => true
theorem base_ok {o : Expr} {m : Str} {env : Env} (h : baseOk o = true) : attributeBase o m env (eval o env) = eval o env := by
  unfold baseOk at h
  split at h
  · unfold attributeBase
    dsimp only
    rw [h]
    simp only [Bool.true_or, if_true]
    first | done | exact LawfulMonad.bind_pure_comp .. |>.trans (by simp)
  · rename_i hn
    unfold attributeBase
    split
    · rename_i id _ pos
      exact absurd rfl (hn _ _ _)
    · rfl
def ixOf (f : Str) : List Str → Option Nat
  | [] => none
  | x :: r => if x = f then some 0 else (ixOf f r).map (· + 1)
theorem ixOf_get {f : Str} : ∀ {l : List Str} {i : Nat}, ixOf f l = some i → l[i]? = some f
  | [], i, h => by cases h
  | x :: r, i, h => by
    unfold ixOf at h
    split at h
    · cases h; subst x; rfl
    · cases e : ixOf f r with
      | none => rw [e] at h; cases h
      | some j => rw [e] at h; cases h; simpa using ixOf_get e
def attD (tb : Tb) (fi : Key → Option FI) (orc : Orc) (f : Str) (o : D) (S : Sto) (K : DK) : Prop := ∃ a ob c ce, o = .ref a ∧ S a = some ob ∧ ob.cn = some c ∧ tb c = some ce ∧
  if f ∈ ce.props then callO fi orc (c, some f) [o] S K (fun _ _ _ => False)
  else match ob with
    | .ins _ fs => ce.slo = false ∧ f ∈ ce.fields ∧ ∃ d, fs.lookup f = some d ∧ K d S
    | .slo _ vs => ce.slo = true ∧ ∃ i d, ixOf f ce.fields = some i ∧ vs[i]? = some (some d) ∧ K d S
    | _ => False
theorem ORelS.get {g : GP} {H : Hp} {d : D} : ∀ {ds : List (Option D)} {vs : List (Option V)} {i : Nat}, ORelS g H ds vs → ds[i]? = some (some d) → ∃ v, vs[i]? = some (some v) ∧ DRel g H d v
  | [], vs, i, h, e => by simp at e
  | x :: ds, vs, 0, h, e => by
    obtain ⟨v, r, e1, h1, h2⟩ := h
    subst e1
    simp at e
    subst e
    cases v with
    | none => exact h1.elim
    | some v => exact ⟨v, rfl, h1⟩
  | x :: ds, vs, i + 1, h, e => by
    obtain ⟨v, r, e1, h1, h2⟩ := h
    subst e1
    obtain ⟨w, q, z⟩ := ORelS.get (i := i) h2 (by simpa using e)
    exact ⟨w, by simpa using q, z⟩
variable {pins : List (Addr × Obj)} {σ : VSt} {H : Hp} {s : Shared} {σD : DSt} {S : Sto}
theorem att_ok (W : TbOk X fa tb) (cap : (OrcOk X k fa fi orc ∧ RoomG (k + 1) X.A) ∨ ∀ key, fi key = none) {f : Str} {b : Bool} {o : D} {ov : V} {u : Value} {Kt : DK} (T : Sit X pins σ H s σD S) (dr : DRel (gp X) H o ov) (ru : RelV ov u) (h : attD tb fi orc f o S Kt) :
    wpAny (model X.prog X.w) X.A (getAttr u f b) (EQ X pins σ H Kt) X.xe s := by
  obtain ⟨a, ob, c, ce, rfl, hob, hcn, hce, h⟩ := h
  unfold DRel at dr; subst dr
  obtain rfl : u = Value.ref a := ru
  obtain ⟨C, hC, CO⟩ := W c ce hce
  obtain ⟨C', ox, od, hC', J, hl⟩ := inst_at T hob hcn
  rw [hC] at hC'
  cases hC'
  by_cases hp : f ∈ ce.props
  · rw [if_pos hp] at h
    obtain ⟨p, hp⟩ := CO.pr f hp
    obtain ⟨q, hq, h1, h2, h⟩ := h
    obtain ⟨O, hr⟩ : OrcOk X k fa fi orc ∧ RoomG (k + 1) X.A := by
      rcases cap with z | z
      · exact z
      · rw [z] at hq; cases hq
    obtain ⟨fd, F, B⟩ := O _ q hq
    obtain ⟨dvs, ds, hb, hd, hdd⟩ := B (q.ps.length - 1) (by simp at h2; omega)
    obtain ⟨rest, hrec⟩ := hp.rec_
    have dr1 : DRels (gp X) H ([D.ref a] ++ q.dfl.drop (q.dfl.length - (q.ps.length - 1))) (.ref a :: dvs) := DRels.append (.one (by simp [DRel])) (hdd H)
    have rl : (V.ref a :: dvs).length = q.ps.length := by
      rw [← dr1.length]
      simp only [List.length_append, List.length_cons, List.length_nil, List.length_drop] at h1 h2 ⊢
      omega
    have hsp : spD (gp X) q.ps.length (orc (c, some f)) (.ref a :: dvs) H (fun v H' => ∃ d S', Ext X.K H H' ∧ DRel (gp X) H' d v ∧ Sim (gp X) H' S' ∧ Kt d S') (fun _ _ _ => False) :=
      ⟨rl, _, S, Kt, _, dr1, T.m, h, fun v H' d S' x dr m k => ⟨d, S', x, dr, m, k⟩, fun c C fs dd' H' S' hc xr m x h => h⟩
    have I1 := T.I.tok (s.toks + 1)
    have r2 : Vals (V.ref a :: dvs) (Value.ref a :: ds) := .cons rfl hd
    refine PySem.W.get_bind T.I.kIn J (PySem.W.plainGet_of (CO.s.get f)).1 (PySem.W.findObj_data CO.s.ic hp.at_ hp.get hp.tak) (PySem.W.plainGet_of (CO.s.get f)).2 (wpAny_call (PySem.W.prop_get (s := { s with toks := s.toks + 1 }) T.I.kIn hrec ?_))
    refine codeAny_mono (F.run X.A.in1 X.stack { s with toks := s.toks + 1 } H ⟨[.ref a], []⟩ (.ref a :: ds) (.ref a :: dvs) _ _ hr.in1 I1.env0.in1 (hb _ [.ref a] I1.kIn (by rw [← rl]; exact r2.length.symm)) r2 hsp) fun r s' hq => ?_
    cases r with
    | error er => exact (hq.choose_spec.choose_spec.choose_spec.choose_spec.choose_spec.2.2.2.2.2.2.2).elim
    | ok fl =>
      cases fl with
      | ret u =>
        obtain ⟨v, H', I3, rv, d, S', x, dr, m, k⟩ := I1.after hq
        show wpAny _ _ (handedOut u) _ _ _
        rw [PySem.W.handedOut_of (handed_of rv)]
        exact wpAny_pure ⟨v, H', d, S', I3, rv, x, dr, m, k⟩
      | next => exact False.elim hq
      | brk => exact False.elim hq
      | cont => exact False.elim hq
  · rw [if_neg hp] at h
    have q := T.m a ob hob
    cases ob with
    | lst _ => exact h.elim
    | dic _ => exact h.elim
    | exd _ => exact h.elim
    | ins c' fs =>
      cases hcn
      obtain ⟨hs, hf, d, hd, hk⟩ := h
      obtain ⟨C', dx, vs, e1, e2, e3, r⟩ := q
      have e1' : X.mg c = some (.ref C') := e1
      rw [hC] at e1'
      cases e1'
      obtain ⟨v, hv, dv⟩ := r.look hd
      obtain ⟨cl, na⟩ := CO.d hs
      exact getattr_ok T.I e2 cl (na f hf) hv fun u' s' I' ru' => ⟨v, H, d, S, I', ru', .refl, dv, T.m, hk⟩
    | slo c' ds =>
      cases hcn
      obtain ⟨hs, i, d, hi, hd, hk⟩ := h
      obtain ⟨C', dx, vs, e1, e2, r⟩ := q
      have e1' : X.mg c = some (.ref C') := e1
      rw [hC] at e1'
      cases e1'
      obtain ⟨p, t⟩ := CO.sl hs i f (ixOf_get hi)
      obtain ⟨v, hv, dv⟩ := r.get hd
      exact SlX.getslot_ok T.I e2.slt CO.s t hv fun u' s' I' ru' => ⟨v, H, d, S, I', ru', .refl, dv, T.m, hk⟩
def dAtt (tb : Tb) (fi : Key → Option FI) (orc : Orc) (f : Str) (te : DE) : DE := fun σ S K E => te σ S (fun o S1 => attD tb fi orc f o S1 K) E
theorem qe_att (W : TbOk X fa tb) (O : OrcOk X k fa fi orc) (hr : RoomG (k + 1) X.A) {e : Expr} {te : DE} {f : Str} {pos : Pos} (he : QE X e te) (hb : baseOk e = true) : QE X (.Attribute e f pos) (dAtt tb fi orc f te) := fun pins s σ H σD S ex Kt tk T h =>
  attr_of (base_ok hb) (thn (he pins s σ H σD S ex _ tk T h) fun u s1 ⟨v, H1, x, S1, I1, r1, x1, d1, m1, q1⟩ => thn (att_ok W (.inl ⟨O, hr⟩) (T.on I1 x1 m1) d1 r1 q1) fun _ _ z => z.up x1)
/-- o.f = d -/
def setAD (tb : Tb) (f : Str) (o d : D) (S : Sto) (P : Sto → Prop) : Prop := ∃ a ob c ce, o = .ref a ∧ S a = some ob ∧ ob.cn = some c ∧ tb c = some ce ∧
  match ob with
    | .ins _ fs => ce.slo = false ∧ f ∈ ce.fields ∧ fs.length < 1000 ∧ P (sup S a (.ins c (putD f d fs)))
    | .slo _ vs => ce.slo = true ∧ ∃ i, ixOf f ce.fields = some i ∧ P (sup S a (.slo c ((vs ++ List.replicate (i + 1 - vs.length) none).set i (some d))))
    | _ => False
theorem setA_ok (W : TbOk X fa tb) {f : Str} {o d : D} {ov v : V} {ou u : Value} {P : Sto → Prop} (T : Sit X pins σ H s σD S) (d1 : DRel (gp X) H o ov) (d2 : DRel (gp X) H d v) (r1 : RelV ov ou) (r2 : RelV v u) (h : setAD tb f o d S P) :
    wpAny (model X.prog X.w) X.A (setAttr ou f u) (fun _ s' => ∃ H' S', Inv X pins σ H' s' ∧ Ext X.K H H' ∧ Sim (gp X) H' S' ∧ P S') X.xe s := by
  obtain ⟨a, ob, c, ce, rfl, hob, hcn, hce, h⟩ := h
  unfold DRel at d1; subst d1
  obtain rfl : ou = Value.ref a := r1
  obtain ⟨C, hC, CO⟩ := W c ce hce
  have q := T.m a ob hob
  cases ob with
  | lst _ => exact h.elim
  | dic _ => exact h.elim
  | exd _ => exact h.elim
  | ins c' fs =>
    cases hcn
    obtain ⟨hs, hf, hz, hk⟩ := h
    obtain ⟨C', dx, vs, e1, e2, e3, r⟩ := q
    have e1' : X.mg c = some (.ref C') := e1
    rw [hC] at e1'
    cases e1'
    obtain ⟨cl, na⟩ := CO.d hs
    obtain ⟨x, m⟩ := T.m.setF (f := f) hob e1 e2 e3 r d2
    exact setattr_ok T.I e2 cl (na f hf) (by rw [← r.length]; exact hz) r2 fun s' I' => ⟨_, _, I', x, m, hk⟩
  | slo c' ds =>
    cases hcn
    obtain ⟨hs, i, hi, hk⟩ := h
    obtain ⟨C', dx, vs, e1, e2, r⟩ := q
    have e1' : X.mg c = some (.ref C') := e1
    rw [hC] at e1'
    cases e1'
    obtain ⟨p, t⟩ := CO.sl hs i f (ixOf_get hi)
    obtain ⟨x, m⟩ := T.m.setS (i := i) hob e1 e2 r d2
    exact SlX.setslot_ok T.I e2.slt CO.s t r2 fun s' I' => ⟨_, _, I', x, m, hk⟩
def sSetA (tb : Tb) (f : Str) (to te : DE) : DS := fun D σ S => te σ S (fun d S1 => to σ S1 (fun o S2 => setAD tb f o d S2 fun S3 => D.nx σ S3) (eX D σ)) (eX D σ)
theorem qs_setA (W : TbOk X fa tb) {f : Str} {o e : Expr} {to te : DE} {pos pos' : Pos} (ho : QE X o to) (he : QE X e te) (hs : swapsWith e (some (.Attribute o f pos')) pos.line X.env = pure false) : QS X (.Assign [.Attribute o f pos'] e pos) (sSetA tb f to te) := fun pins s σ H σD S D tk T h => by
  refine plainObj_wpAny_Assign_Attribute (thn (he pins s σ H σD S D.ex _ tk T h) fun u s1 ⟨v, H1, x, S1, I1, r1, x1, d1, m1, q1⟩ => thn (ho pins s1 σ H1 σD S1 D.ex _ (tk.up x1) (T.on I1 x1 m1) q1) fun ov s2 ⟨w, H2, y, S2, I2, r2, x2, d2, m2, q2⟩ => ?_) hs
  exact thn (setA_ok W (T.on I2 (x1.trans x2) m2) d2 (DRel.ext x2 _ d1) r2 r1 q2) fun _ s3 ⟨H3, S3, I3, x3, m3, q3⟩ => ⟨σ, H3, σD, S3, T.on I3 (x1.trans (x2.trans x3)) m3, x1.trans (x2.trans x3), q3⟩
/-- o.f as a target -/
def gAt (tb : Tb) (i : Nat) (f : Str) : DG := fun d σ S P => ∃ o, σ[i]? = some (some o) ∧ setAD tb f o d S (fun S' => P σ S')
theorem qg_att (W : TbOk X fa tb) {i : Nat} {x f : Str} {px pos : Pos} (hN : X.N[i]? = some x) (hv : Vis X.env.scope x) (hd : (x == ("__debug__" : Str)) = false) (hcd : (x == ("__classdict__" : Str)) = false) {vs : List Nat} : QG X vs (.Attribute (.Name x px) f pos) (gAt tb i f) := fun pins s σ H σD S d v u P T dr r ⟨o, ho, h⟩ => by
  obtain ⟨w, ew, rw'⟩ := T.r.at_ i o ho
  refine assign_att (thn (thnE (Kt := fun o' S' => o' = o ∧ S' = S) (pe_var hN hv hd hcd) T.I ⟨w, ew, o, S, .refl, rw', T.m, rfl, rfl⟩) fun ou s1 ⟨ov, H1, o', S1, I1, r1, x1, d1, m1, eo, eS⟩ => ?_)
  subst eo eS
  exact thn (setA_ok W (T.on I1 x1 m1) d1 (DRel.ext x1 _ dr) r1 r h) fun _ s2 ⟨H2, S2, I2, x2, m2, q2⟩ => ⟨σ, H2, σD, S2, T.on I2 (x1.trans x2) m2, x1.trans x2, rfl, q2⟩
end
end DL

set_option Elab.async false
set_option linter.all false
set_option maxRecDepth 100000
set_option maxHeartbeats 4000000
namespace DL
open PySem PySem.Spec PyProof.Rows L2

inductive TyC where
  | b (n : String) | c (x : Str)
  deriving DecidableEq
def tyD (tb : Tb) (S : Sto) : D → Option TyC
  | .non => some (.b "NoneType")
  | .bl _ => some (.b "bool")
  | .int _ => some (.b "int")
  | .str _ => some (.b "str")
  | .tup _ => some (.b "tuple")
  | .rol _ => some (.b "list")
  | .ref a => match S a with
    | some (.lst _) => some (.b "list")
    | some (.ins c _) => (tb c).map fun _ => .c c
    | some (.slo c _) => (tb c).map fun _ => .c c
    | some (.dic _) => some (.b "dict")
    | _ => none
  | .ty _ => none
  | .glo _ => none
/-- a class as a value -/
def clD : D → Option TyC
  | .ty n => some (.b n)
  | .glo x => some (.c x)
  | _ => none
def TyV (mg : Str → Option Value) : TyC → Value → Prop
  | .b n, v => v = .type n
  | .c x, v => ∃ C, mg x = some (.ref C) ∧ v = .ref C
def IsiOk (X : Cx) (tab : TyC → TyC → Option Bool) : Prop := ∀ t c b, tab t c = some b → ∀ tv cv, TyV X.mg t tv → TyV X.mg c cv → PySem.W.kitOne X.K tv cv = some b
def tabAny (tab : TyC → TyC → Option Bool) (t : TyC) : List TyC → Option Bool
  | [] => some false
  | c :: r => match tab t c with
    | some true => some true
    | some false => tabAny tab t r
    | none => none
def isiD (tb : Tb) (tab : TyC → TyC → Option Bool) : DB := fun ds S K _ => ∃ x y t b, ds = [x, y] ∧ tyD tb S x = some t ∧ K (.bl b) S ∧ ((∃ c, clD y = some c ∧ tab t c = some b) ∨ ∃ ys cs, y = .tup ys ∧ mapO clD ys = some cs ∧ tabAny tab t cs = some b)
section
variable {X : Cx} {tab : TyC → TyC → Option Bool}
theorem clD_val {H : Hp} {y : D} {c : TyC} {v : V} {u : Value} (h : clD y = some c) (dr : DRel (gp X) H y v) (r : RelV v u) : TyV X.mg c u := by
  cases y with
  | ty n =>
    cases h
    unfold DRel at dr; subst dr
    exact r
  | glo x =>
    cases h
    unfold DRel at dr
    obtain ⟨a, h1, h2⟩ := dr
    subst h2
    exact ⟨a, h1, r⟩
  | _ => cases h
theorem clD_vals {H : Hp} : ∀ {ys : List D} {cs : List TyC} {vs : List V} {us : List Value}, mapO clD ys = some cs → DRels (gp X) H ys vs → Vals vs us → Paired (TyV X.mg) cs us
  | [], cs, vs, us, h, dr, r => by
    cases h
    unfold DRels at dr; subst dr
    cases r
    exact .nil
  | y :: ys, cs, vs, us, h, dr, r => by
    unfold mapO at h
    cases e1 : clD y with
    | none => simp [e1] at h
    | some c =>
      cases e2 : mapO clD ys with
      | none => simp [e1, e2] at h
      | some cs' =>
        simp [e1, e2] at h
        subst h
        unfold DRels at dr
        obtain ⟨v, rr, e, d1, d2⟩ := dr
        subst e
        cases r with
        | cons r1 r2 => exact .cons (clD_val e1 d1 r1) (clD_vals e2 d2 r2)
theorem tabAny_ok (W : IsiOk X tab) {t : TyC} {tv : Value} (ht : TyV X.mg t tv) : ∀ {cs : List TyC} {us : List Value} {b : Bool}, tabAny tab t cs = some b → Paired (TyV X.mg) cs us → PySem.W.kitAny X.K tv us = some b
  | [], _, b, h, .nil => by cases h; rfl
  | c :: _, u :: _, b, h, .cons p q => by
    unfold tabAny at h
    unfold PySem.W.kitAny
    cases e : tab t c with
    | none => rw [e] at h; cases h
    | some k =>
      rw [e] at h
      rw [W t c k e tv u ht p]
      cases k with
      | true => exact h
      | false => exact tabAny_ok W ht h q
theorem kit_D {pins : List (Addr × Obj)} {σ : VSt} {H : Hp} {s : Shared} {σD : DSt} {S : Sto} {fa : Key → Addr} {tb : Tb} (W : TbOk X fa tb) (T : Sit X pins σ H s σD S) {x : D} {v : V} {u : Value} {t : TyC} (h : tyD tb S x = some t) (dr : DRel (gp X) H x v) (r : RelV v u) :
    ∃ (tv : Value) (P : Heap → Prop), TyV X.mg t tv ∧ PySem.W.KitX X.K u tv P ∧ P s.heap ∧ u ≠ .builtin "__main__.__loader__#opaque" := by
  have own : ∀ {a : Addr} {ob : SO} {c : Str}, S a = some ob → ob.cn = some c → (tb c).map (fun _ => TyC.c c) = some t → v = .ref a → ∃ (tv : Value) (P : Heap → Prop), TyV X.mg t tv ∧ PySem.W.KitX X.K u tv P ∧ P s.heap ∧ u ≠ .builtin "__main__.__loader__#opaque" := by
    intro a ob c e hc ht ev
    subst ev
    obtain rfl : u = Value.ref a := r
    obtain ⟨ce, hce, e9⟩ := Option.map_eq_some_iff.mp ht
    subst e9
    obtain ⟨C, hC, CO⟩ := W c ce hce
    obtain ⟨C', ox, od, hC', J, _⟩ := inst_at T e hc
    rw [hC] at hC'; cases hC'
    exact ⟨.ref C, _, ⟨C, hC, rfl⟩, OwX.kitx_slt CO.s.ic (CO.s.get _) CO.i.ca CO.i.cn CO.i.ct CO.i.cm, J, fun z => nomatch z⟩
  have base : ∀ {tv : Value}, TyX X.K H v tv → TyV X.mg t tv → ∃ (tv : Value) (P : Heap → Prop), TyV X.mg t tv ∧ PySem.W.KitX X.K u tv P ∧ P s.heap ∧ u ≠ .builtin "__main__.__loader__#opaque" := fun {tv} ty e => by
    obtain ⟨P, a, b, c⟩ := kit_of T.I r ty
    exact ⟨tv, P, e, a, b, c⟩
  cases x with
  | non => cases h; unfold DRel at dr; subst dr; exact base (.base .non) rfl
  | bl b => cases h; unfold DRel at dr; subst dr; exact base (.base (.bl b)) rfl
  | int b => cases h; unfold DRel at dr; subst dr; exact base (.base (.int b)) rfl
  | str b => cases h; unfold DRel at dr; subst dr; exact base (.base (.str b)) rfl
  | tup ds =>
    cases h
    unfold DRel at dr
    obtain ⟨a, vs, e, q, _⟩ := dr
    subst e
    rcases q with (q | ⟨o, q⟩) | ⟨o, its, n, q1, q2, _⟩
    · exact base (.base (.tup q)) rfl
    · exact base (.fTuple q) rfl
    · exact base (.kTuple q1 q2) rfl
  | rol ds =>
    cases h
    unfold DRel at dr
    obtain ⟨a, vs, e, q, _⟩ := dr
    subst e
    rcases q with ⟨o, q⟩ | ⟨o, its, n, q1, q2, _⟩
    · exact base (.base (.frz q)) rfl
    · exact base (.kList q1 q2) rfl
  | ref a =>
    unfold DRel at dr
    simp only [tyD] at h
    cases e : S a with
    | none => rw [e] at h; cases h
    | some ob =>
      rw [e] at h
      cases ob with
      | lst xs =>
        cases h
        obtain ⟨vs, q, _⟩ := T.m a _ e
        subst dr
        exact base (.base (.lst q)) rfl
      | ins c fs => exact own e rfl h dr
      | slo c fs => exact own e rfl h dr
      | exd fs => cases h
      | dic kvs =>
        cases h
        obtain ⟨es, ep, q, _⟩ := T.m a _ e
        subst dr
        obtain rfl : u = Value.ref a := r
        obtain ⟨⟨_, _, o, h1, h2, _⟩, _⟩ := T.I.hok a _ q
        exact ⟨.type "dict", _, rfl, PySem.W.kitx_dict, ⟨o, h1, h2.1⟩, fun z => nomatch z⟩
  | ty _ => cases h
  | glo _ => cases h
theorem cd_isi {fa : Key → Addr} {tb : Tb} (W : TbOk X fa tb) (Wi : IsiOk X tab) : CallD X (.builtin "isinstance") (isiD tb tab) := fun pins s σ H σD S ex Kt ds vs us tk T dr rv ⟨x, y, t, b, e, ht, k, h⟩ => by
  subst e
  obtain ⟨v, w, rfl, d1, d2⟩ := drels2 dr
  obtain ⟨u1, u2, rfl, r1, r2⟩ := rv.two
  obtain ⟨tv, P, htv, Z, p, hx⟩ := kit_D W T ht d1 r1
  have fin : ∀ tk, EQ X pins σ H Kt (.bool b) { s with toks := tk } := fun tk => ⟨.bl b, H, .bl b, S, T.I.tok tk, rfl, .refl, by simp [DRel], T.m, k⟩
  rcases h with ⟨c, hc, hb⟩ | ⟨ys, cs, rfl, hc, hb⟩
  · exact PySem.W.kia_one Z T.I.kIn p (Wi t c b hb tv u2 htv (clD_val hc d2 r2)) hx fin
  · unfold DRel at d2
    obtain ⟨a, ws, e, q, dr2⟩ := d2
    subst e
    cases (show u2 = Value.ref a from r2)
    obtain ⟨its, rv2, ht2, _⟩ := T.I.tuple q
    obtain ⟨o, h1, h2, n, h3⟩ := ht2
    obtain ⟨oc, od, dt, sl⟩ := o
    simp only at h2 h3
    subst h2 h3
    exact PySem.W.kia_tup Z T.I.kIn p h1 (tabAny_ok Wi htv hb (clD_vals hc dr2 rv2)) hx fin
end
end DL

set_option Elab.async false
set_option linter.all false
set_option maxRecDepth 100000
set_option maxHeartbeats 4000000
namespace DL
open PySem PySem.Spec PyProof.Rows L2

def MtD (X : Cx) (id : String) (r : DB) : Prop := CallD X (.builtin id) r
def appendD : DB := fun ds S K _ => ∃ a xs y, ds = [.ref a, y] ∧ S a = some (.lst xs) ∧ xs.length < sizeLine ∧ K .non (sup S a (.lst (xs ++ [y])))
def extendD : DB := fun ds S K _ => ∃ a b xs ys, ds = [.ref a, .ref b] ∧ S a = some (.lst xs) ∧ S b = some (.lst ys) ∧ xs.length + ys.length ≤ sizeLine ∧ K .non (sup S a (.lst (xs ++ ys)))
def popD : DB := fun ds S K _ => ∃ a xs y, ds = [.ref a] ∧ S a = some (.lst xs) ∧ xs[xs.length - 1]? = some y ∧ K y (sup S a (.lst xs.dropLast))
def popAtD : DB := fun ds S K _ => ∃ a xs i k y, ds = [.ref a, .int i] ∧ S a = some (.lst xs) ∧ -(2 ^ 63) ≤ i ∧ i < 2 ^ 63 ∧ seqIndex? i xs.length = some k ∧ xs[k]? = some y ∧ K y (sup S a (.lst (xs.eraseIdx k)))
def insertD : DB := fun ds S K _ => ∃ a xs i y, ds = [.ref a, .int i, y] ∧ S a = some (.lst xs) ∧ xs.length < sizeLine ∧ 0 ≤ i ∧ i < 2 ^ 63 ∧ K .non (sup S a (.lst (xs.take i.toNat ++ [y] ++ xs.drop i.toNat)))
section
variable {X : Cx}
theorem CallD.ofM {id : String} {r0 : V → List V → Hp → VK → Prop} {r : DB} (ho : MtR X id r0) (h : ∀ (H : Hp) (S : Sto) (Kt : DK) (E : DX) (ds : List D) (vs : List V), Sim (gp X) H S → DRels (gp X) H ds vs → r ds S Kt E →
    ∃ x xs, vs = x :: xs ∧ r0 x xs H fun v H' => ∃ d S', Ext X.K H H' ∧ DRel (gp X) H' d v ∧ Sim (gp X) H' S' ∧ Kt d S') : CallD X (.builtin id) r := fun pins s σ H σD S ex Kt ds vs us tk T dr rv q => by
  obtain ⟨x, xs, e, q⟩ := h H S Kt _ ds vs T.m dr q
  subst e
  cases rv with
  | cons r1 r2 => exact thn (ho pins s σ H x xs _ _ _ T.I r1 r2 q) fun u s1 ⟨v, H', I', r, d, S', x, dr, m, k⟩ => ⟨v, H', d, S', I', r, x, dr, m, k⟩
theorem DRels.dropLast {g : GP} {H : Hp} {ds : List D} {vs : List V} (h : DRels g H ds vs) : DRels g H ds.dropLast vs.dropLast := by
  rw [List.dropLast_eq_take, List.dropLast_eq_take, h.length]
  exact h.take _
theorem DRels.erase {g : GP} {H : Hp} {ds : List D} {vs : List V} (h : DRels g H ds vs) (i : Nat) : DRels g H (ds.eraseIdx i) (vs.eraseIdx i) := by
  rw [List.eraseIdx_eq_take_drop_succ, List.eraseIdx_eq_take_drop_succ]
  exact (h.take _).append (h.drop _)
theorem cd_append : CallD X (.builtin "list.append") appendD := .ofM mt_append fun H S Kt E ds vs m dr ⟨a, xs, y, e, hS, hz, k⟩ => by
  subst e
  obtain ⟨v, w, rfl, d1, d2⟩ := drels2 dr
  unfold DRel at d1; subst d1
  obtain ⟨ws, h1, h2⟩ := m a _ hS
  exact ⟨_, _, rfl, a, ws, w, rfl, rfl, h1, by rw [← h2.length]; exact hz, .non, _, m.ext_setL hS, by simp [DRel], m.setL hS (h2.append (.one d2)), k⟩
theorem cd_extend : CallD X (.builtin "list.extend") extendD := .ofM mt_extend fun H S Kt E ds vs m dr ⟨a, b, xs, ys, e, hS, hb, hz, k⟩ => by
  subst e
  obtain ⟨v, w, rfl, d1, d2⟩ := drels2 dr
  unfold DRel at d1 d2; subst d1 d2
  obtain ⟨ws, h1, h2⟩ := m a _ hS
  obtain ⟨zs, h3, h4⟩ := m b _ hb
  exact ⟨_, _, rfl, a, b, ws, zs, rfl, rfl, h1, h3, by rw [← h2.length, ← h4.length]; exact hz, .non, _, m.ext_setL hS, by simp [DRel], m.setL hS (h2.append h4), k⟩
theorem cd_pop : CallD X (.builtin "list.pop") popD := .ofM mt_pop fun H S Kt E ds vs m dr ⟨a, xs, y, e, hS, hy, k⟩ => by
  subst e
  obtain ⟨v, rfl, d1⟩ := drels1 dr
  unfold DRel at d1; subst d1
  obtain ⟨ws, h1, h2⟩ := m a _ hS
  obtain ⟨w, hw, dw⟩ := h2.get hy
  rw [h2.length] at hw
  exact ⟨_, _, rfl, a, ws, w, rfl, rfl, h1, hw, y, _, m.ext_setL hS, DRel.ext (m.ext_setL hS) _ dw, m.setL hS h2.dropLast, k⟩
theorem cd_popAt : CallD X (.builtin "list.pop") popAtD := .ofM mt_popAt fun H S Kt E ds vs m dr ⟨a, xs, i, j, y, e, hS, h0, h9, hj, hy, k⟩ => by
  subst e
  obtain ⟨v, w, rfl, d1, d2⟩ := drels2 dr
  unfold DRel at d1 d2; subst d1 d2
  obtain ⟨ws, h1, h2⟩ := m a _ hS
  obtain ⟨w, hw, dw⟩ := h2.get hy
  exact ⟨_, _, rfl, a, ws, i, j, w, rfl, rfl, h1, h0, h9, by rw [← h2.length]; exact hj, hw, y, _, m.ext_setL hS, DRel.ext (m.ext_setL hS) _ dw, m.setL hS (h2.erase j), k⟩
theorem cd_insert : CallD X (.builtin "list.insert") insertD := .ofM mt_insert fun H S Kt E ds vs m dr ⟨a, xs, i, y, e, hS, hz, h0, h9, k⟩ => by
  subst e
  obtain ⟨v, w, z, rfl, d1, d2, d3⟩ := drels3 dr
  unfold DRel at d1 d2; subst d1 d2
  obtain ⟨ws, h1, h2⟩ := m a _ hS
  exact ⟨_, _, rfl, a, ws, i, z, rfl, rfl, h1, by rw [← h2.length]; exact hz, h0, h9, .non, _, m.ext_setL hS, by simp [DRel], m.setL hS (((h2.take _).append (.one d3)).append (h2.drop _)), k⟩
end
def bindMeth : List (Str × String) := [("append", "list.append"), ("extend", "list.extend"), ("pop", "list.pop"), ("insert", "list.insert")]
/-- a list's method -/
def lmD (m : Str) : DB := fun ds S K E =>
  if m = "append" then appendD ds S K E
  else if m = "extend" then extendD ds S K E
  else if m = "pop" then popD ds S K E ∨ popAtD ds S K E
  else if m = "insert" then insertD ds S K E
  else False
def lmId (m : Str) : String := if m = "append" then "list.append" else if m = "extend" then "list.extend" else if m = "pop" then "list.pop" else "list.insert"
def isLm (m : Str) : Bool := decide (m = "append") || decide (m = "extend") || decide (m = "pop") || decide (m = "insert")
section
variable {X : Cx} {k : Nat} {fa : Key → Addr} {fi : Key → Option FI} {orc : Orc} {tb : Tb}
theorem cd_lm {m : Str} : CallD X (.builtin (lmId m)) (lmD m) := fun pins s σ H σD S ex Kt ds vs us tk T dr rv q => by
  unfold lmD at q
  unfold lmId
  split at q
  · rename_i h; rw [if_pos h]; exact cd_append pins s σ H σD S ex Kt ds vs us tk T dr rv q
  · rename_i h; rw [if_neg h]
    split at q
    · rename_i h; rw [if_pos h]; exact cd_extend pins s σ H σD S ex Kt ds vs us tk T dr rv q
    · rename_i h; rw [if_neg h]
      split at q
      · rename_i h; rw [if_pos h]; exact (cd_pop.or cd_popAt) pins s σ H σD S ex Kt ds vs us tk T dr rv q
      · rename_i h; rw [if_neg h]
        split at q
        · exact cd_insert pins s σ H σD S ex Kt ds vs us tk T dr rv q
        · exact q.elim
theorem lm_slot {m : Str} (h : isLm m = true) : Slot "list" m (lmId m) ∧ typeOf (.builtin (lmId m)) = pure (.type "method_descriptor") := by
  unfold isLm at h
  simp only [Bool.or_eq_true, decide_eq_true_eq] at h
  rcases h with ((h | h) | h) | h <;> subst h
  · exact ⟨PySem.F.slot_list_append, PySem.F.type_list_append⟩
  · exact ⟨PySem.F.slot_list_extend, PySem.F.type_list_extend⟩
  · exact ⟨PySem.F.slot_list_pop, PySem.F.type_list_pop⟩
  · exact ⟨PySem.F.slot_list_insert, PySem.F.type_list_insert⟩
def isLst : SO → Bool
  | .lst _ => true
  | _ => false
/-- o.m(..) -/
def dMeth (tb : Tb) (fi : Key → Option FI) (orc : Orc) (m : Str) (te : DE) (t : DA) : DE := fun σ S K E => te σ S (fun o S1 => ∃ a ob, o = .ref a ∧ S1 a = some ob ∧ match ob.cn with
  | some c => (∃ ce, tb c = some ce ∧ m ∈ ce.meths ∧ ob.bare m) ∧ t σ S1 (fun xs S2 => callO fi orc (c, some m) (o :: xs) S2 K E) E
  | none => (isLst ob = true ∧ isLm m = true ∧ t σ S1 (fun xs S2 => lmD m (o :: xs) S2 K E) E) ∨ (isDic ob = true ∧ isDm m = true ∧ t σ S1 (fun xs S2 => dmD m (o :: xs) S2 K E) E)) E
theorem qe_meth (W : TbOk X fa tb) (hcd : ∀ key, CallD X (.ref (fa key)) (callO fi orc key)) {o : Expr} {te : DE} {m : Str} {es : List Expr} {t : DA} {apos pos : Pos} (ho : QE X o te) (hb : baseOk o = true) (ha : QA X es t) (h0 : es = [] → t = dNil) (hst : es.all noSt = true) (hfew : es.length < 30) (hline : (apos.endLine == pos.line) = true) :
    QE X (.Call (.Attribute o m apos) es [] pos) (dMeth tb fi orc m te t) := fun pins s σ H σD S ex Kt tk T h => by
  have hform : methodCallForm (es.length + ([] : List Keyword).length) (backTo pos (starEach es X.env)) (backToKw pos (keywordEach [] X.env)) = true := by
    have h1 : (backTo pos (starEach es X.env)).any (·.1) = false := star_plain hst
    have h2 : (backTo pos (starEach es X.env)).all (fun x => !x.1) = true := by
      rw [List.all_eq_not_any_not]
      simpa using h1
    show (((backTo pos (starEach es X.env)).all fun x => !x.1) && true && decide (es.length + 0 + 0 < 30)) = true
    rw [h2]
    simpa using hfew
  have hpos : methodCallPos true o X.env apos pos = pure pos := by unfold methodCallPos; simp [hline]
  rw [arm_eval_Call, base_ok hb]
  refine wpAny_bind (thn (ho pins s σ H σD S ex _ tk T h) fun u s1 ⟨v, H1, d, S1, I1, r1, x1, d1, m1, a, ob, e, hob, q⟩ => ?_)
  subst e
  have T1 := T.on I1 x1 m1
  unfold DRel at d1; subst d1
  obtain rfl : u = Value.ref a := r1
  refine wpAny_bind (wpAny_standAt ?_)
  unfold methodCall
  rw [hform]
  cases hc : ob.cn with
  | some c =>
    rw [hc] at q
    obtain ⟨⟨ce, hce, hm, hbare⟩, q⟩ := q
    obtain ⟨C, hC, CO⟩ := W c ce hce
    obtain ⟨C', ox, od, hC', J, hl⟩ := inst_at T1 hob hc
    rw [hC] at hC'; cases hC'
    have M := CO.me m hm
    refine wpAny_bind (wpAny_holding (PySem.W.method_fn I1.kIn J (PySem.W.plainGet_of (CO.s.get m)).1 (PySem.W.plainGet_of (CO.s.get m)).2 M.at_ (beq_iff_eq.mp M.fn) (by show (PySem.W.lookIn m od).map (·.isSome) = some false; rw [hl m hbare]; rfl) ?_))
    refine wpAny_bind (wpAny_of_eq hpos ?_)
    have call : ∀ {us : List Value} {vs : List V} {H2 : Hp} {ds : List D} {S2 : Sto} {s2 : Shared}, Inv X pins σ H2 s2 → Vals vs us → Ext X.K H1 H2 → DRels (gp X) H2 ds vs → Sim (gp X) H2 S2 → callO fi orc (c, some m) (.ref a :: ds) S2 Kt (fun c fs S => ex c fs σD S) →
        wpAny (model X.prog X.w) X.A (call (.ref (fa (c, some m))) ([Value.ref a] ++ us)) (EQ X pins σ H Kt) X.xe s2 := fun {us vs H2 ds S2 s2} I2 r2 x2 d2 m2 q2 =>
      thn (hcd (c, some m) pins s2 σ H2 σD S2 ex Kt (.ref a :: ds) (.ref a :: vs) _ (tk.up (x1.trans x2)) (T.on I2 (x1.trans x2) m2) (.cons (by simp [DRel]) d2) (.cons rfl r2) q2) fun _ _ z => z.up (x1.trans x2)
    have hA := ha pos pins s1 σ H1 σD S1 ex _ (tk.up x1) T1 q
    cases es with
    | nil =>
      rw [h0 rfl] at q
      exact PySem.W.callWith_K0 (first := [.ref a]) I1.kIn M.kp (call I1 .nil .refl .nil m1 q)
    | cons e es =>
      simp only [List.all_cons, Bool.and_eq_true] at hst
      exact PySem.W.callWith_K (first := [.ref a]) (h₀ := X.base) I1.ok.mod.kin M.kp (thn hA fun us s2 ⟨vs, H2, ds, S2, I2, r2, x2, d2, m2, q2⟩ => ⟨I2.kIn, call I2 r2 x2 d2 m2 q2⟩) (star_cons hst.1) (star_plain hst.2)
  | none =>
    rw [hc] at q
    rcases q with ⟨hil, hm, q⟩ | ⟨hil, hm, q⟩
    rotate_left
    · cases ob with
      | dic kvs =>
        obtain ⟨slot, ty⟩ := dm_slot hm
        obtain ⟨t1, t2⟩ := dic_ty T1 hob
        refine wpAny_bind (wpAny_holding (getMethod_builtin t1 PySem.F.plainAttrs_dict slot ty t2 ?_))
        refine wpAny_bind (wpAny_of_eq hpos ?_)
        have call : ∀ {us : List Value} {vs : List V} {H2 : Hp} {ds : List D} {S2 : Sto} {s2 : Shared}, Inv X pins σ H2 s2 → Vals vs us → Ext X.K H1 H2 → DRels (gp X) H2 ds vs → Sim (gp X) H2 S2 → dmD m (.ref a :: ds) S2 Kt (fun c fs S => ex c fs σD S) →
            wpAny (model X.prog X.w) X.A (call (.builtin (dmId m)) (.ref a :: us)) (EQ X pins σ H Kt) X.xe s2 := fun {us vs H2 ds S2 s2} I2 r2 x2 d2 m2 q2 =>
          thn (cd_dm (m := m) pins s2 σ H2 σD S2 ex Kt (.ref a :: ds) (.ref a :: vs) _ (tk.up (x1.trans x2)) (T.on I2 (x1.trans x2) m2) (.cons (by simp [DRel]) d2) (.cons rfl r2) q2) fun _ _ z => z.up (x1.trans x2)
        cases es with
        | nil =>
          rw [h0 rfl] at q
          exact Calls.callWith_builtin rfl (PySem.evalArgs_none (call I1 .nil .refl .nil m1 q))
        | cons e es =>
          have hst0 := hst
          simp only [List.all_cons, Bool.and_eq_true] at hst
          have hA := ha pos pins s1 σ H1 σD S1 ex _ (tk.up x1) T1 q
          have hp := star_plain (env := X.env) (pos := pos) hst0
          rw [star_cons hst.1] at hA hp ⊢
          exact Calls.callWith_builtin hp (Calls.evalArgs_plain (thn hA fun us s2 ⟨vs, H2, ds, S2, I2, r2, x2, d2, m2, q2⟩ => call I2 r2 x2 d2 m2 q2))
      | _ => cases hil
    cases ob with
    | ins _ _ => cases hc
    | slo _ _ => cases hc
    | dic _ => cases hil
    | exd _ => cases hil
    | lst xs =>
      obtain ⟨vs0, hH, _⟩ := m1 a _ hob
      obtain ⟨slot, ty⟩ := lm_slot hm
      obtain ⟨t1, t2⟩ := tyV_is (x := .ref a) (v := .ref a) I1 rfl (show tyV X.K "list" (.ref a) H1 from .inl ⟨rfl, vs0, .inl (.inl hH)⟩)
      refine wpAny_bind (wpAny_holding (getMethod_builtin t1 PySem.F.plainAttrs_list slot ty t2 ?_))
      refine wpAny_bind (wpAny_of_eq hpos ?_)
      have call : ∀ {us : List Value} {vs : List V} {H2 : Hp} {ds : List D} {S2 : Sto} {s2 : Shared}, Inv X pins σ H2 s2 → Vals vs us → Ext X.K H1 H2 → DRels (gp X) H2 ds vs → Sim (gp X) H2 S2 → lmD m (.ref a :: ds) S2 Kt (fun c fs S => ex c fs σD S) →
          wpAny (model X.prog X.w) X.A (call (.builtin (lmId m)) (.ref a :: us)) (EQ X pins σ H Kt) X.xe s2 := fun {us vs H2 ds S2 s2} I2 r2 x2 d2 m2 q2 =>
        thn (cd_lm (m := m) pins s2 σ H2 σD S2 ex Kt (.ref a :: ds) (.ref a :: vs) _ (tk.up (x1.trans x2)) (T.on I2 (x1.trans x2) m2) (.cons (by simp [DRel]) d2) (.cons rfl r2) q2) fun _ _ z => z.up (x1.trans x2)
      cases es with
      | nil =>
        rw [h0 rfl] at q
        exact Calls.callWith_builtin rfl (PySem.evalArgs_none (call I1 .nil .refl .nil m1 q))
      | cons e es =>
        have hst0 := hst
        simp only [List.all_cons, Bool.and_eq_true] at hst
        have hA := ha pos pins s1 σ H1 σD S1 ex _ (tk.up x1) T1 q
        have hp := star_plain (env := X.env) (pos := pos) hst0
        rw [star_cons hst.1] at hA hp ⊢
        exact Calls.callWith_builtin hp (Calls.evalArgs_plain (thn hA fun us s2 ⟨vs, H2, ds, S2, I2, r2, x2, d2, m2, q2⟩ => call I2 r2 x2 d2 m2 q2))
end
end DL

set_option Elab.async false
set_option linter.all false
set_option maxRecDepth 100000
set_option maxHeartbeats 4000000
namespace DL
open PySem PySem.Spec PyProof.Rows L2

section
open PySem.W
variable {prog : Program} {w : World} {A : Around} {E : Value → Shared → Prop} {s : Shared} {K : Frag} {x y C f : Addr} {ox oy : Obj} {od od' : Option Obj} {b tb : Value}
theorem ne_K {Q : Value → Shared → Prop} (X : K.In s.heap) (I : InstAt s.heap x ox C od) (hn : findIn K (.ref C) "__ne__" = some (some (.builtin "object.__ne__"))) (he : findIn K (.ref C) "__eq__" = some (some (.ref f))) (hf : isFn K (.ref f) = true)
    (hm : mroIn K C (.type "object") = some true) (hu : A.units + 1 < cLine) (hb : Looks (model prog w) s.heap (typeOf b) tb) (hnf : notFirst K C tb = true)
    (h : wpAny (model prog w) A.in1 (call (.ref f) [.ref x, b]) (fun v s' => ∃ r, v = .bool r ∧ Q (.bool (!r)) s') E s) : wpAny (model prog w) A (richCompare .NotEq (.ref x) b) Q E s := by
  have one : wpAny (model prog w) A (tryCompare (.ref x) (cmpInfo .NotEq).2.1 b) (fun r s' => ∃ v, r = some v ∧ Q v s') E s := by
    unfold tryCompare
    refine wpAny_bind ?_
    simp only [callSpecialIfBound?, bindSpecialIfBound?]
    refine wpAny_holding (wpAny_bind (wpAny_bind (wpAny_bind (I.type.here ((looks_findIn X hn).here ?_)))))
    refine wpAny_bind (wpAny_askSetting (wpAny_ite ?_))
    have SB := PySem.F.cmp_object.ne.bind (.ref x)
    have code : wpAny (model prog w) A (call (.builtin "object.__ne__") ([.ref x] ++ [b])) (fun v s' => ∃ r, v = .bool (!r) ∧ Q (.bool (!r)) s') E s := by
      obtain ⟨hp, g, d, t, os⟩ := s
      refine wpAny_call (codeAny_call_builtin PySem.F.cmp_object.ne.plain PySem.F.cmpEntry_ne ?_)
      refine check_slot PySem.F.cmpKind_ne PySem.F.cmpSplit_ne (I.type.andThen (looks_mroIn X hm)) (PySem.F.cmpArgs_ne _ _) ?_
      unfold Builtin.«object.__ne__»
      repeat (first
        | with_reducible refine wpAny_cRoomFor hu ?_
        | (refine wpAny_bind (m := callSpecialIfBound? (.ref x) (Str.ofString "__eq__") [b]) (ifBound_K X I he hf (wpAny_mono h (fun r s' hr => by
              obtain ⟨k, rfl, hq⟩ := hr
              repeat (first | exact ⟨k, rfl, hq⟩ | exact wpAny_pure ⟨k, rfl, hq⟩ | (refine wpAny_bind (m := truthy (.bool _)) (wpAny_truthy_bool ?_)) | wp_step)) fun _ _ e => e)))
        | wp_step)
    have fin : wpAny (model prog w) A (call (.builtin "object.__ne__") ([.ref x] ++ [b]) >>= fun v => pure (some v)) (fun r s' => wpAny (model prog w) A (match r with | some .notImplemented | none => pure none | some v => pure (some v)) (fun r s' => ∃ v, r = some v ∧ Q v s') E s') E s :=
      wpAny_bind (wpAny_mono code (fun v s' ⟨r, e, hq⟩ => wpAny_pure (by subst e; exact wpAny_pure ⟨_, rfl, hq⟩)) fun _ _ e => e)
    split
    · rw [SB]
      exact wpAny_bind (wpAny_pure (wpAny_pure (by exact fin)))
    · rw [SB]
      exact wpAny_tryCatch (wpAny_bind (wpAny_pure (wpAny_pure (by exact fin))))
  unfold richCompare
  simp only [oneThing_ref]
  refine wpAny_holding (wpAny_bind (wpAny_cRoomFor (Nat.lt_of_succ_lt hu) ?_))
  refine wpAny_bind (I.type.here (wpAny_bind (hb.here ?_)))
  split
  · rename_i q
    have e : subIn K tb (.ref C) = some false := by
      rcases Bool.or_eq_true_iff.mp hnf with e | e
      · rw [beq_iff_eq.mp e] at q; simp at q
      · exact beq_iff_eq.mp e
    refine wpAny_bind ((looks_subIn X e).here ?_)
    simp only [Bool.false_eq_true, if_false]
    refine wpAny_bind (wpAny_mono one (fun r s' z => ?_) fun _ _ e => e)
    obtain ⟨v, rfl, hq⟩ := z
    exact wpAny_pure hq
  · refine wpAny_bind (wpAny_pure ?_)
    simp only [Bool.false_eq_true, if_false]
    refine wpAny_bind (wpAny_mono one (fun r s' z => ?_) fun _ _ e => e)
    obtain ⟨v, rfl, hq⟩ := z
    exact wpAny_pure hq
/-- the class stands first among its ancestors -/
def headMe (K : Frag) (C : Addr) : Bool := (clsIn K C).any fun cd => cd.mro.head? == some (.ref C)
theorem looks_mro {M : Model} {h : Heap} (X : K.In h) (hm : headMe K C = true) : ∃ r, Looks M h (mroOf (.ref C)) (.ref C :: r) := by
  obtain ⟨cd, hc, e⟩ := any_some hm
  obtain ⟨r, er⟩ : ∃ r, cd.mro = .ref C :: r := by
    cases q : cd.mro with
    | nil => rw [q] at e; cases e
    | cons a r => rw [q] at e; simp at e; exact ⟨r, by rw [e]⟩
  exact ⟨r, (looks_clsIn X hc).andThen (by rw [er]; exact .now)⟩
theorem looks_fills {M : Model} {h : Heap} {nm : String} (X : K.In h) (hm : headMe K C = true) (hs : findIn K (.ref C) (dunder nm) = some (some (.ref f))) : Looks M h (fillsNumberSlot (.ref C) nm) true := by
  obtain ⟨r, L⟩ := looks_mro (M := M) X hm
  unfold fillsNumberSlot
  dsimp only
  refine L.andThen ?_
  rw [List.anyM_cons]
  refine Looks.andThen (a := true) ?_ .now
  rw [List.anyM_cons]
  refine Looks.andThen (a := true) ?_ .now
  exact (looks_findIn X hs).andThen .now
theorem binop_K {op : Operator} {Q : Value → Shared → Prop} (X : K.In s.heap) (I : InstAt s.heap x ox C od) (J : InstAt s.heap y oy C od') (hm : headMe K C = true) (hs : findIn K (.ref C) (dunder op.info.2) = some (some (.ref f))) (hf : isFn K (.ref f) = true)
    (h : wpAny (model prog w) A (call (.ref f) [.ref x, .ref y]) (PySem.W.CmpBack Q) E s) : wpAny (model prog w) A (binaryOp op (.ref x) (.ref y)) Q E s := by
  have one : wpAny (model prog w) A (tryMethod (.ref x) (dunder op.info.2) (.ref y)) (fun r s' => ∃ v, r = some v ∧ Q v s') E s := by
    unfold tryMethod
    refine wpAny_bind (special_fn X I hs (beq_iff_eq.mp hf) (wpAny_mono h (fun v s' hv => ?_) fun _ _ e => e))
    cases v <;> first | exact hv.elim | exact wpAny_pure ⟨_, rfl, hv⟩
  unfold binaryOp
  refine wpAny_holding ?_
  dsimp only
  refine wpAny_bind ?_
  unfold binaryOp1
  refine wpAny_bind (I.type.here (wpAny_bind (J.type.here (wpAny_bind ((looks_fills X hm hs).here ?_)))))
  rw [if_pos (by simp)]
  refine wpAny_bind (wpAny_pure ?_)
  simp only [Bool.true_and, Bool.and_true, Bool.false_eq_true, if_false, Bool.and_false, Bool.false_and, if_true, Bool.not_false]
  repeat (first
    | (with_reducible refine wpAny_bind (wpAny_mono one (fun r s' z => ?_) fun _ _ e => e); obtain ⟨v, rfl, hq⟩ := z; repeat (first | exact hq | exact wpAny_pure hq | exact wpAny_pure (wpAny_pure hq) | wp_step))
    | wp_step)
theorem fills_int {M : Model} {h : Heap} : Looks M h (fillsNumberSlot (.type "int") "add") true := by
  have e : fillsNumberSlot (.type "int") "add" = pure true := by rfl
  rw [e]; exact .now
theorem looks_numPy {M : Model} {h : Heap} (X : K.In h) (hs : findIn K (.ref C) (dunder "add") = some (some (.ref f))) (hr : findIn K (.ref C) (dunderR "add") = some none) : Looks M h (numberSlotInPython (.ref C) "add") true := by
  unfold numberSlotInPython
  dsimp only
  refine (looks_findIn X hs).andThen ?_
  refine Looks.andThen (a := true) .now ?_
  refine (looks_findIn X hr).andThen ?_
  refine Looks.andThen (a := false) .now ?_
  exact .now
theorem binop_Ki {i : Int} {t : Tok} {Q : Value → Shared → Prop} (X : K.In s.heap) (I : InstAt s.heap x ox C od) (hm : headMe K C = true) (hs : findIn K (.ref C) (dunder "add") = some (some (.ref f))) (hr : findIn K (.ref C) (dunderR "add") = some none) (hn : notFirst K C (.type "int") = true) (hf : isFn K (.ref f) = true)
    (h : wpAny (model prog w) A (call (.ref f) [.ref x, .int i t]) (PySem.W.CmpBack Q) E s) : wpAny (model prog w) A (binaryOp .Add (.ref x) (.int i t)) Q E s := by
  have one : wpAny (model prog w) A (tryMethod (.ref x) (dunder "add") (.int i t)) (fun r s' => ∃ v, r = some v ∧ Q v s') E s := by
    unfold tryMethod
    refine wpAny_bind (special_fn X I hs (beq_iff_eq.mp hf) (wpAny_mono h (fun v s' hv => ?_) fun _ _ e => e))
    cases v <;> first | exact hv.elim | exact wpAny_pure ⟨_, rfl, hv⟩
  have e : subIn K (.type "int") (.ref C) = some false := by
    rcases Bool.or_eq_true_iff.mp hn with e | e
    · exact absurd (beq_iff_eq.mp e) (by simp)
    · exact beq_iff_eq.mp e
  unfold binaryOp
  refine wpAny_holding ?_
  dsimp only
  refine wpAny_bind ?_
  show wpAny _ _ (binaryOp1 "add" (.ref x) (.int i t)) _ _ _
  unfold binaryOp1
  refine wpAny_bind (I.type.here ?_)
  refine wpAny_bind (wpAny_pure ?_)
  refine wpAny_bind ((looks_fills X hm hs).here ?_)
  rw [if_neg (by simp)]
  refine wpAny_bind (fills_int.here ?_)
  simp only [Bool.true_and, if_true]
  refine wpAny_bind ((looks_subIn X e).here ?_)
  rw [if_neg (by decide)]
  simp only [Bool.not_false, if_true]
  refine wpAny_bind ((looks_numPy X hs hr).here ?_)
  simp only [if_true]
  refine wpAny_bind (wpAny_pure ?_)
  simp only [Bool.not_false, if_true]
  obtain ⟨tk, htk⟩ : ∃ tk, typeLookup (.type "int") (dunderR "add") = pure tk := ⟨_, rfl⟩
  rw [htk]
  refine wpAny_bind (wpAny_pure ?_)
  refine wpAny_bind (wpAny_mono one (fun r s' z => ?_) fun _ _ e => e)
  obtain ⟨v, rfl, hq⟩ := z
  refine wpAny_pure ?_
  exact wpAny_pure hq
end
end DL

set_option Elab.async false
set_option linter.all false
set_option maxRecDepth 100000
set_option maxHeartbeats 4000000
namespace DL
open PySem PySem.Spec PyProof.Rows L2

/-- a callee under the frame A below the running body -/
theorem at_own {X : Cx} {k : Nat} {f : Addr} {fd : FuncData} {ps : List Str} {cal : DB} {dd : List D} {dvs : List V} {ds : List Value} {A : Around} (F : FnG X.prog X.w X.K X.mg X.base (CXp X) k f fd ps (spD (gp X) ps.length cal)) (hr : RoomG k A) (hb : Binds X.K fd ps ds) (hd : Vals dvs ds) (hdd : ∀ H, DRels (gp X) H dd dvs)
    {pins : List (Addr × Obj)} {s : Shared} {σ : VSt} {H : Hp} {σD : DSt} {S : Sto} {ex : DXs} {Kt : DK} {xs : List D} {vs : List V} {us : List Value} (e0 : Env0 X.prog X.w X.K X.mg X.base A X.stack s H) (tk : Takes X (lX X H ex)) (T : Sit X pins σ H s σD S) (dr : DRels (gp X) H xs vs) (rv : Vals vs us)
    (hl : (xs ++ dd).length = ps.length) (q : cal (xs ++ dd) S Kt fun c fs S => ex c fs σD S) : wpAny (model X.prog X.w) A (call (.ref f) us) (EQ X pins σ H Kt) X.xe s := by
  have dr2 := dr.append (hdd H)
  have l := dr2.length
  have r2 : Vals (vs ++ dvs) (us ++ ds) := rv.append hd
  have hl2 : (us ++ ds).length = ps.length := by rw [← r2.length, ← l]; exact hl
  have hsp : spD (gp X) ps.length cal (vs ++ dvs) H (fun v H' => ∃ d S', Ext X.K H H' ∧ DRel (gp X) H' d v ∧ Sim (gp X) H' S' ∧ Kt d S') (WE (lX X H ex) σ) :=
    ⟨by rw [← l]; exact hl, xs ++ dd, S, Kt, _, dr2, T.m, q, fun v H' d S' x dr m k => ⟨d, S', x, dr, m, k⟩, fun c C fs dd' H' S' hc xr m x h => wish T hc xr m x h⟩
  refine wpAny_call (codeAny_mono (F.run A X.stack s H ⟨us, []⟩ (us ++ ds) (vs ++ dvs) _ (WE (lX X H ex) σ) hr e0 (hb s us T.I.kIn hl2) r2 hsp) fun r s' hq => ?_)
  cases r with
  | error e => exact passAt tk σ pins H s e s' T.I hq
  | ok fl =>
    cases fl with
    | ret u =>
      obtain ⟨v, H', I', rv', d, S', x, dr', m', k'⟩ := T.I.after hq
      exact ⟨v, H', d, S', I', rv', x, dr', m', k'⟩
    | next => exact False.elim hq
    | brk => exact False.elim hq
    | cont => exact False.elim hq

def okT (tb : Tb) : TyC → Bool
  | .b n => ["NoneType", "bool", "int", "str", "tuple", "list", "dict"].contains n
  | .c x => (tb x).isSome
/-- what the operators ask of the classes -/
structure OpsOk (X : Cx) (fa : Key → Addr) (tb : Tb) : Prop where
  nf : ∀ c ce C t tv, tb c = some ce → X.mg c = some (.ref C) → okT tb t = true → TyV X.mg t tv → PySem.W.notFirst X.K C tv = true
  hm : ∀ c ce C, tb c = some ce → X.mg c = some (.ref C) → headMe X.K C = true
  fn : ∀ c ce, tb c = some ce → ∀ m ∈ ce.meths, PySem.W.fnIn X.K (fa (c, some m)) = true
  ne : ∀ c ce C, tb c = some ce → X.mg c = some (.ref C) → ("__eq__" : Str) ∈ ce.meths → PySem.W.findIn X.K (.ref C) "__ne__" = some (some (.builtin "object.__ne__"))
  rad : ∀ c ce C, tb c = some ce → X.mg c = some (.ref C) → ("__add__" : Str) ∈ ce.meths → PySem.W.findIn X.K (.ref C) "__radd__" = some none
theorem okT_of {tb : Tb} {S : Sto} {x : D} {t : TyC} (h : tyD tb S x = some t) : okT tb t = true := by
  have own : ∀ {c : Str} {t : TyC}, (tb c).map (fun _ => TyC.c c) = some t → okT tb t = true := fun {c t} h => by
    obtain ⟨ce, h1, h2⟩ := Option.map_eq_some_iff.mp h
    subst h2
    simp [okT, h1]
  cases x with
  | ref a =>
    simp only [tyD] at h
    cases e : S a with
    | none => rw [e] at h; cases h
    | some o =>
      rw [e] at h
      cases o with
      | lst _ => cases h; simp [okT]
      | ins c _ => exact own h
      | slo c _ => exact own h
      | dic _ => cases h; simp [okT]
      | exd _ => cases h
  | ty _ => cases h
  | glo _ => cases h
  | _ => cases h; simp [okT]
/-- an instance that has the method -/
def hasM (tb : Tb) (S : Sto) (m : Str) (x : D) (c : Str) : Prop := ∃ a ob ce, x = .ref a ∧ S a = some ob ∧ ob.cn = some c ∧ tb c = some ce ∧ m ∈ ce.meths
def notK (K : DK) : DK := fun d S => ∃ k, d = .bl k ∧ K (.bl (!k)) S
def blK (K : DK) : DK := fun d S => ∃ k, d = .bl k ∧ K (.bl k) S
/-- the own operators -/
def ownO (tb : Tb) (fi : Key → Option FI) (orc : Orc) : Own := fun nm x y S K E =>
  if nm = "__eq__" then ∃ c t, hasM tb S "__eq__" x c ∧ tyD tb S y = some t ∧ callO fi orc (c, some "__eq__") [x, y] S K E
  else if nm = "__ne__" then ∃ c t, hasM tb S "__eq__" x c ∧ tyD tb S y = some t ∧ callO fi orc (c, some "__eq__") [x, y] S (notK K) E
  else if nm = "__contains__" then ∃ c, hasM tb S "__contains__" y c ∧ callO fi orc (c, some "__contains__") [y, x] S (blK K) E
  else if nm = "not in" then ∃ c, hasM tb S "__contains__" y c ∧ callO fi orc (c, some "__contains__") [y, x] S (notK K) E
  else if nm = "__add__" ∨ nm = "__and__" ∨ nm = "__or__" then ∃ c a ob, hasM tb S nm x c ∧ y = .ref a ∧ S a = some ob ∧ ob.cn = some c ∧ callO fi orc (c, some nm) [x, y] S K E
  else if nm = "int __add__" then ∃ c i, hasM tb S "__add__" x c ∧ y = .int i ∧ callO fi orc (c, some "__add__") [x, y] S K E
  else False
def ownT (tb : Tb) (fi : Key → Option FI) (orc : Orc) : OwnT := fun x S K E => ∃ c, hasM tb S "__bool__" x c ∧ callO fi orc (c, some "__bool__") [x] S (kB K) E
section
variable {X : Cx} {k : Nat} {fa : Key → Addr} {fi : Key → Option FI} {orc : Orc} {tb : Tb} {pins : List (Addr × Obj)} {s : Shared} {σ : VSt} {H : Hp} {σD : DSt} {S : Sto} {ex : DXs} {Kt : DK}
theorem hasM_at (W : TbOk X fa tb) (T : Sit X pins σ H s σD S) {m : Str} {x : D} {c : Str} (h : hasM tb S m x c) : ∃ a C ox od ce, x = .ref a ∧ tb c = some ce ∧ m ∈ ce.meths ∧ X.mg c = some (.ref C) ∧ ClsOk X.K fa c ce C ∧ PySem.W.InstAt s.heap a ox C (some od) := by
  obtain ⟨a, ob, ce, e, h1, h2, h3, h4⟩ := h
  obtain ⟨C, hC, CO⟩ := W c ce h3
  obtain ⟨C', ox, od, hC', J, _⟩ := inst_at T h1 h2
  rw [hC] at hC'; cases hC'
  exact ⟨a, C, ox, od, ce, e, h3, h4, hC, CO, J⟩
theorem looks_ty (W : TbOk X fa tb) (T : Sit X pins σ H s σD S) {y : D} {yv : V} {u : Value} {t : TyC} (h : tyD tb S y = some t) (dr : DRel (gp X) H y yv) (ru : RelV yv u) : ∃ tv, TyV X.mg t tv ∧ PySem.W.Looks (model X.prog X.w) s.heap (typeOf u) tv := by
  obtain ⟨tv, P, h1, Z, p, _⟩ := kit_D W T h dr ru
  exact ⟨tv, h1, Z.ty _ _ T.I.kIn p⟩
theorem own_eq (W : TbOk X fa tb) (P : OpsOk X fa tb) (O : OrcOk X k fa fi orc) (hr : RoomG k X.A) : OpD X (compareOp .Eq) (ownR (ownO tb fi orc) "__eq__") := by
  intro pins s σ H σD S ex Kt x y xv yv v u tk T dx dy rx ry ⟨a, ea, hi, q⟩
  rw [ownO, if_pos rfl] at q
  obtain ⟨c, t, hm, ht, q⟩ := q
  obtain ⟨a', C, ox, od, ce, e, hce, hme, hC, CO, J⟩ := hasM_at W T hm
  subst e
  have dx0 := dx
  unfold DRel at dx; subst dx
  obtain rfl : v = Value.ref a' := rx
  obtain ⟨tv, h1, L⟩ := looks_ty W T ht dy ry
  obtain ⟨m, hF⟩ := T.I.fr
  have M := CO.me _ hme
  show wpAny _ _ (richCompare .Eq (.ref a') u) _ _ _
  refine PySem.W.cmp_K (op := .Eq) (tb := tv) hr.units0 hF T.I.ok.mod.kin J L (P.nf c ce C t tv hce hC (okT_of ht) h1) M.at_ M.fn ?_
  refine thn (cd_orc O hr (c, some "__eq__") pins s σ H σD S ex Kt _ [.ref a', yv] [.ref a', u] tk T (.cons dx0 (.one dy)) (.cons rfl (.cons ry .nil)) q) fun w s' z => ?_
  obtain ⟨z1, H', d, S', I', rz, r⟩ := z
  exact SlX.cmpback rz ⟨z1, H', d, S', I', rz, r⟩
theorem call_in1 (O : OrcOk X k fa fi orc) (hr : RoomG (k + 1) X.A) {key : Key} {xs : List D} {vs : List V} {us : List Value} (tk : Takes X (lX X H ex)) (T : Sit X pins σ H s σD S) (dr : DRels (gp X) H xs vs) (rv : Vals vs us) (q : callO fi orc key xs S Kt fun c fs S => ex c fs σD S) :
    wpAny (model X.prog X.w) X.A.in1 (call (.ref (fa key)) us) (EQ X pins σ H Kt) X.xe s := by
  obtain ⟨p, hp, h1, h2, q⟩ := q
  obtain ⟨fd, F, B⟩ := O key p hp
  obtain ⟨dvs, ds, hb, hd, hdd⟩ := B (p.ps.length - xs.length) (by omega)
  refine at_own F hr.in1 hb hd hdd T.I.env0.in1 tk T dr rv ?_ q
  rw [List.length_append, List.length_drop]
  omega
theorem own_ne (W : TbOk X fa tb) (P : OpsOk X fa tb) (O : OrcOk X k fa fi orc) (hr : RoomG (k + 1) X.A) : OpD X (compareOp .NotEq) (ownR (ownO tb fi orc) "__ne__") := by
  intro pins s σ H σD S ex Kt x y xv yv v u tk T dx dy rx ry ⟨a, ea, hi, q⟩
  rw [ownO, if_neg (by decide), if_pos rfl] at q
  obtain ⟨c, t, hm, ht, q⟩ := q
  obtain ⟨a', C, ox, od, ce, e, hce, hme, hC, CO, J⟩ := hasM_at W T hm
  subst e
  have dx0 := dx
  unfold DRel at dx; subst dx
  obtain rfl : v = Value.ref a' := rx
  obtain ⟨tv, h1, L⟩ := looks_ty W T ht dy ry
  have M := CO.me _ hme
  show wpAny _ _ (richCompare .NotEq (.ref a') u) _ _ _
  refine ne_K T.I.kIn J (P.ne c ce C hce hC hme) M.at_ M.fn CO.i.cm (by have := hr.un; omega) L (P.nf c ce C t tv hce hC (okT_of ht) h1) ?_
  refine thn (call_in1 O hr tk T (.cons dx0 (.one dy)) (.cons rfl (.cons ry .nil)) q) fun w s' z => ?_
  obtain ⟨z1, H', d, S', I', rz, x, dz, m, b, eb, kq⟩ := z
  subst eb
  unfold DRel at dz; subst dz
  cases rz
  exact ⟨b, rfl, .bl (!b), H', .bl (!b), S', I', rfl, x, by simp [DRel], m, kq⟩
theorem own_in (W : TbOk X fa tb) (O : OrcOk X k fa fi orc) (hr : RoomG k X.A) : OpD X (compareOp .In) (fun x y S K E => ∃ a, y = .ref a ∧ isIns (S a) = true ∧ ownO tb fi orc "__contains__" x y S K E) := by
  intro pins s σ H σD S ex Kt x y xv yv v u tk T dx dy rx ry ⟨a, ea, hi, q⟩
  rw [ownO, if_neg (by decide), if_neg (by decide), if_pos rfl] at q
  obtain ⟨c, hm, q⟩ := q
  obtain ⟨a', C, ox, od, ce, e, hce, hme, hC, CO, J⟩ := hasM_at W T hm
  subst e
  have dy0 := dy
  unfold DRel at dy; subst dy
  obtain rfl : u = Value.ref a' := ry
  obtain ⟨m, hF⟩ := T.I.fr
  have M := CO.me _ hme
  refine PySem.W.in_K hF T.I.ok.mod.kin J M.at_ M.fn ?_
  refine thn (cd_orc O hr (c, some "__contains__") pins s σ H σD S ex (blK Kt) _ [.ref a', xv] [.ref a', v] tk T (.cons dy0 (.one dx)) (.cons rfl (.cons rx .nil)) q) fun w s' z => ?_
  obtain ⟨z1, H', d, S', I', rz, x, dz, m, b, eb, kq⟩ := z
  subst eb
  unfold DRel at dz; subst dz
  cases rz
  exact wpAny_truthy_bool ⟨.bl b, H', .bl b, S', I', rfl, x, by simp [DRel], m, kq⟩
theorem own_nin (W : TbOk X fa tb) (O : OrcOk X k fa fi orc) (hr : RoomG k X.A) : OpD X (compareOp .NotIn) (fun x y S K E => ∃ a, y = .ref a ∧ isIns (S a) = true ∧ ownO tb fi orc "not in" x y S K E) := by
  intro pins s σ H σD S ex Kt x y xv yv v u tk T dx dy rx ry ⟨a, ea, hi, q⟩
  rw [ownO, if_neg (by decide), if_neg (by decide), if_neg (by decide), if_pos rfl] at q
  obtain ⟨c, hm, q⟩ := q
  obtain ⟨a', C, ox, od, ce, e, hce, hme, hC, CO, J⟩ := hasM_at W T hm
  subst e
  have dy0 := dy
  unfold DRel at dy; subst dy
  obtain rfl : u = Value.ref a' := ry
  obtain ⟨m, hF⟩ := T.I.fr
  have M := CO.me _ hme
  refine PySem.W.notIn_K hF T.I.ok.mod.kin J M.at_ M.fn ?_
  refine thn (cd_orc O hr (c, some "__contains__") pins s σ H σD S ex (notK Kt) _ [.ref a', xv] [.ref a', v] tk T (.cons dy0 (.one dx)) (.cons rfl (.cons rx .nil)) q) fun w s' z => ?_
  obtain ⟨z1, H', d, S', I', rz, x, dz, m, b, eb, kq⟩ := z
  subst eb
  unfold DRel at dz; subst dz
  cases rz
  exact wpAny_truthy_bool ⟨.bl (!b), H', .bl (!b), S', I', rfl, x, by simp [DRel], m, kq⟩
theorem own_bin (W : TbOk X fa tb) (P : OpsOk X fa tb) (O : OrcOk X k fa fi orc) (hr : RoomG k X.A) {op : Operator} {nm : Str} (hn : nm = "__add__" ∨ nm = "__and__" ∨ nm = "__or__") (hd : dunder op.info.2 = nm) : OpD X (binaryOp op) (ownR (ownO tb fi orc) nm) := by
  intro pins s σ H σD S ex Kt x y xv yv v u tk T dx dy rx ry ⟨a, ea, hi, q⟩
  have q : ∃ c a ob, hasM tb S nm x c ∧ y = .ref a ∧ S a = some ob ∧ ob.cn = some c ∧ callO fi orc (c, some nm) [x, y] S Kt fun c fs S => ex c fs σD S := by
    unfold ownO at q
    rcases hn with h | h | h <;> subst h
    · rw [if_neg (by decide), if_neg (by decide), if_neg (by decide), if_neg (by decide), if_pos (by decide)] at q; exact q
    · rw [if_neg (by decide), if_neg (by decide), if_neg (by decide), if_neg (by decide), if_pos (by decide)] at q; exact q
    · rw [if_neg (by decide), if_neg (by decide), if_neg (by decide), if_neg (by decide), if_pos (by decide)] at q; exact q
  obtain ⟨c, b, ob, hm, ey, hb, hcb, q⟩ := q
  obtain ⟨a', C, ox, od, ce, e, hce, hme, hC, CO, J⟩ := hasM_at W T hm
  obtain ⟨C', oy, od', hC', J', _⟩ := inst_at T hb hcb
  rw [hC] at hC'; cases hC'
  subst e ey
  have dx0 := dx
  have dy0 := dy
  unfold DRel at dx dy; subst dx dy
  obtain rfl : v = Value.ref a' := rx
  obtain rfl : u = Value.ref b := ry
  have M := CO.me _ hme
  refine binop_K T.I.kIn J J' (P.hm c ce C hce hC) (by rw [hd]; exact M.at_) M.fn ?_
  refine thn (cd_orc O hr (c, some nm) pins s σ H σD S ex Kt _ [.ref a', .ref b] [.ref a', .ref b] tk T (.cons dx0 (.one dy0)) (.cons rfl (.cons rfl .nil)) q) fun w s' z => ?_
  obtain ⟨z1, H', d, S', I', rz, r⟩ := z
  exact SlX.cmpback rz ⟨z1, H', d, S', I', rz, r⟩
theorem own_addi (W : TbOk X fa tb) (P : OpsOk X fa tb) (O : OrcOk X k fa fi orc) (hr : RoomG k X.A) : OpD X (binaryOp .Add) (ownR (ownO tb fi orc) "int __add__") := by
  intro pins s σ H σD S ex Kt x y xv yv v u tk T dx dy rx ry ⟨a, ea, hi, q⟩
  have q : ∃ c i, hasM tb S "__add__" x c ∧ y = .int i ∧ callO fi orc (c, some "__add__") [x, y] S Kt fun c fs S => ex c fs σD S := by
    unfold ownO at q
    rw [if_neg (by decide), if_neg (by decide), if_neg (by decide), if_neg (by decide), if_neg (by decide), if_pos rfl] at q
    exact q
  obtain ⟨c, i, hm, ey, q⟩ := q
  obtain ⟨a', C, ox, od, ce, e, hce, hme, hC, CO, J⟩ := hasM_at W T hm
  subst e ey
  have dx0 := dx
  have dy0 := dy
  unfold DRel at dx dy; subst dx dy
  obtain rfl : v = Value.ref a' := rx
  have ry0 := ry
  obtain ⟨t, rfl⟩ := ry
  have M := CO.me _ hme
  refine binop_Ki T.I.kIn J (P.hm c ce C hce hC) M.at_ (P.rad c ce C hce hC hme) (P.nf c ce C (.b "int") (.type "int") hce hC (by simp [okT]) rfl) M.fn ?_
  refine thn (cd_orc O hr (c, some "__add__") pins s σ H σD S ex Kt _ [.ref a', .int i] [.ref a', .int i t] tk T (.cons dx0 (.one dy0)) (.cons rfl (.cons ry0 .nil)) q) fun w s' z => ?_
  obtain ⟨z1, H', d, S', I', rz, r⟩ := z
  exact SlX.cmpback rz ⟨z1, H', d, S', I', rz, r⟩
theorem own_tru (W : TbOk X fa tb) (O : OrcOk X k fa fi orc) (hr : RoomG k X.A) : TruD X (fun x S K E => ∃ a, x = .ref a ∧ isIns (S a) = true ∧ ownT tb fi orc x S K E) := by
  intro pins s σ H σD S ex Kt x xv v tk T dx rx ⟨a, ea, hi, c, hm, q⟩
  obtain ⟨a', C, ox, od, ce, e, hce, hme, hC, CO, J⟩ := hasM_at W T hm
  subst e
  have dx0 := dx
  unfold DRel at dx; subst dx
  obtain rfl : v = Value.ref a' := rx
  obtain ⟨m, hF⟩ := T.I.fr
  have M := CO.me _ hme
  refine PySem.W.truthy_K hF T.I.ok.mod.kin J M.at_ M.fn ?_
  refine thn (cd_orc O hr (c, some "__bool__") pins s σ H σD S ex (kB Kt) _ [.ref a'] [.ref a'] tk T (.one dx0) (.cons rfl .nil) q) fun w s' z => ?_
  obtain ⟨z1, H', d, S', I', rz, x, dz, m, b, eb, kq⟩ := z
  subst eb
  unfold DRel at dz; subst dz
  cases rz
  exact ⟨H', S', I', x, m, kq⟩
end
end DL

set_option Elab.async false
set_option linter.all false
set_option maxRecDepth 100000
set_option maxHeartbeats 4000000
namespace DL
open PySem PySem.Spec PyProof.Rows L2

abbrev inX (X : Cx) : Cx := { X with A := X.A.in1 }
theorem ok_in {X : Cx} (ok : X.Ok) : (inX X).Ok := ⟨ok.mod, ok.kind, ok.glob, ok.blt, ok.above, ok.inj, ok.has, ok.cab, ok.hd, ok.frames, ok.stk, ok.exf, ok.bs, ok.bsz, ok.noex, ok.exfs, ok.funs, ok.frf⟩
theorem ok_out {X : Cx} (ok : (inX X).Ok) : X.Ok := ⟨ok.mod, ok.kind, ok.glob, ok.blt, ok.above, ok.inj, ok.has, ok.cab, ok.hd, ok.frames, ok.stk, ok.exf, ok.bs, ok.bsz, ok.noex, ok.exfs, ok.funs, ok.frf⟩
section
variable {X : Cx} {pins : List (Addr × Obj)} {σ : VSt} {H : Hp} {s : Shared} {σD : DSt} {S : Sto} {ex : DXs}
theorem inv_in (I : Inv X pins σ H s) : Inv (inX X) pins σ H s := ⟨ok_in I.ok, I.os, I.bare, I.base, I.loc, I.cell, I.free, I.freeC, I.pin, I.hok, I.len⟩
theorem inv_out (I : Inv (inX X) pins σ H s) : Inv X pins σ H s := ⟨ok_out I.ok, I.os, I.bare, I.base, I.loc, I.cell, I.free, I.freeC, I.pin, I.hok, I.len⟩
theorem takes_in {W : WX} (tk : Takes X W) : Takes (inX X) W := fun u s' ⟨a, B, sI, pins, σ, H, cls, d, e, I, nb, up, sky, na, os, ag, w⟩ => tk u s' ⟨a, B, sI, pins, σ, H, cls, d, e, inv_out I, nb, up, sky, na, os, ag, w⟩
theorem sit_in (T : Sit X pins σ H s σD S) : Sit (inX X) pins σ H s σD S := ⟨inv_in T.I, T.r, T.m⟩
theorem eq_out {Kt : DK} {u : Value} {s' : Shared} (h : EQ (inX X) pins σ H Kt u s') : EQ X pins σ H Kt u s' := let ⟨v, H', d, S', I, r⟩ := h; ⟨v, H', d, S', inv_out I, r⟩
theorem tq_out {Kt : Bool → Sto → Prop} {b : Bool} {s' : Shared} (h : TQ (inX X) pins σ H Kt b s') : TQ X pins σ H Kt b s' := let ⟨H', S', I, r⟩ := h; ⟨H', S', inv_out I, r⟩
end

section
variable {prog : Program} {w : World} {A : Around} {E : Value → Shared → Prop} {s : Shared}
theorem meets_bool (x : Value) : MeetsIn prog w (Builtin.«bool.__new__» ⟨[.type "bool", x], []⟩) (fun A R s => wpAny (model prog w) A.in1 (truthy x) (fun b s' => R (.ok (.ret (.bool b))) s') (fun e s' => R (.error e) s') s) := by
  intro A R s h
  obtain ⟨hp, g, d, tk, os⟩ := s
  have f1 := F.conv_sub_bool
  unfold Builtin.«bool.__new__»
  repeat (any_goals (first
    | assumption
    | (with_reducible refine wpAny_bind (m := truthy x) (wpAny_mono h (fun b s' hq => ?_) fun _ _ e => e))
    | wp_step))
theorem call_bool_x {x : Value} {Q : Value → Shared → Prop} (h : wpAny (model prog w) A.in1.in1 (truthy x) (fun b s' => Q (.bool b) s') E s) : wpAny (model prog w) A (call (.type "bool") [x]) Q E s :=
  callType_newIn F.called_bool F.newNe_bool (F.typeCall_bool_1 x) (F.newCall_bool_1 x) (fun obj => F.args_object_init_2 obj x) F.entry_bool_new (meets_bool x) (by
    refine wpAny_mono h (fun b s' hq => ?_) fun _ _ e => e
    exact ⟨PySem.typeIs_bool _ _, hq⟩)
end
section
variable {X : Cx}
def boolXD (r : D → Sto → (Bool → Sto → Prop) → DX → Prop) : DB := fun ds S K E => ∃ x, ds = [x] ∧ r x S (fun b S' => K (.bl b) S') E
theorem cd_boolX {r : D → Sto → (Bool → Sto → Prop) → DX → Prop} (hr : TruD (inX (inX X)) r) : CallD X (.type "bool") (boolXD r) := fun pins s σ H σD S ex Kt ds vs us tk T dr rv ⟨x, e, q⟩ => by
  subst e
  obtain ⟨v, rfl, d1⟩ := drels1 dr
  obtain ⟨u, rfl, r1⟩ := rv.one
  refine call_bool_x (thn (hr pins s σ H σD S ex _ x v u (takes_in (takes_in tk)) (sit_in (sit_in T)) d1 r1 q) fun b s' z => ?_)
  obtain ⟨H', S', I', x', m, k⟩ := tq_out (tq_out z)
  exact ⟨.bl b, H', .bl b, S', I', rfl, x', by simp [DRel], m, k⟩
end
section
open PySem.W
variable {M : Model} {A : Around} {E : Value → Shared → Prop} {s : Shared} {K : Frag} {env : Env} {pos : Pos} {x : Addr} {Q : Value → Shared → Prop}
/-- an instance stands there -/
def InstS (x : Addr) (h : Heap) : Prop := ∃ o, h.get? x = some o ∧ o.data = .plain
theorem inst_callWith {args : List (Bool × Sem Value)} (hp : args.any (·.1) = false) (h : wpAny M A (evalArgs (.ref x) true args []) (fun a s₁ => InstS x s₁.heap ∧ wpAny M A (call (.ref x) ([] ++ a.pos) a.kw) Q E s₁) E s) :
    wpAny M A (callWith pos (.ref x) [] args []) Q E s := by
  unfold callWith
  refine wpAny_bind (wpAny_holding (wpAny_mono h (fun a s₁ hs => wpAny_bind (wpAny_standAt ?_)) fun _ _ e => e))
  obtain ⟨⟨o, ho, hd⟩, hs⟩ := hs
  have L : Looks M s₁.heap (keeperOf (.ref x)) .caller := (Looks.ld (part := none) ho).andThen (by simp only [hd]; exact .now)
  have hp2 : (args.any (·.1) || ([] : List (Option Str × Sem Value)).any (·.1.isNone)) = false := by rw [hp]; rfl
  simp only [hp2]
  refine wpAny_bind (L.here ?_)
  have fin : ∀ {t : Sem Value}, wpAny M A t Q E s₁ → wpAny M A (t >>= fun r => holding [r] point >>= fun _ => pure r) Q E s₁ :=
    fun z => wpAny_bind (wpAny_mono z (fun r s₂ hr => wpAny_bind (wpAny_holding (wpAny_point (wpAny_pure hr)))) fun _ _ e => e)
  exact fin (wpAny_operateT hs)
end
section
variable {X : Cx} {k : Nat} {fa : Key → Addr} {fi : Key → Option FI} {orc : Orc} {tb : Tb}
/-- f(..), f an instance -/
def dCallI (tb : Tb) (fi : Key → Option FI) (orc : Orc) (te : DE) (t : DA) : DE := fun σ S K E => te σ S (fun o S1 => ∃ c, hasM tb S1 "__call__" o c ∧ t σ S1 (fun xs S2 => hasM tb S2 "__call__" o c ∧ callO fi orc (c, some "__call__") (o :: xs) S2 K E) E) E
theorem cd_inst (W : TbOk X fa tb) (P : OpsOk X fa tb) (O : OrcOk X k fa fi orc) (hr : RoomG k X.A) {a : Addr} {c : Str} : CallD X (.ref a) (fun xs S K E => hasM tb S "__call__" (.ref a) c ∧ callO fi orc (c, some "__call__") (.ref a :: xs) S K E) := fun pins s σ H σD S ex Kt xs vs us tk T dr rv ⟨hm, q⟩ => by
  obtain ⟨a', ob, ce, e, h1, h2, hce, hme⟩ := hm
  cases e
  obtain ⟨C, hC, CO⟩ := W c ce hce
  obtain ⟨C', ox, od, hC', J, _, hpl⟩ := inst_pl T h1 h2
  rw [hC] at hC'; cases hC'
  have M := CO.me _ hme
  obtain ⟨p, hp, l1, l2, q⟩ := q
  obtain ⟨fd, F, B⟩ := O _ p hp
  obtain ⟨dvs, ds, hb, hd, hdd⟩ := B (p.ps.length - (D.ref a :: xs).length) (by omega)
  have dr2 := (DRels.cons (by simp [DRel] : DRel (gp X) H (.ref a) (.ref a)) dr).append (hdd H)
  have l := dr2.length
  have r2 : Vals (V.ref a :: vs ++ dvs) (Value.ref a :: us ++ ds) := .cons rfl (rv.append hd)
  have hl : ((D.ref a :: xs) ++ p.dfl.drop (p.dfl.length - (p.ps.length - (D.ref a :: xs).length))).length = p.ps.length := by
    rw [List.length_append, List.length_drop]; omega
  have hl2 : (Value.ref a :: us ++ ds).length = p.ps.length := by rw [← r2.length, ← l]; exact hl
  have hsp : spD (gp X) p.ps.length (orc (c, some "__call__")) (V.ref a :: vs ++ dvs) H (fun v H' => ∃ d S', Ext X.K H H' ∧ DRel (gp X) H' d v ∧ Sim (gp X) H' S' ∧ Kt d S') (WE (lX X H ex) σ) :=
    ⟨by rw [← l]; exact hl, _, S, Kt, _, dr2, T.m, q, fun v H' d S' x dr m k => ⟨d, S', x, dr, m, k⟩, fun c C fs dd' H' S' hc xr m x h => wish T hc xr m x h⟩
  refine wpAny_call (PySem.W.kco_code T.I.kIn J hpl M.at_ M.fn (P.fn c ce hce _ hme) (codeAny_mono (F.run X.A X.stack s H ⟨.ref a :: us, []⟩ (.ref a :: us ++ ds) (.ref a :: vs ++ dvs) _ (WE (lX X H ex) σ) hr T.I.env0 (hb s (.ref a :: us) T.I.kIn hl2) r2 hsp) fun r s' hq => ?_))
  cases r with
  | error e => exact passAt tk σ pins H s e s' T.I hq
  | ok fl =>
    cases fl with
    | ret u =>
      obtain ⟨v, H', I', rv', d, S', x, dr', m', k'⟩ := T.I.after hq
      exact ⟨v, H', d, S', I', rv', x, dr', m', k'⟩
    | next => exact False.elim hq
    | brk => exact False.elim hq
    | cont => exact False.elim hq
theorem qe_callI (W : TbOk X fa tb) (P : OpsOk X fa tb) (O : OrcOk X k fa fi orc) (hr : RoomG k X.A) {x : Str} {e : Expr} {es : List Expr} {te : DE} {t : DA} {p pos : Pos} (he : QE X (.Name x p) te) (ha : QA X (e :: es) t) (hst : (e :: es).all noSt = true) :
    QE X (.Call (.Name x p) (e :: es) [] pos) (dCallI tb fi orc te t) := fun pins s σ H σD S ex Kt tk T h => by
  have hp := star_plain (env := X.env) (pos := pos) hst
  simp only [List.all_cons, Bool.and_eq_true] at hst
  refine wpAny_Call_Name_kw (thn (he pins s σ H σD S ex _ tk T h) fun u s1 ⟨v, H1, d, S1, I1, r1, x1, d1, m1, c, hm, q⟩ => ?_)
  obtain ⟨a, ob, ce, e, h1, h2, hce, hme⟩ := hm
  subst e
  unfold DRel at d1; subst d1
  obtain rfl : u = Value.ref a := r1
  have hA := ha pos pins s1 σ H1 σD S1 ex _ (tk.up x1) (T.on I1 x1 m1) q
  have e0 : backTo pos (starEach (e :: es) X.env) = (false, eval e X.env) :: backTo pos (starEach es X.env) := by rw [star_cons hst.1]; rfl
  rw [e0] at hA hp ⊢
  refine inst_callWith hp (Calls.evalArgs_plain (thn hA fun us s2 ⟨vs, H2, ds, S2, I2, r2, x2, d2, m2, hm2, q2⟩ => ⟨?_, ?_⟩))
  · obtain ⟨a', ob', ce', e', g1, g2, _⟩ := hm2
    cases e'
    obtain ⟨C, ox, od, _, J, _, hpl⟩ := inst_pl (T.on I2 (x1.trans x2) m2) g1 g2
    exact ⟨ox, J.at_, hpl⟩
  · exact thn (cd_inst W P O hr (c := c) pins s2 σ H2 σD S2 ex Kt ds vs us (tk.up (x1.trans x2)) (T.on I2 (x1.trans x2) m2) d2 r2 ⟨hm2, q2⟩) fun _ _ z => z.up (x1.trans x2)
end
end DL

set_option Elab.async false
set_option linter.all false
set_option maxRecDepth 100000
set_option maxHeartbeats 4000000
namespace DL
open PySem PySem.Spec PyProof.Rows L2

/-- own errors with one field -/
def ExOk (X : Cx) (et : Str → Option Str) : Prop := ∀ cn f, et cn = some f → ∃ C fI, PySem.ExW.ExT X.prog X.K X.mg cn f C fI
theorem relO_one {f : Str} {v : V} {u : Value} (r : RelV v u) (g : Str) : RelO (List.lookup g [(f, v)]) (if g = f then some u else none) := by
  by_cases h : g = f
  · subst h
    rw [if_pos rfl, List.lookup_cons_self]
    exact r
  · rw [if_neg h]
    have h' : (g == f) = false := by simpa using h
    have e : List.lookup g [(f, v)] = none := by simp [List.lookup, h']
    rw [e]
    trivial
section
variable {X : Cx} {et : Str → Option Str} {k : Nat}
def sRaise (cn f : Str) (t : DA) : DS := fun D σ S => t σ S (fun vs S1 => ∃ v, vs = [v] ∧ D.ex cn [(f, v)] σ S1) (eX D σ)
theorem qs_raise (E : ExOk X et) (hc : X.calm = true) (hr : RoomG k X.A) {cn f : Str} (he : et cn = some f) {a : Expr} {t : DA} {p pos pos2 : Pos} (ha : QA X [a] t) (hst : noSt a = true) (hg : Gl X cn) (hdb : (cn == ("__debug__" : Str)) = false) :
    QS X (.Raise (some (.Call (.Name cn p) [a] [] pos)) none pos2) (sRaise cn f t) := fun pins s σ H σD S D tk T h => by
  obtain ⟨C, fI, W⟩ := E cn f he
  show wpAny _ _ (do standAt pos2; raiseStmt X.env (some (do let v ← eval (.Call (.Name cn p) [a] [] pos) X.env; standAt pos2; pure v)) none) _ _ _
  refine wpAny_bind (wpAny_standAt (raise_made (T.I.ok.hd hc) (wpAny_bind ?_)))
  refine wpAny_Call_Name_kw (ld_glob T.I hg W.gC ?_ hdb)
  refine PySem.W.callWith_K (h₀ := X.base) T.I.ok.mod.kin W.kC (thn (ha pos pins s σ H σD S D.ex _ tk T h) fun us s1 ⟨vs, H1, ds, S1, I1, r1, x1, d1, m1, v, e, q⟩ => ?_) (star_cons hst) rfl
  subst e
  obtain ⟨w, rfl, dv⟩ := drels1 d1
  obtain ⟨v', rfl, rv⟩ := r1.one
  refine ⟨I1.kIn, ?_⟩
  show wpAny _ _ (call (.ref C) [v']) _ _ _
  obtain ⟨mb, hb, hbs⟩ := I1.mod.blt
  have hlim := I1.nolimit
  have ng : s1.heap.Ns mainGlobals X.mg := I1.mod.glob.keeps I1.bk
  have nb : s1.heap.Ns builtinsNs mb := hb.keeps I1.bk
  obtain ⟨hp, g, dr, tk1, os⟩ := s1
  refine wpAny_call (PySem.ExW.ex_made W I1.kIn hlim ng nb (hbs "super" (by decide)) (by have := hr.dp; omega) fun h' tk' e d M => ?_)
  obtain ⟨oe, fv, hoe, hcl, hd, hdat, h1⟩ := M.obj
  have hns := M.ns
  obtain ⟨G', g1, g2⟩ := restrict h' fun b => decide (b ≠ e)
  have gk : ∀ b, b ≠ e → G'.get? b = h'.get? b := fun b hb => g1 b (decide_eq_true hb)
  have ge : G'.get? e = none := g2 e (by simp)
  have old : ∀ b o, hp.get? b = some o → G'.get? b = some o := fun b o q => (gk b (Nat.ne_of_lt (Nat.lt_of_lt_of_le (Heap.lt_size q) M.new))).trans (M.keep b o q)
  have ob : ObjOk X.prog X.w (upd H1 d (.xd [(f, w)])) G' d (.xd [(f, w)]) := ⟨_, hns.at (fun o q => (gk d M.dne).trans q), fun y => relO_one rv y⟩
  have fd : H1 d = none := I1.hok.fresh M.dbig
  have J : Inv X pins σ (upd H1 d (.xd [(f, w)])) ⟨G', g, dr, tk', os⟩ := I1.laid (t' := tk') old M.dbig ob
  have keep : ∀ b o, G'.get? b = some o → h'.get? b = some o := fun b o q => by
    by_cases hb : b = e
    · rw [hb, ge] at q; cases q
    · exact (gk b hb).symm.trans q
  have na : (upd H1 d (.xd [(f, w)])) e = none := by rw [upd_ne (Ne.symm M.dne)]; exact I1.hok.fresh M.new
  have x2 : Ext X.K H1 (upd H1 d (.xd [(f, w)])) := Ext.new fd
  obtain ⟨q1, q2⟩ := raises_own W.exC W.tyC (model X.prog X.w) h' (J.kIn.keeps keep)
  have T2 : Sit X pins σ (upd H1 d (.xd [(f, w)])) ⟨G', g, dr, tk', os⟩ σD S1 := ⟨J, T.r.ext (x1.trans x2), m1.hid fd⟩
  have W2 : lX X H D.ex (.ref C) (some d) σ (upd H1 d (.xd [(f, w)])) := ⟨cn, C, [(f, v)], σD, S1, rfl, W.gC, ⟨_, upd_same, w, [], rfl, DRel.ext x2 _ dv, rfl⟩, T2.r, T2.m, x1.trans x2, q⟩
  exact wpAny_bind (wpAny_standAt (wpAny_pure ⟨e, oe, fv, .ref C, rfl, hoe, hcl, hdat, h1, q1, q2, tk _ _ (XE.new J keep ge hoe ⟨hcl, hd⟩ hdat h1 na rfl I1.bare W2)⟩))
end

def vS (X : Cx) (ex : DXs) (t : DS) : TS := fun D σ H => ∃ σD S DD, DD.ex = ex ∧ SRel (gp X) H σD σ ∧ Sim (gp X) H S ∧ t DD σD S ∧
  (∀ σ' H' σD' S', Ext X.K H H' → SRel (gp X) H' σD' σ' → Sim (gp X) H' S' → DD.nx σD' S' → D.nx σ' H') ∧ (∀ v H' d S', Ext X.K H H' → DRel (gp X) H' d v → Sim (gp X) H' S' → DD.rt d S' → D.rt v H') ∧
  (∀ σ' H' σD' S', Ext X.K H H' → SRel (gp X) H' σD' σ' → Sim (gp X) H' S' → DD.bk σD' S' → D.bk σ' H') ∧ (∀ σ' H' σD' S', Ext X.K H H' → SRel (gp X) H' σD' σ' → Sim (gp X) H' S' → DD.ct σD' S' → D.ct σ' H')
theorem pss_of {X : Cx} {body : List Stmt} {t : DS} {ex : DXs} (h : QSs X body t) : PSs X body (fun D σ H => Takes X (lX X H ex) ∧ vS X ex t D σ H) := ⟨fun pins s σ H D I ⟨tk, σD, S, DD, e, r, m, q, k1, k2, k3, k4⟩ => by
  subst e
  refine thn (h pins s σ H σD S DD tk ⟨I, r, m⟩ q) fun f s1 z => ?_
  cases f with
  | next => obtain ⟨σ', H', σD', S', T', x', q'⟩ := z; exact ⟨σ', H', T'.I, k1 _ _ _ _ x' T'.r T'.m q'⟩
  | brk => obtain ⟨σ', H', σD', S', T', x', q'⟩ := z; exact ⟨σ', H', T'.I, k3 _ _ _ _ x' T'.r T'.m q'⟩
  | cont => obtain ⟨σ', H', σD', S', T', x', q'⟩ := z; exact ⟨σ', H', T'.I, k4 _ _ _ _ x' T'.r T'.m q'⟩
  | ret u => obtain ⟨v, σ', H', d, S', I', r', x', dr, m', q'⟩ := z; exact ⟨v, σ', H', I', r', k2 _ _ _ _ x' dr m' q'⟩⟩
/-- the wished ends over trees, for the hand layer -/
def vEnds (X : Cx) (H : Hp) (D : DKs) : Ends where
  nx := fun σ' H' => ∃ σD' S', Ext X.K H H' ∧ SRel (gp X) H' σD' σ' ∧ Sim (gp X) H' S' ∧ D.nx σD' S'
  rt := fun v H' => ∃ d S', Ext X.K H H' ∧ DRel (gp X) H' d v ∧ Sim (gp X) H' S' ∧ D.rt d S'
  bk := fun σ' H' => ∃ σD' S', Ext X.K H H' ∧ SRel (gp X) H' σD' σ' ∧ Sim (gp X) H' S' ∧ D.bk σD' S'
  ct := fun σ' H' => ∃ σD' S', Ext X.K H H' ∧ SRel (gp X) H' σD' σ' ∧ Sim (gp X) H' S' ∧ D.ct σD' S'
theorem sq_of {X : Cx} {pins : List (Addr × Obj)} {H : Hp} {D : DKs} {f : Flow} {s1 : Shared} (z : SP X pins (vEnds X H D) f s1) : SQ X pins H D f s1 := by
  cases f with
  | next => obtain ⟨σ', H', I', σD', S', x', r', m', q'⟩ := z; exact ⟨σ', H', σD', S', ⟨I', r', m'⟩, x', q'⟩
  | brk => obtain ⟨σ', H', I', σD', S', x', r', m', q'⟩ := z; exact ⟨σ', H', σD', S', ⟨I', r', m'⟩, x', q'⟩
  | cont => obtain ⟨σ', H', I', σD', S', x', r', m', q'⟩ := z; exact ⟨σ', H', σD', S', ⟨I', r', m'⟩, x', q'⟩
  | ret u => obtain ⟨v, σ', H', I', r', d, S', x', dr, m', q'⟩ := z; exact ⟨v, σ', H', d, S', I', r', x', dr, m', q'⟩

/-- the caught error: where it stands, its class, its dict -/
abbrev Cur := Addr × Str × Option Addr
def noX : DXs := fun _ _ _ _ => False
theorem takes_noX {X Y : Cx} {H₀ : Hp} : Takes X (lX Y H₀ noX) := fun u s' ⟨a, B, sI, pins, σ, H, cls, d, e, I, nb, up, sky, na, os, ag, w⟩ => by
  obtain ⟨_, _, _, _, _, _, _, _, _, _, _, w⟩ := w
  exact w.elim
/-- what the running suite's error must be -/
def CurOk (X : Cx) (cu : Cur) : Prop := ∃ oe C, (cu.1, oe) ∈ X.pn ∧ X.mg cu.2.1 = some (.ref C) ∧ Zc (.ref C) cu.2.2 oe ∧ ∃ vs, oe.data = .fields vs
def SubOk (X : Cx) (sx : Str → Str → Option Bool) : Prop := ∀ c c' b, sx c c' = some b → ∀ C C', X.mg c = some (.ref C) → X.mg c' = some (.ref C') → PySem.W.exmOne X.K (.ref C) (.ref C') = some b
/-- the store with the caught error's fields -/
def caught (S : Sto) (d : Option Addr) (fs : List (Str × D)) : Sto := match d with
  | some dd => sup S dd (.exd fs)
  | none => S
/-- an except suite, the error in the slot i -/
def suiteD (i : Nat) (td : Cur → DS) (D : DKs) : DXs := fun cls fs σ S => ∀ a d, S a = none → (d = none → fs = []) → (∀ dd, d = some dd → ∀ o, S dd = some o → ∃ fs', o = .exd fs') →
  td (a, cls, d) { nx := fun σ2 S2 => D.nx (σ2.set i none) S2, rt := D.rt, bk := fun σ2 S2 => D.bk (σ2.set i none) S2, ct := fun σ2 S2 => D.ct (σ2.set i none) S2, ex := noX } (σ.set i (some (.ref a))) (caught S d fs)
/-- .. without a name -/
def suite0D (td : Cur → DS) (D : DKs) : DXs := fun cls fs σ S => ∀ a d, S a = none → (d = none → fs = []) → (∀ dd, d = some dd → ∀ o, S dd = some o → ∃ fs', o = .exd fs') →
  td (a, cls, d) { nx := D.nx, rt := D.rt, bk := D.bk, ct := D.ct, ex := noX } σ (caught S d fs)
theorem xrel_none {g : GP} {H : Hp} {d : Option Addr} {fs : List (Str × D)} (h : XRel g H d fs) : d = none → fs = [] := fun e => by
  subst e; exact h
theorem sim_caught {g : GP} {H : Hp} {S : Sto} {d : Option Addr} {fs : List (Str × D)} (m : Sim g H S) (h : XRel g H d fs) : Sim g H (caught S d fs) ∧ ∀ dd, d = some dd → ∀ o, S dd = some o → ∃ fs', o = .exd fs' := by
  cases d with
  | none => exact ⟨m, fun _ e => by cases e⟩
  | some dd =>
    obtain ⟨vs, h1, h2⟩ := h
    refine ⟨fun a o e => ?_, fun dd' e o ho => ?_⟩
    · by_cases ha : a = dd
      · subst ha
        rw [show caught S (some a) fs = sup S a (.exd fs) from rfl, sup_same] at e
        cases e
        exact ⟨vs, h1, h2⟩
      · rw [show caught S (some dd) fs = sup S dd (.exd fs) from rfl, sup_ne ha] at e
        exact m a o e
    · cases e
      have q := m dd o ho
      cases o with
      | lst ds => obtain ⟨ws, q, _⟩ := q; rw [h1] at q; cases q
      | ins c fs => obtain ⟨C, dx, ws, _, q, _⟩ := q; rw [h1] at q; cases q
      | slo c ds =>
        obtain ⟨C, dx, ws, _, ⟨_, q⟩, _⟩ := q
        rcases q with ⟨q, _⟩ | ⟨q, _⟩ <;> rw [h1] at q <;> cases q
      | dic kvs => obtain ⟨es, ep, q, _⟩ := q; rw [h1] at q; cases q
      | exd fs' => exact ⟨fs', rfl⟩
theorem sim_none {g : GP} {H : Hp} {S : Sto} {a : Addr} (m : Sim g H S) (h : H a = none) : S a = none := m.fresh h
section
variable {X : Cx} {sx : Str → Str → Option Bool} {body suite : List Stmt} {b₀ : Stmt} {tb : DS} {td : Cur → DS} {c n : Str} {i : Nat} {np pos pos' : Pos}
/-- try: body, except c as n: suite -/
def sTryAs (sx : Str → Str → Option Bool) (c : Str) (i : Nat) (tb : DS) (td : Cur → DS) : DS := fun D σ S => tb { D with ex := fun cls fs σ' S' => ∃ b, sx cls c = some b ∧ if b = true then suiteD i td D cls fs σ' S' else D.ex cls fs σ' S' } σ S
theorem qs_tryAs (Sx : SubOk X sx) {C : Addr} (hs : X.stack = X.env :: X.outer) (hf : X.env.frame = some X.env.locals) (hN : X.N.Nodup) (hi : X.N[i]? = some n) (hln : X.env.kindOf n = some .local) (hg : Gl X c) (hdb : (c == ("__debug__" : Str)) = false) (hC : X.mg c = some (.ref C))
    (hb : ∀ (pn : List (Addr × Obj)) (xe : Value → Shared → Prop), PassesOwn (model X.prog X.w) X.A X.env xe → QSs (X.tr pn xe) body tb)
    (hsu : ∀ (cu : Cur) (oe : Obj) (pn : List (Addr × Obj)), CurOk (X.suite cu.1 ((cu.1, oe) :: pn)) cu → QSs (X.suite cu.1 ((cu.1, oe) :: pn)) (b₀ :: suite) (td cu)) :
    QS X (.Try body [.ExceptHandler (some (.Name c np)) (some n) (b₀ :: suite) pos'] [] [] pos) (sTryAs sx c i tb td) := fun pins s σ H σD S D tk T h => by
  refine thn ((ps_try_as (X := X) (c := .ref C) (i := i) (Wout := lX X H D.ex) (tb := fun W D' σ H => ∃ ex, (∀ cls d σ' H', lX X H ex cls d σ' H' → W cls d σ' H') ∧ vS X ex tb D' σ H)
    (ts := fun a cls d D' σ H => ∃ cn Cn, cls = .ref Cn ∧ X.mg cn = some (.ref Cn) ∧ vS X noX (td (a, cn, d)) D' σ H) hs hf hN hi hln ⟨hg, hdb, .inl hC⟩ tk (fun W pn xe tkW pas => ?_) (fun a oe cls d pn hz hd => ?_)).run pins s σ H (vEnds X H D) T.I ?_) fun f s1 z => sq_of z
  · refine ⟨fun pins s σ H D' I ⟨ex, h1, h2⟩ => ?_⟩
    exact (pss_of (X := X.tr pn xe) (ex := ex) (hb pn xe pas)).run pins s σ H D' I ⟨tkW.imp h1, h2⟩
  · refine ⟨fun pins s σ H D' I ⟨cn, Cn, e1, e2, q⟩ => ?_⟩
    subst e1
    exact (pss_of (X := X.suite a ((a, oe) :: pn)) (ex := noX) (hsu (a, cn, d) oe pn ⟨oe, Cn, List.mem_cons_self, e2, hz, hd⟩)).run pins s σ H D' I ⟨takes_noX, q⟩
  · refine ⟨_, fun cls d σ' H' w => ?_, σD, S, { D with ex := fun cls fs σ' S' => ∃ b, sx cls c = some b ∧ if b = true then suiteD i td D cls fs σ' S' else D.ex cls fs σ' S' }, rfl, T.r, T.m, h, fun σ' H' σD' S' x r m q => ⟨σD', S', x, r, m, q⟩, fun v H' d S' x r m q => ⟨d, S', x, r, m, q⟩, fun σ' H' σD' S' x r m q => ⟨σD', S', x, r, m, q⟩, fun σ' H' σD' S' x r m q => ⟨σD', S', x, r, m, q⟩⟩
    obtain ⟨cn, Cn, fs, σD1, S1, e1, e2, e3, e4, e5, e6, b, hb1, q⟩ := w
    subst e1
    refine ⟨b, Sx cn c b hb1 Cn C e2 hC, fun hbt a na => ?_, fun hbf => ?_⟩
    · rw [if_pos hbt] at q
      obtain ⟨m2, hd2⟩ := sim_caught e5 e3
      refine ⟨cn, Cn, rfl, e2, σD1.set i (some (.ref a)), caught S1 d fs, _, rfl, e4.set (by simp [DRel]), m2, q a d (e5.fresh na) (xrel_none e3) hd2, fun σ3 H3 σD3 S3 x r m q => ⟨σD3.set i none, S3, e6.trans x, r.unset, m, q⟩, fun v H3 d3 S3 x r m q => ⟨d3, S3, e6.trans x, r, m, q⟩, fun σ3 H3 σD3 S3 x r m q => ⟨σD3.set i none, S3, e6.trans x, r.unset, m, q⟩, fun σ3 H3 σD3 S3 x r m q => ⟨σD3.set i none, S3, e6.trans x, r.unset, m, q⟩⟩
    · subst hbf
      exact ⟨cn, Cn, fs, σD1, S1, rfl, e2, e3, e4, e5, e6, by simpa using q⟩
/-- several clauses without names -/
def manyD (sx : Str → Str → Option Bool) (D : DKs) : List (Str × (Cur → DS)) → DXs
  | [] => D.ex
  | (c, td) :: r => fun cls fs σ' S' => ∃ b, sx cls c = some b ∧ if b = true then suite0D td D cls fs σ' S' else manyD sx D r cls fs σ' S'
def sTryMany (sx : Str → Str → Option Bool) (tb : DS) (l : List (Str × (Cur → DS))) : DS := fun D σ S => tb { D with ex := manyD sx D l } σ S
/-- the clauses -/
inductive HdsD (X : Cx) : List ExceptHandler → List (Str × (Cur → DS)) → Prop
  | nil : HdsD X [] []
  | cons {c : Str} {C : Addr} {td : Cur → DS} {b₀ : Stmt} {suite : List Stmt} {np pos' : Pos} {hds : List ExceptHandler} {l : List (Str × (Cur → DS))} (hg : Gl X c) (hdb : (c == ("__debug__" : Str)) = false) (hC : X.mg c = some (.ref C))
      (hsu : ∀ (cu : Cur) (oe : Obj) (pn : List (Addr × Obj)), CurOk (X.suite cu.1 ((cu.1, oe) :: pn)) cu → QSs (X.suite cu.1 ((cu.1, oe) :: pn)) (b₀ :: suite) (td cu)) (r : HdsD X hds l) :
      HdsD X (.ExceptHandler (some (.Name c np)) none (b₀ :: suite) pos' :: hds) ((c, td) :: l)
/-- .. for the hand layer -/
def hdV (X : Cx) (l : List (Str × (Cur → DS))) : List (Value × (Addr → Value → Option Addr → TS)) := l.map fun p => ((X.mg p.1).getD .none, fun a cls d D' σ H => ∃ cn Cn, cls = .ref Cn ∧ X.mg cn = some (.ref Cn) ∧ vS X noX (p.2 (a, cn, d)) D' σ H)
theorem HdsD.ok {X : Cx} : ∀ {hds : List ExceptHandler} {l : List (Str × (Cur → DS))}, HdsD X hds l → HdsOk X hds (hdV X l)
  | _, _, .nil => .nil
  | _, _, .cons (td := td) hg hdb hC hsu r => by
    refine .cons ⟨hg, hdb, .inl ?_⟩ (fun a oe cls d pn hz hd => ⟨fun pins s σ H D' I ⟨cn, Cn, e1, e2, q⟩ => ?_⟩) (HdsD.ok r)
    · dsimp only; rw [hC]; rfl
    · subst e1
      exact (pss_of (X := X.suite a ((a, oe) :: pn)) (ex := noX) (hsu (a, cn, d) oe pn ⟨oe, Cn, List.mem_cons_self, e2, hz, hd⟩)).run pins s σ H D' I ⟨takes_noX, q⟩
theorem many_ok (Sx : SubOk X sx) {H : Hp} {D : DKs} {cn : Str} {Cn : Addr} {fs : List (Str × DL.D)} {d : Option Addr} {σ' : VSt} {H' : Hp} {σD1 : DSt} {S1 : Sto} (e2 : X.mg cn = some (.ref Cn)) (e3 : XRel (gp X) H' d fs) (e4 : SRel (gp X) H' σD1 σ') (e5 : Sim (gp X) H' S1) (e6 : Ext X.K H H') :
    ∀ {hds : List ExceptHandler} {l : List (Str × (Cur → DS))}, HdsD X hds l → manyD sx D l cn fs σD1 S1 → wMany X.K (lX X H D.ex) (vEnds X H D) (hdV X l) (.ref Cn) d σ' H'
  | _, _, .nil, q => ⟨cn, Cn, fs, σD1, S1, rfl, e2, e3, e4, e5, e6, q⟩
  | _, _, .cons (c := c) (C := C) (td := td) hg hdb hC hsu r, q => by
    obtain ⟨b, hb1, q⟩ := q
    have eC : (X.mg c).getD .none = .ref C := by rw [hC]; rfl
    refine ⟨b, by dsimp only; rw [eC]; exact Sx cn c b hb1 Cn C e2 hC, fun hbt a na => ?_, fun hbf => ?_⟩
    · rw [if_pos hbt] at q
      obtain ⟨m2, hd2⟩ := sim_caught e5 e3
      exact ⟨cn, Cn, rfl, e2, σD1, caught S1 d fs, _, rfl, e4, m2, q a d (e5.fresh na) (xrel_none e3) hd2, fun σ3 H3 σD3 S3 x r m q => ⟨σD3, S3, e6.trans x, r, m, q⟩, fun v H3 d3 S3 x r m q => ⟨d3, S3, e6.trans x, r, m, q⟩, fun σ3 H3 σD3 S3 x r m q => ⟨σD3, S3, e6.trans x, r, m, q⟩, fun σ3 H3 σD3 S3 x r m q => ⟨σD3, S3, e6.trans x, r, m, q⟩⟩
    · subst hbf
      exact many_ok Sx e2 e3 e4 e5 e6 r (by simpa using q)
theorem qs_tryMany (Sx : SubOk X sx) (hs : X.stack = X.env :: X.outer) (hf : X.env.frame = some X.env.locals) {h₀ : ExceptHandler} {hds : List ExceptHandler} {l : List (Str × (Cur → DS))}
    (hb : ∀ (pn : List (Addr × Obj)) (xe : Value → Shared → Prop), PassesOwn (model X.prog X.w) X.A X.env xe → QSs (X.tr pn xe) body tb) (hh : HdsD X (h₀ :: hds) l) :
    QS X (.Try body (h₀ :: hds) [] [] pos) (sTryMany sx tb l) := fun pins s σ H σD S D tk T h => by
  refine thn ((ps_try_many (X := X) (l := hdV X l) (Wout := lX X H D.ex) (tb := fun W D' σ H => ∃ ex, (∀ cls d σ' H', lX X H ex cls d σ' H' → W cls d σ' H') ∧ vS X ex tb D' σ H) hs hf tk (fun W pn xe tkW pas => ?_) hh.ok).run pins s σ H (vEnds X H D) T.I ?_) fun f s1 z => sq_of z
  · refine ⟨fun pins s σ H D' I ⟨ex, h1, h2⟩ => ?_⟩
    exact (pss_of (X := X.tr pn xe) (ex := ex) (hb pn xe pas)).run pins s σ H D' I ⟨tkW.imp h1, h2⟩
  · refine ⟨_, fun cls d σ' H' w => ?_, σD, S, { D with ex := manyD sx D l }, rfl, T.r, T.m, h, fun σ' H' σD' S' x r m q => ⟨σD', S', x, r, m, q⟩, fun v H' d S' x r m q => ⟨d, S', x, r, m, q⟩, fun σ' H' σD' S' x r m q => ⟨σD', S', x, r, m, q⟩, fun σ' H' σD' S' x r m q => ⟨σD', S', x, r, m, q⟩⟩
    obtain ⟨cn, Cn, fs, σD1, S1, e1, e2, e3, e4, e5, e6, q⟩ := w
    subst e1
    exact many_ok Sx e2 e3 e4 e5 e6 hh q
end
end DL

set_option Elab.async false
set_option linter.all false
set_option maxRecDepth 100000
set_option maxHeartbeats 4000000
namespace DL
open PySem PySem.Spec PyProof.Rows L2

/-- an iterator: the items that it gives, by the store -/
abbrev ItD := Sto → Option (List D)
abbrev DI := DSt → Sto → (ItD → Sto → Prop) → DX → Prop
/-- J of the hand layer does it, from the heap H1 on -/
def Real (X : Cx) (J : It) (it : ItD) (H1 : Hp) : Prop := ∀ (i : Nat) (H : Hp) (S : Sto), Ext X.K H1 H → Sim (gp X) H S → ∀ xs, it S = some xs →
  (∀ d, xs[i]? = some d → J.go i H ∧ ∀ v H', J.yld i H v H' → Ext X.K H H' ∧ Sim (gp X) H' S ∧ DRel (gp X) H' d v) ∧ (xs.length ≤ i → J.stop i H)
def PID (X : Cx) (pins : List (Addr × Obj)) (σ : VSt) (tg : Expr) (H₀ : Hp) (R : ItD → Sto → Prop) (itv : Value) (s2 : Shared) : Prop :=
  ∃ (it : Addr) (fp : List Addr) (tn : Nat → Heap → Prop) (J : It) (H' : Hp) (I : ItD) (S' : Sto), itv = .ref it ∧ Inv X pins σ H' s2 ∧ Turn X.prog X.w X.K tg J fp it tn ∧ tn 0 s2.heap ∧ (∀ b ∈ fp, FpOk X pins H' b) ∧ Ext X.K H₀ H' ∧ Sim (gp X) H' S' ∧ Real X J I H' ∧ R I S'
def QI (X : Cx) (tg iter : Expr) (wi : DI) : Prop := ∀ (pins : List (Addr × Obj)) (s : Shared) (σ : VSt) (H : Hp) (σD : DSt) (S : Sto) (ex : DXs) (R : ItD → Sto → Prop), Takes X (lX X H ex) → Sit X pins σ H s σD S → wi σD S R (fun c fs S => ex c fs σD S) →
  wpAny (model X.prog X.w) X.A (eval iter X.env) (fun v s1 => wpAny (model X.prog X.w) X.A (pyIter v) (PID X pins σ tg H R) X.xe s1) X.xe s
/-- over a list (as it stands at each turn), over a tuple -/
def itOf (d : D) : ItD := fun S => itemsD S d
/-- over given items -/
def itL (xs : List D) : ItD := fun _ => some xs
def iSeq (te : DE) : DI := fun σ S R E => te σ S (fun d S1 => (itemsD S1 d).isSome = true ∧ R (itOf d) S1) E
def rgD (lo : Int) (n : Nat) : List D := (List.range n).map fun i => D.int (lo + (i : Nat))
section
variable {X : Cx} {pins : List (Addr × Obj)} {σ : VSt} {H : Hp} {s : Shared} {σD : DSt} {S : Sto} {tg : Expr} {R : ItD → Sto → Prop}
theorem PID.up {H1 : Hp} {itv : Value} {s2 : Shared} (x : Ext X.K H H1) (h : PID X pins σ tg H1 R itv s2) : PID X pins σ tg H R itv s2 := let ⟨it, fp, tn, J, H', I, S', a, b, c, d, e, f, r⟩ := h; ⟨it, fp, tn, J, H', I, S', a, b, c, d, e, x.trans f, r⟩
theorem items_live {H H1 : Hp} {d : D} {v : V} {xs : List D} (x : Ext X.K H1 H) (m : Sim (gp X) H S) (dr : DRel (gp X) H1 d v) (e : itemsD S d = some xs) : ∃ a vs, v = .ref a ∧ (SqL X.K H a vs ∨ SqT X.K H a vs) ∧ DRels (gp X) H xs vs := items_sq m (DRel.ext x _ dr) e
theorem iter_seq {d : D} {v : V} {u : Value} {xs : List D} (T : Sit X pins σ H s σD S) (dr : DRel (gp X) H d v) (ru : RelV v u) (e : itemsD S d = some xs) (q : R (itOf d) S) : wpAny (model X.prog X.w) X.A (pyIter u) (PID X pins σ tg H R) X.xe s := by
  obtain ⟨a, vs, rfl, hq, dv⟩ := items_sq T.m dr e
  obtain rfl : u = Value.ref a := ru
  have fresh : ∀ b ∈ [s.heap.objs.size], FpOk X pins H b := fun b hb => by
    have eb : b = s.heap.objs.size := by simpa using hb
    subst eb
    exact T.I.fpOk (Nat.le_refl _) (T.I.hok.fresh (Nat.le_refl _))
  -- a list or a tuple for good
  have kind : (∀ S' : Sto, ∀ ys, itemsD S' d = some ys → litemsD S' d = some ys) ∨ ∃ ds, d = .tup ds := by
    cases d with
    | tup ds => exact .inr ⟨ds, rfl⟩
    | _ => exact .inl fun S' ys h => h
  rcases kind with kind | ⟨ds, rfl⟩
  · obtain ⟨a', vs', ea, hl, _⟩ := litems_sql T.m dr (kind S xs e)
    cases ea
    obtain ⟨its, rv, p, hz⟩ := T.I.list hl
    refine wpAny_pyIter_list p.isList ?_
    refine ⟨s.heap.objs.size, [s.heap.objs.size], _, _, H, itOf d, S, rfl, T.I.kept (t' := s.toks) fun b o e => Heap.get?_push_of_some _ e, turn_list a _, ⟨_, Heap.get?_push_size _ rfl, rfl, rfl⟩, fresh, .refl, T.m, ?_, q⟩
    intro i H2 S2 x m xs2 e2
    obtain ⟨a2, vs2, ea, hl2, dr2⟩ := litems_sql m (DRel.ext x _ dr) (kind S2 xs2 e2)
    cases ea
    refine ⟨fun d2 hd2 => ?_, fun hle => ⟨vs2, hl2, by rw [← dr2.length]; exact hle⟩⟩
    obtain ⟨v2, hv2, dv2⟩ := dr2.get hd2
    refine ⟨⟨vs2, v2, hl2, hv2⟩, fun v3 H3 hy => ?_⟩
    obtain ⟨e3, hy⟩ := hy
    subst e3
    have := hy vs2 hl2
    rw [hv2] at this
    cases this
    exact ⟨.refl, m, dv2⟩
  · unfold DRel at dr
    obtain ⟨a', vs', ea, ht, dv'⟩ := dr
    cases ea
    obtain ⟨its, rv, p, hz⟩ := T.I.tuple ht
    refine wpAny_pyIter_tuple (show s.heap.IsTuple a its.toArray from p) ?_
    refine ⟨s.heap.objs.size, [s.heap.objs.size], _, _, H, itOf (.tup ds), S, rfl, T.I.kept (t' := s.toks) fun b o e => Heap.get?_push_of_some _ e, turn_tuple a _, ⟨_, Heap.get?_push_size _ rfl, rfl, rfl⟩, fresh, .refl, T.m, ?_, q⟩
    intro i H2 S2 x m xs2 e2
    cases e2
    have ht2 := x.t a vs' ht
    have dr2 := DRels.ext x ds dv'
    refine ⟨fun d2 hd2 => ?_, fun hle => ⟨vs', ht2, by rw [← dr2.length]; exact hle⟩⟩
    obtain ⟨v2, hv2, dv2⟩ := dr2.get hd2
    refine ⟨⟨vs', v2, ht2, hv2⟩, fun v3 H3 hy => ?_⟩
    obtain ⟨e3, hy⟩ := hy
    subst e3
    have := hy vs' ht2
    rw [hv2] at this
    cases this
    exact ⟨.refl, m, dv2⟩
theorem qi_seq {e : Expr} {te : DE} (he : QE X e te) : QI X tg e (iSeq te) := fun pins s σ H σD S ex R tk T h =>
  thn (he pins s σ H σD S ex _ tk T h) fun u s1 ⟨v, H1, d, S1, I1, r1, x1, d1, m1, hs, q⟩ => by
    obtain ⟨xs, e⟩ := Option.isSome_iff_exists.mp hs
    exact thn (iter_seq (T.on I1 x1 m1) d1 r1 e q) fun _ _ z => z.up x1
theorem real_rng {lo : Int} {n : Nat} : Real X (Itr lo n) (itL (rgD lo n)) H := by
  intro i H2 S2 x m xs e
  cases e
  have hl : (rgD lo n).length = n := by simp [rgD]
  refine ⟨fun d hd => ?_, fun hle => by rw [hl] at hle; exact hle⟩
  have hi : i < n := by
    have := (List.getElem?_eq_some_iff.mp hd).1
    rw [hl] at this; exact this
  have ed : d = .int (lo + i) := by
    simp [rgD, hi] at hd
    exact hd.symm
  subst ed
  refine ⟨hi, fun v H3 hy => ?_⟩
  obtain ⟨e1, e2⟩ := hy
  subst e1 e2
  exact ⟨.refl, m, by simp [DRel]⟩
def okR (i : Int) : Prop := -(2 ^ 62) ≤ i ∧ i < 2 ^ 62
def iRng (t : DA) : DI := fun σ S R E => t σ S (fun vs S1 => (∃ j, vs = [.int j] ∧ okR j ∧ R (itL (rgD 0 j.toNat)) S1) ∨ ∃ i j, vs = [.int i, .int j] ∧ okR i ∧ okR j ∧ R (itL (rgD i (j - i).toNat)) S1) E
theorem pie_pid {J : It} {it : ItD} {itv : Value} {s2 : Shared} {H₀ : Hp} (x : Ext X.K H₀ H) (m : Sim (gp X) H S) (q : R it S) (hr : Real X J it H) (h : PIE X pins σ tg (fun J' H' => J' = J ∧ H' = H) itv s2) : PID X pins σ tg H₀ R itv s2 := by
  obtain ⟨i, fp, tn, J', H', e, I', tu, t0, f, e1, e2⟩ := h
  subst e1 e2
  exact ⟨i, fp, tn, J', H', it, S, e, I', tu, t0, f, x, m, hr, q⟩
theorem qi_rng {e : Expr} {es : List Expr} {t : DA} {p pos : Pos} (hg : Gl X "range") (hm : X.mg "range" = none) (ha : QA X (e :: es) t) (hst : (e :: es).all noSt = true) : QI X tg (.Call (.Name "range" p) (e :: es) [] pos) (iRng t) := fun pins s σ H σD S ex R tk T h => by
  simp only [List.all_cons, Bool.and_eq_true] at hst
  refine Call_ (ld_blt T.I hg hm boot_range (PyProof.Rows.callWith_type1 (thn (ha pos pins s σ H σD S ex _ tk T h) fun us s1 ⟨vs, H1, ds, S1, I1, r1, x1, d1, m1, q1⟩ => ?_) (star_cons hst.1) (star_plain hst.2)))
  rcases q1 with ⟨j, e, ⟨k1, k2⟩, q⟩ | ⟨i, j, e, ⟨k1, k2⟩, ⟨k3, k4⟩, q⟩
  · subst e
    obtain ⟨v, rfl, dv⟩ := drels1 d1
    unfold DRel at dv; subst dv
    obtain ⟨u, rfl, ru⟩ := r1.one
    obtain ⟨t, rfl⟩ := ru
    exact call_range_1 (thn (range_it (R := fun J' H' => J' = Itr 0 j.toNat ∧ H' = H1) I1 (by omega) (by omega) k1 k2 ⟨by simp, rfl⟩) fun _ _ z => pie_pid x1 m1 q real_rng z)
  · subst e
    obtain ⟨v, w, rfl, dv, dw⟩ := drels2 d1
    unfold DRel at dv dw; subst dv dw
    obtain ⟨u, u', rfl, ru, ru'⟩ := r1.two
    obtain ⟨t, rfl⟩ := ru
    obtain ⟨t', rfl⟩ := ru'
    exact call_range_2 (thn (range_it (R := fun J' H' => J' = Itr i (j - i).toNat ∧ H' = H1) I1 k1 k2 k3 k4 ⟨rfl, rfl⟩) fun _ _ z => pie_pid x1 m1 q real_rng z)
def enuL : Nat → List D → List D
  | _, [] => []
  | k, x :: xs => .tup [.int (k : Nat), x] :: enuL (k + 1) xs
theorem enuL_len : ∀ (k : Nat) (xs : List D), (enuL k xs).length = xs.length
  | _, [] => rfl
  | k, x :: xs => by simp [enuL, enuL_len (k + 1) xs]
theorem enuL_get : ∀ (k : Nat) (xs : List D) (i : Nat), (enuL k xs)[i]? = (xs[i]?).map fun x => .tup [.int ((k + i : Nat) : Int), x]
  | _, [], _ => by simp [enuL]
  | k, x :: xs, 0 => by simp [enuL]
  | k, x :: xs, i + 1 => by
    simp only [enuL, List.getElem?_cons_succ]
    rw [enuL_get (k + 1) xs i, show k + 1 + i = k + (i + 1) by omega]
/-- over a list, with its places -/
def enuIt (d : D) : ItD := fun S => (litemsD S d).map (enuL 0)
def iEnu (te : DA) : DI := fun σ S R E => te σ S (fun ds S1 => ∃ d, ds = [d] ∧ (litemsD S1 d).isSome = true ∧ R (enuIt d) S1) E
theorem real_enu {a : Addr} {d : D} (dr : DRel (gp X) H d (.ref a)) : Real X (Ite X.K a) (enuIt d) H := by
  intro i H2 S2 x m xs e
  obtain ⟨ys, e1, e2⟩ := Option.map_eq_some_iff.mp e
  subst e2
  obtain ⟨a2, vs2, ea, hl2, dr2⟩ := litems_sql m (DRel.ext x _ dr) e1
  cases ea
  refine ⟨fun d' hd => ?_, fun hle => ⟨vs2, hl2, by rw [enuL_len] at hle; rw [← dr2.length]; exact hle⟩⟩
  rw [enuL_get] at hd
  obtain ⟨y, hy, e3⟩ := Option.map_eq_some_iff.mp hd
  subst e3
  obtain ⟨v2, hv2, dv2⟩ := dr2.get hy
  refine ⟨⟨vs2, v2, hl2, hv2⟩, fun v3 H3 hyl => ?_⟩
  obtain ⟨t, z, e4, hn, e5, hz⟩ := hyl
  subst e4 e5
  have q := hz vs2 hl2
  rw [hv2] at q
  cases q
  refine ⟨Ext.new hn, m.hid hn, sit_tup hn (.cons ?_ (.one dv2))⟩
  rw [Nat.zero_add]
  unfold DRel
  rfl
theorem qi_enu {e : Expr} {te : DA} {p pos tpos : Pos} {elts : List Expr} {kk : Nat} (hg : Gl X "enumerate") (hm : X.mg "enumerate" = none) (ha : QA X [e] te) (hst : noSt e = true) : QI X (.Tuple elts kk tpos) (.Call (.Name "enumerate" p) [e] [] pos) (iEnu te) := fun pins s σ H σD S ex R tk T h => by
  refine Call_ (ld_blt T.I hg hm boot_enumerate (PyProof.Rows.callWith_type1 (thn (ha pos pins s σ H σD S ex _ tk T h) fun us s1 ⟨vs, H1, ds, S1, I1, r1, x1, d1, m1, d, e1, hs, q⟩ => ?_) (star_cons hst) rfl))
  subst e1
  obtain ⟨v, rfl, dv⟩ := drels1 d1
  obtain ⟨u, rfl, ru⟩ := r1.one
  obtain ⟨xs, hxs⟩ := Option.isSome_iff_exists.mp hs
  obtain ⟨a, ws, rfl, hq, _⟩ := litems_sql m1 dv hxs
  obtain rfl : u = Value.ref a := ru
  obtain ⟨its, rv, p', hz⟩ := I1.list hq
  refine call_enumerate_list p'.isList fun h' he hit hsz hk => wpAny_pyIter_enum he ?_
  have I2 : Inv X pins σ H1 { s1 with heap := h' } := I1.kept (t' := s1.toks) hk
  refine ⟨s1.heap.objs.size + 1, [s1.heap.objs.size + 1, s1.heap.objs.size], _, Ite X.K a, H1, enuIt d, S1, rfl, I2, turn_enum a (s1.heap.objs.size + 1) s1.heap.objs.size, ⟨⟨.none, he⟩, hit, Nat.succ_ne_self _⟩, fun b hb => ?_, x1, m1, real_enu dv, q⟩
  have hle : s1.heap.objs.size ≤ b := by
    rcases (show b = s1.heap.objs.size + 1 ∨ b = s1.heap.objs.size by simpa using hb) with z | z <;> rw [z]
    · exact Nat.le_add_right _ _
    · exact Nat.le_refl _
  exact I1.fpOk hle (I1.hok.fresh hle)
def sFor (wi : DI) (g : DG) (tb : DS) : DS := fun D σ S => wi σ S (fun it S1 => ∃ W : Nat → Nat → DSt → Sto → Prop, (∃ m, W 0 m σ S1) ∧ ∀ i m σ S, W i m σ S → ∃ xs, it S = some xs ∧
  ((xs.length ≤ i ∧ D.nx σ S) ∨ ∃ d, xs[i]? = some d ∧ g d σ S fun σ2 S2 => tb { D with nx := fun σ' S' => ∃ m', m' < m ∧ W (i + 1) m' σ' S', ct := fun σ' S' => ∃ m', m' < m ∧ W (i + 1) m' σ' S', bk := D.nx } σ2 S2)) (eX D σ)
/-- for the hand layer -/
def vI (X : Cx) (wi : DI) (ex : DXs) : TI := fun σ H R => ∃ σD S RD, Takes X (lX X H ex) ∧ SRel (gp X) H σD σ ∧ Sim (gp X) H S ∧ wi σD S RD (fun c fs S => ex c fs σD S) ∧ ∀ J H' I S', Ext X.K H H' → Sim (gp X) H' S' → Real X J I H' → RD I S' → R J H'
theorem pi_of {iter : Expr} {wi : DI} {ex : DXs} (h : QI X tg iter wi) : PI X tg iter (vI X wi ex) := ⟨fun pins s σ H R I ⟨σD, S, RD, tk, r, m, q, k⟩ =>
  thn (h pins s σ H σD S ex RD tk ⟨I, r, m⟩ q) fun v s1 z => thn z fun itv s2 ⟨it, fp, tn, J, H', IT, S', a, b, c, d, e, f, g, hr, w⟩ => ⟨it, fp, tn, J, H', a, b, c, d, e, k J H' IT S' f g hr w⟩⟩
def vG (X : Cx) (vs : List Nat) (g : DG) : TG := fun x σ H P => ∃ d σD S PD, DRel (gp X) H d x ∧ SRel (gp X) H σD σ ∧ Sim (gp X) H S ∧ g d σD S PD ∧ ∀ σ' H' σD' S', Ext X.K H H' → SRel (gp X) H' σD' σ' → Sim (gp X) H' S' → wipe σ' vs = wipe σ vs → PD σD' S' → P σ' H'
theorem pg_of {vs : List Nat} {g : DG} (h : QG X vs tg g) : PG X tg (vG X vs g) := ⟨fun pins s σ H v u P I r ⟨d, σD, S, PD, dr, sr, m, q, k⟩ =>
  thn (h pins s σ H σD S d v u PD ⟨I, sr, m⟩ dr r q) fun _ s1 ⟨σ', H', σD', S', T', x', w', p⟩ => ⟨σ', H', T'.I, k σ' H' σD' S' x' T'.r T'.m w' p⟩⟩
theorem qs_for {vs : List Nat} {iter : Expr} {body : List Stmt} {wi : DI} {g : DG} {tb : DS} {pos : Pos} (hp : PassesOwn (model X.prog X.w) X.A X.env X.xe) (hc : X.calm = true) (hi : QI X tg iter wi) (hg : QG X vs tg g) (hb : QSs X body tb) (hs : ∀ x, foldedSetIterable iter X.env x = pure x) :
    QS X (.For tg iter body [] pos) (sFor wi g tb) := fun pins s σ H σD S D tk T h => by
  refine thn ((ps_for (wi := vI X wi D.ex) (g := vG X vs g) (tb := fun D' σ H => Takes X (lX X H D.ex) ∧ vS X D.ex tb D' σ H) hp hc (pi_of hi) (pg_of hg) (pss_of hb) hs).run pins s σ H (vEnds X H D) T.I ?_) fun f s1 z => sq_of z
  refine ⟨σD, S, _, tk, T.r, T.m, h, fun J H1 I S1 x1 m1 hr ⟨W, ⟨m0, w0⟩, turn⟩ => ?_⟩
  refine ⟨fun i m σ' H' => ∃ σD' S', Ext X.K H1 H' ∧ SRel (gp X) H' σD' σ' ∧ Sim (gp X) H' S' ∧ W i m σD' S', ⟨m0, σD, S1, .refl, T.r.ext x1, m1, w0⟩, ?_⟩
  rintro i m σ2 H2 ⟨σD2, S2, x2, r2, m2, w2⟩
  obtain ⟨xs, e, h⟩ := turn i m σD2 S2 w2
  obtain ⟨hgo, hst⟩ := hr i H2 S2 x2 m2 xs e
  rcases h with ⟨hle, q⟩ | ⟨d, hd, q⟩
  · exact .inl ⟨hst hle, σD2, S2, x1.trans x2, r2, m2, q⟩
  · obtain ⟨go, hy⟩ := hgo d hd
    refine .inr ⟨go, fun σ' H' => ∃ σD' S', Ext X.K H1 H' ∧ SRel (gp X) H' σD' σ' ∧ Sim (gp X) H' S' ∧ ∃ m', m' < m ∧ W (i + 1) m' σD' S', fun σ' H' ⟨σD', S', a, b, c, m', hm, w⟩ => ⟨m', hm, σD', S', a, b, c, w⟩, fun v H3 yl => ?_⟩
    obtain ⟨x3, m3, dr3⟩ := hy v H3 yl
    refine ⟨d, σD2, S2, _, dr3, r2.ext x3, m3, q, fun σ4 H4 σD4 S4 x4 r4 m4 _ q4 => ?_⟩
    have x14 : Ext X.K H1 H4 := x2.trans (x3.trans x4)
    exact ⟨tk.up (x1.trans x14), σD4, S4, { D with nx := fun σ' S' => ∃ m', m' < m ∧ W (i + 1) m' σ' S', ct := fun σ' S' => ∃ m', m' < m ∧ W (i + 1) m' σ' S', bk := D.nx }, rfl, r4, m4, q4, fun σ5 H5 σD5 S5 x5 r5 m5 q5 => ⟨σD5, S5, x14.trans x5, r5, m5, q5⟩, fun v5 H5 d5 S5 x5 r5 m5 q5 => ⟨d5, S5, x1.trans (x14.trans x5), r5, m5, q5⟩,
      fun σ5 H5 σD5 S5 x5 r5 m5 q5 => ⟨σD5, S5, x1.trans (x14.trans x5), r5, m5, q5⟩, fun σ5 H5 σD5 S5 x5 r5 m5 q5 => ⟨σD5, S5, x14.trans x5, r5, m5, q5⟩⟩
def sWhile (c : DT) (tb : DS) : DS := fun D σ S => ∃ W : Nat → DSt → Sto → Prop, (∃ m, W m σ S) ∧ ∀ m σ S, W m σ S →
  c σ S (fun b S1 => if b = true then tb { D with nx := fun σ' S' => ∃ m', m' < m ∧ W m' σ' S', ct := fun σ' S' => ∃ m', m' < m ∧ W m' σ' S', bk := D.nx } σ S1 else D.nx σ S1) (eX D σ)
def vT (X : Cx) (c : DT) (ex : DXs) : TT := fun σ H Q => ∃ σD S QD, Takes X (lX X H ex) ∧ SRel (gp X) H σD σ ∧ Sim (gp X) H S ∧ c σD S QD (fun c fs S => ex c fs σD S) ∧ ∀ b H' S', Ext X.K H H' → Sim (gp X) H' S' → QD b S' → Q b H'
theorem pt_of {e : Expr} {c : DT} {ex : DXs} (h : QT X e c) : PT X e (vT X c ex) := ⟨fun pins s σ H Q I ⟨σD, S, QD, tk, r, m, q, k⟩ =>
  thn (h pins s σ H σD S ex QD tk ⟨I, r, m⟩ q) fun b s1 ⟨H', S', I', x', m', q'⟩ => ⟨H', I', k b H' S' x' m' q'⟩⟩
theorem qs_while {c : Expr} {body : List Stmt} {tc : DT} {tb : DS} {pos : Pos} (hp : PassesOwn (model X.prog X.w) X.A X.env X.xe) (hc : QT X c tc) (hb : QSs X body tb) : QS X (.While c body [] pos) (sWhile tc tb) := fun pins s σ H σD S D tk T h => by
  refine thn ((ps_while (tc := vT X tc D.ex) (tb := fun D' σ H => Takes X (lX X H D.ex) ∧ vS X D.ex tb D' σ H) hp (pt_of hc) (pss_of hb)).run pins s σ H (vEnds X H D) T.I ?_) fun f s1 z => sq_of z
  obtain ⟨W, ⟨m0, w0⟩, turn⟩ := h
  refine ⟨fun m σ' H' => ∃ σD' S', Ext X.K H H' ∧ SRel (gp X) H' σD' σ' ∧ Sim (gp X) H' S' ∧ W m σD' S', ⟨m0, σD, S, .refl, T.r, T.m, w0⟩, ?_⟩
  rintro m σ2 H2 ⟨σD2, S2, x2, r2, m2, w2⟩
  refine ⟨σD2, S2, _, tk.up x2, r2, m2, turn m σD2 S2 w2, fun b H3 S3 x3 m3 q => ?_⟩
  have x23 := x2.trans x3
  cases b with
  | false =>
    simp only [Bool.false_eq_true, if_false] at q ⊢
    exact ⟨σD2, S3, x23, r2.ext x3, m3, q⟩
  | true =>
    simp only [if_true] at q ⊢
    refine ⟨fun σ' H' => ∃ σD' S', Ext X.K H H' ∧ SRel (gp X) H' σD' σ' ∧ Sim (gp X) H' S' ∧ ∃ m', m' < m ∧ W m' σD' S', fun σ' H' ⟨σD', S', a, b, c, m', hm, w⟩ => ⟨m', hm, σD', S', a, b, c, w⟩, tk.up x23, σD2, S3, { D with nx := fun σ' S' => ∃ m', m' < m ∧ W m' σ' S', ct := fun σ' S' => ∃ m', m' < m ∧ W m' σ' S', bk := D.nx }, rfl, r2.ext x3, m3, q, ?_⟩
    exact ⟨fun σ5 H5 σD5 S5 x5 r5 m5 q5 => ⟨σD5, S5, x23.trans x5, r5, m5, q5⟩, fun v5 H5 d5 S5 x5 r5 m5 q5 => ⟨d5, S5, x23.trans x5, r5, m5, q5⟩,
      fun σ5 H5 σD5 S5 x5 r5 m5 q5 => ⟨σD5, S5, x23.trans x5, r5, m5, q5⟩, fun σ5 H5 σD5 S5 x5 r5 m5 q5 => ⟨σD5, S5, x23.trans x5, r5, m5, q5⟩⟩
end
end DL

set_option Elab.async false
set_option linter.all false
set_option maxRecDepth 100000
set_option maxHeartbeats 4000000
namespace DL
open PySem PySem.Spec PyProof.Rows L2
section
variable {X : Cx}
def dLrg (t : DA) : DE := fun σ S K E => t σ S (fun vs S1 => ∃ i j, (vs = [.int j] ∧ i = 0 ∨ vs = [.int i, .int j]) ∧ okR i ∧ okR j ∧ (j - i).toNat ≤ sizeLine ∧ ∀ p, S1 p = none → K (.ref p) (sup S1 p (.lst (rgD i (j - i).toNat)))) E
theorem vals_items {lo : Int} : ∀ (n : Nat) {us : List Value} {k : Nat}, us.length = n → (∀ i v, us[i]? = some v → ∃ t, v = Value.int (lo + ((k + i : Nat) : Int) * 1) t) → Vals ((List.range' k n).map fun (i : Nat) => V.int (lo + (i : Int))) us
  | 0, us, k, hl, h => by
    rw [List.length_eq_zero_iff.mp hl]
    exact .nil
  | n + 1, us, k, hl, h => by
    match us, hl with
    | u :: us, hl =>
      rw [List.range'_succ, List.map_cons]
      refine .cons ?_ (vals_items n (by simpa using hl) fun i v e => ?_)
      · obtain ⟨t, e⟩ := h 0 u rfl
        subst e
        exact ⟨t, by simp⟩
      · obtain ⟨t, e⟩ := h (i + 1) v (by simpa using e)
        exact ⟨t, by rw [e]; congr 2; omega⟩
theorem rel_items {g : GP} {H : Hp} {lo : Int} : ∀ (l : List Nat), DRels g H (l.map fun (i : Nat) => D.int (lo + (i : Int))) (l.map fun (i : Nat) => V.int (lo + (i : Int)))
  | [] => .nil
  | i :: l => .cons (by simp [DRel]) (rel_items l)
theorem list_rng (hc : X.calm = true) {pins : List (Addr × Obj)} {σ : VSt} {H : Hp} {s : Shared} {σD : DSt} {S : Sto} {Kt : DK} {i j : Int} {t u v : Tok} {tk : Nat} (T : Sit X pins σ H s σD S) (h1 : okR i) (h2 : okR j) (hz : (j - i).toNat ≤ sizeLine) (k : ∀ p, S p = none → Kt (.ref p) (sup S p (.lst (rgD i (j - i).toNat)))) :
    wpAny (model X.prog X.w) X.A (call (.type "list") [.ref s.heap.objs.size]) (EQ X pins σ H Kt) X.xe { s with heap := s.heap.push { cls := .type "range", data := .fields #[.int i t, .int j u, .int 1 v] }, toks := tk } := by
  have I2 : Inv X pins σ H { s with heap := s.heap.push { cls := .type "range", data := .fields #[.int i t, .int j u, .int 1 v] }, toks := tk } := T.I.kept (t' := tk) fun b o e => Heap.get?_push_of_some _ e
  refine call_list_range (n := (j - i).toNat) (T.I.ok.hd hc) (IsRange.new ..) (small_one h1.1 h1.2 h2.1 h2.2) (by rw [rangeSize_one]; split <;> omega) hz fun h' tk' acc c' hk hS hacc => ?_
  have hf : H (s.heap.push { cls := .type "range", data := .fields #[.int i t, .int j u, .int 1 v] }).objs.size = none := I2.hok.fresh (Nat.le_refl _)
  have hv : Vals ((List.range' 0 (j - i).toNat).map fun (k : Nat) => V.int (i + (k : Int))) acc.toList := vals_items _ (by simpa using hacc.1) fun k v e => by
    obtain ⟨t, e⟩ := hacc.2 k v (by simpa using e)
    exact ⟨t, by rw [e]; congr 2; omega⟩
  have dr : DRels (gp X) H (rgD i (j - i).toNat) ((List.range' 0 (j - i).toNat).map fun (k : Nat) => V.int (i + (k : Int))) := by
    unfold rgD
    rw [List.range_eq_range']
    exact rel_items _
  exact ⟨.ref _, L2.upd H _ (.lst ((List.range' 0 (j - i).toNat).map fun (k : Nat) => V.int (i + (k : Int)))), .ref _, _, I2.laid (t' := tk') hk (Nat.le_refl _) ⟨by simpa using hz, acc.toList, c', hv, by simpa using hS⟩, rfl, Ext.new hf, by simp [DRel], T.m.newL hf dr, k _ (T.m.fresh hf)⟩
theorem qe_lrg {e : Expr} {es : List Expr} {t : DA} {p p2 pos pos2 : Pos} (hc : X.calm = true) (hgl : Gl X "list") (hml : X.mg "list" = none) (hg : Gl X "range") (hm : X.mg "range" = none) (ha : QA X (e :: es) t) (hst : (e :: es).all noSt = true) :
    QE X (.Call (.Name "list" p) [.Call (.Name "range" p2) (e :: es) [] pos2] [] pos) (dLrg t) := fun pins s σ H σD S ex Kt tk T h => by
  simp only [List.all_cons, Bool.and_eq_true] at hst
  refine wpAny_Call_Name_kw (ld_blt T.I hgl hml (by decide +kernel : bootBuiltins ("list" : Str) = some (.type "list")) ?_ (by decide) (by decide))
  refine PyProof.Rows.callWith_type1 ?_ (star_cons rfl) rfl
  show wpAny _ _ (spliced ((false, eval (.Call (.Name "range" p2) (e :: es) [] pos2) X.env) :: backTo pos (starEach [] X.env))) _ _ s
  refine Calls.spliced_cons ?_
  refine Call_ (ld_blt T.I hg hm boot_range (PyProof.Rows.callWith_type1 (thn (ha pos2 pins s σ H σD S ex _ tk T h) fun us s1 ⟨vs, H1, ds, S1, I1, r1, x1, d1, m1, i, j, q1, k1, k2, hz, q⟩ => ?_) (star_cons hst.1) (star_plain hst.2)))
  have T1 := T.on I1 x1 m1
  rcases q1 with ⟨q1, e0⟩ | q1
  · subst q1 e0
    obtain ⟨v, rfl, dv⟩ := drels1 d1
    unfold DRel at dv; subst dv
    obtain ⟨u, rfl, ru⟩ := r1.one
    obtain ⟨t, rfl⟩ := ru
    refine call_range_1 (Calls.spliced_nil ?_)
    exact thn (list_rng hc T1 k1 k2 hz q) fun _ _ z => z.up x1
  · subst q1
    obtain ⟨v, w, rfl, dv, dw⟩ := drels2 d1
    unfold DRel at dv dw; subst dv dw
    obtain ⟨u, u', rfl, ru, ru'⟩ := r1.two
    obtain ⟨t, rfl⟩ := ru
    obtain ⟨t', rfl⟩ := ru'
    refine call_range_2 (Calls.spliced_nil ?_)
    exact thn (list_rng hc T1 k1 k2 hz q) fun _ _ z => z.up x1
end
end DL

set_option Elab.async false
set_option linter.all false
set_option maxRecDepth 100000
set_option maxHeartbeats 4000000
namespace DL
open PySem PySem.Spec PyProof.Rows L2

def wipeD (σ : DSt) : List Nat → DSt
  | [] => σ
  | v :: vs => (wipeD σ vs).set v none
theorem SRel.wipe {g : GP} {H : Hp} {σD : DSt} {σ : VSt} (h : SRel g H σD σ) : ∀ vs : List Nat, SRel g H (wipeD σD vs) (L2.wipe σ vs)
  | [] => h
  | v :: vs => by
    unfold wipeD L2.wipe
    exact (SRel.wipe h vs).unset
abbrev noE : DX := fun _ _ _ => False
/-- a clause's test -/
def dIfs : Option DT → DT
  | none => fun _ S K _ => K true S
  | some t => t
def dLc (wi : DI) (g : DG) (tt : Option DT) (te : DE) (vs : List Nat) : DE := fun σ S K E => wi σ S (fun it S1 => ∀ p, S1 p = none → ∃ W : Nat → Nat → Sto → Prop, (∃ m, W 0 m (sup S1 p (.lst []))) ∧ ∀ i m S, W i m S → ∃ xs, it S = some xs ∧
  ((xs.length ≤ i ∧ K (.ref p) S) ∨ ∃ d, xs[i]? = some d ∧ g d (wipeD σ vs) S fun σ2 S2 => dIfs tt σ2 S2 (fun b S3 => if b = true then te σ2 S3 (fun y S4 => ∃ acc, S4 p = some (.lst acc) ∧ acc.length < sizeLine ∧ ∃ m', m' < m ∧ W (i + 1) m' (sup S4 p (.lst (acc ++ [y])))) noE
    else ∃ m', m' < m ∧ W (i + 1) m' S3) noE)) E
section
variable {X : Cx} {tg : Expr}
/-- for the hand layer -/
def vE (X : Cx) (te : DE) (ex : DXs) : TE := fun σ H Q => ∃ σD S KD, Takes X (lX X H ex) ∧ SRel (gp X) H σD σ ∧ Sim (gp X) H S ∧ te σD S KD (fun c fs S => ex c fs σD S) ∧ ∀ v H' d S', Ext X.K H H' → DRel (gp X) H' d v → Sim (gp X) H' S' → KD d S' → Q v H'
theorem pe_of {e : Expr} {te : DE} {ex : DXs} (h : QE X e te) : PE X e (vE X te ex) := ⟨fun pins s σ H Q I ⟨σD, S, KD, tk, r, m, q, k⟩ =>
  thn (h pins s σ H σD S ex KD tk ⟨I, r, m⟩ q) fun u s1 ⟨v, H', d, S', I', r', x', d', m', q'⟩ => ⟨v, H', I', r', k v H' d S' x' d' m' q'⟩⟩
/-- a test within a block -/
def QTs (X : Cx) : List Expr → Option DT → Prop
  | [], t => t = none
  | [c], t => ∃ u, t = some u ∧ QT X c u
  | _, _ => False
def vTs (X : Cx) : Option DT → TT
  | none => tYes
  | some t => vT X t noX
theorem pts_of {ifs : List Expr} {t : Option DT} (h : QTs X ifs t) : PTs X ifs (vTs X t) := by
  match ifs, h with
  | [], h =>
    have e : t = none := h
    subst e
    exact pts_nil
  | [c], h =>
    obtain ⟨u, e, q⟩ := h
    subst e
    exact pts_one (pt_of q)
/-- a block's parts -/
structure BlkQ (X : Cx) (scope : Scope) (vs : List Nat) (tg elt : Expr) (ifs : List Expr) (g : DG) (tt : Option DT) (te : DE) : Prop where
  hg : ∀ (s : Shared) (H : Hp) (C : Addr) (cl : List (Str × Addr)) (fp : List Addr), QG (X.blk s H scope (compEnvC scope cl C X.env) fp) vs tg g
  ht : ∀ (s : Shared) (H : Hp) (C : Addr) (cl : List (Str × Addr)) (fp : List Addr), QTs (X.blk s H scope (compEnvC scope cl C X.env) fp) ifs tt
  he : ∀ (s : Shared) (H : Hp) (C : Addr) (cl : List (Str × Addr)) (fp : List Addr), QE (X.blk s H scope (compEnvC scope cl C X.env) fp) elt te
/-- the same readings for every block of X -/
def wG (X : Cx) (vs : List Nat) (g : DG) : TG := vG X vs g
def wT (X : Cx) : Option DT → TT
  | none => tYes
  | some t => fun σ H Q => ∃ σD S QD, SRel (gp X) H σD σ ∧ Sim (gp X) H S ∧ t σD S QD noE ∧ ∀ b H' S', Ext X.K H H' → Sim (gp X) H' S' → QD b S' → Q b H'
def wE (X : Cx) (te : DE) : TE := fun σ H Q => ∃ σD S KD, SRel (gp X) H σD σ ∧ Sim (gp X) H S ∧ te σD S KD noE ∧ ∀ v H' d S', Ext X.K H H' → DRel (gp X) H' d v → Sim (gp X) H' S' → KD d S' → Q v H'
variable {elt iter : Expr} {ifs : List Expr} {scope : Scope} {own : List (Str × Nat)} {pos : Pos} {wi : DI} {g : DG} {tt : Option DT} {te : DE}
theorem blk_parts (B : BlkQ X scope (own.map (·.2)) tg elt ifs g tt te) :
    (∀ (s : Shared) (H : Hp) (C : Addr) (cl : List (Str × Addr)) (fp : List Addr), PG (X.blk s H scope (compEnvC scope cl C X.env) fp) tg (wG X (own.map (·.2)) g)) ∧ (∀ (s : Shared) (H : Hp) (C : Addr) (cl : List (Str × Addr)) (fp : List Addr), PTs (X.blk s H scope (compEnvC scope cl C X.env) fp) ifs (wT X tt)) ∧
    (∀ (s : Shared) (H : Hp) (C : Addr) (cl : List (Str × Addr)) (fp : List Addr), PE (X.blk s H scope (compEnvC scope cl C X.env) fp) elt (wE X te)) := by
  refine ⟨fun s H C cl fp => pg_of (B.hg s H C cl fp), fun s H C cl fp => ?_, fun s H C cl fp => ⟨fun pins s1 σ H1 Q I ⟨σD, S, KD, r, m, q, k⟩ => (pe_of (ex := noX) (B.he s H C cl fp)).run pins s1 σ H1 Q I ⟨σD, S, KD, takes_noX, r, m, q, k⟩⟩⟩
  have h := B.ht s H C cl fp
  match ifs, h with
  | [], h =>
    have e : tt = none := h
    subst e
    exact pts_nil
  | [c], h =>
    obtain ⟨u, e, q⟩ := h
    subst e
    exact pts_one ⟨fun pins s1 σ H1 Q I ⟨σD, S, QD, r, m, q1, k⟩ => (pt_of (ex := noX) q).run pins s1 σ H1 Q I ⟨σD, S, QD, takes_noX, r, m, q1, k⟩⟩
/-- the loop -/
theorem lc_walk {pins : List (Addr × Obj)} {σ : VSt} {H : Hp} {s : Shared} {σD : DSt} {S : Sto} {ex : DXs} {vs : List Nat} {Kt : DK} {Q : VK} (tk : Takes X (lX X H ex)) (T : Sit X pins σ H s σD S) (h : dLc wi g tt te vs σD S Kt (fun c fs S => ex c fs σD S))
    (hQ : ∀ p H' S', Ext X.K H H' → Sim (gp X) H' S' → Kt (.ref p) S' → Q (.ref p) H') : tLc (vI X wi ex) (wG X vs g) (wT X tt) (wE X te) vs σ H Q := by
  refine ⟨σD, S, _, tk, T.r, T.m, h, fun J H1 I S1 x1 m1 hr hW D hD => ?_⟩
  obtain ⟨W, ⟨m0, w0⟩, turn⟩ := hW D (m1.fresh hD)
  have xD : Ext X.K H1 (upd H1 D (.lst [])) := Ext.new hD
  refine ⟨fun i m H' => ∃ S', Ext X.K H1 H' ∧ Sim (gp X) H' S' ∧ W i m S', ⟨m0, _, xD, m1.newL hD .nil, w0⟩, ?_⟩
  rintro i m H2 ⟨S2, x2, m2, w2⟩
  obtain ⟨xs, e, h⟩ := turn i m S2 w2
  obtain ⟨hgo, hst⟩ := hr i H2 S2 x2 m2 xs e
  rcases h with ⟨hle, q⟩ | ⟨d, hd, q⟩
  · exact .inl ⟨hst hle, hQ D H2 S2 (x1.trans x2) m2 q⟩
  · obtain ⟨go, hy⟩ := hgo d hd
    refine .inr ⟨go, fun H' => ∃ S', Ext X.K H1 H' ∧ Sim (gp X) H' S' ∧ ∃ m', m' < m ∧ W (i + 1) m' S', fun H' ⟨S', a, b, m', hm, w⟩ => ⟨m', hm, S', a, b, w⟩, fun v H3 yl => ?_⟩
    obtain ⟨x3, m3, dr3⟩ := hy v H3 yl
    have x13 := x2.trans x3
    refine ⟨d, wipeD σD vs, S2, _, dr3, (T.r.wipe vs).ext (x1.trans x13), m3, q, fun σ4 H4 σD4 S4 x4 r4 m4 hw q4 => ⟨?_, ?_⟩⟩
    · rw [hw]
      -- wiping twice
      have tw : ∀ (σ : VSt) (vs : List Nat), L2.wipe (L2.wipe σ vs) vs = L2.wipe σ vs := by
        intro σ vs
        have gen : ∀ (us : List Nat) (τ : VSt), (∀ u ∈ us, ∀ x, τ[u]? = some x → x = none) → L2.wipe τ us = τ := by
          intro us
          induction us with
          | nil => intro τ _; rfl
          | cons u us ih =>
            intro τ hτ
            unfold L2.wipe
            rw [ih τ fun w hw => hτ w (List.mem_cons_of_mem _ hw)]
            apply List.ext_getElem?
            intro j
            by_cases hj : u = j
            · subst hj
              by_cases hl : u < τ.length
              · rw [List.getElem?_set_self hl]
                obtain ⟨x, hx⟩ : ∃ x, τ[u]? = some x := ⟨τ[u], by simp [hl]⟩
                rw [hx, hτ u List.mem_cons_self x hx]
              · rw [List.getElem?_eq_none (by simpa using hl), List.getElem?_eq_none (by simpa using hl)]
            · rw [List.getElem?_set_ne hj]
        refine gen vs _ fun u hu x hx => ?_
        cases x with
        | none => rfl
        | some y => exact absurd hu (wipe_some hx).2
      exact tw σ vs
    · have x14 := x13.trans x4
      -- the test
      have fin : ∀ b H5 S5, Ext X.K H4 H5 → Sim (gp X) H5 S5 → (if b = true then te σD4 S5 (fun y S4 => ∃ acc, S4 D = some (.lst acc) ∧ acc.length < sizeLine ∧ ∃ m', m' < m ∧ W (i + 1) m' (sup S4 D (.lst (acc ++ [y])))) noE else ∃ m', m' < m ∧ W (i + 1) m' S5) →
          (if b = true then wE X te σ4 H5 (fun y H6 => ∃ acc, H6 D = some (.lst acc) ∧ acc.length < sizeLine ∧ ∃ S', Ext X.K H1 (upd H6 D (.lst (acc ++ [y]))) ∧ Sim (gp X) (upd H6 D (.lst (acc ++ [y]))) S' ∧ ∃ m', m' < m ∧ W (i + 1) m' S')
            else ∃ S', Ext X.K H1 H5 ∧ Sim (gp X) H5 S' ∧ ∃ m', m' < m ∧ W (i + 1) m' S') := by
        intro b H5 S5 x5 m5 q5
        cases b with
        | false =>
          simp only [Bool.false_eq_true, if_false] at q5 ⊢
          exact ⟨S5, x14.trans x5, m5, q5⟩
        | true =>
          simp only [if_true] at q5 ⊢
          refine ⟨σD4, S5, _, r4.ext x5, m5, q5, fun v H6 y S6 x6 dy m6 ⟨acc, ha, hz, m', hm, w⟩ => ?_⟩
          obtain ⟨accV, h1, h2⟩ := m6 D _ ha
          refine ⟨accV, h1, by rw [← h2.length]; exact hz, _, (x14.trans (x5.trans x6)).trans (m6.ext_setL ha), m6.setL ha (h2.append (.one dy)), m', hm, w⟩
      cases tt with
      | none => exact fin true H4 S4 .refl m4 q4
      | some t => exact ⟨σD4, S4, _, r4, m4, q4, fun b H5 S5 x5 m5 q5 => fin b H5 S5 x5 m5 q5⟩
theorem qe_lc (hc : X.calm = true) (hN : X.N.Nodup) (hi : QI X tg iter wi) (ok : BlkOk X.N X.env.scope scope own) (B : BlkQ X scope (own.map (·.2)) tg elt ifs g tt te) (hs : ∀ x, foldedSetIterable iter X.env x = pure x) :
    QE X (.ListComp elt [⟨tg, iter, ifs, 0⟩] scope pos) (dLc wi g tt te (own.map (·.2))) := fun pins s σ H σD S ex Kt tk T h => by
  obtain ⟨b1, b2, b3⟩ := blk_parts B
  refine thn ((pe_lc (wi := vI X wi ex) hc hN (pi_of hi) ok b1 b2 b3 hs).run pins s σ H (PQ X H Kt) T.I ?_) fun u s1 ⟨v, H', I', r', d, S', x', dr, m', k⟩ => ⟨v, H', d, S', I', r', x', dr, m', k⟩
  exact lc_walk tk T h fun p H' S' x m k => ⟨.ref p, S', x, by simp [DRel], m, k⟩
/-- name = [..] on one line -/
theorem qs_setLc {i : Nat} {y : Str} {py spos : Pos} (hc : X.calm = true) (hN : X.N.Nodup) (hy : X.N[i]? = some y) (hyl : X.env.scope.names.lookup y = some .local) (hsw : swapsWith (.ListComp elt [⟨tg, iter, ifs, 0⟩] scope pos) (some (.Name y py)) spos.line X.env = pure true)
    (hi : QI X tg iter wi) (ok : BlkOk X.N X.env.scope scope own) (B : BlkQ X scope (own.map (·.2)) tg elt ifs g tt te) (hs : ∀ x, foldedSetIterable iter X.env x = pure x) :
    QS X (.Assign [.Name y py] (.ListComp elt [⟨tg, iter, ifs, 0⟩] scope pos) spos) (sAsg (dLc wi g tt te (own.map (·.2))) (gNm i)) := fun pins s σ H σD S D tk T h => by
  obtain ⟨b1, b2, b3⟩ := blk_parts B
  refine thn ((ps_setLc (wi := vI X wi D.ex) hc hN hy hyl hsw (pi_of hi) ok b1 b2 b3 hs).run pins s σ H (vEnds X H D) T.I ?_) fun f s1 z => sq_of z
  exact lc_walk (Q := fun v H' => gName i v σ H' (vEnds X H D).nx) tk T h fun p H' S' x m k => ⟨_, S', x, (T.r.ext x).set (by simp [DRel]), m, k⟩
end
end DL

set_option Elab.async false
set_option linter.all false
set_option maxRecDepth 100000
set_option maxHeartbeats 4000000
namespace DL
open PySem PySem.Spec PyProof.Rows L2

section
variable {X : Cx}
def dDic0 : DE := fun _ S K _ => ∀ p, S p = none → K (.ref p) (sup S p (.dic []))
theorem qe_dic0 {pos : Pos} : QE X (.Dict [] [] pos) dDic0 := fun pins s σ H σD S ex Kt tk T h => by
  refine wpAny_Dict_empty ?_
  have hf : H s.heap.objs.size = none := T.I.hok.fresh (Nat.le_refl _)
  have big := T.I.big
  have lo : (s.heap.objs.size == sysModules) = false := beq_eq_false_iff_ne.mpr (Nat.ne_of_gt big)
  have ob : ObjOk X.prog X.w (upd H s.heap.objs.size (DicO s.heap.objs.size #[] 0)) (s.heap.push { cls := .type "dict", data := .dict #[] }) s.heap.objs.size (DicO s.heap.objs.size #[] 0) := by
    refine ⟨⟨lo, Nat.zero_le _, _, Heap.get?_push_size _ rfl, ⟨rfl, rfl, rfl⟩, rfl⟩, ⟨_, Heap.get?_push_size _ rfl⟩, fun h1 h2 ⟨a, b, o, q, r⟩ k => ⟨a, b, o, k o q, r⟩⟩
  refine ⟨.ref s.heap.objs.size, _, .ref s.heap.objs.size, _, T.I.laid (t' := s.toks) (fun b o e => Heap.get?_push_of_some _ e) (Nat.le_refl _) ob, rfl, Ext.new hf, by simp [DRel], T.m.new (o := .dic []) hf ⟨#[], 0, upd_same, rfl, List.nodup_nil⟩, h _ (T.m.fresh hf)⟩

/-- the modules' dict stands in the written part: no list of the store stands there -/
def SysOk (K : PySem.W.Frag) : Prop := ∃ o es n, K.lookup sysModules = some o ∧ o.data = .dict es n
def mapP (f : D → Option PyData) : List (D × D) → Option (List (PyData × PyData))
  | [] => some []
  | p :: r => match f p.1, f p.2, mapP f r with
    | some a, some b, some l => some ((a, b) :: l)
    | _, _, _ => none
theorem mapP_cons {f : D → Option PyData} {p : D × D} {r : List (D × D)} {l : List (PyData × PyData)} (h : mapP f (p :: r) = some l) : ∃ a b l', f p.1 = some a ∧ f p.2 = some b ∧ mapP f r = some l' ∧ l = (a, b) :: l' := by
  unfold mapP at h
  split at h
  · rename_i a b l' e1 e2 e3; cases h; exact ⟨a, b, l', e1, e2, e3, rfl⟩
  · cases h
/-- a value as data: lists and dicts are looked up -/
def toPyR (S : Sto) : Nat → D → Option PyData
  | 0, _ => none
  | n + 1, .tup xs => (mapO (toPyR S n) xs).map .tuple
  | n + 1, .rol xs => (mapO (toPyR S n) xs).map .list
  | n + 1, .ref a => match S a with
    | some (.lst xs) => (mapO (toPyR S n) xs).map .list
    | some (.dic kvs) => (mapP (toPyR S n) kvs).map .dict
    | _ => none
  | _ + 1, .non => some .none
  | _ + 1, .bl b => some (.bool b)
  | _ + 1, .int i => some (.int i)
  | _ + 1, .str x => some (.str x)
  | _ + 1, .ty _ => none
  | _ + 1, .glo _ => none
theorem mapO_imp {f f' : D → Option PyData} (h : ∀ d p, f d = some p → f' d = some p) : ∀ {xs : List D} {l : List PyData}, mapO f xs = some l → mapO f' xs = some l
  | [], _, e => e
  | x :: xs, l, e => by
    obtain ⟨y, ys, e1, e2, rfl⟩ := mapO_cons e
    simp only [mapO, h _ _ e1, mapO_imp h e2]
theorem toPyR_of {S : Sto} : ∀ (n : Nat) (d : D) (p : PyData), toPy S n d = some p → toPyR S n d = some p
  | 0, d, p, e => by cases e
  | n + 1, .tup xs, p, e => by
    unfold toPy at e
    obtain ⟨l, e1, rfl⟩ := Option.map_eq_some_iff.mp e
    unfold toPyR
    rw [mapO_imp (toPyR_of n) e1]; rfl
  | n + 1, .rol xs, p, e => by
    unfold toPy at e
    obtain ⟨l, e1, rfl⟩ := Option.map_eq_some_iff.mp e
    unfold toPyR
    rw [mapO_imp (toPyR_of n) e1]; rfl
  | n + 1, .ref a, p, e => by
    unfold toPy at e
    unfold toPyR
    cases q : S a with
    | none => rw [q] at e; cases e
    | some o =>
      rw [q] at e
      cases o with
      | lst xs =>
        obtain ⟨l, e1, rfl⟩ := Option.map_eq_some_iff.mp e
        show (mapO (toPyR S n) xs).map PyData.list = _
        rw [mapO_imp (toPyR_of n) e1]; rfl
      | _ => cases e
  | n + 1, .non, p, e => e
  | n + 1, .bl b, p, e => e
  | n + 1, .int b, p, e => e
  | n + 1, .str b, p, e => e
  | n + 1, .ty _, p, e => by cases e
  | n + 1, .glo _, p, e => by cases e
section
variable {pins : List (Addr × Obj)} {σ : VSt} {H : Hp} {s : Shared} {σD : DSt} {S : Sto}
/-- the value reads so; the modules' dict is no part of it -/
def RdsR (h : Heap) (u : Value) (p : PyData) : Prop := ∃ as, Reads h u p as ∧ sysModules ∉ as
def RdsRs (h : Heap) (us : List Value) (ps : List PyData) : Prop := ∃ as, ReadsAll h us ps as ∧ sysModules ∉ as
theorem not_sys (hs : SysOk X.K) (I : Inv X pins σ H s) {a : Addr} {o : Obj} {vs : Array Value} {n : Nat} (e : s.heap.get? a = some o) (d : o.data = .seq vs n) : a ≠ sysModules := by
  rintro rfl
  obtain ⟨o', es, k, h1, h2⟩ := hs
  have q := I.kIn _ _ h1
  rw [e] at q
  cases q
  rw [d] at h2
  cases h2
theorem mapO_rds {f : D → Option PyData} {P : Nat} (hf : ∀ d p v u, f d = some p → DRel (gp X) H d v → RelV v u → RdsR s.heap u p ∧ p.depth ≤ P) : ∀ {xs : List D} {l : List PyData} {vs : List V} {us : List Value}, mapO f xs = some l → DRels (gp X) H xs vs → Vals vs us → RdsRs s.heap us l ∧ PyData.depthAll l ≤ P
  | [], l, vs, us, e, r, w => by
    cases e
    have : vs = [] := by simpa [DRels] using r
    subst this
    cases w
    exact ⟨⟨[], .nil, by simp⟩, by simp [PyData.depthAll]⟩
  | x :: xs, l, vs, us, e, r, w => by
    obtain ⟨y, ys, e1, e2, rfl⟩ := mapO_cons e
    unfold DRels at r
    obtain ⟨v, q, rfl, r1, r2⟩ := r
    cases w with
    | cons w1 w2 =>
      obtain ⟨⟨as, R1, n1⟩, p1⟩ := hf x y v _ e1 r1 w1
      obtain ⟨⟨bs, R2, n2⟩, p2⟩ := mapO_rds hf e2 r2 w2
      exact ⟨⟨as ++ bs, .cons R1 R2, by simp [n1, n2]⟩, by simp only [PyData.depthAll]; omega⟩
theorem mapP_rds {f : D → Option PyData} {P : Nat} (hf : ∀ d p v u, f d = some p → DRel (gp X) H d v → RelV v u → RdsR s.heap u p ∧ p.depth ≤ P) : ∀ {kvs : List (D × D)} {l : List (PyData × PyData)} {es : List DictEntry}, mapP f kvs = some l → DicRel (gp X) H kvs es →
    RdsRs s.heap (es.map (·.key)) (l.map (·.1)) ∧ RdsRs s.heap (es.map (·.val)) (l.map (·.2)) ∧ PyData.depthKv l ≤ P
  | [], l, es, e, r => by
    cases e
    have : es = [] := r
    subst this
    exact ⟨⟨[], .nil, by simp⟩, ⟨[], .nil, by simp⟩, by simp [PyData.depthKv]⟩
  | p :: kvs, l, es, e, r => by
    obtain ⟨a, b, l', e1, e2, e3, rfl⟩ := mapP_cons e
    obtain ⟨en, es', rfl, ⟨kv, k1, k2⟩, ⟨vv, v1, v2⟩, _, r'⟩ := r
    obtain ⟨⟨as, R1, n1⟩, d1⟩ := hf _ _ _ _ e1 k1 k2
    obtain ⟨⟨bs, R2, n2⟩, d2⟩ := hf _ _ _ _ e2 v1 v2
    obtain ⟨⟨cs, R3, n3⟩, ⟨ds, R4, n4⟩, d3⟩ := mapP_rds hf e3 r'
    exact ⟨⟨as ++ cs, .cons R1 R3, by simp [n1, n3]⟩, ⟨bs ++ ds, .cons R2 R4, by simp [n2, n4]⟩, by simp only [PyData.depthKv]; omega⟩
theorem rds_R (hs : SysOk X.K) (I : Inv X pins σ H s) (m : Sim (gp X) H S) : ∀ (n : Nat) (d : D) (p : PyData) (v : V) (u : Value), toPyR S n d = some p → DRel (gp X) H d v → RelV v u → RdsR s.heap u p ∧ p.depth ≤ n
  | 0, d, p, v, u, e, _, _ => by cases e
  | n + 1, .tup xs, p, v, u, e, r, w => by
    unfold toPyR at e
    obtain ⟨l, e1, rfl⟩ := Option.map_eq_some_iff.mp e
    unfold DRel at r
    obtain ⟨a, vs, rfl, q, r⟩ := r
    cases w
    obtain ⟨its, rv, ⟨o, ho, hc, k, hd⟩, hz⟩ := I.tuple q
    obtain ⟨⟨as, R, n1⟩, d1⟩ := mapO_rds (rds_R hs I m n) e1 r rv
    exact ⟨⟨as, .tuple ho hc hd (by simpa using R), n1⟩, by simp only [PyData.depth]; omega⟩
  | n + 1, .rol xs, p, v, u, e, r, w => by
    unfold toPyR at e
    obtain ⟨l, e1, rfl⟩ := Option.map_eq_some_iff.mp e
    unfold DRel at r
    obtain ⟨a, vs, rfl, q, r⟩ := r
    cases w
    obtain ⟨its, rv, hl, hz⟩ := I.list q.sql
    obtain ⟨o, ho, hc, k, hd⟩ := hl.isList
    obtain ⟨⟨as, R, n1⟩, d1⟩ := mapO_rds (rds_R hs I m n) e1 r rv
    exact ⟨⟨a :: as, .list ho hc hd (by simpa using R), by simp [n1, Ne.symm (not_sys hs I ho hd)]⟩, by simp only [PyData.depth]; omega⟩
  | n + 1, .ref a, p, v, u, e, r, w => by
    unfold toPyR at e
    unfold DRel at r
    subst r
    cases w
    cases q : S a with
    | none => rw [q] at e; cases e
    | some o =>
      rw [q] at e
      cases o with
      | lst xs =>
        obtain ⟨l, e1, rfl⟩ := Option.map_eq_some_iff.mp e
        obtain ⟨vs, h1, h2⟩ := m a _ q
        obtain ⟨its, rv, hl, hz⟩ := I.list (SqL.of h1)
        obtain ⟨o, ho, hc, k, hd⟩ := hl.isList
        obtain ⟨⟨as, R, n1⟩, d1⟩ := mapO_rds (rds_R hs I m n) e1 h2 rv
        exact ⟨⟨a :: as, .list ho hc hd (by simpa using R), by simp [n1, Ne.symm (not_sys hs I ho hd)]⟩, by simp only [PyData.depth]; omega⟩
      | dic kvs =>
        obtain ⟨l, e1, rfl⟩ := Option.map_eq_some_iff.mp e
        obtain ⟨es, ep, h1, h2, _⟩ := m a _ q
        obtain ⟨⟨lo, _, o, g1, g2, g3⟩, _⟩ := I.hok a _ h1
        obtain ⟨⟨as, R1, n1⟩, ⟨bs, R2, n2⟩, d1⟩ := mapP_rds (rds_R hs I m n) e1 h2
        refine ⟨⟨a :: as ++ bs, .dict g1 g2.1 g3 R1 R2, ?_⟩, by simp only [PyData.depth]; omega⟩
        have : a ≠ sysModules := by simpa using lo
        simp [n1, n2, Ne.symm this]
      | _ => cases e
  | n + 1, .non, p, v, u, e, r, w => by cases e; unfold DRel at r; subst r; cases w; exact ⟨⟨[], .none, by simp⟩, by simp [PyData.depth]⟩
  | n + 1, .bl b, p, v, u, e, r, w => by cases e; unfold DRel at r; subst r; cases w; exact ⟨⟨[], .bool b, by simp⟩, by simp [PyData.depth]⟩
  | n + 1, .int b, p, v, u, e, r, w => by cases e; unfold DRel at r; subst r; obtain ⟨t, rfl⟩ := w; exact ⟨⟨[], .int b t, by simp⟩, by simp [PyData.depth]⟩
  | n + 1, .str b, p, v, u, e, r, w => by cases e; unfold DRel at r; subst r; obtain ⟨t, rfl⟩ := w; exact ⟨⟨[], .str b t, by simp⟩, by simp [PyData.depth]⟩
  | n + 1, .ty _, p, v, u, e, _, _ => by cases e
  | n + 1, .glo _, p, v, u, e, _, _ => by cases e
end
/-- data that repr shows -/
def reprOk (p : PyData) : Prop := p.showable = true ∧ p.shown.length ≤ sizeLine
def reprD : DB := fun ds S K _ => ∃ d p, ds = [d] ∧ toPyR S 64 d = some p ∧ reprOk p ∧ K (.str p.shown) S
theorem cd_repr (hs : SysOk X.K) (hg : X.A.guards = some []) (hu : X.A.units + 66 < cLine) : CallD X (.builtin "repr") reprD := fun pins s σ H σD S ex Kt ds vs us tk T dr rv ⟨d, p, e, hp, ⟨h1, h2⟩, q⟩ => by
  subst e
  obtain ⟨v, rfl, d1⟩ := drels1 dr
  obtain ⟨u, rfl, r1⟩ := rv.one
  have fin : ∀ (x : Str) (h' : Heap) (t : Tok) (tk : Nat), (∀ b o, s.heap.get? b = some o → h'.get? b = some o) → Kt (.str x) S → EQ X pins σ H Kt (.str x t) { s with heap := h', toks := tk } := fun x h' t tk kp k =>
    ⟨.str x, H, .str x, S, T.I.kept (t' := tk) kp, ⟨t, rfl⟩, .refl, by simp [DRel], T.m, k⟩
  obtain ⟨⟨as, R, ns⟩, dp⟩ := rds_R hs T.I T.m 64 d p v u hp d1 r1
  cases R with
  | none => exact PySem.P.repr_of_none (fin _ _ _ _ (fun _ _ e => e) q)
  | bool b => exact PySem.P.repr_of_bool (fin _ _ _ _ (fun _ _ e => e) q)
  | int i t => exact PySem.P.repr_of_int (by simpa [PyData.showable] using h1) (fin _ _ _ _ (fun _ _ e => e) q)
  | str x t => exact PySem.P.repr_of_str (fin _ _ _ _ (fun _ _ e => e) q) h2
  | list e1 e2 e3 e4 => exact repr_of_reads' (h₀ := s.heap) (.list e1 e2 e3 e4) h1 (fun _ => ns) hg (by omega) (fun _ _ e => e) (fun h' u tk kp => fin _ h' _ _ kp q) h2
  | tuple e1 e2 e3 e4 => exact repr_of_reads' (h₀ := s.heap) (.tuple e1 e2 e3 e4) h1 (fun _ => ns) hg (by omega) (fun _ _ e => e) (fun h' u tk kp => fin _ h' _ _ kp q) h2
  | dict e1 e2 e3 e4 e5 => exact repr_of_reads' (h₀ := s.heap) (.dict e1 e2 e3 e4 e5) h1 (fun _ => ns) hg (by omega) (fun _ _ e => e) (fun h' u tk kp => fin _ h' _ _ kp q) h2
end
end DL

set_option Elab.async false
set_option linter.all false
set_option maxRecDepth 100000
set_option maxHeartbeats 4000000
namespace DL
open PySem PySem.Spec PyProof.Rows L2

/-- what a store into the new dict asks -/
abbrev TPut := Addr → V → V → Hp → (Hp → Prop) → Prop
def PutOk (X : Cx) (put : TPut) : Prop := ∀ (Y : Cx) (pins : List (Addr × Obj)) (σ : VSt) (H : Hp) (s : Shared) (D : Addr) (y z : V) (u r : Value) (nx : Hp → Prop) (E : Value → Shared → Prop), gp Y = gp X → Y.prog = X.prog → Inv Y pins σ H s → RelV y u → RelV z r → put D y z H nx →
  wpAny (model Y.prog Y.w) Y.A (dictSet D u r) (fun _ s' => ∃ H', Inv Y pins σ H' s' ∧ nx H') E s
section
variable {X : Cx}
/-- {k: v for target in iter if ..} over the hand layer -/
def tDx (wi : TI) (g : TG) (tt : TT) (tk tv : TE) (put : TPut) (vs : List Nat) : TE := fun σ H Q => wi σ H fun J H1 => ∀ D, H1 D = none → ∃ W : Nat → Nat → Hp → Prop, (∃ m, W 0 m (L2.upd H1 D (DicO D #[] 0))) ∧ ∀ i m H, W i m H →
  (J.stop i H ∧ Q (.ref D) H) ∨ (J.go i H ∧ ∃ Nx : Hp → Prop, (∀ H', Nx H' → ∃ m', m' < m ∧ W (i + 1) m' H') ∧ ∀ x H', J.yld i H x H' → g x (L2.wipe σ vs) H' fun σ2 H2 => L2.wipe σ2 vs = L2.wipe σ vs ∧ tt σ2 H2 fun b H3 =>
    if b = true then tk σ2 H3 fun y H4 => tv σ2 H4 fun z H5 => put D y z H5 Nx else Nx H3)
theorem dx_ob {H : Hp} {h : Heap} (big : sysModules < h.objs.size) : ObjOk X.prog X.w H (h.push { cls := .type "dict", data := .dict #[] }) h.objs.size (DicO h.objs.size #[] 0) :=
  ⟨⟨beq_eq_false_iff_ne.mpr (Nat.ne_of_gt big), Nat.zero_le _, _, Heap.get?_push_size _ rfl, ⟨rfl, rfl, rfl⟩, rfl⟩, ⟨_, Heap.get?_push_size _ rfl⟩, fun h1 h2 ⟨a, b, o, q, r⟩ k => ⟨a, b, o, k o q, r⟩⟩
variable {kx vx tg iter : Expr} {ifs : List Expr} {scope : Scope} {own : List (Str × Nat)} {pos pos' : Pos}
theorem dx_core {pins : List (Addr × Obj)} {s : Shared} {σ : VSt} {H : Hp} {Q : VK} {wi : TI} {g : TG} {tt : TT} {tk tv : TE} {put : TPut} {Qf : Value → Shared → Prop} {use : Option (Value → Sem Unit)}
    (calm : X.calm = true) (nd : X.N.Nodup) (I : Inv X pins σ H s) (hi : PI X tg iter wi) (bo : BlkOk X.N X.env.scope scope own) (po : PutOk X put)
    (pg : ∀ (s : Shared) (H : Hp) (C : Addr) (cl : List (Str × Addr)) (fp : List Addr), PG (X.blk s H scope (compEnvC scope cl C X.env) fp) tg g)
    (pt : ∀ (s : Shared) (H : Hp) (C : Addr) (cl : List (Str × Addr)) (fp : List Addr), PTs (X.blk s H scope (compEnvC scope cl C X.env) fp) ifs tt)
    (pk : ∀ (s : Shared) (H : Hp) (C : Addr) (cl : List (Str × Addr)) (fp : List Addr), PE (X.blk s H scope (compEnvC scope cl C X.env) fp) kx tk)
    (pv : ∀ (s : Shared) (H : Hp) (C : Addr) (cl : List (Str × Addr)) (fp : List Addr), PE (X.blk s H scope (compEnvC scope cl C X.env) fp) vx tv)
    (fold : ∀ x, foldedSetIterable iter X.env x = pure x) (h : tDx wi g tt tk tv put (own.map (·.2)) σ H Q)
    (fin : ∀ D C s' m H', Inv X pins σ H' s' → Q (.ref D) H' → s'.heap.Ns C m → FpOk X pins H' C → compPost (model X.prog X.w) X.A X.xe use Qf (.ref D) C (.ok .next) s') :
    wpAny (model X.prog X.w) X.A (comprehension (.DictComp kx vx [⟨tg, iter, ifs, 0⟩] scope pos) scope X.env pos' newDict false (eval iter X.env) use) Qf X.xe s := by
  have frees : ∀ y ∈ scope.names, y.2 = .free → ∃ c, X.env.cells.lookup y.1 = some c := fun y hy e =>
    (bo.free y hy e).elim (fun k => I.ok.has _ (.inl k)) fun k => I.ok.has _ (.inr k)
  refine wpAny_comprehension_free (use := use) rfl fold (closure_ok frees) bo.kind (fun y hy e => (bo.uniq y hy).trans (by rw [e])) ?_
  refine thn (hi.run pins s σ H _ I h) fun xv s1 hx => thn hx fun itv s2 ⟨it, fp, tn, J, H2, e, I2, T, st2, f2, q⟩ => ?_
  subst e
  refine wpAny_newObj_type (newEnv_comp ?_)
  have dfree : H2 s2.heap.objs.size = none := I2.hok.fresh (Nat.le_refl _)
  obtain ⟨W, ⟨m0, w0⟩, turn⟩ := q _ dfree
  have I3 : Inv X pins σ (L2.upd H2 s2.heap.objs.size (DicO s2.heap.objs.size #[] 0)) { s2 with heap := s2.heap.push { cls := .type "dict", data := .dict #[] } } :=
    I2.laid (t' := s2.toks) (fun b o e => Heap.get?_push_of_some _ e) (Nat.le_refl _) (dx_ob I2.big)
  have below : ∀ b ∈ fp, b < s2.heap.objs.size := fun b hb => let ⟨o, e, _⟩ := T.obj _ _ st2 b hb; Heap.lt_size e
  have apart : ∀ b ∈ fp, L2.upd H2 s2.heap.objs.size (DicO s2.heap.objs.size #[] 0) b = none := fun b hb => by
    rw [upd_ne (Nat.ne_of_lt (below b hb))]
    exact (f2 b hb).1
  have st3 : tn 0 (s2.heap.push { cls := .type "dict", data := .dict #[] }) := T.keep _ _ _ st2 fun b _ o e => Heap.get?_push_of_some _ e
  generalize hD : s2.heap.objs.size = D at *
  generalize hH3 : L2.upd H2 D (DicO D #[] 0) = H3 at *
  have small : ∀ b ∈ fp, b < (s2.heap.push { cls := .type "dict", data := .dict #[] }).objs.size := fun b hb => by
    rw [Heap.size_push, hD]
    exact Nat.lt_succ_of_lt (below b hb)
  generalize hs3 : ({ s2 with heap := s2.heap.push { cls := .type "dict", data := .dict #[] } } : Shared) = s3 at I3
  have e3 : s3.heap = s2.heap.push { cls := .type "dict", data := .dict #[] } := by rw [← hs3]
  rw [← e3] at st3 small
  have fps : ∀ b ∈ fp, FpOk X pins H3 b ∧ b < s3.heap.objs.size := fun b hb => ⟨⟨apart b hb, (f2 b hb).2⟩, small b hb⟩
  have I4 := block_start I3 bo nd fps
  show codeAny _ _ (.compStart (.DictComp kx vx [⟨tg, iter, ifs, 0⟩] scope pos) 0 (.ref it) (.ref D) (compEnvC scope (cellsFrom (s3.heap.objs.size + 1) scope.names (cloFrom X.env.cells scope.names [])) s3.heap.objs.size X.env)) (compPost (model X.prog X.w) X.A X.xe use Qf (.ref D) s3.heap.objs.size) { s3 with heap := pushCells (s3.heap.push { cls := .type "dict", data := .dict #[] }) scope.names }
  replace pg := pg s3 H3 s3.heap.objs.size (cellsFrom (s3.heap.objs.size + 1) scope.names (cloFrom X.env.cells scope.names [])) fp
  replace pt := pt s3 H3 s3.heap.objs.size (cellsFrom (s3.heap.objs.size + 1) scope.names (cloFrom X.env.cells scope.names [])) fp
  replace pk := pk s3 H3 s3.heap.objs.size (cellsFrom (s3.heap.objs.size + 1) scope.names (cloFrom X.env.cells scope.names [])) fp
  replace pv := pv s3 H3 s3.heap.objs.size (cellsFrom (s3.heap.objs.size + 1) scope.names (cloFrom X.env.cells scope.names [])) fp
  generalize hce : compEnvC scope (cellsFrom (s3.heap.objs.size + 1) scope.names (cloFrom X.env.cells scope.names [])) s3.heap.objs.size X.env = ce at I4 pg pt pk pv ⊢
  have cL : ce.locals = s3.heap.objs.size := by subst hce; rfl
  generalize hs4 : ({ s3 with heap := pushCells (s3.heap.push { cls := .type "dict", data := .dict #[] }) scope.names } : Shared) = s4 at I4 ⊢
  have st4 : tn 0 s4.heap := T.keep _ _ _ st3 fun b _ o e => by rw [← hs4]; exact pushCells_keeps _ _ _ _ (Heap.get?_push_of_some _ e)
  have still : ∀ {σ' : VSt} {H' : Hp} {s' : Shared}, Inv (X.blk s3 H3 scope ce fp) [] σ' H' s' → (∀ b ∈ fp, H' b = none) → ∀ b ∈ fp, FpOk (X.blk s3 H3 scope ce fp) [] H' b := fun {σ' H' s'} I' hn b hb =>
    ⟨hn b hb, (I'.ok.exf b hb).1, I'.ok.exfs b hb, .inl hb, fun x c e => (I'.ok.exf b hb).2 x c e, fun p hp => absurd (show p ∈ ([] : List (Addr × Obj)) ++ [] from hp) (by simp)⟩
  have loop : codeAny (model X.prog X.w) X.A (.compLoop (.DictComp kx vx [⟨tg, iter, ifs, 0⟩] scope pos) 0 (.ref it) (.ref D) ce) (compPost (model X.prog X.w) X.A X.xe use Qf (.ref D) s3.heap.objs.size) s4 := by
    refine compLoop_anyD (fun n s' => ∃ i H', Inv (X.blk s3 H3 scope ce fp) [] (L2.wipe σ (own.map (·.2))) H' s' ∧ tn i s'.heap ∧ (∀ b ∈ fp, H' b = none) ∧ W i n H') ?_ m0 ⟨0, H3, I4, st4, apart, w0⟩
    rintro n s5 ⟨i, H5, I5, st5, n5, w5⟩
    rcases turn i n H5 w5 with ⟨stop, qq⟩ | ⟨go, Nx, hNx, step⟩
    · refine thnF (T.done (X.blk s3 H3 scope ce fp) rfl rfl rfl calm i [] s5 _ H5 (fun _ _ => False) I5 (still I5 n5) st5 stop) fun r s6 ⟨hr, I6⟩ => ?_
      subst hr
      have I7 : Inv X pins σ H5 s6 := I3.call' (ch := fp) I6.os I6.base I6.hok I6.bare fun b hb => ⟨(fps b hb).1.2.2.2.1, (fps b hb).1.2.1, (fps b hb).1.2.2.2.2.1, (fps b hb).1.2.2.2.2.2⟩
      have nC : H5 s3.heap.objs.size = none := cL ▸ (I6.free : H5 ce.locals = none)
      obtain ⟨m, hn, _⟩ := I6.loc
      exact fin D s3.heap.objs.size s6 m H5 I7 qq (cL ▸ (show s6.heap.Ns ce.locals m from hn)) (I3.fpOk (Nat.le_refl _) nC)
    · refine thnF (T.item (X.blk s3 H3 scope ce fp) rfl rfl rfl calm i [] s5 _ H5 (fun _ _ => False) I5 (still I5 n5) st5 go) fun r s6 ⟨u, hr, h6⟩ => ?_
      subst hr
      refine thnF h6 fun _ s7 ⟨x, H7, I7, r7, y7, st7, n7⟩ => ?_
      refine thnF (pg.run _ s7 _ H7 x u _ (I7.pinned (still I7 n7) (T.obj _ _ st7)) r7 (step x H7 y7)) fun _ s8 ⟨σ8, H8, I8, hw8, q8⟩ => ?_
      refine thnF (pt.run _ s8 σ8 H8 _ I8 q8) fun b s9 ⟨H9, I9, q9⟩ => ?_
      have close : ∀ {s' : Shared} {H' : Hp}, Inv (X.blk s3 H3 scope ce fp) ([] ++ pinsAt fp s7.heap) σ8 H' s' → Nx H' → ∃ m, m < n ∧ ∃ i H', Inv (X.blk s3 H3 scope ce fp) [] (L2.wipe σ (own.map (·.2))) H' s' ∧ tn i s'.heap ∧ (∀ b ∈ fp, H' b = none) ∧ W i m H' := fun {s' H'} I' nx => by
        obtain ⟨m', hm, w'⟩ := hNx H' nx
        have held : ∀ b ∈ fp, ∀ o, s7.heap.get? b = some o → s'.heap.get? b = some o ∧ H' b = none := fun b hb o e =>
          let z := I'.pin (b, o) (List.mem_append_right _ (List.mem_append_right _ (mem_pinsAt hb e)))
          ⟨z.1, z.2.1⟩
        refine ⟨m', hm, i + 1, H', (I'.unpinned (pins := [])).weak (by rw [← hw8, wipe_length]) (fun j v e => ?_), T.keep _ _ _ st7 fun b hb o e => (held b hb o e).1, fun b hb => ?_, w'⟩
        · rw [← hw8] at e
          exact (wipe_some e).1
        · obtain ⟨o, e, _⟩ := T.obj _ _ st7 b hb
          exact (held b hb o e).2
      cases b with
      | false =>
        simp only [Bool.false_eq_true, if_false] at q9 ⊢
        exact close I9 q9
      | true =>
        simp only [if_true] at q9 ⊢
        refine thnF (pk.run _ s9 σ8 H9 _ I9 q9) fun ku s10 ⟨yk, H10, I10, r10, q10⟩ => ?_
        refine thnF (pv.run _ s10 σ8 H10 _ I10 q10) fun vu s11 ⟨yv, H11, I11, r11, q11⟩ => ?_
        exact thn (po (X.blk s3 H3 scope ce fp) _ σ8 H11 s11 D yk yv ku vu Nx _ rfl rfl I11 r10 r11 q11) fun _ s12 ⟨H12, I12, nx⟩ => close I12 nx
  exact codeAny_compStart_dict loop (T.self X.A 0 _ _ _ st4 loop)
theorem pe_dx {wi : TI} {g : TG} {tt : TT} {tk tv : TE} {put : TPut} (calm : X.calm = true) (nd : X.N.Nodup) (hi : PI X tg iter wi) (bo : BlkOk X.N X.env.scope scope own) (po : PutOk X put)
    (pg : ∀ (s : Shared) (H : Hp) (C : Addr) (cl : List (Str × Addr)) (fp : List Addr), PG (X.blk s H scope (compEnvC scope cl C X.env) fp) tg g)
    (pt : ∀ (s : Shared) (H : Hp) (C : Addr) (cl : List (Str × Addr)) (fp : List Addr), PTs (X.blk s H scope (compEnvC scope cl C X.env) fp) ifs tt)
    (pk : ∀ (s : Shared) (H : Hp) (C : Addr) (cl : List (Str × Addr)) (fp : List Addr), PE (X.blk s H scope (compEnvC scope cl C X.env) fp) kx tk)
    (pv : ∀ (s : Shared) (H : Hp) (C : Addr) (cl : List (Str × Addr)) (fp : List Addr), PE (X.blk s H scope (compEnvC scope cl C X.env) fp) vx tv)
    (fold : ∀ x, foldedSetIterable iter X.env x = pure x) : PE X (.DictComp kx vx [⟨tg, iter, ifs, 0⟩] scope pos) (tDx wi g tt tk tv put (own.map (·.2))) := ⟨fun pins s σ H Q I h => by
  rw [arm_eval_DictComp]
  refine dx_core calm nd I hi bo po pg pt pk pv fold h fun D C s' m H' I' q hn ⟨f0, f1, f2, f3, f4, f5⟩ => ⟨m, hn, fun h'' sb => ?_⟩
  exact ⟨.ref D, H', I'.turned (t' := s'.toks) (fun b o hb e => (sb.2 b hb).trans e) f0 f1 f3 f4 f5, rfl, q⟩⟩
/-- a store, over trees -/
def putTr (g : GP) : TPut := fun D y z H nx => ∃ S yd zd kvs, DRel g H yd y ∧ DRel g H zd z ∧ Sim g H S ∧ S D = some (.dic kvs) ∧ isLf yd = true ∧ allLf kvs = true ∧ kvs.length < sizeLine ∧ ∀ H', Ext g.K H H' → Sim g H' (sup S D (.dic (putKD kvs yd zd))) → nx H'
theorem putTr_ok : PutOk X (putTr (gp X)) := fun Y pins σ H s D y z u r nx E eg ep I r1 r2 ⟨S, yd, zd, kvs, d1, d2, m, e, h1, h2, h3, k⟩ => by
  rw [← eg] at d1 d2 m k
  have T : Sit Y pins σ H s (List.replicate σ.length none) S := ⟨I, ⟨by simp, fun i d q => by
    rw [List.getElem?_replicate] at q
    split at q <;> cases q⟩, m⟩
  exact dictSet_ok T e h1 h2 h3 d1 d2 r1 r2 fun s' H' I' x' m' => ⟨H', I', k H' x' m'⟩
/-- {k: v for target in iter if ..} -/
def dDc (wi : DI) (g : DG) (tt : Option DT) (tk tv : DE) (vs : List Nat) : DE := fun σ S K E => wi σ S (fun it S1 => ∀ p, S1 p = none → ∃ W : Nat → Nat → Sto → Prop, (∃ m, W 0 m (sup S1 p (.dic []))) ∧ ∀ i m S, W i m S → ∃ xs, it S = some xs ∧
  ((xs.length ≤ i ∧ K (.ref p) S) ∨ ∃ d, xs[i]? = some d ∧ g d (wipeD σ vs) S fun σ2 S2 => dIfs tt σ2 S2 (fun b S3 => if b = true then tk σ2 S3 (fun y S4 => tv σ2 S4 (fun z S5 => ∃ kvs, S5 p = some (.dic kvs) ∧ isLf y = true ∧ allLf kvs = true ∧ kvs.length < sizeLine ∧ ∃ m', m' < m ∧ W (i + 1) m' (sup S5 p (.dic (putKD kvs y z)))) noE) noE
    else ∃ m', m' < m ∧ W (i + 1) m' S3) noE)) E
theorem wipe_twice (σ : VSt) (vs : List Nat) : L2.wipe (L2.wipe σ vs) vs = L2.wipe σ vs := by
  have gen : ∀ (us : List Nat) (τ : VSt), (∀ u ∈ us, ∀ x, τ[u]? = some x → x = none) → L2.wipe τ us = τ := by
    intro us
    induction us with
    | nil => intro τ _; rfl
    | cons u us ih =>
      intro τ hτ
      unfold L2.wipe
      rw [ih τ fun w hw => hτ w (List.mem_cons_of_mem _ hw)]
      apply List.ext_getElem?
      intro j
      by_cases hj : u = j
      · subst hj
        by_cases hl : u < τ.length
        · rw [List.getElem?_set_self hl]
          obtain ⟨x, hx⟩ : ∃ x, τ[u]? = some x := ⟨τ[u], by simp [hl]⟩
          rw [hx, hτ u List.mem_cons_self x hx]
        · rw [List.getElem?_eq_none (by simpa using hl), List.getElem?_eq_none (by simpa using hl)]
      · rw [List.getElem?_set_ne hj]
  refine gen vs _ fun u hu x hx => ?_
  cases x with
  | none => rfl
  | some y => exact absurd hu (wipe_some hx).2
theorem dc_walk {pins : List (Addr × Obj)} {σ : VSt} {H : Hp} {s : Shared} {σD : DSt} {S : Sto} {ex : DXs} {vs : List Nat} {Kt : DK} {Q : VK} {wi : DI} {g : DG} {tt : Option DT} {tk tv : DE} (tak : Takes X (lX X H ex)) (T : Sit X pins σ H s σD S) (h : dDc wi g tt tk tv vs σD S Kt (fun c fs S => ex c fs σD S))
    (hQ : ∀ p H' S', Ext X.K H H' → Sim (gp X) H' S' → Kt (.ref p) S' → Q (.ref p) H') : tDx (vI X wi ex) (wG X vs g) (wT X tt) (wE X tk) (wE X tv) (putTr (gp X)) vs σ H Q := by
  refine ⟨σD, S, _, tak, T.r, T.m, h, fun J H1 I S1 x1 m1 hr hW D hD => ?_⟩
  obtain ⟨W, ⟨m0, w0⟩, turn⟩ := hW D (m1.fresh hD)
  have xD : Ext X.K H1 (L2.upd H1 D (DicO D #[] 0)) := Ext.new hD
  refine ⟨fun i m H' => ∃ S', Ext X.K H1 H' ∧ Sim (gp X) H' S' ∧ W i m S', ⟨m0, _, xD, m1.new hD (o := .dic []) ⟨#[], 0, upd_same, rfl, List.nodup_nil⟩, w0⟩, ?_⟩
  rintro i m H2 ⟨S2, x2, m2, w2⟩
  obtain ⟨xs, e, h⟩ := turn i m S2 w2
  obtain ⟨hgo, hst⟩ := hr i H2 S2 x2 m2 xs e
  rcases h with ⟨hle, q⟩ | ⟨d, hd, q⟩
  · exact .inl ⟨hst hle, hQ D H2 S2 (x1.trans x2) m2 q⟩
  · obtain ⟨go, hy⟩ := hgo d hd
    refine .inr ⟨go, fun H' => ∃ S', Ext X.K H1 H' ∧ Sim (gp X) H' S' ∧ ∃ m', m' < m ∧ W (i + 1) m' S', fun H' ⟨S', a, b, m', hm, w⟩ => ⟨m', hm, S', a, b, w⟩, fun v H3 yl => ?_⟩
    obtain ⟨x3, m3, dr3⟩ := hy v H3 yl
    have x13 := x2.trans x3
    refine ⟨d, wipeD σD vs, S2, _, dr3, (T.r.wipe vs).ext (x1.trans x13), m3, q, fun σ4 H4 σD4 S4 x4 r4 m4 hw q4 => ⟨by rw [hw]; exact wipe_twice σ vs, ?_⟩⟩
    have x14 := x13.trans x4
    have fin : ∀ b H5 S5, Ext X.K H4 H5 → Sim (gp X) H5 S5 → (if b = true then tk σD4 S5 (fun y S4 => tv σD4 S4 (fun z S5 => ∃ kvs, S5 D = some (.dic kvs) ∧ isLf y = true ∧ allLf kvs = true ∧ kvs.length < sizeLine ∧ ∃ m', m' < m ∧ W (i + 1) m' (sup S5 D (.dic (putKD kvs y z)))) noE) noE else ∃ m', m' < m ∧ W (i + 1) m' S5) →
        (if b = true then wE X tk σ4 H5 (fun y H6 => wE X tv σ4 H6 (fun z H7 => putTr (gp X) D y z H7 fun H' => ∃ S', Ext X.K H1 H' ∧ Sim (gp X) H' S' ∧ ∃ m', m' < m ∧ W (i + 1) m' S'))
          else ∃ S', Ext X.K H1 H5 ∧ Sim (gp X) H5 S' ∧ ∃ m', m' < m ∧ W (i + 1) m' S') := by
      intro b H5 S5 x5 m5 q5
      cases b with
      | false =>
        simp only [Bool.false_eq_true, if_false] at q5 ⊢
        exact ⟨S5, x14.trans x5, m5, q5⟩
      | true =>
        simp only [if_true] at q5 ⊢
        refine ⟨σD4, S5, _, r4.ext x5, m5, q5, fun v H6 y S6 x6 dy m6 q6 => ?_⟩
        refine ⟨σD4, S6, _, r4.ext (x5.trans x6), m6, q6, fun v' H7 z S7 x7 dz m7 ⟨kvs, h1, h2, h3, h4, m', hm, w⟩ => ?_⟩
        exact ⟨S7, y, z, kvs, DRel.ext x7 _ dy, dz, m7, h1, h2, h3, h4, fun H' x8 m8 => ⟨_, (x14.trans (x5.trans (x6.trans x7))).trans x8, m8, m', hm, w⟩⟩
    cases tt with
    | none => exact fin true H4 S4 .refl m4 q4
    | some t => exact ⟨σD4, S4, _, r4, m4, q4, fun b H5 S5 x5 m5 q5 => fin b H5 S5 x5 m5 q5⟩
theorem qe_dc {wi : DI} {g : DG} {tt : Option DT} {tk tv : DE} (hc : X.calm = true) (hN : X.N.Nodup) (hi : QI X tg iter wi) (ok : BlkOk X.N X.env.scope scope own) (B : BlkQ X scope (own.map (·.2)) tg kx ifs g tt tk) (B' : BlkQ X scope (own.map (·.2)) tg vx ifs g tt tv) (hs : ∀ x, foldedSetIterable iter X.env x = pure x) :
    QE X (.DictComp kx vx [⟨tg, iter, ifs, 0⟩] scope pos) (dDc wi g tt tk tv (own.map (·.2))) := fun pins s σ H σD S ex Kt tak T h => by
  obtain ⟨b1, b2, b3⟩ := blk_parts B
  obtain ⟨_, _, b4⟩ := blk_parts B'
  refine thn ((pe_dx (wi := vI X wi ex) hc hN (pi_of hi) ok putTr_ok b1 b2 b3 b4 hs).run pins s σ H (PQ X H Kt) T.I ?_) fun u s1 ⟨v, H', I', r', d, S', x', dr, m', k⟩ => ⟨v, H', d, S', I', r', x', dr, m', k⟩
  exact dc_walk tak T h fun p H' S' x m k => ⟨.ref p, S', x, by simp [DRel], m, k⟩
end
end DL

set_option Elab.async false
set_option linter.all false
set_option maxRecDepth 100000
set_option maxHeartbeats 4000000
namespace DL
open PySem PySem.Spec PyProof.Rows L2

abbrev DP := DSt → Sto → (List (D × D) → Sto → Prop) → DX → Prop
def dpNil : DP := fun _ S K _ => K [] S
def dpCons (tk tv : DE) (r : DP) : DP := fun σ S K E => tk σ S (fun y S1 => tv σ S1 (fun z S2 => r σ S2 (fun ps S3 => K ((y, z) :: ps) S3) E) E) E
def PsRel (g : GP) (H : Hp) : List (D × D) → List (Value × Value) → Prop
  | [], vs => vs = []
  | p :: r, vs => ∃ q qs, vs = q :: qs ∧ (∃ v, DRel g H p.1 v ∧ RelV v q.1) ∧ (∃ v, DRel g H p.2 v ∧ RelV v q.2) ∧ PsRel g H r qs
def QPs (X : Cx) (pos : Pos) (keys : List (Option Expr)) (values : List Expr) (t : DP) : Prop := ∀ (pins : List (Addr × Obj)) (s : Shared) (σ : VSt) (H : Hp) (σD : DSt) (S : Sto) (ex : DXs) (K : List (D × D) → Sto → Prop), Takes X (lX X H ex) → Sit X pins σ H s σD S → t σD S K (fun c fs S => ex c fs σD S) →
  wpAny (model X.prog X.w) X.A (evalPairs (pairTrees keys values X.env pos)) (fun vs s' => ∃ ps H' S', Inv X pins σ H' s' ∧ Ext X.K H H' ∧ Sim (gp X) H' S' ∧ PsRel (gp X) H' ps vs ∧ K ps S') X.xe s
section
variable {X : Cx} {pos : Pos} {keys : List (Option Expr)} {values : List Expr} {k v : Expr} {tk tv : DE} {t : DP}
theorem qps_nil : QPs X pos [] [] dpNil := fun pins s σ H σD S ex K tk T h => pairTrees_nil_walk ⟨[], H, S, T.I, .refl, T.m, rfl, h⟩
theorem qps_cons (hk : QE X k tk) (hv : QE X v tv) (hr : QPs X pos keys values t) : QPs X pos (some k :: keys) (v :: values) (dpCons tk tv t) := fun pins s σ H σD S ex K tak T h =>
  pairTrees_cons_walk (thn (hk pins s σ H σD S ex _ tak T h) fun u s1 ⟨xv, H1, x, S1, I1, r1, x1, d1, m1, q1⟩ => thn (hv pins s1 σ H1 σD S1 ex _ (tak.up x1) (T.on I1 x1 m1) q1) fun w s2 ⟨yv, H2, y, S2, I2, r2, x2, d2, m2, q2⟩ =>
    thn (hr pins s2 σ H2 σD S2 ex _ (tak.up (x1.trans x2)) (T.on I2 (x1.trans x2) m2) q2) fun ws s3 ⟨ps, H3, S3, I3, x3, m3, rel, q3⟩ =>
      ⟨(x, y) :: ps, H3, S3, I3, (x1.trans x2).trans x3, m3, ⟨_, _, rfl, ⟨xv, DRel.ext (x2.trans x3) _ d1, r1⟩, ⟨yv, DRel.ext x3 _ d2, r2⟩, rel⟩, q3⟩)
def mergeKD (kvs more : List (D × D)) : List (D × D) := more.foldl (fun acc p => putKD acc p.1 p.2) kvs
theorem mergeKD_len : ∀ (more kvs : List (D × D)), (mergeKD kvs more).length ≤ kvs.length + more.length
  | [], kvs => Nat.le_refl _
  | p :: r, kvs => by
    have h1 := mergeKD_len r (putKD kvs p.1 p.2)
    have h2 := putKD_len kvs p.1 p.2
    show (mergeKD (putKD kvs p.1 p.2) r).length ≤ _
    rw [List.length_cons]; omega
theorem ps_carries {H : Hp} {ps : List (D × D)} : ∀ {vs : List (Value × Value)}, PsRel (gp X) H ps vs → allLf ps = true → ∃ rs, Carries (nbKind X.prog X.w) vs rs ∧ LPr (gp X) H ps rs := by
  induction ps with
  | nil => intro vs h _; rw [show vs = [] from h]; exact ⟨[], trivial, rfl⟩
  | cons p r ih =>
    intro vs h ha
    obtain ⟨q, qs, rfl, ⟨v1, d1, r1⟩, h2, h⟩ := h
    have ha' : ((lfD p.1).isSome && allLf r) = true := ha
    simp only [Bool.and_eq_true] at ha'
    obtain ⟨l, hl⟩ := Option.isSome_iff_exists.mp ha'.1
    obtain ⟨rs, c, z⟩ := ih h ha'.2
    exact ⟨(l, q.2) :: rs, ⟨lf_is hl d1 r1, rfl, c⟩, ⟨_, _, rfl, hl, h2, z⟩⟩
theorem LPr.merge {H : Hp} {more : List (D × D)} : ∀ {rs ps : List (Leaf × Value)} {kvs : List (D × D)}, LPr (gp X) H more rs → LPr (gp X) H kvs ps → LPr (gp X) H (mergeKD kvs more) (merged ps rs) := by
  induction more with
  | nil => intro rs ps kvs h q; rw [show rs = [] from h]; exact q
  | cons p r ih =>
    intro rs ps kvs h q
    obtain ⟨x, xs, rfl, h1, h2, h⟩ := h
    have z := ih (rs := xs) h (q.put h1 h2)
    exact z
/-- {k: v, ..} -/
def dDsp (t : DP) : DE := fun σ S K E => ∀ p, S p = none → t σ (sup S p (.dic [])) (fun ps S2 => S2 p = some (.dic []) ∧ allLf ps = true ∧ ps.length ≤ 15 ∧ K (.ref p) (sup S2 p (.dic (mergeKD [] ps)))) E
theorem qe_dsp (h : QPs X pos keys values t) (hall : keys.all (·.isSome) = true) (hl : keys.length = values.length) (h0 : keys ≠ []) (h15 : keys.length ≤ 15) : QE X (.Dict keys values pos) (dDsp t) := fun pins s σ H σD S ex Kt tak T q => by
  have dfree : H s.heap.objs.size = none := T.I.hok.fresh (Nat.le_refl _)
  have I1 : Inv X pins σ (L2.upd H s.heap.objs.size (DicO s.heap.objs.size #[] 0)) { s with heap := s.heap.push { cls := .type "dict", data := .dict #[] } } :=
    T.I.laid (t' := s.toks) (fun b o e => Heap.get?_push_of_some _ e) (Nat.le_refl _) (dx_ob T.I.big)
  have x1 : Ext X.K H (L2.upd H s.heap.objs.size (DicO s.heap.objs.size #[] 0)) := Ext.new dfree
  have m1 : Sim (gp X) (L2.upd H s.heap.objs.size (DicO s.heap.objs.size #[] 0)) (sup S s.heap.objs.size (.dic [])) := T.m.new dfree (o := .dic []) ⟨#[], 0, upd_same, rfl, List.nodup_nil⟩
  refine wpAny_Dict_walk (knd := nbKind X.prog X.w) hall hl h0 h15 (thn (h pins _ σ _ σD _ ex _ (tak.up x1) (T.on I1 x1 m1) (q _ (T.m.fresh dfree))) fun vs s2 ⟨ps, H2, S2, I2, x2, m2, rel, e, ha, hz, k⟩ => ?_)
  obtain ⟨rs, c, z⟩ := ps_carries rel ha
  have T2 := T.on I2 (x1.trans x2) m2
  obtain ⟨n1, n2, mu, ps0, r0, dd⟩ := dic_of T2 e rfl
  rw [show ps0 = [] from r0] at dd
  refine ⟨rs, c, dd, fun h' dd' hs => ?_⟩
  have hl2 := mergeKD_len ps []
  obtain ⟨H3, I3, x3, m3⟩ := dic_write (t' := s2.toks + vs.length) T2 e rfl (by rw [sizeLine_eq]; simp only [List.length_nil] at hl2; omega) (z.merge (kvs := []) (ps := []) rfl) dd' hs
  exact ⟨.ref s.heap.objs.size, H3, .ref s.heap.objs.size, _, I3, rfl, (x1.trans x2).trans x3, by simp [DRel], m3, k⟩
end
end DL

set_option Elab.async false
set_option linter.all false
set_option maxRecDepth 100000
set_option maxHeartbeats 4000000
namespace DL
open PySem PySem.Spec PyProof.Rows L2

section
variable {X : Cx} {pins : List (Addr × Obj)} {σ : VSt} {H : Hp} {s : Shared} {σD : DSt} {S : Sto} {tg : Expr} {R : ItD → Sto → Prop}
/-- a text's signs -/
def signsD (x : Str) : List D := x.cps.toList.map fun c => .str ⟨#[c]⟩
theorem real_str {x : Str} : Real X (Its x) (itL (signsD x)) H := by
  intro i H2 S2 x2 m xs e
  cases e
  have hl : (signsD x).length = x.cps.size := by simp [signsD]
  refine ⟨fun d hd => ?_, fun hle => by rw [hl] at hle; exact hle⟩
  have hi : i < x.cps.size := by
    have := (List.getElem?_eq_some_iff.mp hd).1
    rw [hl] at this; exact this
  have ed : d = .str ⟨#[x.cps[i]]⟩ := by
    simp [signsD, hi] at hd
    exact hd.symm
  subst ed
  refine ⟨hi, fun v H3 hy => ?_⟩
  obtain ⟨e1, c, e2, e3⟩ := hy
  subst e1 e3
  rw [Array.getElem?_eq_getElem hi] at e2
  cases e2
  exact ⟨.refl, m, by simp [DRel]⟩
theorem iter_str {x : Str} {u : Value} (T : Sit X pins σ H s σD S) (ru : RelV (.str x) u) (q : R (itL (signsD x)) S) : wpAny (model X.prog X.w) X.A (pyIter u) (PID X pins σ tg H R) X.xe s := by
  obtain ⟨t, rfl⟩ := ru
  cases ha : x.cps.all (· < 128)
  · exact wpAny_pyIter_wide ha (pie_pid .refl T.m q real_str (pi_one (R := fun J' H' => J' = Its x ∧ H' = H) (tk := s.toks) T.I _ (turn_str _ x t "str_iterator" (.inr rfl)) ⟨_, Heap.get?_push_size _ rfl, rfl, rfl⟩ ⟨rfl, rfl⟩))
  · exact wpAny_pyIter_ascii ha (pie_pid .refl T.m q real_str (pi_one (R := fun J' H' => J' = Its x ∧ H' = H) (tk := s.toks) T.I _ (turn_str _ x t "str_ascii_iterator" (.inl rfl)) ⟨_, Heap.get?_push_size _ rfl, rfl, rfl⟩ ⟨rfl, rfl⟩))
/-- over a list, a tuple, a text -/
def iSeqX (te : DE) : DI := fun σ S R E => te σ S (fun d S1 => ((itemsD S1 d).isSome = true ∧ R (itOf d) S1) ∨ ∃ x, d = .str x ∧ R (itL (signsD x)) S1) E
theorem qi_seqX {e : Expr} {te : DE} (he : QE X e te) : QI X tg e (iSeqX te) := fun pins s σ H σD S ex R tk T h =>
  thn (he pins s σ H σD S ex _ tk T h) fun u s1 ⟨v, H1, d, S1, I1, r1, x1, d1, m1, q⟩ => by
    rcases q with ⟨hs, q⟩ | ⟨x, rfl, q⟩
    · obtain ⟨xs, e⟩ := Option.isSome_iff_exists.mp hs
      exact thn (iter_seq (T.on I1 x1 m1) d1 r1 e q) fun _ _ z => z.up x1
    · unfold DRel at d1
      subst d1
      exact thn (iter_str (T.on I1 x1 m1) r1 q) fun _ _ z => z.up x1
/-- a tuple repeated -/
def repTD : DR2 := fun x y S K _ => ∃ xs k, x = .tup xs ∧ y = .int k ∧ xs ≠ [] ∧ 2 ≤ k ∧ k ≤ 1000 ∧ xs.length ≤ 1000 ∧ K (.tup (List.replicate k.toNat xs).flatten) S
theorem opD_rept : OpD X (binaryOp .Mult) repTD := OpD.of op_repT fun H S Kt E x y xv yv m dx dy ⟨xs, k, e1, e2, h0, h1, h2, h3, q⟩ => by
  subst e1 e2
  unfold DRel at dx dy
  obtain ⟨a, vs, rfl, ht, dr⟩ := dx
  subst dy
  have hl := dr.length
  refine ⟨a, k, vs, rfl, rfl, ht, fun e => h0 (by rw [e] at hl; exact List.eq_nil_of_length_eq_zero hl), h1, h2, by omega, fun p hp => ?_⟩
  exact ⟨_, S, Ext.new hp, sit_tup hp (dr.rep k.toNat), m.hid hp, q⟩
/-- is of bools -/
def isBD : DR2 := fun x y S K _ => ∃ a b, x = .bl a ∧ y = .bl b ∧ K (.bl (decide (a = b))) S
def isnBD : DR2 := fun x y S K _ => ∃ a b, x = .bl a ∧ y = .bl b ∧ K (.bl (!decide (a = b))) S
theorem opD_isB : OpD X (compareOp .Is) isBD := OpD.of op_isBl fun H S Kt E x y xv yv m dx dy ⟨a, b, e1, e2, q⟩ => by
  subst e1 e2
  unfold DRel at dx dy
  exact ⟨a, b, dx, dy, _, S, .refl, by simp [DRel], m, q⟩
theorem opD_isnB : OpD X (compareOp .IsNot) isnBD := OpD.of op_notBl fun H S Kt E x y xv yv m dx dy ⟨a, b, e1, e2, q⟩ => by
  subst e1 e2
  unfold DRel at dx dy
  exact ⟨a, b, dx, dy, _, S, .refl, by simp [DRel], m, q⟩
/-- == with the empty tuple, the empty list -/
def eqT0 (neg : Bool) : DR2 := fun x y S K _ => (∃ xs, x = .tup xs ∧ y = .tup [] ∧ K (.bl (neg ^^ xs.isEmpty)) S) ∨ ∃ a b xs, x = .ref a ∧ y = .ref b ∧ S a = some (.lst xs) ∧ S b = some (.lst []) ∧ K (.bl (neg ^^ xs.isEmpty)) S
theorem empty_size {its : List Value} {xs : List D} (hl : its.length = xs.length) : (its.toArray.size == 0) = xs.isEmpty := by
  cases xs with
  | nil => simp only [List.length_nil, List.length_eq_zero_iff] at hl; subst hl; rfl
  | cons d ds =>
    cases its with
    | nil => simp at hl
    | cons i its => simp
theorem opD_eqT0 (hu : X.A.units < cLine) : OpD X (compareOp .Eq) (eqT0 false) := fun pins s σ H σD S ex Kt x y xv yv v u tk T dx dy rx ry q => by
  rcases q with ⟨xs, e1, e2, q⟩ | ⟨a, b, xs, e1, e2, ha, hb, q⟩
  · subst e1 e2
    unfold DRel at dx dy
    obtain ⟨a, vs, rfl, h1, d1⟩ := dx
    obtain ⟨b, ws, rfl, h2, d2⟩ := dy
    obtain rfl : v = Value.ref a := rx
    obtain rfl : u = Value.ref b := ry
    unfold DRels at d2
    subst d2
    obtain ⟨its, r1, p1, _⟩ := T.I.tuple h1
    obtain ⟨its2, r2, p2, _⟩ := T.I.tuple h2
    cases r2
    have hl : its.length = xs.length := r1.length.symm.trans d1.length.symm
    refine SeqAt.eq_tupleAt (e := fun _ => true) (show s.heap.IsTuple a its.toArray from p1) (show s.heap.IsTuple b ([] : List Value).toArray from p2) hu (fun j _ h2 => by simp at h2) ?_
    have e : ((List.range (min its.toArray.size ([] : List Value).toArray.size)).all (fun _ => true) && its.toArray.size == ([] : List Value).toArray.size) = xs.isEmpty := by
      rw [← empty_size hl]
      simp
    rw [e]
    exact ⟨.bl xs.isEmpty, H, .bl xs.isEmpty, S, T.I, rfl, .refl, by simp [DRel], T.m, by simpa using q⟩
  · subst e1 e2
    unfold DRel at dx dy
    subst dx dy
    obtain rfl : v = Value.ref a := rx
    obtain rfl : u = Value.ref b := ry
    obtain ⟨vs, h1, d1⟩ := T.m a _ ha
    obtain ⟨ws, h2, d2⟩ := T.m b _ hb
    unfold DRels at d2
    subst d2
    obtain ⟨its, r1, p1, _⟩ := T.I.list (SqL.of h1)
    obtain ⟨its2, r2, p2, _⟩ := T.I.list (SqL.of h2)
    cases r2
    have hl : its.length = xs.length := r1.length.symm.trans d1.length.symm
    have fin : EQ X pins σ H Kt (.bool xs.isEmpty) s := ⟨.bl xs.isEmpty, H, .bl xs.isEmpty, S, T.I, rfl, .refl, by simp [DRel], T.m, by simpa using q⟩
    have es := empty_size hl
    cases hx : xs.isEmpty with
    | true =>
      rw [hx] at es fin
      have e0 : its.toArray.size = 0 := by simpa using es
      refine SeqAt.eq_listAt (e := fun _ => true) p1.isList p2.isList (by rw [e0]; rfl) hu (fun j h1 _ => by omega) ?_
      rw [e0]
      exact fin
    | false =>
      rw [hx] at es fin
      refine SeqAt.eq_list_lengthsAt p1.isList p2.isList (by simpa [bne] using es) hu fin
end
end DL

set_option Elab.async false
set_option linter.all false
set_option maxRecDepth 100000
set_option maxHeartbeats 4000000
namespace DL
open PySem PySem.Spec PyProof.Rows L2

mutual
inductive CE where
  | var (i : Nat)
  | cst (d : D)
  | tup (es : CEs) | lst (es : CEs) | dic0
  | op (o : Operator) (a b : CE)
  | cmp (o : CmpOp) (a b : CE)
  | chn (o o' : CmpOp) (a b c : CE)
  | and (a b : CE) | or (a b : CE) | not (a : CE) | neg (a : CE)
  | ite (c : CT) (a b : CE)
  | ix (a b : CE)
  | sl (a lo hi : CE)
  | att (e : CE) (f : Str)
  | call (f : Key) (es : CEs)
  | make (c : Str) (es : CEs)
  | blt (b : Str) (es : CEs)
  | lrg (es : CEs)
  | meth (e : CE) (m : Str) (es : CEs)
  | callI (i : Nat) (es : CEs)
  | comp (it : CI) (g : CG) (t : Option CT) (e : CE) (vs : List Nat)
  | dcomp (it : CI) (g : CG) (t : Option CT) (k v : CE) (vs : List Nat)
  | dsp (ps : CPs)
inductive CEs where
  | nil | cons (e : CE) (es : CEs)
inductive CPs where
  | nil | cons (k v : CE) (r : CPs)
inductive CT where
  | val (e : CE)
  | cmp (o : CmpOp) (a b : CE) | chn (o o' : CmpOp) (a b c : CE)
  | and (a b : CT) | or (a b : CT) | not (a : CT) | ite (c a b : CT)
inductive CI where
  | seq (e : CE) | rng (es : CEs) | enu (es : CEs)
inductive CG where
  | nm (i : Nat) | tup (n : Nat) (gs : CGs) | att (i : Nat) (f : Str)
inductive CGs where
  | nil | cons (g : CG) (gs : CGs)
end
mutual
inductive CS where
  | pass | brk | cont
  | expr (e : CE) | ret (e : CE) | retN
  | iff (c : CT) (a b : CSs)
  | asg (e : CE) (g : CG)
  | par (i j : Nat) (a b : CE)
  | sub (e o i : CE)
  | setA (e o : CE) (f : Str)
  | aug (i : Nat) (o : Operator) (e : CE)
  | for_ (it : CI) (g : CG) (b : CSs)
  | whl (c : CT) (b : CSs)
  | raise (cn f : Str) (e : CE)
  | tryAs (c : Str) (i : Nat) (b h : CSs)
  | try_ (b : CSs) (hs : CHs)
  | mat (e : CE) (cs : CCs)
inductive CSs where
  | nil | cons (s : CS) (r : CSs)
inductive CHs where
  | nil | cons (c : Str) (b : CSs) (r : CHs)
inductive CCs where
  | nil | cons (p : MPat) (b : CSs) (r : CCs)
end

/-- what the code leans on: classes, defs, isinstance, errors -/
structure Env1 where
  tb : Tb
  fi : Key → Option FI
  orc : Orc
  tab : TyC → TyC → Option Bool
  et : Str → Option Str
  sx : Str → Str → Option Bool
abbrev Env1.own (M : Env1) : Own := ownO M.tb M.fi M.orc
abbrev Env1.tru (M : Env1) : D → Sto → (Bool → Sto → Prop) → DX → Prop := fun x S K E => truD (ownT M.tb M.fi M.orc) x S K E ∨ truLf x S K E
/-- slices -/
def cutD (xs : List D) (lo hi : Option Int) : List D := (xs.drop (HT.sIx xs.length 0 lo)).take (HT.sIx xs.length xs.length hi - HT.sIx xs.length 0 lo)
def ptD : D → Option (Option Int)
  | .non => some none
  | .int i => some (some i)
  | _ => none
def slD (x lo hi : D) (S : Sto) (K : DK) : Prop := ∃ l h, ptD lo = some l ∧ ptD hi = some h ∧ match x with
  | .tup xs => K (.tup (cutD xs l h)) S
  | .rol xs => ∀ p, S p = none → K (.ref p) (sup S p (.lst (cutD xs l h)))
  | .ref a => (match S a with
    | some (.lst xs) => ∀ p, S p = none → K (.ref p) (sup S p (.lst (cutD xs l h)))
    | _ => False)
  | .str z => z.length ≤ sizeLine ∧ K (.str (cutS z l h)) S
  | _ => False
def opM (M : Env1) : Operator → DR2
  | .Add => fun x y S K E => addD M.own x y S K E ∨ ownR M.own "int __add__" x y S K E
  | .Sub => subD
  | .Mult => fun x y S K E => mulD x y S K E ∨ repTD x y S K E
  | .FloorDiv => divD
  | .Mod => modD
  | .Pow => powD
  | .BitAnd => ownR M.own "__and__"
  | .BitOr => ownR M.own "__or__"
  | _ => fun _ _ _ _ _ => False
/-- name op= value -/
def inpM : Operator → DR2
  | .Add => fun x y S K _ => match x, y with
    | .int i, .int j => K (.int (i + j)) S
    | .str a, .str b => a.length + b.length ≤ sizeLine ∧ K (.str (a ++ b)) S
    | _, _ => False
  | .Sub => subD
  | _ => fun _ _ _ _ _ => False
def cmpM (M : Env1) : CmpOp → DR2
  | .Eq => fun x y S K E => eqDn false M.own x y S K E ∨ eqT0 false x y S K E
  | .NotEq => eqDn true M.own
  | .Lt => ltD
  | .LtE => leD
  | .Gt => gtD
  | .GtE => geD
  | .Is => fun x y S K E => isD x y S K E ∨ isBD x y S K E
  | .IsNot => fun x y S K E => isnD x y S K E ∨ isnBD x y S K E
  | .In => fun x y S K E => inDn false M.own x y S K E ∨ inLf false x y S K E
  | .NotIn => fun x y S K E => inDn true M.own x y S K E ∨ inLf true x y S K E
/-- subscripts, stores -/
def ixX (ow : Own) : DR2 := fun x y S K E => ixD ow x y S K E ∨ ixLf x y S K E
def setX : DSet := fun o i d S P => setD o i d S P ∨ setLf o i d S P
/-- built-in functions -/
def bltM (M : Env1) (b : Str) : DB := fun ds S K E =>
  if b = "abs" then absD ds S K E
  else if b = "int" then int1D ds S K E
  else if b = "bool" then boolXD M.tru ds S K E
  else if b = "len" then lenD ds S K E ∨ lenLf ds S K E
  else if b = "max" then max2D ds S K E ∨ maxlD ds S K E
  else if b = "min" then min2D ds S K E ∨ minlD ds S K E
  else if b = "sum" then sumD ds S K E
  else if b = "all" then allD ds S K E
  else if b = "any" then anyD ds S K E
  else if b = "list" then listD ds S K E
  else if b = "tuple" then tupleD ds S K E
  else if b = "repr" then reprD ds S K E
  else if b = "isinstance" then isiD M.tb M.tab ds S K E
  else if b = "sorted" then sortedD ds S K E
  else False
/-- an attribute; a caught error's -/
def attC (M : Env1) (cu : Option Cur) (f : Str) (o : D) (S : Sto) (K : DK) : Prop :=
  (∃ a c dd fs d, cu = some (a, c, some dd) ∧ o = .ref a ∧ M.et c = some f ∧ S dd = some (.exd fs) ∧ fs.lookup f = some d ∧ K d S) ∨ attD M.tb M.fi M.orc f o S K
mutual
def mE (M : Env1) (cu : Option Cur) : CE → DE
  | .var i => dV i
  | .cst d => dC d
  | .tup es => dTup (mEs M cu es)
  | .lst es => dLst (mEs M cu es)
  | .dic0 => dDic0
  | .op o a b => dOp (opM M o) (mE M cu a) (mE M cu b)
  | .cmp o a b => dOp (cmpM M o) (mE M cu a) (mE M cu b)
  | .chn o o' a b c => dChain (cmpM M o) (cmpM M o') (mE M cu a) (mE M cu b) (mE M cu c)
  | .and a b => dAnd M.tru (mE M cu a) (mE M cu b)
  | .or a b => dOr M.tru (mE M cu a) (mE M cu b)
  | .not a => dNot M.tru (mE M cu a)
  | .neg a => dNeg (mE M cu a)
  | .ite c a b => dIf (mT M cu c) (mE M cu a) (mE M cu b)
  | .ix a b => dOp (ixX M.own) (mE M cu a) (mE M cu b)
  | .sl a lo hi => fun σ S K E => mE M cu a σ S (fun x S1 => mE M cu lo σ S1 (fun l S2 => mE M cu hi σ S2 (fun h S3 => slD x l h S3 K) E) E) E
  | .att e f => fun σ S K E => mE M cu e σ S (fun o S1 => attC M cu f o S1 K) E
  | .call f es => dCall (callO M.fi M.orc f) (mEs M cu es)
  | .make c es => dCall (makeO M.tb M.fi M.orc c) (mEs M cu es)
  | .blt b es => dCall (bltM M b) (mEs M cu es)
  | .lrg es => dLrg (mEs M cu es)
  | .meth e m es => dMeth M.tb M.fi M.orc m (mE M cu e) (mEs M cu es)
  | .callI i es => dCallI M.tb M.fi M.orc (dV i) (mEs M cu es)
  | .comp it g t e vs => dLc (mI M cu it) (mG M.tb g) (mO M cu t) (mE M cu e) vs
  | .dcomp it g t k v vs => dDc (mI M cu it) (mG M.tb g) (mO M cu t) (mE M cu k) (mE M cu v) vs
  | .dsp ps => dDsp (mPs M cu ps)
def mPs (M : Env1) (cu : Option Cur) : CPs → DP
  | .nil => dpNil
  | .cons k v r => dpCons (mE M cu k) (mE M cu v) (mPs M cu r)
def mEs (M : Env1) (cu : Option Cur) : CEs → DA
  | .nil => dNil
  | .cons e es => dCons (mE M cu e) (mEs M cu es)
def mT (M : Env1) (cu : Option Cur) : CT → DT
  | .val e => dTru M.tru (mE M cu e)
  | .cmp o a b => dTst (dOp (cmpM M o) (mE M cu a) (mE M cu b))
  | .chn o o' a b c => dTst (dChain (cmpM M o) (cmpM M o') (mE M cu a) (mE M cu b) (mE M cu c))
  | .and a b => dtAnd (mT M cu a) (mT M cu b)
  | .or a b => dtOr (mT M cu a) (mT M cu b)
  | .not a => dtNot (mT M cu a)
  | .ite c a b => dtIf (mT M cu c) (mT M cu a) (mT M cu b)
def mO (M : Env1) (cu : Option Cur) : Option CT → Option DT
  | none => none
  | some t => some (mT M cu t)
def mI (M : Env1) (cu : Option Cur) : CI → DI
  | .seq e => iSeqX (mE M cu e)
  | .rng es => iRng (mEs M cu es)
  | .enu es => iEnu (mEs M cu es)
def mG (tb : Tb) : CG → DG
  | .nm i => gNm i
  | .tup n gs => gTp n (mGs tb gs)
  | .att i f => gAt tb i f
def mGs (tb : Tb) : CGs → DGs
  | .nil => gN
  | .cons g gs => gC (mG tb g) (mGs tb gs)
end
mutual
def mS (M : Env1) (cu : Option Cur) : CS → DS
  | .pass => sNext
  | .brk => sBreak
  | .cont => sCont
  | .expr e => sExpr (mE M cu e)
  | .ret e => sRet (mE M cu e)
  | .retN => sRetN
  | .iff c a b => sIf (mT M cu c) (mSs M cu a) (mSs M cu b)
  | .asg e g => sAsg (mE M cu e) (mG M.tb g)
  | .par i j a b => sPar i j (dCons (mE M cu a) (dCons (mE M cu b) dNil))
  | .sub e o i => sSub (mE M cu e) (mE M cu o) (mE M cu i) setX
  | .setA e o f => sSetA M.tb f (mE M cu o) (mE M cu e)
  | .aug i o e => sAug i (mE M cu e) (inpM o)
  | .for_ it g b => sFor (mI M cu it) (mG M.tb g) (mSs M cu b)
  | .whl c b => sWhile (mT M cu c) (mSs M cu b)
  | .raise cn f e => sRaise cn f (dCons (mE M cu e) dNil)
  | .tryAs c i b h => sTryAs M.sx c i (mSs M cu b) (fun cu' => mSs { M with fi := fun _ => none } (some cu') h)
  | .try_ b hs => sTryMany M.sx (mSs M cu b) (mHs M hs)
  | .mat e cs => sMat (mE M cu e) (mCs M cu cs)
def mSs (M : Env1) (cu : Option Cur) : CSs → DS
  | .nil => sNext
  | .cons s r => sSeq (mS M cu s) (mSs M cu r)
def mHs (M : Env1) : CHs → List (Str × (Cur → DS))
  | .nil => []
  | .cons c b r => (c, fun cu' => mSs { M with fi := fun _ => none } (some cu') b) :: mHs M r
def mCs (M : Env1) (cu : Option Cur) : CCs → DCs
  | .nil => cNil
  | .cons p b r => cCons p (mSs M cu b) (mCs M cu r)
end
end DL

set_option Elab.async false
set_option linter.all false
set_option maxRecDepth 100000
set_option maxHeartbeats 4000000
namespace DL
open PySem PySem.Spec PyProof.Rows L2

section
variable {X : Cx} {pins : List (Addr × Obj)} {σ : VSt} {H : Hp} {s : Shared} {σD : DSt} {S : Sto}
theorem opD_le : OpD X (compareOp .LtE) leD := opD_cmp op_le op_le_str
theorem opD_gt : OpD X (compareOp .Gt) gtD := opD_cmp op_gt op_gt_str
theorem opD_ge : OpD X (compareOp .GtE) geD := opD_cmp op_ge op_ge_str
theorem qt_ifexp {c a b : Expr} {tc ta tb : DT} {pos : Pos} (hc : QT X c tc) (ha : QT X a ta) (hb : QT X b tb) : QT X (.IfExp c a b pos) (dtIf tc ta tb) := fun pins s σ H σD S ex Kt tk T h => by
  have e : isTrue (.IfExp c a b pos) X.env (eval (.IfExp c a b pos) X.env) = (do if ← isTrue c X.env (eval c X.env) then isTrue a X.env (eval a X.env) else isTrue b X.env (eval b X.env)) := rfl
  rw [e]
  refine wpAny_bind (thn (hc pins s σ H σD S ex _ tk T h) fun k s1 ⟨H1, S1, I1, x1, m1, q1⟩ => ?_)
  cases k with
  | true =>
    simp only [if_true] at q1 ⊢
    exact thn (ha pins s1 σ H1 σD S1 ex Kt (tk.up x1) (T.on I1 x1 m1) q1) fun _ _ z => z.up x1
  | false =>
    simp only [Bool.false_eq_true, if_false] at q1 ⊢
    exact thn (hb pins s1 σ H1 σD S1 ex Kt (tk.up x1) (T.on I1 x1 m1) q1) fun _ _ z => z.up x1
theorem part_rel {d : D} {o : Option Int} {v : V} {u : Value} (h : ptD d = some o) (dr : DRel (gp X) H d v) (r : RelV v u) : IsPart u o := by
  cases d with
  | non =>
    cases h
    unfold DRel at dr; subst dr
    cases (show u = Value.none from r)
    exact .none
  | int i =>
    cases h
    unfold DRel at dr; subst dr
    obtain ⟨t, rfl⟩ := (show ∃ t, u = Value.int i t from r)
    exact .int _ _
  | _ => cases h
theorem cutD_rel {g : GP} {xs : List D} {vs : List V} (l h : Option Int) (r : DRels g H xs vs) : DRels g H (cutD xs l h) (cutV vs l h) := by
  unfold cutD cutV
  rw [r.length]
  exact (r.drop _).take _
theorem cut_all {xs : List D} {l h : Option Int} (q : HT.sIx xs.length 0 l = 0 ∧ HT.sIx xs.length xs.length h = xs.length) : cutD xs l h = xs := by
  unfold cutD
  rw [q.1, q.2]
  simp
theorem slice_ok {x lo hi : D} {xv lv hv : V} {v vl vu : Value} {sl : Addr} {Kt : DK} (T : Sit X pins σ H s σD S) (dx : DRel (gp X) H x xv) (dl : DRel (gp X) H lo lv) (dh : DRel (gp X) H hi hv) (rx : RelV xv v) (rl : RelV lv vl) (rh : RelV hv vu) (hs : s.heap.IsSliceOf sl vl vu .none) (h : slD x lo hi S Kt) :
    ∃ T id, typeLookup (.type T) "__getitem__" = pure (some (.builtin id)) ∧ s.TypeIs v T ∧ wpAny (model X.prog X.w) X.A (getItem v (.ref sl)) (EQ X pins σ H Kt) X.xe s := by
  obtain ⟨l, u, e1, e2, h⟩ := h
  have pl := part_rel e1 dl rl
  have pu := part_rel e2 dh rh
  have fin : ∀ {r0 : V → Option Int → Option Int → Hp → VK → Prop}, SlR X r0 → r0 xv l u H (PQ X H Kt) → ∃ T id, typeLookup (.type T) "__getitem__" = pure (some (.builtin id)) ∧ s.TypeIs v T ∧ wpAny (model X.prog X.w) X.A (getItem v (.ref sl)) (EQ X pins σ H Kt) X.xe s := fun {r0} hr q => by
    obtain ⟨T0, id, a, b, c⟩ := hr pins s σ H xv v vl vu l u sl _ T.I rx hs pl pu q
    exact ⟨T0, id, a, b, thn c fun u s1 ⟨v, H', I', r, d, S', x, dr, m, k⟩ => ⟨v, H', d, S', I', r, x, dr, m, k⟩⟩
  have lst : ∀ {xs : List D}, litemsD S x = some xs → (∀ p, S p = none → Kt (.ref p) (sup S p (.lst (cutD xs l u)))) → ∃ T id, typeLookup (.type T) "__getitem__" = pure (some (.builtin id)) ∧ s.TypeIs v T ∧ wpAny (model X.prog X.w) X.A (getItem v (.ref sl)) (EQ X pins σ H Kt) X.xe s := fun {xs} e q => by
    obtain ⟨a, vs, ev, hq, dr⟩ := litems_sql T.m dx e
    exact fin sl_list ⟨a, vs, ev, hq, fun p hp => PQ.newL T.m hp (cutD_rel l u dr) (q p (T.m.fresh hp))⟩
  cases x with
  | tup xs =>
    have h : Kt (.tup (cutD xs l u)) S := h
    have dx0 := dx
    unfold DRel at dx
    obtain ⟨a, vs, ev, hq, dr⟩ := dx
    have hl := dr.length
    refine fin sl_tupA ⟨a, vs, ev, hq, fun hw => ?_, fun hw p hp => PQ.newT T.m hp (cutD_rel l u dr) h⟩
    rw [← hl] at hw
    rw [cut_all hw] at h
    exact ⟨.tup xs, S, .refl, by rw [ev] at dx0; exact dx0, T.m, h⟩
  | rol xs => exact lst (xs := xs) rfl h
  | ref a =>
    cases e : S a with
    | none => simp only [e] at h
    | some o =>
      cases o with
      | lst xs =>
        simp only [e] at h
        exact lst (xs := xs) (by simp [litemsD, e]) h
      | _ => simp only [e] at h
  | str z =>
    obtain ⟨hz, h⟩ := h
    unfold DRel at dx
    exact fin sl_str ⟨z, dx, hz, PQ.str T.m h⟩
  | _ => exact (show False from h).elim
/-- a slice's part -/
def QP (X : Cx) : Option Expr → DE → Prop
  | none, t => t = dC .non
  | some e, t => QE X e t
theorem qp_run {e : Option Expr} {t : DE} (h : QP X e t) {ex : DXs} {Kt : DK} (tk : Takes X (lX X H ex)) (T : Sit X pins σ H s σD S) (q : t σD S Kt (fun c fs S => ex c fs σD S)) : wpAny (model X.prog X.w) X.A (evalPart e X.env) (EQ X pins σ H Kt) X.xe s := by
  cases e with
  | none =>
    have e : t = dC .non := h
    subst e
    exact wpAny_pure ⟨.non, H, .non, S, T.I, rfl, .refl, by simp [DRel], T.m, q⟩
  | some e => exact (show QE X e t from h) pins s σ H σD S ex Kt tk T q
theorem qe_sl {a : Expr} {lo hi : Option Expr} {ta tl th : DE} {p2 pos : Pos} (ha : QE X a ta) (hl : QP X lo tl) (hh : QP X hi th) :
    QE X (.Subscript a (.Slice lo hi none p2) pos) (fun σ S K E => ta σ S (fun x S1 => tl σ S1 (fun l S2 => th σ S2 (fun h S3 => slD x l h S3 K) E) E) E) := fun pins s σ H σD S ex Kt tk T h => by
  refine Subscript_ (thn (ha pins s σ H σD S ex _ tk T h) fun v s1 ⟨xv, H1, x, S1, I1, r1, x1, d1, m1, q1⟩ => ?_)
  refine wpAny_Slice (thn (qp_run hl (tk.up x1) (T.on I1 x1 m1) q1) fun vl s2 ⟨lv, H2, l, S2, I2, r2, x2, d2, m2, q2⟩ => thn (qp_run hh (tk.up (x1.trans x2)) (T.on I2 (x1.trans x2) m2) q2) fun vu s3 ⟨hv, H3, u, S3, I3, r3, x3, d3, m3, q3⟩ => ?_)
  rw [evalPart_none]
  refine wpAny_pure ?_
  have x13 := x1.trans (x2.trans x3)
  have I4 : Inv X pins σ H3 { s3 with heap := s3.heap.push { cls := .type "slice", data := .fields #[vl, vu, .none] } } := I3.kept (t' := s3.toks) fun b ob q => Heap.get?_push_of_some _ q
  obtain ⟨T0, id, hT, ht, hg⟩ := slice_ok (T.on I4 x13 m3) (DRel.ext (x2.trans x3) _ d1) (DRel.ext x3 _ d2) d3 r1 r2 r3 (Heap.IsSliceOf.new ..) q3
  exact tail_any (value := a) (slice := .Slice lo hi none p2) (ops := [.ref s3.heap.objs.size, v]) ht hT (thn hg fun _ _ z => z.up x13) (by with_unfolding_all rfl)
end
end DL

set_option Elab.async false
set_option linter.all false
set_option maxRecDepth 100000
set_option maxHeartbeats 4000000
namespace DL
open PySem PySem.Spec PyProof.Rows L2

inductive GK where
  | fn | cls | exc (f : Str) | blt | val (d : D)
/-- the built-in names that the code may use -/
def bltL : List (Str × Value) := [("abs", .builtin "abs"), ("int", .type "int"), ("bool", .type "bool"), ("len", .builtin "len"), ("max", .builtin "max"), ("min", .builtin "min"), ("sum", .builtin "sum"), ("all", .builtin "all"), ("any", .builtin "any"), ("list", .type "list"),
  ("tuple", .type "tuple"), ("repr", .builtin "repr"), ("isinstance", .builtin "isinstance"), ("range", .type "range"), ("str", .type "str"), ("dict", .type "dict"), ("sorted", .builtin "sorted"), ("enumerate", .type "enumerate")]
theorem blt_boot : ∀ p ∈ bltL, bootBuiltins p.1 = some p.2 ∧ p.1 ≠ "__name__" ∧ (p.1 == ("__debug__" : Str)) = false := by decide +kernel
/-- how a body is read -/
structure Cfg where
  N : List Str
  sc : Scope
  own : Str → Bool
  gk : Str → Option GK
  calm : Bool
  top : Bool
def Cfg.loc (c : Cfg) (x : Str) : Option Nat := match c.sc.names.lookup x with
  | some .local => ixOf x c.N
  | some .cell => ixOf x c.N
  | some .free => ixOf x c.N
  | _ => none
/-- a name that is stored -/
def Cfg.stl (c : Cfg) (x : Str) : Option Nat := match c.sc.names.lookup x with
  | some .local => ixOf x c.N
  | some .cell => if c.own x then ixOf x c.N else none
  | _ => none
def Cfg.glo (c : Cfg) (x : Str) : Option GK := match c.sc.names.lookup x with
  | some .globalImplicit => if (x == ("__debug__" : Str)) then none else c.gk x
  | _ => none
def notComp : Expr → Bool
  | .ListComp .. | .SetComp .. | .DictComp .. => false
  | _ => true
def notSet : Expr → Bool
  | .Set .. => false
  | _ => true
def notSlice : Expr → Bool
  | .Slice .. => false
  | _ => true
/-- is a comprehension's list put into the name's slot at once? -/
def swB (c : Cfg) (v : Expr) (t : Str) (pos : Pos) : Bool := match v with
  | .ListComp _ _ s p => (match c.sc.names.lookup t with | some .local => true | _ => false) && pos.line == p.line && !(s.names.any fun (n, k) => n == t && (k == .local || k == .cell))
  | _ => false
/-- names that are stored crosswise -/
def crossB (c : Cfg) (ts vs : List Expr) : Option (Option (List Str)) :=
  if !(ts.length == 2 || ts.length == 3) || vs.length != ts.length then some none
  else if vs.any fun | .Starred .. => true | _ => false then some none
  else
    let names := ts.filterMap fun
      | .Name id pos => if c.sc.names.lookup id == some .local && pos.line == (ts.head?.map (·.pos.line)).getD 0 then some id else none
      | _ => none
    if names.length != ts.length || names.eraseDups.length != names.length then some none
    else if vs.all (foldedForSure 8) then some none
    else if vs.all (constantsAlone 8) then none
    else some (some names)
/-- a block's own names, with their slots -/
def ownOf (N : List Str) (scope : Scope) : List (Str × Nat) := scope.names.filterMap fun (n, k) => if k == .local || k == .cell then (ixOf n N).map fun i => (n, i) else none
def blkCfg (c : Cfg) (scope : Scope) : Cfg := { c with sc := relS scope c.sc, own := fun x => scope.names.lookup x == some .cell, top := false }
mutual
def slotsG : CG → List Nat
  | .nm i => [i]
  | .att _ _ => []
  | .tup _ gs => slotsGs gs
def slotsGs : CGs → List Nat
  | .nil => []
  | .cons g gs => slotsG g ++ slotsGs gs
end
/-- may the built-in be used here -/
def bltUse (c : Cfg) (x : Str) (n : Nat) : Bool := [("abs" : Str), "int", "bool", "len", "list", "tuple", "repr", "isinstance"].contains x || (c.calm && [("max" : Str), "min", "sum", "all", "any", "sorted"].contains x)
/-- list(range(..)) -/
def rngArgs : List Expr → Option (List Expr)
  | [.Call (.Name _ _) (e :: es) [] _] => some (e :: es)
  | _ => none
def lrgB (c : Cfg) (x : Str) (es : List Expr) : Bool := x == ("list" : Str) && (c.calm && ((match es with
  | [.Call (.Name y _) (e :: es) [] _] => y == ("range" : Str) && (e :: es).all noSt
  | _ => false) && (match c.loc "list", c.glo "list", c.loc "range", c.glo "range" with
  | none, some .blt, none, some .blt => true
  | _, _, _, _ => false)))
/-- enumerate wants a tuple of targets -/
def enuB : CI → Expr → Bool
  | .enu _, .Tuple .. => true
  | .enu _, _ => false
  | _, _ => true
mutual
def cE : Nat → Cfg → Expr → Option CE
  | 0, _, _ => none
  | n + 1, c, e => match e with
    | .Constant (.int i) _ _ => some (.cst (.int i))
    | .Constant (.bool b) _ _ => some (.cst (.bl b))
    | .Constant (.str x) _ _ => some (.cst (.str x))
    | .Constant .none _ _ => some (.cst .non)
    | .Name x _ => if x == ("__debug__" : Str) || x == ("__classdict__" : Str) then none else match c.loc x with
      | some i => some (.var i)
      | none => match c.glo x with
        | some (.val d) => some (.cst d)
        | some .cls => some (.cst (.glo x))
        | some (.exc _) => some (.cst (.glo x))
        | some .blt => (match bltL.lookup x with
          | some (.type T) => some (.cst (.ty T))
          | _ => none)
        | _ => none
    | .Tuple es _ _ => if es.all noSt then (cEs n c es).map .tup else none
    | .List es _ => if es.all noSt then (cEs n c es).map .lst else none
    | .Dict [] [] _ => some .dic0
    | .BinOp a o b _ => match cE n c a, cE n c b with
      | some a', some b' => some (.op o a' b')
      | _, _ => none
    | .UnaryOp .Not a _ => (cE n c a).map .not
    | .UnaryOp .USub a _ => (cE n c a).map .neg
    | .BoolOp op vs _ => cB n c op vs
    | .Compare a [o] [b] _ => if behindInMarks o b then none else match cE n c a, cE n c b with
      | some a', some b' => some (.cmp o a' b')
      | _, _ => none
    | .Compare a [o, o'] [b, d] _ => if lastMarks [o, o'] [b, d] then none else match cE n c a, cE n c b, cE n c d with
      | some a', some b', some d' => some (.chn o o' a' b' d')
      | _, _, _ => none
    | .IfExp t a b _ => match cT n c t, cE n c a, cE n c b with
      | some t', some a', some b' => some (.ite t' a' b')
      | _, _, _ => none
    | .Subscript a (.Slice lo hi none _) _ => match cE n c a, cP n c lo, cP n c hi with
      | some a', some l, some h => some (.sl a' l h)
      | _, _, _ => none
    | .Subscript a b _ => if notSlice b then match cE n c a, cE n c b with
      | some a', some b' => some (.ix a' b')
      | _, _ => none
      else none
    | .Attribute o f _ => if baseOk o then (cE n c o).map (.att · f) else none
    | .Call (.Attribute o m apos) es [] pos => if baseOk o && es.all noSt && decide (es.length < 30) && apos.endLine == pos.line then match cE n c o, cEs n c es with
      | some o', some es' => some (.meth o' m es')
      | _, _ => none
      else none
    | .Call (.Name x _) es [] _ => if lrgB c x es then (match rngArgs es with
      | some es' => (cEs n c es').map .lrg
      | none => none) else if es.all noSt && !(x == ("__debug__" : Str)) && !(x == ("__classdict__" : Str)) then match cEs n c es with
      | none => none
      | some es' => match c.loc x with
        | some i => if es.isEmpty || !c.calm then none else some (.callI i es')
        | none => match c.glo x with
          | some .fn => some (.call (x, none) es')
          | some .cls => if es.isEmpty then none else some (.make x es')
          | some .blt => if bltUse c x es.length && !es.isEmpty then some (.blt x es') else none
          | _ => none
      else none
    | .ListComp elt [⟨tg, iter, ifs, 0⟩] scope _ => cComp n c elt tg iter ifs scope
    | .DictComp kx vx [⟨tg, iter, ifs, 0⟩] scope _ => cDc n c kx vx tg iter ifs scope
    | .Dict keys values _ => if keys.all (·.isSome) && keys.length == values.length && !keys.isEmpty && decide (keys.length ≤ 15) then (cPs n c keys values).map .dsp else none
    | _ => none
def cPs : Nat → Cfg → List (Option Expr) → List Expr → Option CPs
  | 0, _, _, _ => none
  | _ + 1, _, [], [] => some .nil
  | n + 1, c, some k :: ks, v :: vs => match cE n c k, cE n c v, cPs n c ks vs with
    | some k', some v', some r => some (.cons k' v' r)
    | _, _, _ => none
  | _ + 1, _, _, _ => none
def cDc : Nat → Cfg → Expr → Expr → Expr → Expr → List Expr → Scope → Option CE
  | 0, _, _, _, _, _, _, _ => none
  | n + 1, c, kx, vx, tg, iter, ifs, scope => if c.calm && notSet iter && blkC c.N c.sc scope (ownOf c.N scope) then
      match cI n c iter, cG n (blkCfg c scope) tg, cIf n (blkCfg c scope) ifs, cE n (blkCfg c scope) kx, cE n (blkCfg c scope) vx with
      | some i, some g, some t, some k, some v => if enuB i tg && (slotsG g).all fun j => ((ownOf c.N scope).map (·.2)).contains j then some (.dcomp i g t k v ((ownOf c.N scope).map (·.2))) else none
      | _, _, _, _, _ => none
    else none
def cComp : Nat → Cfg → Expr → Expr → Expr → List Expr → Scope → Option CE
  | 0, _, _, _, _, _, _ => none
  | n + 1, c, elt, tg, iter, ifs, scope => if c.calm && notSet iter && blkC c.N c.sc scope (ownOf c.N scope) then
      match cI n c iter, cG n (blkCfg c scope) tg, cIf n (blkCfg c scope) ifs, cE n (blkCfg c scope) elt with
      | some i, some g, some t, some e => if enuB i tg && (slotsG g).all fun j => ((ownOf c.N scope).map (·.2)).contains j then some (.comp i g t e ((ownOf c.N scope).map (·.2))) else none
      | _, _, _, _ => none
    else none
def cIf : Nat → Cfg → List Expr → Option (Option CT)
  | 0, _, _ => none
  | _ + 1, _, [] => some none
  | n + 1, c, [e] => (cT n c e).map some
  | _ + 1, _, _ => none
def cP : Nat → Cfg → Option Expr → Option CE
  | 0, _, _ => none
  | _ + 1, _, none => some (.cst .non)
  | n + 1, c, some e => cE n c e
def cB : Nat → Cfg → BoolOp → List Expr → Option CE
  | 0, _, _, _ => none
  | n + 1, c, _, [a] => cE n c a
  | n + 1, c, op, a :: b :: r => match cE n c a, cB n c op (b :: r) with
    | some a', some r' => (match op with
      | .And => some (.and a' r')
      | .Or => some (.or a' r'))
    | _, _ => none
  | _ + 1, _, _, [] => none
def cEs : Nat → Cfg → List Expr → Option CEs
  | 0, _, _ => none
  | _ + 1, _, [] => some .nil
  | n + 1, c, e :: es => match cE n c e, cEs n c es with
    | some e', some es' => some (.cons e' es')
    | _, _ => none
def cT : Nat → Cfg → Expr → Option CT
  | 0, _, _ => none
  | n + 1, c, e => match e with
    | .UnaryOp .Not a _ => (cT n c a).map .not
    | .BoolOp op vs _ => cW n c op vs
    | .IfExp t a b _ => match cT n c t, cT n c a, cT n c b with
      | some t', some a', some b' => some (.ite t' a' b')
      | _, _, _ => none
    | .Compare a [o] [b] _ => if behindInMarks o b then none else match cE n c a, cE n c b with
      | some a', some b' => some (.cmp o a' b')
      | _, _ => none
    | .Compare a [o, o'] [b, d] _ => if lastMarks [o, o'] [b, d] then none else match cE n c a, cE n c b, cE n c d with
      | some a', some b', some d' => some (.chn o o' a' b' d')
      | _, _, _ => none
    | .Compare .. => none
    | e => (cE n c e).map .val
def cW : Nat → Cfg → BoolOp → List Expr → Option CT
  | 0, _, _, _ => none
  | n + 1, c, _, [a] => cT n c a
  | n + 1, c, op, a :: b :: r => match cT n c a, cW n c op (b :: r) with
    | some a', some r' => (match op with
      | .And => some (.and a' r')
      | .Or => some (.or a' r'))
    | _, _ => none
  | _ + 1, _, _, [] => none
def cI : Nat → Cfg → Expr → Option CI
  | 0, _, _ => none
  | n + 1, c, e => match e with
    | .Call (.Name x _) es [] _ => if x == ("range" : Str) && es.all noSt && !es.isEmpty then (match c.loc x, c.glo x with
      | none, some .blt => (cEs n c es).map .rng
      | _, _ => none) else if x == ("enumerate" : Str) && es.all noSt && es.length == 1 then (match c.loc x, c.glo x with
      | none, some .blt => (cEs n c es).map .enu
      | _, _ => none) else (cE n c e).map .seq
    | _ => (cE n c e).map .seq
def cG : Nat → Cfg → Expr → Option CG
  | 0, _, _ => none
  | n + 1, c, e => match e with
    | .Name x _ => (c.stl x).map .nm
    | .Tuple es _ _ => if c.calm && es.all noSt then (cGs n c es).map (.tup es.length) else none
    | .Attribute (.Name x _) f _ => if x == ("__debug__" : Str) || x == ("__classdict__" : Str) then none else (c.loc x).map (.att · f)
    | _ => none
def cGs : Nat → Cfg → List Expr → Option CGs
  | 0, _, _ => none
  | _ + 1, _, [] => some .nil
  | n + 1, c, e :: es => match cG n c e, cGs n c es with
    | some e', some es' => some (.cons e' es')
    | _, _ => none
end
/-- stores by an operator -/
def augUse : Operator → Bool
  | .Add | .Sub => true
  | _ => false
/-- name = v -/
def cAsgN (n : Nat) (c : Cfg) (x : Str) (p : Pos) (v : Expr) : Option CS := match c.stl x, cE n c v with
  | some i, some v' => if notComp v then some (.asg v' (.nm i)) else (match v with
    | .ListComp _ [⟨_, _, _, 0⟩] _ _ => if swB c v x p then (if c.sc.names.lookup x == some .local then some (.asg v' (.nm i)) else none) else some (.asg v' (.nm i))
    | _ => none)
  | _, _ => none
/-- o.f = v -/
def cAsgA (n : Nat) (c : Cfg) (o : Expr) (f : Str) (v : Expr) : Option CS := match cE n c v, cE n c o with
  | some v', some o' => some (.setA v' o' f)
  | _, _ => none
/-- o[i] = v -/
def cAsgS (n : Nat) (c : Cfg) (o i v : Expr) : Option CS := if notComp v && notSlice i then (match cE n c v, cE n c o, cE n c i with
  | some v', some o', some i' => some (.sub v' o' i')
  | _, _, _ => none) else none
/-- x, y = a, b -/
def cPar (n : Nat) (c : Cfg) (ts vs : List Expr) : Option CS := match ts, vs with
  | [.Name x _, .Name y _], [a, b] => (match cE n c a, cE n c b with
    | some a', some b' => if c.calm && noSt a && noSt b && !(x == y) && crossB c ts vs == some (some [x, y]) && c.sc.names.lookup x == some .local && c.sc.names.lookup y == some .local then (match ixOf x c.N, ixOf y c.N with
      | some i, some j => some (.par i j a' b')
      | _, _ => none) else none
    | _, _ => none)
  | _, _ => none
/-- a tuple of targets -/
def cAsgT (n : Nat) (c : Cfg) (ts : List Expr) (k : Nat) (p : Pos) (v : Expr) : Option CS := match v with
  | .Tuple vs _ _ => (match crossB c ts vs with
    | some none => (match cE n c v, cG n c (.Tuple ts k p) with
      | some v', some g => some (.asg v' g)
      | _, _ => none)
    | some (some _) => cPar n c ts vs
    | none => none)
  | _ => (match cE n c v, cG n c (.Tuple ts k p) with
    | some v', some g => some (.asg v' g)
    | _, _ => none)
def cAsg (n : Nat) (c : Cfg) (t v : Expr) : Option CS := match t with
  | .Name x p => cAsgN n c x p v
  | .Attribute o f _ => cAsgA n c o f v
  | .Subscript o i _ => cAsgS n c o i v
  | .Tuple ts k p => cAsgT n c ts k p v
  | _ => none
def cAug (n : Nat) (c : Cfg) (t : Expr) (op : Operator) (e : Expr) : Option CS := match t with
  | .Name x _ => if augUse op then (match c.stl x, cE n c e with
    | some i, some e' => some (.aug i op e')
    | _, _ => none) else none
  | _ => none
def cRaise (n : Nat) (c : Cfg) (e : Expr) : Option CS := match e with
  | .Call (.Name cn _) [a] [] _ => if c.calm && noSt a then (match c.glo cn, cE n c a with
    | some (.exc f), some a' => if f == ("" : Str) then none else some (.raise cn f a')
    | _, _ => none) else none
  | _ => none
/-- a pattern's names -/
def capNs : List Pattern → Option (List (Str × Pos))
  | [] => some []
  | .MatchAs none (some x) p :: r => (capNs r).map ((x, p) :: ·)
  | _ => none
def slNs (c : Cfg) : List (Str × Pos) → Option (List Nat)
  | [] => some []
  | (x, _) :: r => match c.stl x, slNs c r with
    | some i, some is => some (i :: is)
    | _, _ => none
def ptOk (ps : List Pattern) : Bool := (ps.findIdx? (·.isStar)).isNone && !(ps.all fun p => p.isWildcard || (p.isStar && p.names.isEmpty))
def cPtS (c : Cfg) (ps : List Pattern) : Option MPat := match ps with
  | .MatchValue (.Constant (.str w) _ _) _ :: r => if c.calm && ptOk ps then (match capNs r with
    | some ns => (slNs c ns).map (.seq w)
    | none => none) else none
  | _ => none
def cPt (c : Cfg) (p : Pattern) : Option MPat := match p with
  | .MatchAs none none _ => some .any
  | .MatchValue (.Constant (.str w) _ _) _ => some (.val w)
  | .MatchSequence ps _ => cPtS c ps
  | _ => none
def Cfg.hot (c : Cfg) : Cfg := { c with calm := false, top := false }
mutual
def cS : Nat → Cfg → Stmt → Option CS
  | 0, _, _ => none
  | n + 1, c, st => match st with
    | .Pass _ => some .pass
    | .Break _ => some .brk
    | .Continue _ => some .cont
    | .Expr e _ => if notComp e then (cE n c e).map .expr else none
    | .Return (some e) _ => (cE n c e).map .ret
    | .Return none _ => some .retN
    | .If t a b _ => match cT n c t, cSs n c a, cSs n c b with
      | some t', some a', some b' => some (.iff t' a' b')
      | _, _, _ => none
    | .Assign [t] v _ => cAsg n c t v
    | .AugAssign t op e _ => cAug n c t op e
    | .For tg it body [] _ => if c.calm && notSet it then (match cI n c it, cG n c tg, cSs n c body with
      | some i, some g, some b => if enuB i tg then some (.for_ i g b) else none
      | _, _, _ => none) else none
    | .While t body [] _ => match cT n c t, cSs n c body with
      | some t', some b => some (.whl t' b)
      | _, _ => none
    | .Raise (some e) none _ => cRaise n c e
    | .Try body hs [] [] _ => if c.calm && c.top then (match cSs n c body with
      | some b => cTry n c b hs
      | none => none) else none
    | .Match e cases _ => match cE n c e, cCs n c cases with
      | some e', some t => some (.mat e' t)
      | _, _ => none
    | _ => none
def cCs : Nat → Cfg → List MatchCase → Option CCs
  | 0, _, _ => none
  | _ + 1, _, [] => some .nil
  | n + 1, c, ⟨p, none, b⟩ :: r => match cPt c p, cSs n c b, cCs n c r with
    | some p', some b', some r' => some (.cons p' b' r')
    | _, _, _ => none
  | _ + 1, _, _ => none
def cTry : Nat → Cfg → CSs → List ExceptHandler → Option CS
  | 0, _, _, _ => none
  | n + 1, c, b, [.ExceptHandler (some (.Name cn _)) (some x) (b₀ :: suite) _] => (match c.glo cn, c.sc.names.lookup x, ixOf x c.N, cSs n c.hot (b₀ :: suite) with
      | some (.exc _), some .local, some i, some h => some (.tryAs cn i b h)
      | _, _, _, _ => none)
  | _ + 1, _, _, [] => none
  | n + 1, c, b, h :: hs => match cHs n c (h :: hs) with
      | some h' => some (.try_ b h')
      | none => none
def cSs : Nat → Cfg → List Stmt → Option CSs
  | 0, _, _ => none
  | _ + 1, _, [] => some .nil
  | n + 1, c, s :: r => match cS n c s, cSs n c r with
    | some s', some r' => some (.cons s' r')
    | _, _ => none
def cHs : Nat → Cfg → List ExceptHandler → Option CHs
  | 0, _, _ => none
  | _ + 1, _, [] => some .nil
  | n + 1, c, .ExceptHandler (some (.Name cn _)) none (b₀ :: suite) _ :: r => match c.glo cn, cSs n c.hot (b₀ :: suite), cHs n c r with
    | some (.exc _), some b, some r' => some (.cons cn b r')
    | _, _, _ => none
  | _ + 1, _, _ => none
end
end DL

set_option Elab.async false
set_option linter.all false
set_option maxRecDepth 100000
set_option maxHeartbeats 4000000
namespace DL
open PySem PySem.Spec PyProof.Rows L2

def GkOk (X : Cx) (fa : Key → Addr) (M : Env1) (x : Str) : GK → Prop
  | .fn => X.mg x = some (.ref (fa (x, none))) ∧ PySem.W.keepIn X.K (.ref (fa (x, none))) = true
  | .cls => ∃ C, X.mg x = some (.ref C) ∧ PySem.W.keepIn X.K (.ref C) = true
  | .exc f => ∃ C, X.mg x = some (.ref C) ∧ (f ≠ "" → M.et x = some f)
  | .blt => X.mg x = none
  | .val d => ∃ v u, X.mg x = some u ∧ RelV v u ∧ ∀ H, DRel (gp X) H d v
structure CfgOk (X : Cx) (fa : Key → Addr) (M : Env1) (cu : Option Cur) (k : Nat) (c : Cfg) : Prop where
  sc : X.env.scope = c.sc
  kind : c.sc.kind = .function
  N : X.N = c.N
  nd : c.N.Nodup
  own : X.fn = c.own
  gk : ∀ x g, c.gk x = some g → GkOk X fa M x g
  calm : c.calm = true → X.calm = true
  cup : c.calm = true → cu = none
  top : c.top = true → X.stack = X.env :: X.outer ∧ X.env.frame = some X.env.locals
  pas : PassesOwn (model X.prog X.w) X.A X.env X.xe
  tb : TbOk X fa M.tb
  ops : OpsOk X fa M.tb
  isi : IsiOk X M.tab
  ex : ExOk X M.et
  sx : SubOk X M.sx
  cap : (OrcOk X k fa M.fi M.orc ∧ RoomG (k + 3) X.A) ∨ ((∀ key, M.fi key = none) ∧ c.calm = false)
  un : X.A.units + 70 < cLine
  gd : X.A.guards = some []
  sys : SysOk X.K
  cur : ∀ cc, cu = some cc → CurOk X cc
section
variable {X : Cx} {fa : Key → Addr} {M : Env1} {cu : Option Cur} {k : Nat} {c : Cfg}
theorem loc_of (O : CfgOk X fa M cu k c) {x : Str} {i : Nat} (h : c.loc x = some i) : X.N[i]? = some x ∧ Vis X.env.scope x := by
  unfold Cfg.loc at h
  rw [O.N, O.sc]
  cases e : c.sc.names.lookup x with
  | none => rw [e] at h; cases h
  | some q =>
    rw [e] at h
    cases q with
    | «local» => exact ⟨ixOf_get h, .inl e⟩
    | cell => exact ⟨ixOf_get h, .inr (.inl e)⟩
    | free => exact ⟨ixOf_get h, .inr (.inr e)⟩
    | _ => cases h
theorem stl_of (O : CfgOk X fa M cu k c) {x : Str} {i : Nat} (h : c.stl x = some i) : X.N[i]? = some x ∧ Loc X.env.scope x ∧ (X.fn x = true ∨ X.env.scope.names.lookup x = some .local) := by
  unfold Cfg.stl at h
  rw [O.N, O.sc, O.own]
  cases e : c.sc.names.lookup x with
  | none => rw [e] at h; cases h
  | some q =>
    rw [e] at h
    cases q with
    | «local» => exact ⟨ixOf_get h, .inl e, .inr rfl⟩
    | cell =>
      simp only at h
      by_cases hw : c.own x = true
      · rw [if_pos hw] at h
        exact ⟨ixOf_get h, .inr e, .inl hw⟩
      · rw [if_neg hw] at h; cases h
    | _ => cases h
theorem glo_of (O : CfgOk X fa M cu k c) {x : Str} {g : GK} (h : c.glo x = some g) : Gl X x ∧ (x == ("__debug__" : Str)) = false ∧ GkOk X fa M x g := by
  unfold Cfg.glo at h
  cases e : c.sc.names.lookup x with
  | none => rw [e] at h; cases h
  | some q =>
    rw [e] at h
    cases q with
    | globalImplicit =>
      simp only at h
      by_cases hd : (x == ("__debug__" : Str)) = true
      · rw [if_pos hd] at h; cases h
      · rw [if_neg hd] at h
        refine ⟨?_, by simpa using hd, O.gk x g h⟩
        show X.env.scope.names.lookup x = some .globalImplicit
        rw [O.sc]; exact e
    | _ => cases h
theorem own_not {tb : Tb} {fi : Key → Option FI} {orc : Orc} (h : ∀ key, fi key = none) {nm : Str} {x y : D} {S : Sto} {K : DK} {E : DX} : ¬ ownO tb fi orc nm x y S K E := by
  intro q
  have no : ∀ {key xs S K E}, ¬ callO fi orc key xs S K E := fun {key xs S K E} ⟨p, hp, _⟩ => by rw [h] at hp; cases hp
  unfold ownO at q
  split at q
  · obtain ⟨_, _, _, _, q⟩ := q; exact no q
  · split at q
    · obtain ⟨_, _, _, _, q⟩ := q; exact no q
    · split at q
      · obtain ⟨_, _, q⟩ := q; exact no q
      · split at q
        · obtain ⟨_, _, q⟩ := q; exact no q
        · split at q
          · obtain ⟨_, _, _, _, _, _, _, q⟩ := q; exact no q
          · split at q
            · obtain ⟨_, _, _, _, q⟩ := q; exact no q
            · exact q
theorem ownT_not {tb : Tb} {fi : Key → Option FI} {orc : Orc} (h : ∀ key, fi key = none) {x : D} {S : Sto} {K : Bool → Sto → Prop} {E : DX} : ¬ ownT tb fi orc x S K E := fun ⟨_, _, p, hp, _⟩ => by rw [h] at hp; cases hp
theorem cdo (O : CfgOk X fa M cu k c) (key : Key) : CallD X (.ref (fa key)) (callO M.fi M.orc key) := by
  rcases O.cap with ⟨o, hr⟩ | ⟨hn, _⟩
  · exact cd_orc o (hr.mono (by omega)) key
  · exact fun pins s σ H σD S ex Kt xs vs us tk T dr rv ⟨p, hp, _⟩ => by rw [hn] at hp; cases hp
theorem cdm (O : CfgOk X fa M cu k c) {x : Str} {C : Addr} (hC : X.mg x = some (.ref C)) : CallD X (.ref C) (makeO M.tb M.fi M.orc x) := by
  rcases O.cap with ⟨o, hr⟩ | ⟨hn, _⟩
  · exact cd_makeO O.tb o (hr.mono (by omega)) hC
  · exact fun pins s σ H σD S ex Kt xs vs us tk T dr rv ⟨ce, _, p, hp, _⟩ => by rw [hn] at hp; cases hp
theorem tru_ok' (O : CfgOk X fa M cu k c) : TruD X M.tru := by
  refine TruD.or (truD_ok ?_) truLf_ok
  rcases O.cap with ⟨o, hr⟩ | ⟨hn, _⟩
  · exact own_tru O.tb o (hr.mono (by omega))
  · exact fun pins s σ H σD S ex Kt x xv v tk T dx rx ⟨a, _, _, q⟩ => (ownT_not hn q).elim
theorem op_ok (O : CfgOk X fa M cu k c) (o : Operator) : OpD X (binaryOp o) (opM M o) := by
  have no : ∀ {f : Value → Value → Sem Value}, OpD X f (fun _ _ _ _ _ => False) := fun pins s σ H σD S ex Kt x y xv yv v u tk T dx dy rx ry q => q.elim
  have ow : ∀ {o : Operator} {nm : Str}, (nm = "__add__" ∨ nm = "__and__" ∨ nm = "__or__") → dunder o.info.2 = nm → OpD X (binaryOp o) (ownR M.own nm) := fun {o nm} h1 h2 => by
    rcases O.cap with ⟨oo, hr⟩ | ⟨hn, _⟩
    · exact own_bin O.tb O.ops oo (hr.mono (by omega)) h1 h2
    · exact fun pins s σ H σD S ex Kt x y xv yv v u tk T dx dy rx ry ⟨a, _, _, q⟩ => (own_not hn q).elim
  cases o with
  | Add =>
    intro pins s σ H σD S ex Kt x y xv yv v u tk T dx dy rx ry q
    rcases q with q | q
    · exact opD_add (ow (.inl rfl) (by decide +kernel)) pins s σ H σD S ex Kt x y xv yv v u tk T dx dy rx ry q
    · rcases O.cap with ⟨oo, hr⟩ | ⟨hn, _⟩
      · exact own_addi O.tb O.ops oo (hr.mono (by omega)) pins s σ H σD S ex Kt x y xv yv v u tk T dx dy rx ry q
      · obtain ⟨a, _, _, q⟩ := q
        exact (own_not hn q).elim
  | Sub => exact opD_sub
  | Mult => exact opD_mul.or opD_rept
  | FloorDiv => exact opD_div
  | Mod => exact opD_mod
  | Pow => exact opD_pow
  | BitAnd => exact ow (.inr (.inl rfl)) (by decide +kernel)
  | BitOr => exact ow (.inr (.inr rfl)) (by decide +kernel)
  | _ => exact no
theorem cmp_ok (O : CfgOk X fa M cu k c) (o : CmpOp) : OpD X (compareOp o) (cmpM M o) := by
  have un := O.un
  cases o with
  | Eq =>
    refine OpD.or (opD_eq (by omega) ?_) (opD_eqT0 (by omega))
    rcases O.cap with ⟨oo, hr⟩ | ⟨hn, _⟩
    · exact own_eq O.tb O.ops oo (hr.mono (by omega))
    · exact fun pins s σ H σD S ex Kt x y xv yv v u tk T dx dy rx ry ⟨a, _, _, q⟩ => (own_not hn q).elim
  | NotEq =>
    refine opD_ne (by omega) ?_
    rcases O.cap with ⟨oo, hr⟩ | ⟨hn, _⟩
    · exact own_ne O.tb O.ops oo (hr.mono (by omega))
    · exact fun pins s σ H σD S ex Kt x y xv yv v u tk T dx dy rx ry ⟨a, _, _, q⟩ => (own_not hn q).elim
  | Lt => exact opD_lt
  | LtE => exact opD_le
  | Gt => exact opD_gt
  | GtE => exact opD_ge
  | Is => exact opD_is.or opD_isB
  | IsNot => exact opD_isn.or opD_isnB
  | In =>
    refine OpD.or (opD_in (by omega) ?_) opD_inLf
    rcases O.cap with ⟨oo, hr⟩ | ⟨hn, _⟩
    · exact own_in O.tb oo (hr.mono (by omega))
    · exact fun pins s σ H σD S ex Kt x y xv yv v u tk T dx dy rx ry ⟨a, _, _, q⟩ => (own_not hn q).elim
  | NotIn =>
    refine OpD.or (opD_nin (by omega) ?_) opD_ninLf
    rcases O.cap with ⟨oo, hr⟩ | ⟨hn, _⟩
    · exact own_nin O.tb oo (hr.mono (by omega))
    · exact fun pins s σ H σD S ex Kt x y xv yv v u tk T dx dy rx ry ⟨a, _, _, q⟩ => (own_not hn q).elim
theorem ix_ok (O : CfgOk X fa M cu k c) : IxD X (ixX M.own) := IxD.or (ixD_ok fun value slice pins s σ H σD S ex Kt x y xv yv v u tk T dx dy rx ry ⟨a, _, _, q⟩ hs => by
  change ownO _ _ _ _ _ _ _ _ _ at q
  unfold ownO at q
  rw [if_neg (by decide), if_neg (by decide), if_neg (by decide), if_neg (by decide), if_neg (by decide)] at q
  exact q.elim) ixLf_ok
/-- attributes, a caught error's too -/
theorem att_c (O : CfgOk X fa M cu k c) {e : Expr} {te : DE} {f : Str} {pos : Pos} (he : QE X e te) (hb : baseOk e = true) : QE X (.Attribute e f pos) (fun σ S K E => te σ S (fun o S1 => attC M cu f o S1 K) E) := fun pins s σ H σD S ex Kt tk T h => by
  refine attr_of (base_ok hb) (thn (he pins s σ H σD S ex _ tk T h) fun u s1 ⟨v, H1, x, S1, I1, r1, x1, d1, m1, q1⟩ => ?_)
  rcases q1 with ⟨a, cn, dd, fs, d, ecu, eo, het, hS, hl, kq⟩ | q1
  · subst eo
    unfold DRel at d1; subst d1
    obtain rfl : u = Value.ref a := r1
    obtain ⟨oe, C, hp, hC, hz, vs, hd⟩ := O.cur _ ecu
    obtain ⟨C', fI, W⟩ := O.ex cn f het
    have e9 : C' = C := by simpa using W.gC.symm.trans hC
    subst e9
    obtain ⟨ha, _⟩ := I1.pin (a, oe) (List.mem_append_left _ hp)
    obtain ⟨ws, h1, h2⟩ := m1 dd _ hS
    obtain ⟨w, hw, dw⟩ := h2.look hl
    obtain ⟨mA, hns, hr⟩ := (show ObjOk X.prog X.w H1 s1.heap dd (.xd ws) from I1.hok dd _ h1)
    obtain ⟨od, ho, hlk⟩ := lookIn_ns hns
    obtain ⟨u, hu, ru⟩ := RelO.some_of (v := w) (o := mA f) (by have z := hr f; rw [hw] at z; exact z)
    have J : PySem.W.InstAt s1.heap a oe C' (some od) := ⟨ha, hz.1, by unfold PySem.W.notCls; rw [hd] <;> rfl, by rw [hz.2]; exact ho⟩
    exact HandSPX.exc_get I1.kIn J W.ga W.gg W.exC (PySem.W.findObj_own W.hdC W.noN rfl (by rw [hlk, hu])) (handed_of ru) ⟨w, H1, d, S1, I1.tok _, ru, x1, dw, m1, kq⟩
  · refine thn (att_ok (k := k) O.tb ?_ (T.on I1 x1 m1) d1 r1 q1) fun _ _ z => z.up x1
    rcases O.cap with ⟨oo, hr⟩ | ⟨hn, _⟩
    · exact .inl ⟨oo, hr.mono (by omega)⟩
    · exact .inr hn
theorem opD_inpAdd {X : Cx} : OpD X (inplaceOp .Add) (inpM .Add) := by
  intro pins s σ H σD S ex Kt x y xv yv v u tk T dx dy rx ry q
  cases x with
  | int i => cases y with
    | int j =>
      unfold DRel at dx dy
      exact go2 iop_add T rx ry ⟨i, j, dx, dy, PQ.int T.m q⟩
    | _ => exact (show False from q).elim
  | str i => cases y with
    | str j =>
      unfold DRel at dx dy
      exact go2 iop_add_str T rx ry ⟨i, j, dx, dy, q.1, PQ.str T.m q.2⟩
    | _ => exact (show False from q).elim
  | _ => exact (show False from q).elim
theorem in_cfg (O : CfgOk X fa M cu k c) : OrcOk X k fa M.fi M.orc → RoomG (k + 3) X.A → TruD (inX (inX X)) M.tru := fun o hr =>
  TruD.or (truD_ok (own_tru (X := inX (inX X)) (k := k) (fa := fa) O.tb o (RoomG.in1 (RoomG.in1 (hr.mono (by omega : k + 2 ≤ k + 3)))))) truLf_ok
theorem in_cfg0 (O : CfgOk X fa M cu k c) (hn : ∀ key, M.fi key = none) : TruD (inX (inX X)) M.tru :=
  TruD.or (truD_ok fun pins s σ H σD S ex Kt x xv v tk T dx rx ⟨a, _, _, q⟩ => (ownT_not hn q).elim) truLf_ok
theorem blt_ok (O : CfgOk X fa M cu k c) {x : Str} {v : Value} {n : Nat} (hx : bltL.lookup x = some v) (hu : bltUse c x n = true) : CallD X v (bltM M x) := by
  have un := O.un
  have boolX : TruD (inX (inX X)) M.tru := by
    rcases O.cap with ⟨oo, hr⟩ | ⟨hn, _⟩
    · exact in_cfg O oo hr
    · exact in_cfg0 O hn
  unfold bltUse at hu
  simp only [Bool.or_eq_true, Bool.and_eq_true, List.contains_eq_mem, List.mem_cons, List.not_mem_nil, or_false, decide_eq_true_eq] at hu
  rcases hu with (h | h | h | h | h | h | h | h) | ⟨hc, h | h | h | h | h | h⟩ <;> subst h
  · cases (show some (Value.builtin "abs") = some v from (by decide +kernel : bltL.lookup ("abs" : Str) = some (Value.builtin "abs")).symm.trans hx)
    exact cd_abs.imp fun _ _ _ _ q => by unfold bltM at q; simpa using q
  · cases (show some (Value.type "int") = some v from (by decide +kernel : bltL.lookup ("int" : Str) = some (Value.type "int")).symm.trans hx)
    exact cd_int.imp fun _ _ _ _ q => by unfold bltM at q; rw [if_neg (by decide), if_pos rfl] at q; exact q
  · cases (show some (Value.type "bool") = some v from (by decide +kernel : bltL.lookup ("bool" : Str) = some (Value.type "bool")).symm.trans hx)
    exact (cd_boolX boolX).imp fun _ _ _ _ q => by unfold bltM at q; rw [if_neg (by decide), if_neg (by decide), if_pos rfl] at q; exact q
  · cases (show some (Value.builtin "len") = some v from (by decide +kernel : bltL.lookup ("len" : Str) = some (Value.builtin "len")).symm.trans hx)
    exact (cd_len.or cd_lenLf).imp fun _ _ _ _ q => by unfold bltM at q; rw [if_neg (by decide), if_neg (by decide), if_neg (by decide), if_pos rfl] at q; exact q
  · cases (show some (Value.type "list") = some v from (by decide +kernel : bltL.lookup ("list" : Str) = some (Value.type "list")).symm.trans hx)
    exact cd_list.imp fun _ _ _ _ q => by unfold bltM at q; rw [if_neg (by decide), if_neg (by decide), if_neg (by decide), if_neg (by decide), if_neg (by decide), if_neg (by decide), if_neg (by decide), if_neg (by decide), if_neg (by decide), if_pos rfl] at q; exact q
  · cases (show some (Value.type "tuple") = some v from (by decide +kernel : bltL.lookup ("tuple" : Str) = some (Value.type "tuple")).symm.trans hx)
    exact cd_tuple.imp fun _ _ _ _ q => by unfold bltM at q; rw [if_neg (by decide), if_neg (by decide), if_neg (by decide), if_neg (by decide), if_neg (by decide), if_neg (by decide), if_neg (by decide), if_neg (by decide), if_neg (by decide), if_neg (by decide), if_pos rfl] at q; exact q
  · cases (show some (Value.builtin "repr") = some v from (by decide +kernel : bltL.lookup ("repr" : Str) = some (Value.builtin "repr")).symm.trans hx)
    exact (cd_repr O.sys O.gd (by omega)).imp fun _ _ _ _ q => by unfold bltM at q; rw [if_neg (by decide), if_neg (by decide), if_neg (by decide), if_neg (by decide), if_neg (by decide), if_neg (by decide), if_neg (by decide), if_neg (by decide), if_neg (by decide), if_neg (by decide), if_neg (by decide), if_pos rfl] at q; exact q
  · cases (show some (Value.builtin "isinstance") = some v from (by decide +kernel : bltL.lookup ("isinstance" : Str) = some (Value.builtin "isinstance")).symm.trans hx)
    exact (cd_isi O.tb O.isi).imp fun _ _ _ _ q => by unfold bltM at q; rw [if_neg (by decide), if_neg (by decide), if_neg (by decide), if_neg (by decide), if_neg (by decide), if_neg (by decide), if_neg (by decide), if_neg (by decide), if_neg (by decide), if_neg (by decide), if_neg (by decide), if_neg (by decide), if_pos rfl] at q; exact q
  · cases (show some (Value.builtin "max") = some v from (by decide +kernel : bltL.lookup ("max" : Str) = some (Value.builtin "max")).symm.trans hx)
    exact ((cd_max2 (O.calm hc)).or (cd_maxl (O.calm hc))).imp fun _ _ _ _ q => by unfold bltM at q; rw [if_neg (by decide), if_neg (by decide), if_neg (by decide), if_neg (by decide), if_pos rfl] at q; exact q
  · cases (show some (Value.builtin "min") = some v from (by decide +kernel : bltL.lookup ("min" : Str) = some (Value.builtin "min")).symm.trans hx)
    exact ((cd_min2 (O.calm hc)).or (cd_minl (O.calm hc))).imp fun _ _ _ _ q => by unfold bltM at q; rw [if_neg (by decide), if_neg (by decide), if_neg (by decide), if_neg (by decide), if_neg (by decide), if_pos rfl] at q; exact q
  · cases (show some (Value.builtin "sum") = some v from (by decide +kernel : bltL.lookup ("sum" : Str) = some (Value.builtin "sum")).symm.trans hx)
    exact (cd_sum (O.calm hc)).imp fun _ _ _ _ q => by unfold bltM at q; rw [if_neg (by decide), if_neg (by decide), if_neg (by decide), if_neg (by decide), if_neg (by decide), if_neg (by decide), if_pos rfl] at q; exact q
  · cases (show some (Value.builtin "all") = some v from (by decide +kernel : bltL.lookup ("all" : Str) = some (Value.builtin "all")).symm.trans hx)
    exact (cd_all (O.calm hc)).imp fun _ _ _ _ q => by unfold bltM at q; rw [if_neg (by decide), if_neg (by decide), if_neg (by decide), if_neg (by decide), if_neg (by decide), if_neg (by decide), if_neg (by decide), if_pos rfl] at q; exact q
  · cases (show some (Value.builtin "any") = some v from (by decide +kernel : bltL.lookup ("any" : Str) = some (Value.builtin "any")).symm.trans hx)
    exact (cd_any (O.calm hc)).imp fun _ _ _ _ q => by unfold bltM at q; rw [if_neg (by decide), if_neg (by decide), if_neg (by decide), if_neg (by decide), if_neg (by decide), if_neg (by decide), if_neg (by decide), if_neg (by decide), if_pos rfl] at q; exact q
  · cases (show some (Value.builtin "sorted") = some v from (by decide +kernel : bltL.lookup ("sorted" : Str) = some (Value.builtin "sorted")).symm.trans hx)
    exact cd_sorted.imp fun _ _ _ _ q => by unfold bltM at q; rw [if_neg (by decide), if_neg (by decide), if_neg (by decide), if_neg (by decide), if_neg (by decide), if_neg (by decide), if_neg (by decide), if_neg (by decide), if_neg (by decide), if_neg (by decide), if_neg (by decide), if_neg (by decide), if_neg (by decide), if_pos rfl] at q; exact q
theorem mem_of_look {x : Str} {v : Value} : ∀ {l : List (Str × Value)}, l.lookup x = some v → (x, v) ∈ l
  | [], h => by cases h
  | (y, w) :: r, h => by
    rw [List.lookup_cons] at h
    cases e : x == y with
    | true =>
      rw [e] at h
      cases h
      rw [beq_iff_eq.mp e]
      exact List.mem_cons_self
    | false =>
      rw [e] at h
      exact List.mem_cons_of_mem _ (mem_of_look h)
theorem blt_look {x : Str} {v : Value} (h : bltL.lookup x = some v) : bootBuiltins x = some v ∧ x ≠ "__name__" ∧ (x == ("__debug__" : Str)) = false := blt_boot (x, v) (mem_of_look h)
end
end DL

set_option Elab.async false
set_option linter.all false
set_option maxRecDepth 100000
set_option maxHeartbeats 4000000
namespace DL
open PySem PySem.Spec PyProof.Rows L2

theorem folded_set {e : Expr} {env : Env} (h : notSet e = true) : ∀ x, foldedSetIterable e env x = pure x := by
  intro x
  cases e <;> first | rfl | (simp [notSet] at h)
theorem plain_ix {b : Expr} (h : notSlice b = true) : PlainIx b := by
  intro o i
  cases b <;> first | rfl | (simp [notSlice] at h)
section
variable {X : Cx} {fa : Key → Addr} {M : Env1} {cu : Option Cur} {k : Nat} {c : Cfg}
theorem blk_cfg (O : CfgOk X fa M cu k c) (hc : c.calm = true) {scope : Scope} (hk : scope.kind = .function) (s : Shared) (H : Hp) (C : Addr) (cl : List (Str × Addr)) (fp : List Addr) : CfgOk (X.blk s H scope (compEnvC scope cl C X.env) fp) fa M cu k (blkCfg c scope) where
  sc := by
    show relS scope X.env.scope = relS scope c.sc
    rw [O.sc]
  kind := hk
  N := O.N
  nd := O.nd
  own := rfl
  gk := fun x g h => by
    have q := O.gk x g h
    cases g <;> exact q
  calm := O.calm
  cup := O.cup
  top := fun h => by cases h
  pas := PassesOwn.never
  tb := O.tb
  ops := ⟨O.ops.nf, O.ops.hm, O.ops.fn, O.ops.ne, O.ops.rad⟩
  isi := O.isi
  ex := O.ex
  sx := O.sx
  cap := by
    rcases O.cap with ⟨o, hr⟩ | ⟨_, h⟩
    · exact .inl ⟨o, hr⟩
    · rw [hc] at h; cases h
  un := O.un
  gd := O.gd
  sys := O.sys
  cur := fun cc h => by rw [O.cup hc] at h; cases h
end
/-- the readings with fuel n -/
structure Snd (n : Nat) : Prop where
  E : ∀ {X : Cx} {fa : Key → Addr} {M : Env1} {cu : Option Cur} {k : Nat} {c : Cfg}, CfgOk X fa M cu k c → ∀ {e t}, cE n c e = some t → QE X e (mE M cu t)
  C1 : ∀ {X : Cx} {fa : Key → Addr} {M : Env1} {cu : Option Cur} {k : Nat} {c : Cfg}, CfgOk X fa M cu k c → ∀ {elt tg iter ifs scope t}, cComp n c elt tg iter ifs scope = some t → ∀ pos, QE X (.ListComp elt [⟨tg, iter, ifs, 0⟩] scope pos) (mE M cu t)
  C2 : ∀ {X : Cx} {fa : Key → Addr} {M : Env1} {cu : Option Cur} {k : Nat} {c : Cfg}, CfgOk X fa M cu k c → ∀ {elt tg iter ifs scope t}, cComp n c elt tg iter ifs scope = some t → ∀ {pos y i py spos}, c.sc.names.lookup y = some .local → ixOf y c.N = some i →
    swapsWith (.ListComp elt [⟨tg, iter, ifs, 0⟩] scope pos) (some (.Name y py)) spos.line X.env = pure true → QS X (.Assign [.Name y py] (.ListComp elt [⟨tg, iter, ifs, 0⟩] scope pos) spos) (sAsg (mE M cu t) (gNm i))
  F : ∀ {X : Cx} {fa : Key → Addr} {M : Env1} {cu : Option Cur} {k : Nat} {c : Cfg}, CfgOk X fa M cu k c → ∀ {es t}, cIf n c es = some t → QTs X es (mO M cu t)
  P : ∀ {X : Cx} {fa : Key → Addr} {M : Env1} {cu : Option Cur} {k : Nat} {c : Cfg}, CfgOk X fa M cu k c → ∀ {o t}, cP n c o = some t → QP X o (mE M cu t)
  B : ∀ {X : Cx} {fa : Key → Addr} {M : Env1} {cu : Option Cur} {k : Nat} {c : Cfg}, CfgOk X fa M cu k c → ∀ {op vs t}, cB n c op vs = some t → ∀ pos, QE X (.BoolOp op vs pos) (mE M cu t)
  Es : ∀ {X : Cx} {fa : Key → Addr} {M : Env1} {cu : Option Cur} {k : Nat} {c : Cfg}, CfgOk X fa M cu k c → ∀ {es ts}, cEs n c es = some ts → es.all noSt = true → QA X es (mEs M cu ts) ∧ (es = [] → mEs M cu ts = dNil)
  T : ∀ {X : Cx} {fa : Key → Addr} {M : Env1} {cu : Option Cur} {k : Nat} {c : Cfg}, CfgOk X fa M cu k c → ∀ {e t}, cT n c e = some t → QT X e (mT M cu t)
  W : ∀ {X : Cx} {fa : Key → Addr} {M : Env1} {cu : Option Cur} {k : Nat} {c : Cfg}, CfgOk X fa M cu k c → ∀ {op vs t}, cW n c op vs = some t → ∀ pos, QW X (.BoolOp op vs pos) (mT M cu t)
  I : ∀ {X : Cx} {fa : Key → Addr} {M : Env1} {cu : Option Cur} {k : Nat} {c : Cfg}, CfgOk X fa M cu k c → ∀ {e t}, cI n c e = some t → ∀ tg, enuB t tg = true → QI X tg e (mI M cu t)
  G : ∀ {X : Cx} {fa : Key → Addr} {M : Env1} {cu : Option Cur} {k : Nat} {c : Cfg}, CfgOk X fa M cu k c → ∀ {e g}, cG n c e = some g → ∀ vs, (∀ j ∈ slotsG g, j ∈ vs) → QG X vs e (mG M.tb g)
  D1 : ∀ {X : Cx} {fa : Key → Addr} {M : Env1} {cu : Option Cur} {k : Nat} {c : Cfg}, CfgOk X fa M cu k c → ∀ {kx vx tg iter ifs scope t}, cDc n c kx vx tg iter ifs scope = some t → ∀ pos, QE X (.DictComp kx vx [⟨tg, iter, ifs, 0⟩] scope pos) (mE M cu t)
  Ps : ∀ {X : Cx} {fa : Key → Addr} {M : Env1} {cu : Option Cur} {k : Nat} {c : Cfg}, CfgOk X fa M cu k c → ∀ {ks vs t}, cPs n c ks vs = some t → ∀ pos, QPs X pos ks vs (mPs M cu t)
  Gs : ∀ {X : Cx} {fa : Key → Addr} {M : Env1} {cu : Option Cur} {k : Nat} {c : Cfg}, CfgOk X fa M cu k c → ∀ {es gs}, cGs n c es = some gs → es.all noSt = true → ∀ vs, (∀ j ∈ slotsGs gs, j ∈ vs) → QGs X vs es (mGs M.tb gs)
section
variable {X : Cx} {fa : Key → Addr} {M : Env1} {cu : Option Cur} {k : Nat} {c : Cfg} {n : Nat}
theorem lrg_ok (I : Snd n) (O : CfgOk X fa M cu k c) {x : Str} {p pos : Pos} {es : List Expr} {t : CE} (hb : lrgB c x es = true) (h : (match rngArgs es with
    | some es' => (cEs n c es').map .lrg
    | none => none) = some t) : QE X (.Call (.Name x p) es [] pos) (mE M cu t) := by
  unfold lrgB at hb
  simp only [Bool.and_eq_true, beq_iff_eq] at hb
  obtain ⟨ex, hc, hm, hg⟩ := hb
  subst ex
  split at hm
  · rename_i y p2 e es2 pos2
    simp only [Bool.and_eq_true, beq_iff_eq] at hm
    obtain ⟨ey, hs⟩ := hm
    subst ey
    split at hg
    · rename_i e1 e2 e3 e4
      obtain ⟨u, h1, h2⟩ := Option.map_eq_some_iff.mp (show (cEs n c (e :: es2)).map CE.lrg = some t from h)
      subst h2
      obtain ⟨g1, _, g2⟩ := glo_of O e2
      obtain ⟨g3, _, g4⟩ := glo_of O e4
      exact qe_lrg (O.calm hc) g1 g2 g3 g4 (I.Es O h1 hs).1 hs
    · cases hg
  · cases hm
theorem snd_E (I : Snd n) (O : CfgOk X fa M cu k c) {e : Expr} {t : CE} (h : cE (n + 1) c e = some t) : QE X e (mE M cu t) := by
  unfold cE at h
  split at h
  · cases h; exact qe_int
  · cases h; exact qe_bl
  · cases h; exact qe_str
  · cases h; exact qe_non
  · -- a name
    rename_i x p
    split at h
    · cases h
    · rename_i hd
      simp only [Bool.or_eq_true, not_or, Bool.not_eq_true] at hd
      split at h
      · rename_i i hi
        cases h
        obtain ⟨h1, h2⟩ := loc_of O hi
        exact qe_var h1 h2 hd.1 hd.2
      · split at h
        · rename_i d hg
          cases h
          obtain ⟨g1, g2, v, u, g3, g4, g5⟩ := glo_of O hg
          exact qe_glob g1 g3 g4 g2 g5
        · rename_i hg
          cases h
          obtain ⟨g1, g2, C, g3, g4⟩ := glo_of O hg
          exact qe_glob (v := .ref C) g1 g3 rfl g2 fun H => by unfold DRel; exact ⟨C, g3, rfl⟩
        · rename_i f hg
          cases h
          obtain ⟨g1, g2, C, g3, g4⟩ := glo_of O hg
          exact qe_glob (v := .ref C) g1 g3 rfl g2 fun H => by unfold DRel; exact ⟨C, g3, rfl⟩
        · rename_i hg
          split at h
          · rename_i T hT
            cases h
            obtain ⟨g1, g2, g3⟩ := glo_of O hg
            obtain ⟨b1, b2, b3⟩ := blt_look hT
            exact fun pins s σ H σD S ex Kt tk T' h => ld_blt T'.I g1 g3 b1 ⟨.ty T, H, .ty T, S, T'.I, rfl, .refl, by simp [DRel], T'.m, h⟩ b2 b3
          · cases h
        · cases h
  · split at h
    · rename_i hs
      obtain ⟨ts, h1, h2⟩ := Option.map_eq_some_iff.mp h
      subst h2
      exact qe_tup (I.Es O h1 hs).1
    · cases h
  · split at h
    · rename_i hs
      obtain ⟨ts, h1, h2⟩ := Option.map_eq_some_iff.mp h
      subst h2
      exact qe_lst (I.Es O h1 hs).1
    · cases h
  · cases h; exact qe_dic0
  · split at h
    · rename_i h1 h2
      cases h
      exact qe_op (op_ok O _) (I.E O h1) (I.E O h2)
    · cases h
  · obtain ⟨ts, h1, h2⟩ := Option.map_eq_some_iff.mp h
    subst h2
    exact qe_not (tru_ok' O) (I.E O h1)
  · obtain ⟨ts, h1, h2⟩ := Option.map_eq_some_iff.mp h
    subst h2
    exact qe_neg (I.E O h1)
  · exact I.B O h _
  · split at h
    · cases h
    · rename_i hm
      split at h
      · rename_i h1 h2
        cases h
        exact qe_cmp (cmp_ok O _) (I.E O h1) (I.E O h2) (by simpa using hm)
      · cases h
  · split at h
    · cases h
    · rename_i hm
      split at h
      · rename_i h1 h2 h3
        cases h
        exact qe_chain (cmp_ok O _) (cmp_ok O _) (I.E O h1) (I.E O h2) (I.E O h3) (by simpa using hm)
      · cases h
  · split at h
    · rename_i h1 h2 h3
      cases h
      exact qe_if (I.T O h1) (I.E O h2) (I.E O h3)
    · cases h
  · split at h
    · rename_i h1 h2 h3
      cases h
      exact qe_sl (I.E O h1) (I.P O h2) (I.P O h3)
    · cases h
  · split at h
    · rename_i hs
      split at h
      · rename_i h1 h2
        cases h
        exact qe_ix (ix_ok O) (I.E O h1) (I.E O h2) (plain_ix hs)
      · cases h
    · cases h
  · split at h
    · rename_i hb
      obtain ⟨ts, h1, h2⟩ := Option.map_eq_some_iff.mp h
      subst h2
      exact att_c O (I.E O h1) hb
    · cases h
  · -- a method
    split at h
    · rename_i hs
      simp only [Bool.and_eq_true, decide_eq_true_eq] at hs
      split at h
      · rename_i h1 h2
        cases h
        obtain ⟨q1, q2⟩ := I.Es O h2 hs.1.1.2
        exact qe_meth O.tb (cdo O) (I.E O h1) hs.1.1.1 q1 q2 hs.1.1.2 hs.1.2 hs.2
      · cases h
    · cases h
  · -- a call
    split at h
    · rename_i hb
      exact lrg_ok I O hb h
    rename_i hnl
    clear hnl
    split at h
    · rename_i hs
      simp only [Bool.and_eq_true, Bool.not_eq_true'] at hs
      split at h
      · cases h
      · rename_i ts h1
        obtain ⟨q1, q2⟩ := I.Es O h1 hs.1.1
        split at h
        · rename_i i hi
          split at h
          · cases h
          · rename_i hne
            cases h
            obtain ⟨l1, l2⟩ := loc_of O hi
            rename_i x p es _ _ _
            cases es with
            | nil => simp at hne
            | cons e es =>
              rcases O.cap with ⟨oo, hr⟩ | ⟨hn, hc⟩
              · exact qe_callI O.tb O.ops oo (hr.mono (by omega)) (qe_var l1 l2 hs.1.2 hs.2) q1 hs.1.1
              · simp [hc] at hne
        · rename_i x p es _ _ _ _
          split at h
          · rename_i hg
            cases h
            obtain ⟨g1, g2, g3, g4⟩ := glo_of O hg
            cases es with
            | nil =>
              have e := q2 rfl
              show QE X _ (dCall _ (mEs M cu ts))
              rw [e]
              exact qe_callF0 (cdo O _) g1 g3 g4 g2
            | cons e es => exact qe_callF (cdo O _) g1 g3 g4 q1 hs.1.1 g2
          · rename_i hg
            split at h
            · cases h
            · rename_i hne
              cases h
              obtain ⟨g1, g2, C, g3, g4⟩ := glo_of O hg
              cases es with
              | nil => simp at hne
              | cons e es => exact qe_callF (cdm O g3) g1 g3 g4 q1 hs.1.1 g2
          · rename_i hg
            split at h
            · rename_i hu
              simp only [Bool.and_eq_true, Bool.not_eq_true'] at hu
              cases h
              obtain ⟨g1, g2, g3⟩ := glo_of O hg
              cases es with
              | nil => simp at hu
              | cons e es =>
                have hex : ∃ v, bltL.lookup x = some v ∧ ((∃ id, v = .builtin id) ∨ ∃ id, v = .type id) := by
                  have hb := hu.1
                  unfold bltUse at hb
                  simp only [Bool.or_eq_true, Bool.and_eq_true, List.contains_eq_mem, List.mem_cons, List.not_mem_nil, or_false, decide_eq_true_eq] at hb
                  rcases hb with (h | h | h | h | h | h | h | h) | ⟨_, h | h | h | h | h | h⟩ <;> subst h
                  · exact ⟨.builtin "abs", by decide +kernel, .inl ⟨_, rfl⟩⟩
                  · exact ⟨.type "int", by decide +kernel, .inr ⟨_, rfl⟩⟩
                  · exact ⟨.type "bool", by decide +kernel, .inr ⟨_, rfl⟩⟩
                  · exact ⟨.builtin "len", by decide +kernel, .inl ⟨_, rfl⟩⟩
                  · exact ⟨.type "list", by decide +kernel, .inr ⟨_, rfl⟩⟩
                  · exact ⟨.type "tuple", by decide +kernel, .inr ⟨_, rfl⟩⟩
                  · exact ⟨.builtin "repr", by decide +kernel, .inl ⟨_, rfl⟩⟩
                  · exact ⟨.builtin "isinstance", by decide +kernel, .inl ⟨_, rfl⟩⟩
                  · exact ⟨.builtin "max", by decide +kernel, .inl ⟨_, rfl⟩⟩
                  · exact ⟨.builtin "min", by decide +kernel, .inl ⟨_, rfl⟩⟩
                  · exact ⟨.builtin "sum", by decide +kernel, .inl ⟨_, rfl⟩⟩
                  · exact ⟨.builtin "all", by decide +kernel, .inl ⟨_, rfl⟩⟩
                  · exact ⟨.builtin "any", by decide +kernel, .inl ⟨_, rfl⟩⟩
                  · exact ⟨.builtin "sorted", by decide +kernel, .inl ⟨_, rfl⟩⟩
                obtain ⟨v, hv, hk⟩ := hex
                obtain ⟨b1, b2, b3⟩ := blt_look hv
                have cd := blt_ok O hv hu.1
                rcases hk with ⟨id, rfl⟩ | ⟨id, rfl⟩
                · exact qe_callB cd g1 g3 b1 q1 hs.1.1 b2 b3
                · exact qe_callTy cd g1 g3 b1 q1 hs.1.1 b2 b3
            · cases h
          · cases h
    · cases h
  · exact I.C1 O h _
  · exact I.D1 O h _
  · split at h
    · rename_i hs
      simp only [Bool.and_eq_true, beq_iff_eq, Bool.not_eq_true', decide_eq_true_eq] at hs
      obtain ⟨⟨⟨h1, h2⟩, h3⟩, h4⟩ := hs
      obtain ⟨ts, q1, q2⟩ := Option.map_eq_some_iff.mp h
      subst q2
      exact qe_dsp (I.Ps O q1 _) h1 h2 (fun e => by rw [e] at h3; cases h3) h4
    · cases h
  · cases h
theorem snd_Ps (I : Snd n) (O : CfgOk X fa M cu k c) {ks : List (Option Expr)} {vs : List Expr} {t : CPs} (h : cPs (n + 1) c ks vs = some t) (pos : Pos) : QPs X pos ks vs (mPs M cu t) := by
  match ks, vs, h with
  | [], [], h => simp only [cPs] at h; cases h; exact qps_nil
  | some a :: ks, v :: vs, h =>
    simp only [cPs] at h
    split at h
    · rename_i h1 h2 h3
      cases h
      exact qps_cons (I.E O h1) (I.E O h2) (I.Ps O h3 pos)
    · cases h
  | none :: _, _, h => simp [cPs] at h
  | [], _ :: _, h => simp [cPs] at h
  | some _ :: _, [], h => simp [cPs] at h
theorem snd_D1 (I : Snd n) (O : CfgOk X fa M cu k c) {kx vx tg iter : Expr} {ifs : List Expr} {scope : Scope} {t : CE} (h : cDc (n + 1) c kx vx tg iter ifs scope = some t) (pos : Pos) : QE X (.DictComp kx vx [⟨tg, iter, ifs, 0⟩] scope pos) (mE M cu t) := by
  unfold cDc at h
  split at h
  · rename_i hs
    simp only [Bool.and_eq_true] at hs
    have hb := blkOk_by hs.2
    split at h
    · rename_i i g tt tk tv h1 h2 h3 h4 h5
      split at h
      · rename_i hsl
        simp only [Bool.and_eq_true] at hsl
        obtain ⟨hen, hsl⟩ := hsl
        cases h
        have B := fun s H C cl fp => blk_cfg O hs.1.1 hb.kind s H C cl fp
        have hv : ∀ j ∈ slotsG g, j ∈ (ownOf c.N scope).map (·.2) := fun j hj => by
          have q := List.all_eq_true.mp hsl j hj
          simpa using q
        exact qe_dc (O.calm hs.1.1) (by rw [O.N]; exact O.nd) (I.I O h1 tg hen) (by rw [O.N, O.sc]; exact hb) ⟨fun s H C cl fp => I.G (B s H C cl fp) h2 _ hv, fun s H C cl fp => I.F (B s H C cl fp) h3, fun s H C cl fp => I.E (B s H C cl fp) h4⟩
          ⟨fun s H C cl fp => I.G (B s H C cl fp) h2 _ hv, fun s H C cl fp => I.F (B s H C cl fp) h3, fun s H C cl fp => I.E (B s H C cl fp) h5⟩ (folded_set hs.1.2)
      · cases h
    · cases h
  · cases h
theorem snd_comp (I : Snd n) (O : CfgOk X fa M cu k c) {elt tg iter : Expr} {ifs : List Expr} {scope : Scope} {t : CE} (h : cComp (n + 1) c elt tg iter ifs scope = some t) :
    ∃ i g tt te, t = .comp i g tt te ((ownOf c.N scope).map (·.2)) ∧ X.calm = true ∧ (∀ x, foldedSetIterable iter X.env x = pure x) ∧ BlkOk X.N X.env.scope scope (ownOf c.N scope) ∧ QI X tg iter (mI M cu i) ∧ BlkQ X scope ((ownOf c.N scope).map (·.2)) tg elt ifs (mG M.tb g) (mO M cu tt) (mE M cu te) := by
  unfold cComp at h
  split at h
  · rename_i hs
    simp only [Bool.and_eq_true] at hs
    have hb := blkOk_by hs.2
    split at h
    · rename_i i g tt te h1 h2 h3 h4
      split at h
      · rename_i hsl
        simp only [Bool.and_eq_true] at hsl
        obtain ⟨hen, hsl⟩ := hsl
        cases h
        have B := fun s H C cl fp => blk_cfg O hs.1.1 hb.kind s H C cl fp
        refine ⟨i, g, tt, te, rfl, O.calm hs.1.1, folded_set hs.1.2, by rw [O.N, O.sc]; exact hb, I.I O h1 tg hen, ⟨fun s H C cl fp => I.G (B s H C cl fp) h2 _ fun j hj => ?_, fun s H C cl fp => I.F (B s H C cl fp) h3, fun s H C cl fp => I.E (B s H C cl fp) h4⟩⟩
        have q := List.all_eq_true.mp hsl j hj
        simpa using q
      · cases h
    · cases h
  · cases h
theorem snd_C1 (I : Snd n) (O : CfgOk X fa M cu k c) {elt tg iter : Expr} {ifs : List Expr} {scope : Scope} {t : CE} (h : cComp (n + 1) c elt tg iter ifs scope = some t) (pos : Pos) : QE X (.ListComp elt [⟨tg, iter, ifs, 0⟩] scope pos) (mE M cu t) := by
  obtain ⟨i, g, tt, te, rfl, hc, hs, hb, hi, B⟩ := snd_comp I O h
  exact qe_lc hc (by rw [O.N]; exact O.nd) hi hb B hs
theorem snd_C2 (I : Snd n) (O : CfgOk X fa M cu k c) {elt tg iter : Expr} {ifs : List Expr} {scope : Scope} {t : CE} (h : cComp (n + 1) c elt tg iter ifs scope = some t) {pos : Pos} {y : Str} {i : Nat} {py spos : Pos} (hl : c.sc.names.lookup y = some .local) (hy : ixOf y c.N = some i)
    (hsw : swapsWith (.ListComp elt [⟨tg, iter, ifs, 0⟩] scope pos) (some (.Name y py)) spos.line X.env = pure true) : QS X (.Assign [.Name y py] (.ListComp elt [⟨tg, iter, ifs, 0⟩] scope pos) spos) (sAsg (mE M cu t) (gNm i)) := by
  obtain ⟨j, g, tt, te, rfl, hc, hs, hb, hi, B⟩ := snd_comp I O h
  exact qs_setLc hc (by rw [O.N]; exact O.nd) (by rw [O.N]; exact ixOf_get hy) (by rw [O.sc]; exact hl) hsw hi hb B hs
theorem snd_F (I : Snd n) (O : CfgOk X fa M cu k c) {es : List Expr} {t : Option CT} (h : cIf (n + 1) c es = some t) : QTs X es (mO M cu t) := by
  match es, h with
  | [], h1 => simp only [cIf] at h1; cases h1; exact rfl
  | [e], h1 =>
    simp only [cIf] at h1
    obtain ⟨u, h2, h3⟩ := Option.map_eq_some_iff.mp h1
    subst h3
    exact ⟨_, rfl, I.T O h2⟩
  | _ :: _ :: _, h1 => simp [cIf] at h1
theorem snd_P (I : Snd n) (O : CfgOk X fa M cu k c) {o : Option Expr} {t : CE} (h : cP (n + 1) c o = some t) : QP X o (mE M cu t) := by
  cases o with
  | none => simp only [cP] at h; cases h; rfl
  | some e => simp only [cP] at h; exact I.E O h
theorem snd_B (I : Snd n) (O : CfgOk X fa M cu k c) {op : BoolOp} {vs : List Expr} {t : CE} (h : cB (n + 1) c op vs = some t) (pos : Pos) : QE X (.BoolOp op vs pos) (mE M cu t) := by
  match vs, h with
  | [], h => simp [cB] at h
  | [a], h =>
    simp only [cB] at h
    exact qe_one (I.E O h)
  | a :: b :: r, h =>
    simp only [cB] at h
    split at h
    · rename_i h1 h2
      cases op with
      | And => cases h; exact qe_and (tru_ok' O) (I.E O h1) (I.B O h2 pos)
      | Or => cases h; exact qe_or (tru_ok' O) (I.E O h1) (I.B O h2 pos)
    · cases h
theorem snd_Es (I : Snd n) (O : CfgOk X fa M cu k c) {es : List Expr} {ts : CEs} (h : cEs (n + 1) c es = some ts) (hs : es.all noSt = true) : QA X es (mEs M cu ts) ∧ (es = [] → mEs M cu ts = dNil) := by
  cases es with
  | nil => simp only [cEs] at h; cases h; exact ⟨qa_nil, fun _ => rfl⟩
  | cons e es =>
    simp only [cEs] at h
    simp only [List.all_cons, Bool.and_eq_true] at hs
    split at h
    · rename_i h1 h2
      cases h
      exact ⟨qa_cons (I.E O h1) (I.Es O h2 hs.2).1 (star_cons hs.1), fun z => by cases z⟩
    · cases h
theorem is_val {e : Expr} {env : Env} (h : ∀ whole, isTrue e env whole = (do let v ← whole; standAt e.pos; holding [v] (truthy v))) : True := trivial
theorem snd_T (I : Snd n) (O : CfgOk X fa M cu k c) {e : Expr} {t : CT} (h : cT (n + 1) c e = some t) : QT X e (mT M cu t) := by
  unfold cT at h
  split at h
  · obtain ⟨u, h1, h2⟩ := Option.map_eq_some_iff.mp h
    subst h2
    exact qt_not (I.T O h1)
  · exact (I.W O h _).qt
  · split at h
    · rename_i h1 h2 h3
      cases h
      exact qt_ifexp (I.T O h1) (I.T O h2) (I.T O h3)
    · cases h
  · split at h
    · cases h
    · rename_i hm
      split at h
      · rename_i h1 h2
        cases h
        exact qt_cmp (cmp_ok O _) (I.E O h1) (I.E O h2) (by simpa using hm)
      · cases h
  · split at h
    · cases h
    · rename_i hm
      split at h
      · rename_i h1 h2 h3
        cases h
        exact qt_chain (cmp_ok O _) (cmp_ok O _) (I.E O h1) (I.E O h2) (I.E O h3) (by simpa using hm)
      · cases h
  · cases h
  · rename_i e1 n1 n2 n3 n4 n5 n6
    obtain ⟨u, h1, h2⟩ := Option.map_eq_some_iff.mp h
    subst h2
    refine qt_tru (tru_ok' O) (I.E O h1) fun whole => ?_
    cases e with
    | UnaryOp op a p => cases op <;> first | rfl | exact absurd rfl (n1 _ _)
    | BoolOp op a p => exact absurd rfl (n2 _ _ _)
    | IfExp a b d p => exact absurd rfl (n3 _ _ _ _)
    | Compare a b d p => exact absurd rfl (n6 _ _ _ _)
    | _ => rfl
theorem snd_W (I : Snd n) (O : CfgOk X fa M cu k c) {op : BoolOp} {vs : List Expr} {t : CT} (h : cW (n + 1) c op vs = some t) (pos : Pos) : QW X (.BoolOp op vs pos) (mT M cu t) := by
  match vs, h with
  | [], h1 => simp [cW] at h1
  | [a], h1 =>
    simp only [cW] at h1
    have q := I.T O h1
    clear h
    cases op with
    | And => exact qw_and1 q
    | Or => exact qw_or1 q
  | a :: b :: r, h =>
    simp only [cW] at h
    split at h
    · rename_i h1 h2
      cases op with
      | And => cases h; exact qw_and (I.T O h1) (I.W O h2 pos)
      | Or => cases h; exact qw_or (I.T O h1) (I.W O h2 pos)
    · cases h
theorem snd_I (I : Snd n) (O : CfgOk X fa M cu k c) {e : Expr} {t : CI} (h : cI (n + 1) c e = some t) (tg : Expr) (hen : enuB t tg = true) : QI X tg e (mI M cu t) := by
  unfold cI at h
  split at h
  · split at h
    · rename_i hs
      simp only [Bool.and_eq_true, Bool.not_eq_true', beq_iff_eq] at hs
      split at h
      · rename_i hl hg
        obtain ⟨u, h1, h2⟩ := Option.map_eq_some_iff.mp h
        subst h2
        rename_i x p es pos _ _
        obtain ⟨⟨ex, hs1⟩, hne⟩ := hs
        subst ex
        obtain ⟨g1, g2, g3⟩ := glo_of O hg
        cases es with
        | nil => simp at hne
        | cons e es => exact qi_rng g1 g3 (I.Es O h1 hs1).1 hs1
      · cases h
    · split at h
      · rename_i hs
        simp only [Bool.and_eq_true, beq_iff_eq] at hs
        split at h
        · rename_i hl hg
          obtain ⟨u, h1, h2⟩ := Option.map_eq_some_iff.mp h
          subst h2
          rename_i x p es pos _ _ _
          obtain ⟨⟨ex, hs1⟩, hne⟩ := hs
          subst ex
          obtain ⟨g1, g2, g3⟩ := glo_of O hg
          match es, hne with
          | [e], _ =>
            match tg, hen with
            | .Tuple elts kk tpos, _ => exact qi_enu g1 g3 (I.Es O h1 hs1).1 (by simpa using hs1)
        · cases h
      · obtain ⟨u, h1, h2⟩ := Option.map_eq_some_iff.mp h
        subst h2
        exact qi_seqX (I.E O h1)
  · obtain ⟨u, h1, h2⟩ := Option.map_eq_some_iff.mp h
    subst h2
    exact qi_seqX (I.E O h1)
theorem assign_len : ∀ {es : List Expr} {env : Env}, es.all noSt = true → (assignEach es env).length = es.length ∧ (assignEach es env).findIdx? (·.1) = none
  | [], _, _ => ⟨rfl, rfl⟩
  | e :: es, env, h => by
    simp only [List.all_cons, Bool.and_eq_true] at h
    have e0 : assignEach (e :: es) env = (false, assign e env) :: assignEach es env := by
      have h1 := h.1
      cases e <;> first | rfl | (simp [noSt] at h1)
    obtain ⟨a, b⟩ := assign_len (env := env) h.2
    rw [e0]
    refine ⟨by simp [a], ?_⟩
    rw [List.findIdx?_cons]
    simp [b]
theorem assign_cons {e : Expr} {es : List Expr} {env : Env} (h : noSt e = true) : (assignEach (e :: es) env).map (·.2) = assign e env :: (assignEach es env).map (·.2) := by
  cases e <;> first | rfl | (simp [noSt] at h)
theorem snd_G (I : Snd n) (O : CfgOk X fa M cu k c) {e : Expr} {g : CG} (h : cG (n + 1) c e = some g) (vs : List Nat) (hv : ∀ j ∈ slotsG g, j ∈ vs) : QG X vs e (mG M.tb g) := by
  unfold cG at h
  split at h
  · obtain ⟨i, h1, h2⟩ := Option.map_eq_some_iff.mp h
    subst h2
    obtain ⟨a, b, d⟩ := stl_of O h1
    exact qg_name (by rw [O.N]; exact O.nd) a b d (hv i (by simp [slotsG]))
  · split at h
    · rename_i hs
      simp only [Bool.and_eq_true] at hs
      obtain ⟨gs, h1, h2⟩ := Option.map_eq_some_iff.mp h
      subst h2
      obtain ⟨a, b⟩ := assign_len (env := X.env) hs.2
      exact qg_tup (O.calm hs.1) (I.Gs O h1 hs.2 vs (by simpa [slotsG] using hv)) a b
    · cases h
  · split at h
    · cases h
    · rename_i hn
      simp only [Bool.or_eq_true, not_or, Bool.not_eq_true] at hn
      obtain ⟨i, h1, h2⟩ := Option.map_eq_some_iff.mp h
      subst h2
      obtain ⟨a, b⟩ := loc_of O h1
      exact qg_att O.tb a b hn.1 hn.2
  · cases h
theorem snd_Gs (I : Snd n) (O : CfgOk X fa M cu k c) {es : List Expr} {gs : CGs} (h : cGs (n + 1) c es = some gs) (hs : es.all noSt = true) (vs : List Nat) (hv : ∀ j ∈ slotsGs gs, j ∈ vs) : QGs X vs es (mGs M.tb gs) := by
  cases es with
  | nil => simp only [cGs] at h; cases h; exact qgs_nil
  | cons e es =>
    simp only [cGs] at h
    simp only [List.all_cons, Bool.and_eq_true] at hs
    split at h
    · rename_i h1 h2
      cases h
      simp only [slotsGs, List.mem_append] at hv
      exact qgs_cons (I.G O h1 vs fun j hj => hv j (.inl hj)) (I.Gs O h2 hs.2 vs fun j hj => hv j (.inr hj)) (assign_cons hs.1)
    · cases h
end
theorem snd : ∀ n, Snd n
  | 0 => ⟨fun _ _ _ h => by simp [cE] at h, fun _ _ _ _ _ _ _ h => by simp [cComp] at h, fun _ _ _ _ _ _ _ h => by simp [cComp] at h, fun _ _ _ h => by simp [cIf] at h, fun _ _ _ h => by simp [cP] at h, fun _ _ _ _ h => by simp [cB] at h, fun _ _ _ h => by simp [cEs] at h, fun _ _ _ h => by simp [cT] at h,
      fun _ _ _ _ h => by simp [cW] at h, fun _ _ _ h => by simp [cI] at h, fun _ _ _ h => by simp [cG] at h, fun _ _ _ _ _ _ _ _ h => by simp [cDc] at h, fun _ _ _ _ h => by simp [cPs] at h, fun _ _ _ h => by simp [cGs] at h⟩
  | n + 1 =>
    have I := snd n
    ⟨fun O _ _ h => snd_E I O h, fun O _ _ _ _ _ _ h => snd_C1 I O h, fun O _ _ _ _ _ _ h _ _ _ _ _ a b d => snd_C2 I O h a b d, fun O _ _ h => snd_F I O h, fun O _ _ h => snd_P I O h, fun O _ _ _ h => snd_B I O h, fun O _ _ h => snd_Es I O h, fun O _ _ h => snd_T I O h, fun O _ _ _ h => snd_W I O h, fun O _ _ h tg he => snd_I I O h tg he, fun O _ _ h => snd_G I O h, fun O _ _ _ _ _ _ _ h => snd_D1 I O h, fun O _ _ _ h => snd_Ps I O h, fun O _ _ h => snd_Gs I O h⟩
end DL

set_option Elab.async false
set_option linter.all false
set_option maxRecDepth 100000
set_option maxHeartbeats 4000000
namespace DL
open PySem PySem.Spec PyProof.Rows L2

theorem swaps_not {v : Expr} {t : Option Expr} {l : Nat} {env : Env} (h : notComp v = true) : swapsWith v t l env = pure false := by
  cases v <;> first | rfl | (simp [notComp] at h)
theorem swaps_other {v t : Expr} {l : Nat} {env : Env} (h : ∀ x p, t ≠ .Name x p) : swapsWith v (some t) l env = pure false := by
  unfold swapsWith
  cases t with
  | Name x p => exact absurd rfl (h x p)
  | _ => cases v <;> rfl
section
variable {X : Cx} {fa : Key → Addr} {M : Env1} {cu : Option Cur} {k : Nat} {c : Cfg} {n : Nat}
theorem swaps_comp (O : CfgOk X fa M cu k c) {elt : Expr} {gs : List Comprehension} {s : Scope} {p : Pos} {x : Str} {pos : Pos} {l : Nat} : swapsWith (.ListComp elt gs s p) (some (.Name x pos)) l X.env = pure (swB c (.ListComp elt gs s p) x pos) := by
  unfold swapsWith swB
  have hb : X.env.blockKind = .function := by unfold Env.blockKind; rw [O.sc, O.kind]; rfl
  simp only [hb, Expr.pos]
  have hk : (X.env.kindOf x == some .local) = (match c.sc.names.lookup x with | some .local => true | _ => false) := by
    show (X.env.scope.names.lookup x == some .local) = _
    rw [O.sc]
    cases c.sc.names.lookup x with
    | none => rfl
    | some q => cases q <;> rfl
  simp only [hk]
  rfl
theorem cross_ok (O : CfgOk X fa M cu k c) {ts vs : List Expr} {kt kv : Nat} {pt pv : Pos} {r : Option (List Str)} (h : crossB c ts vs = some r) : swappedStores [.Tuple ts kt pt] (.Tuple vs kv pv) X.env = pure r := by
  have hb : (X.env.blockKind != .function) = false := by
    have e : X.env.blockKind = .function := by unfold Env.blockKind; rw [O.sc, O.kind]; rfl
    rw [e]; rfl
  unfold crossB at h
  unfold swappedStores
  simp only [pure_bind, hb, Bool.or_false]
  have hk : ∀ x : Str, X.env.kindOf x = c.sc.names.lookup x := fun x => by
    show X.env.scope.names.lookup x = _
    rw [O.sc]
  simp only [hk]
  split at h
  · rename_i h1
    cases h
    exact if_pos h1
  · rename_i h1
    refine (if_neg h1).trans ?_
    split at h
    · rename_i h2
      cases h
      exact if_pos h2
    · rename_i h2
      refine (if_neg h2).trans ?_
      dsimp only at h ⊢
      split at h
      · rename_i h3
        cases h
        exact if_pos h3
      · rename_i h3
        refine (if_neg h3).trans ?_
        split at h
        · rename_i h4
          cases h
          exact if_pos h4
        · rename_i h4
          refine (if_neg h4).trans ?_
          split at h
          · cases h
          · rename_i h5
            cases h
            exact if_neg h5
theorem cross_not {ts : List Expr} {v : Expr} {kt : Nat} {pt : Pos} {env : Env} (h : ∀ vs kv pv, v ≠ .Tuple vs kv pv) : swappedStores [.Tuple ts kt pt] v env = pure none := by
  cases v with
  | Tuple vs kv pv => exact absurd rfl (h vs kv pv)
  | _ => rfl
theorem cross_sub {o i v : Expr} {p : Pos} {env : Env} : swappedStores [.Subscript o i p] v env = pure none := by
  unfold swappedStores
  cases v <;> rfl
end
section
variable {X : Cx} {fa : Key → Addr} {M : Env1} {cu : Option Cur} {k : Nat} {c : Cfg} {n : Nat}
theorem capNs_ok {ps : List Pattern} : ∀ {ns : List (Str × Pos)}, capNs ps = some ns → ps = caps ns := by
  induction ps with
  | nil => intro ns h; simp only [capNs] at h; cases h; rfl
  | cons p r ih =>
    intro ns h
    unfold capNs at h
    split at h
    · rename_i e; cases e
    · rename_i e
      cases e
      obtain ⟨u, h1, h2⟩ := Option.map_eq_some_iff.mp h
      subst h2
      rw [ih h1]
      rfl
    · cases h
theorem slNs_ok (O : CfgOk X fa M cu k c) (ns : List (Str × Pos)) : ∀ {is : List Nat}, slNs c ns = some is → is.length = ns.length ∧ SlN X is (ns.map (·.1)) := by
  induction ns with
  | nil => intro is h; simp only [slNs] at h; cases h; exact ⟨rfl, trivial⟩
  | cons p r ih =>
    intro is h
    unfold slNs at h
    split at h
    · rename_i h1 h2
      cases h
      obtain ⟨e, q⟩ := ih h2
      refine ⟨by rw [List.length_cons, List.length_cons, e], ?_⟩
      obtain ⟨a, b, d⟩ := stl_of O h1
      exact ⟨⟨a, b, d⟩, q⟩
    · cases h
theorem ptS_ok (O : CfgOk X fa M cu k c) {ps : List Pattern} {pos : Pos} {mp : MPat} (h : cPtS c ps = some mp) : ∃ ns, QPa X (.MatchSequence ps pos) mp ns ∧ SlN X (mpIs mp) ns := by
  have un := O.un
  unfold cPtS at h
  split at h
  · split at h
    · rename_i hc
      simp only [Bool.and_eq_true, ptOk, Option.isNone_iff_eq_none, Bool.not_eq_true'] at hc
      obtain ⟨c1, c2, c3⟩ := hc
      split at h
      · rename_i ns hn
        obtain ⟨is, h1, h2⟩ := Option.map_eq_some_iff.mp h
        subst h2
        have e := capNs_ok hn
        subst e
        obtain ⟨hl, hs⟩ := slNs_ok O ns h1
        refine ⟨ns.map (·.1), qp_seq (O.calm c1) (by omega) hl c2 c3, ?_⟩
        exact hs
      · cases h
    · cases h
  · cases h
theorem pt_ok (O : CfgOk X fa M cu k c) {p : Pattern} {mp : MPat} (h : cPt c p = some mp) : ∃ ns, QPa X p mp ns ∧ SlN X (mpIs mp) ns := by
  have un := O.un
  unfold cPt at h
  split at h
  · cases h; exact ⟨[], qp_any, trivial⟩
  · cases h; exact ⟨[], qp_val (by omega), trivial⟩
  · exact ptS_ok O h
  · cases h
end
/-- in an except suite -/
theorem suite_cfg {X : Cx} {fa : Key → Addr} {M : Env1} {cu : Option Cur} {k : Nat} {c : Cfg} (O : CfgOk X fa M cu k c) {cc : Cur} {pn : List (Addr × Obj)} (hc : CurOk (X.suite cc.1 pn) cc) : CfgOk (X.suite cc.1 pn) fa { M with fi := fun _ => none } (some cc) k c.hot where
  sc := O.sc
  kind := O.kind
  N := O.N
  nd := O.nd
  own := O.own
  gk := fun x g h => by
    have q := O.gk x g h
    cases g <;> exact q
  calm := fun h => by cases h
  cup := fun h => by cases h
  top := fun h => by cases h
  pas := PassesOwn.never
  tb := O.tb
  ops := ⟨O.ops.nf, O.ops.hm, O.ops.fn, O.ops.ne, O.ops.rad⟩
  isi := O.isi
  ex := O.ex
  sx := O.sx
  cap := .inr ⟨fun _ => rfl, rfl⟩
  un := O.un
  gd := O.gd
  sys := O.sys
  cur := fun c2 h => by cases h; exact hc
/-- in a try's body -/
theorem try_cfg {X : Cx} {fa : Key → Addr} {M : Env1} {cu : Option Cur} {k : Nat} {c : Cfg} (O : CfgOk X fa M cu k c) (hc : c.calm = true) {pn : List (Addr × Obj)} {xe : Value → Shared → Prop} (hp : PassesOwn (model X.prog X.w) X.A X.env xe) : CfgOk (X.tr pn xe) fa M cu k c where
  sc := O.sc
  kind := O.kind
  N := O.N
  nd := O.nd
  own := O.own
  gk := fun x g h => by
    have q := O.gk x g h
    cases g <;> exact q
  calm := O.calm
  cup := O.cup
  top := O.top
  pas := hp
  tb := O.tb
  ops := ⟨O.ops.nf, O.ops.hm, O.ops.fn, O.ops.ne, O.ops.rad⟩
  isi := O.isi
  ex := O.ex
  sx := O.sx
  cap := O.cap
  un := O.un
  gd := O.gd
  sys := O.sys
  cur := fun c2 h => by rw [O.cup hc] at h; cases h
end DL

set_option Elab.async false
set_option linter.all false
set_option maxRecDepth 100000
set_option maxHeartbeats 4000000
namespace DL
open PySem PySem.Spec PyProof.Rows L2

structure SndS (n : Nat) : Prop where
  S : ∀ {X : Cx} {fa : Key → Addr} {M : Env1} {cu : Option Cur} {k : Nat} {c : Cfg}, CfgOk X fa M cu k c → ∀ {st t}, cS n c st = some t → QS X st (mS M cu t)
  Y : ∀ {X : Cx} {fa : Key → Addr} {M : Env1} {cu : Option Cur} {k : Nat} {c : Cfg}, CfgOk X fa M cu k c → c.calm = true → c.top = true → ∀ {b hs t}, cTry n c b hs = some t → ∀ {body : List Stmt} {pos : Pos}, (∀ (pn : List (Addr × Obj)) (xe : Value → Shared → Prop), PassesOwn (model X.prog X.w) X.A X.env xe → QSs (X.tr pn xe) body (mSs M cu b)) → QS X (.Try body hs [] [] pos) (mS M cu t)
  Ss : ∀ {X : Cx} {fa : Key → Addr} {M : Env1} {cu : Option Cur} {k : Nat} {c : Cfg}, CfgOk X fa M cu k c → ∀ {st t}, cSs n c st = some t → QSs X st (mSs M cu t)
  Hs : ∀ {X : Cx} {fa : Key → Addr} {M : Env1} {cu : Option Cur} {k : Nat} {c : Cfg}, CfgOk X fa M cu k c → ∀ {hs t}, cHs n c hs = some t → HdsD X hs (mHs M t)
  Cs : ∀ {X : Cx} {fa : Key → Addr} {M : Env1} {cu : Option Cur} {k : Nat} {c : Cfg}, CfgOk X fa M cu k c → ∀ {cs t}, cCs n c cs = some t → QCs X cs (mCs M cu t)
section
variable {X : Cx} {fa : Key → Addr} {M : Env1} {cu : Option Cur} {k : Nat} {c : Cfg} {n : Nat}
theorem inp_ok (O : CfgOk X fa M cu k c) {o : Operator} (h : augUse o = true) : OpD X (inplaceOp o) (inpM o) := by
  cases o with
  | Add => exact opD_inpAdd
  | Sub => exact opD_int (rI_of0 iop_sub) (fun _ _ h => h) fun _ _ _ _ => by simp [DRel]
  | _ => cases h
theorem asgN_ok (O : CfgOk X fa M cu k c) {x : Str} {p pos : Pos} {v : Expr} {t : CS} (h : cAsgN n c x p v = some t) : QS X (.Assign [.Name x p] v pos) (mS M cu t) := by
  have J := snd n
  have hN : X.N.Nodup := by rw [O.N]; exact O.nd
  unfold cAsgN at h
  split at h
  · rename_i h1 h2
    obtain ⟨a, b, d⟩ := stl_of O h1
    split at h
    · rename_i hc
      cases h
      exact qs_set hN a b (J.E O h2) (swaps_not hc) d
    · split at h
      · rename_i elt tg iter ifs scope pos1 _
        have hcomp : ∀ {u}, cE n c (.ListComp elt [⟨tg, iter, ifs, 0⟩] scope pos1) = some u → ∃ m, n = m + 1 ∧ cComp m c elt tg iter ifs scope = some u := fun {u} hu => by
          cases n with
          | zero => simp [cE] at hu
          | succ m => exact ⟨m, rfl, by simpa only [cE] using hu⟩
        split at h
        · rename_i hsw
          split at h
          · rename_i hl
            cases h
            obtain ⟨m, e, hm⟩ := hcomp h2
            have hl' := beq_iff_eq.mp hl
            refine (snd m).C2 O hm hl' ?_ ?_
            · unfold Cfg.stl at h1
              rw [hl'] at h1
              exact h1
            · rw [swaps_comp O, hsw]
          · cases h
        · rename_i hsw
          cases h
          exact qs_set hN a b (J.E O h2) (by rw [swaps_comp O]; simp only [Bool.not_eq_true] at hsw; rw [hsw]) d
      · cases h
  · cases h
theorem sole_not {v t : Expr} {l : Nat} {env : Env} (h : notComp v = true) : swapsWithSole [t] v l env = pure false := swaps_not h
theorem sole_tup {v : Expr} {ts : List Expr} {kt : Nat} {pt : Pos} {l : Nat} {env : Env} : swapsWithSole [.Tuple ts kt pt] v l env = pure false := swaps_other (t := .Tuple ts kt pt) (v := v) (l := l) (env := env) fun x p e => by cases e
theorem asgA_ok (O : CfgOk X fa M cu k c) {o v : Expr} {f : Str} {p pos : Pos} {t : CS} (h : cAsgA n c o f v = some t) : QS X (.Assign [.Attribute o f p] v pos) (mS M cu t) := by
  have J := snd n
  unfold cAsgA at h
  split at h
  · rename_i h1 h2
    cases h
    exact qs_setA O.tb (J.E O h2) (J.E O h1) (swaps_other fun x p e => by cases e)
  · cases h
theorem asgS_ok (O : CfgOk X fa M cu k c) {o i v : Expr} {p pos : Pos} {t : CS} (h : cAsgS n c o i v = some t) : QS X (.Assign [.Subscript o i p] v pos) (mS M cu t) := by
  have J := snd n
  unfold cAsgS at h
  split at h
  · rename_i hs
    simp only [Bool.and_eq_true] at hs
    split at h
    · rename_i h1 h2 h3
      cases h
      refine qs_sub (J.E O h1) (J.E O h2) (J.E O h3) (setD_ok.or setLf_ok) (sole_not hs.1) cross_sub rfl fun v => ?_
      have hi := hs.2
      clear h1 h2 h3 hs
      cases i <;> first | rfl | (simp [notSlice] at hi)
    · cases h
  · cases h
theorem par_ok (O : CfgOk X fa M cu k c) {ts vs : List Expr} {kt kv : Nat} {pt pv pos : Pos} {t : CS} (h : cPar n c ts vs = some t) : QS X (.Assign [.Tuple ts kt pt] (.Tuple vs kv pv) pos) (mS M cu t) := by
  have J := snd n
  have hN : X.N.Nodup := by rw [O.N]; exact O.nd
  unfold cPar at h
  split at h
  · split at h
    · rename_i h1 h2
      split at h
      · rename_i hs
        simp only [Bool.and_eq_true, Bool.not_eq_true', beq_iff_eq] at hs
        obtain ⟨⟨⟨⟨⟨⟨hc, n1⟩, n2⟩, hxy⟩, hcr⟩, l1⟩, l2⟩ := hs
        split at h
        · rename_i i1 i2
          cases h
          have ha := qa_cons (J.E O h1) (qa_cons (J.E O h2) qa_nil (star_cons n2)) (star_cons n1)
          refine qs_par (O.calm hc) hN (by rw [O.N]; exact ixOf_get i1) (by rw [O.N]; exact ixOf_get i2) ?_ (by rw [O.sc]; exact l1) (by rw [O.sc]; exact l2) ha (cross_ok O hcr) (sole_not rfl)
          intro e
          have z1 := ixOf_get i1
          have z2 := ixOf_get i2
          rw [e, z2] at z1
          cases z1
          simp at hxy
        · cases h
      · cases h
    · cases h
  · cases h
theorem asgT_ok (O : CfgOk X fa M cu k c) {ts : List Expr} {kt : Nat} {pt pos : Pos} {v : Expr} {t : CS} (h : cAsgT n c ts kt pt v = some t) : QS X (.Assign [.Tuple ts kt pt] v pos) (mS M cu t) := by
  have J := snd n
  unfold cAsgT at h
  split at h
  · split at h
    · rename_i hx
      split at h
      · rename_i h1 h2
        cases h
        exact qs_asg (vs := slotsG _) (J.E O h1) (J.G O h2 _ fun j hj => hj) (sole_not rfl) (cross_ok O hx) rfl
      · cases h
    · exact par_ok O h
    · cases h
  · rename_i hnt
    split at h
    · rename_i h1 h2
      cases h
      exact qs_asg (vs := slotsG _) (J.E O h1) (J.G O h2 _ fun j hj => hj) (sole_tup (ts := ts)) (cross_not hnt) rfl
    · cases h
theorem asg_ok (O : CfgOk X fa M cu k c) {tg v : Expr} {pos : Pos} {t : CS} (h : cAsg n c tg v = some t) : QS X (.Assign [tg] v pos) (mS M cu t) := by
  unfold cAsg at h
  split at h
  · exact asgN_ok O h
  · exact asgA_ok O h
  · exact asgS_ok O h
  · exact asgT_ok O h
  · cases h
theorem aug_ok (O : CfgOk X fa M cu k c) {tg e : Expr} {op : Operator} {pos : Pos} {t : CS} (h : cAug n c tg op e = some t) : QS X (.AugAssign tg op e pos) (mS M cu t) := by
  have J := snd n
  have hN : X.N.Nodup := by rw [O.N]; exact O.nd
  unfold cAug at h
  split at h
  · split at h
    · rename_i hu
      split at h
      · rename_i h1 h2
        cases h
        obtain ⟨a, b, d⟩ := stl_of O h1
        exact qs_aug hN a b (J.E O h2) (inp_ok O hu) d
      · cases h
    · cases h
  · cases h
theorem raise_ok (O : CfgOk X fa M cu k c) {e : Expr} {pos : Pos} {t : CS} (h : cRaise n c e = some t) : QS X (.Raise (some e) none pos) (mS M cu t) := by
  have J := snd n
  unfold cRaise at h
  split at h
  · split at h
    · rename_i hs
      simp only [Bool.and_eq_true] at hs
      split at h
      · rename_i f a' hg h1
        split at h
        · cases h
        · rename_i hf
          cases h
          obtain ⟨g1, g2, C, g3, g4⟩ := glo_of O hg
          rcases O.cap with ⟨oo, hr⟩ | ⟨_, hh⟩
          · exact qs_raise O.ex (O.calm hs.1) hr (g4 (by simpa using hf)) (qa_cons (J.E O h1) qa_nil (star_cons hs.2)) hs.2 g1 g2
          · rw [hs.1] at hh; cases hh
      · cases h
    · cases h
  · cases h
theorem sndS_S (I : SndS n) (O : CfgOk X fa M cu k c) {st : Stmt} {t : CS} (h : cS (n + 1) c st = some t) : QS X st (mS M cu t) := by
  have J := snd n
  unfold cS at h
  split at h
  · cases h; exact qs_pass
  · cases h; exact qs_break
  · cases h; exact qs_continue
  · split at h
    · rename_i hc
      obtain ⟨u, h1, h2⟩ := Option.map_eq_some_iff.mp h
      subst h2
      exact qs_expr (J.E O h1) (swaps_not hc)
    · cases h
  · obtain ⟨u, h1, h2⟩ := Option.map_eq_some_iff.mp h
    subst h2
    exact qs_ret (J.E O h1)
  · cases h; exact qs_retN
  · split at h
    · rename_i h1 h2 h3
      cases h
      exact qs_if (J.T O h1) (I.Ss O h2) (I.Ss O h3)
    · cases h
  · exact asg_ok O h
  · exact aug_ok O h
  · split at h
    · rename_i hs
      simp only [Bool.and_eq_true] at hs
      split at h
      · rename_i h1 h2 h3
        split at h
        · rename_i hen
          cases h
          exact qs_for (vs := slotsG _) O.pas (O.calm hs.1) (J.I O h1 _ hen) (J.G O h2 _ fun j hj => hj) (I.Ss O h3) (folded_set hs.2)
        · cases h
      · cases h
    · cases h
  · split at h
    · rename_i h1 h2
      cases h
      exact qs_while O.pas (J.T O h1) (I.Ss O h2)
    · cases h
  · exact raise_ok O h
  · split at h
    · rename_i hs
      simp only [Bool.and_eq_true] at hs
      split at h
      · rename_i h1
        exact I.Y O hs.1 hs.2 h fun pn xe hp => I.Ss (try_cfg O hs.1 hp) h1
      · cases h
    · cases h
  · split at h
    · rename_i h1 h2
      cases h
      exact qs_mat (J.E O h1) (I.Cs O h2)
    · cases h
  · cases h
theorem sndS_Cs (I : SndS n) (O : CfgOk X fa M cu k c) {cs : List MatchCase} {t : CCs} (h : cCs (n + 1) c cs = some t) : QCs X cs (mCs M cu t) := by
  have hN : X.N.Nodup := by rw [O.N]; exact O.nd
  unfold cCs at h
  split at h
  · rename_i e; cases e
  · cases h; exact qcs_nil
  · rename_i e9
    cases e9
    split at h
    · rename_i h1 h2 h3
      cases h
      obtain ⟨ns, q1, q2⟩ := pt_ok O h1
      exact qcs_cons hN q1 q2 (I.Ss O h2) (I.Cs O h3)
    · cases h
  · cases h
theorem sndS_Ss (I : SndS n) (O : CfgOk X fa M cu k c) {st : List Stmt} {t : CSs} (h : cSs (n + 1) c st = some t) : QSs X st (mSs M cu t) := by
  cases st with
  | nil => simp only [cSs] at h; cases h; exact qss_nil
  | cons s r =>
    simp only [cSs] at h
    split at h
    · rename_i h1 h2
      cases h
      exact qss_cons (I.S O h1) (I.Ss O h2)
    · cases h
theorem sndS_Y (I : SndS n) (O : CfgOk X fa M cu k c) (hc : c.calm = true) (ht : c.top = true) {b : CSs} {hs : List ExceptHandler} {t : CS} (h : cTry (n + 1) c b hs = some t) {body : List Stmt} {pos : Pos}
    (hb : ∀ (pn : List (Addr × Obj)) (xe : Value → Shared → Prop), PassesOwn (model X.prog X.w) X.A X.env xe → QSs (X.tr pn xe) body (mSs M cu b)) : QS X (.Try body hs [] [] pos) (mS M cu t) := by
  have hN : X.N.Nodup := by rw [O.N]; exact O.nd
  obtain ⟨t1, t2⟩ := O.top ht
  unfold cTry at h
  split at h
  · rename_i e; cases e
  · rename_i e9
    cases e9
    split at h
    · rename_i hg hl hi h2
      cases h
      obtain ⟨g1, g2, C, g3, g4⟩ := glo_of O hg
      exact qs_tryAs O.sx t1 t2 hN (by rw [O.N]; exact ixOf_get hi) (by show X.env.scope.names.lookup _ = _; rw [O.sc]; exact hl) g1 g2 g3 hb fun cc oe pn hcc => I.Ss (suite_cfg O hcc) h2
    · cases h
  · cases h
  · have e9 := Nat.succ.inj (by assumption : n + 1 = Nat.succ _)
    subst e9
    split at h
    · rename_i h2
      cases h
      exact qs_tryMany O.sx t1 t2 hb (I.Hs O h2)
    · cases h
theorem sndS_Hs (I : SndS n) (O : CfgOk X fa M cu k c) {hs : List ExceptHandler} {t : CHs} (h : cHs (n + 1) c hs = some t) : HdsD X hs (mHs M t) := by
  unfold cHs at h
  split at h
  · rename_i e; cases e
  · cases h; exact .nil
  · rename_i e9
    cases e9
    split at h
    · rename_i hg h1 h2
      cases h
      obtain ⟨g1, g2, C, g3, g4⟩ := glo_of O hg
      exact .cons g1 g2 g3 (fun cc oe pn hc => I.Ss (suite_cfg O hc) h1) (I.Hs O h2)
    · cases h
  · cases h
end
theorem sndS : ∀ n, SndS n
  | 0 => ⟨fun _ _ _ h => by simp [cS] at h, fun _ _ _ _ _ _ h => by simp [cTry] at h, fun _ _ _ h => by simp [cSs] at h, fun _ _ _ h => by simp [cHs] at h, fun _ _ _ h => by simp [cCs] at h⟩
  | n + 1 => have I := sndS n; ⟨fun O _ _ h => sndS_S I O h, fun O a b _ _ _ h _ _ z => sndS_Y I O a b h z, fun O _ _ h => sndS_Ss I O h, fun O _ _ h => sndS_Hs I O h, fun O _ _ h => sndS_Cs I O h⟩
end DL

set_option Elab.async false
set_option linter.all false
set_option maxRecDepth 100000
set_option maxHeartbeats 4000000
namespace DL
open PySem PySem.Spec PyProof.Rows L2

/-- a def: parameters and defaults, names, code -/
structure FE where
  fi : FI
  N : List Str
  code : CSs
/-- a program: what its names are, its classes, its defs -/
structure Prg where
  gk : Str → Option GK
  tb : Tb
  tab : TyC → TyC → Option Bool
  et : Str → Option Str
  sx : Str → Str → Option Bool
  fe : Key → Option FE
def Prg.fi (G : Prg) : Key → Option FI := fun key => (G.fe key).map (·.fi)
def Prg.env (G : Prg) (orc : Orc) : Env1 := ⟨G.tb, G.fi, orc, G.tab, G.et, G.sx⟩
/-- a body, run -/
def runB (M : Env1) (f : FE) : DB := fun ds S K E => ds.length = f.fi.ps.length ∧
  mSs M none f.code { nx := fun _ S' => K .non S', rt := K, bk := fun _ _ => False, ct := fun _ _ => False, ex := fun c fs _ S' => E c fs S' } (ds.map some ++ List.replicate (f.N.length - ds.length) none) S
/-- what a def does, n calls deep -/
def mCall (G : Prg) : Nat → Orc
  | 0 => fun _ _ _ _ _ => False
  | n + 1 => fun key ds S K E => ∃ f, G.fe key = some f ∧ runB (G.env (mCall G n)) f ds S K E
/-- what the written part has of a def -/
structure KeyOk (K : PySem.W.Frag) (mg : Str → Option Value) (w : World) (G : Prg) (f : FE) (a : Addr) (fd : FuncData) : Prop where
  ex : ∃ (x qual : Str) (params : Arguments) (body : List Stmt) (scope : Scope) (dvs : List V) (kws : List (Str × V)) (m : Nat), FunD K x qual params body scope dvs kws a fd ∧ FnScope f.N f.fi.ps scope ∧ cSs m ⟨f.N, scope, fun _ => true, G.gk, true, true⟩ body = some f.code
  bd : ∀ j, j ≤ f.fi.dfl.length → ∃ (dvs : List V) (ds : List Value), Binds K fd f.fi.ps ds ∧ Vals dvs ds ∧ ∀ H, DRels ⟨K, mg, w⟩ H (f.fi.dfl.drop (f.fi.dfl.length - j)) dvs
/-- what the written part has of the program -/
structure PrgOk (P : Program) (w : World) (K : PySem.W.Frag) (mg : Str → Option Value) (G : Prg) (fa : Key → Addr) : Prop where
  fe : ∀ key f, G.fe key = some f → ∃ fd, KeyOk K mg w G f (fa key) fd
  gk : ∀ X : Cx, X.prog = P → X.w = w → X.K = K → X.mg = mg → ∀ M : Env1, M.et = G.et → ∀ x g, G.gk x = some g → GkOk X fa M x g
  sys : SysOk K
  tb : ∀ X : Cx, X.prog = P → X.w = w → X.K = K → X.mg = mg → TbOk X fa G.tb ∧ OpsOk X fa G.tb ∧ IsiOk X G.tab ∧ ExOk X G.et ∧ SubOk X G.sx
section
variable {P : Program} {w : World} {K : PySem.W.Frag} {mg : Str → Option Value} {G : Prg} {fa : Key → Addr} {base : Heap}
def start' (n : Nat) (vs : List V) : VSt := vs.map some ++ List.replicate (n - vs.length) none
theorem srel_start {g : GP} {H : Hp} {ds : List D} {vs : List V} (n : Nat) (r : DRels g H ds vs) : SRel g H (ds.map some ++ List.replicate (n - ds.length) none) (start' n vs) := by
  have l := r.length
  refine ⟨by unfold start'; simp [l], fun i d e => ?_⟩
  by_cases hi : i < ds.length
  · rw [List.getElem?_append_left (by simpa using hi), List.getElem?_map] at e
    obtain ⟨d', h1, h2⟩ := Option.map_eq_some_iff.mp e
    cases h2
    obtain ⟨v, hv, dv⟩ := r.get h1
    refine ⟨v, ?_, dv⟩
    unfold start'
    rw [List.getElem?_append_left (by simpa [← l] using hi), List.getElem?_map, hv]
    rfl
  · rw [List.getElem?_append_right (by simpa using hi), List.getElem?_replicate] at e
    split at e <;> cases e
/-- the promise of each def, n calls deep -/
theorem fn_ok (W : PrgOk P w K mg G fa) : ∀ (n : Nat) (key : Key) (f : FE), G.fe key = some f → ∀ fd, KeyOk K mg w G f (fa key) fd → FnG P w K mg base (L2.CX P w) (4 * n) (fa key) fd f.fi.ps (spD ⟨K, mg, w⟩ f.fi.ps.length (mCall G n key))
  | 0, key, f, hf, fd, KO => ⟨fun vs H Q E h => h.1, fun A outer s H args us vs Q E hr e0 hb r hsp => by
      obtain ⟨_, ds, S, Kt, Ex, _, _, h, _⟩ := hsp
      exact h.elim⟩
  | n + 1, key, f, hf, fd, KO => by
    obtain ⟨x, qual, params, body, scope, dvs, kws, m, FD, Sc, hcode⟩ := KO.ex
    refine fnG_of (N := f.N) (k := 4 * n + 3) FD Sc (fun vs H Q E h => h.1) fun cdv A outer s s1 H vs Q E hr I hsp => ?_
    obtain ⟨hl, ds, S, Kt, Ex, dr, m0, hq, hn, hx⟩ := hsp
    obtain ⟨f', hf', hlen, hq⟩ := hq
    rw [hf] at hf'
    cases hf'
    have ORC : OrcOk (cxOf (L2.CX P w) P w K mg base f.N qual scope (fa key) cdv A outer s H E) (4 * n) fa G.fi (mCall G n) := fun key' p hp => by
      obtain ⟨f', h1, h2⟩ := Option.map_eq_some_iff.mp hp
      subst h2
      obtain ⟨fd', KO'⟩ := W.fe key' f' h1
      exact ⟨fd', fn_ok W n key' f' h1 fd' KO', KO'.bd⟩
    obtain ⟨w1, w2, w3, w4, w5⟩ := W.tb (cxOf (L2.CX P w) P w K mg base f.N qual scope (fa key) cdv A outer s H E) rfl rfl rfl rfl
    have O : CfgOk (cxOf (L2.CX P w) P w K mg base f.N qual scope (fa key) cdv A outer s H E) fa (G.env (mCall G n)) none (4 * n) ⟨f.N, scope, fun _ => true, G.gk, true, true⟩ := {
      sc := rfl, kind := Sc.kind, N := rfl, nd := Sc.nd, own := rfl, gk := W.gk _ rfl rfl rfl rfl _ rfl, calm := fun _ => rfl, cup := fun _ => rfl, top := fun _ => ⟨rfl, rfl⟩, pas := passes_of rfl,
      tb := w1, ops := w2, isi := w3, ex := w4, sx := w5, cap := .inl ⟨ORC, hr⟩, un := by have := hr.un; show (A.deeper _).units + 70 < _; omega, gd := hr.gd, sys := W.sys, cur := fun _ h => by cases h }
    have Q1 := (sndS m).Ss O hcode
    have tk : Takes (cxOf (L2.CX P w) P w K mg base f.N qual scope (fa key) cdv A outer s H E) (lX (cxOf (L2.CX P w) P w K mg base f.N qual scope (fa key) cdv A outer s H E) H fun c fs _ S' => Ex c fs S') :=
      (takes_of (E := E) rfl rfl rfl rfl).imp fun cls d σ H' ⟨c, C, fs, σD, S', e1, e2, e3, e4, e5, e6, e7⟩ => by subst e1; exact hx c C fs d H' S' e2 e3 e5 e6 e7
    have hst : start f.N vs = start' f.N.length vs := rfl
    refine thn (Q1 [] s1 (start f.N vs) H _ S _ tk ⟨I, by rw [hst]; exact srel_start _ dr, m0⟩ hq) fun fl s2 z => ?_
    cases fl with
    | ret u => obtain ⟨v, σ', H', d, S', I', r', x', dr', m', k'⟩ := z; exact ⟨v, σ', H', I', r', hn v H' d S' x' dr' m' k'⟩
    | next => obtain ⟨σ', H', σD', S', T', x', k'⟩ := z; exact ⟨σ', H', T'.I, hn .non H' .non S' x' (by simp [DRel]) T'.m k'⟩
    | brk => obtain ⟨σ', H', σD', S', T', x', k'⟩ := z; exact k'.elim
    | cont => obtain ⟨σ', H', σD', S', T', x', k'⟩ := z; exact k'.elim
end
end DL

set_option Elab.async false
set_option linter.all false
set_option maxRecDepth 100000
set_option maxHeartbeats 4000000
namespace DL
open PySem PySem.Spec PyProof.Rows L2

/-- the wished end of the law's call -/
abbrev LawEnd (s : Shared) (r : Result) (s' : Shared) : Prop := r = .ok (.ret (.bool true)) ∧ OldK s.heap s'.heap ∧ s'.os = s.os ∧ AllBare s'.gens
section
variable {P : Program} {w : World} {K : PySem.W.Frag} {mg mb : Str → Option Value} {k : Nat} {fa a : Addr} {fd : FuncData} {x : Str} {cal : DB} {s : Shared} {vs : List Value} {ns : List Int}
/-- from an abstract heap in which the script alone may stand -/
theorem law_core (KX : K.In s.heap) (hns : s.heap.Ns mainGlobals mg) (hb : s.heap.Ns builtinsNs mb) (hbb : ∀ x : Str, x ≠ "__name__" → mb x = bootBuiltins x) (hlim : s.heap.NoLimit) (hg : s.gens = #[])
    (ha : s.heap.get? a = some { cls := .type "list", data := .seq vs.toArray }) (hr : RoomG k callerA)
    (F : ∀ base : Heap, FnG P w K mg base (L2.CX P w) k fa fd [x] (spD ⟨K, mg, w⟩ 1 cal)) (hbind : ∀ (s : Shared) (u : Value), BindsTo s fd ⟨[u], []⟩ [(x, u)])
    (hcal : cal [.rol (ns.map D.int)] (fun _ => none) (fun d _ => d = .bl true) (fun _ _ _ => False))
    (H : Hp) (hO : Only H) (hS : SqR K H a (ns.map V.int)) (hok : HOk P w H s.heap) (hA : ∀ b, H b ≠ none → b = a) (hK : H a ≠ none → K.lookup a = none) :
    codeAny (model P w) callerA (.call (.ref fa) ⟨[.ref a], []⟩) (LawEnd s) s := by
  have seen : ∀ {b : Addr} {o : Obj}, s.heap.get? b = some o → H b = none → (hidT s.heap H).get? b = some o := fun e n => hidT_get e n
  have dictless : ∀ {b : Addr} {o : Obj} {es : Array DictEntry} {ep : Nat}, s.heap.get? b = some o → o.data = .dict es ep → H b = none := by
    intro b o es ep e d
    by_cases q : H b = none
    · exact q
    · rw [hA b q, ha] at e
      cases e
      cases d
  have names : ∀ {b : Addr} {m : Str → Option Value}, s.heap.Ns b m → (hidT s.heap H).Ns b m := by
    rintro b m ⟨o, es, ep, e, d, r⟩
    exact ⟨o, es, ep, seen e (dictless e d), d, r⟩
  have kIn : K.In (hidT s.heap H) := by
    intro b o e
    refine seen (KX b o e) (Classical.byContradiction fun q => ?_)
    have eb := hA b q
    subst eb
    rw [hK q] at e
    cases e
  have M : Mod K mg (hidT s.heap H) := ⟨kIn, names hns, ⟨mb, names hb, hbb⟩, let ⟨mc, h1, h2⟩ := hlim; ⟨mc, names h1, h2⟩⟩
  have e0 : Env0 P w K mg (hidT s.heap H) callerA [] s H :=
    { frames := rfl, mod := M, bs := fun b o e => of_hidT e, bsz := Nat.le_of_eq (hidT_size _ _), funs := trivial, frf := fun b z => absurd (show b ∈ ([] : List Addr) from z) List.not_mem_nil, hok := hok, bare := .of_eq hg }
  have hdr : DRels ⟨K, mg, w⟩ H [D.rol (ns.map D.int)] [V.ref a] := by
    refine .one ?_
    unfold DRel
    refine ⟨a, _, rfl, hS, ?_⟩
    clear hS hcal
    induction ns with
    | nil => exact .nil
    | cons n ns ih => exact .cons (by simp [DRel]) ih
  have hsp : spD ⟨K, mg, w⟩ 1 cal [.ref a] H (fun v _ => v = .bl true) (fun _ _ _ => False) :=
    ⟨rfl, _, fun _ => none, fun d _ => d = .bl true, fun _ _ _ => False, hdr, (fun _ _ e => nomatch e), hcal, (fun v H' d S' _ dr _ e => by subst e; simpa [DRel] using dr), fun _ _ _ _ _ _ _ _ _ _ z => z⟩
  refine codeAny_mono ((F _).run callerA [] s H ⟨[.ref a], []⟩ [.ref a] [.ref a] _ _ hr e0 (hbind s (.ref a)) (.cons rfl .nil) hsp) fun r s' h => ?_
  match r, h with
  | .error e, h =>
    obtain ⟨_, _, _, _, _, _, _, _, _, _, _, _, z⟩ := h
    exact z.elim
  | .ok .next, h => exact False.elim h
  | .ok .brk, h => exact False.elim h
  | .ok .cont, h => exact False.elim h
  | .ok (.ret u), h =>
    obtain ⟨v, H', os, bare, un, hok2, rv, q⟩ := h
    have q : v = .bl true := q
    subst q
    cases (show u = Value.bool true from rv)
    refine ⟨rfl, OldK.of_keep fun b o e => ?_, os, bare⟩
    rcases hO b with z | ⟨ob, xs, z⟩
    · exact un.keep b o e z (fun z => absurd (show b ∈ ([] : List Addr) from z) List.not_mem_nil) List.not_mem_nil
    · obtain ⟨g1, _⟩ := hok b _ z
      obtain ⟨g2, _⟩ := hok2 b _ (un.frzs b ob _ z)
      rw [e] at g1
      cases g1
      exact g2
theorem law_end (KX : K.In s.heap) (hns : s.heap.Ns mainGlobals mg) (hb : s.heap.Ns builtinsNs mb) (hbb : ∀ x : Str, x ≠ "__name__" → mb x = bootBuiltins x) (hlim : s.heap.NoLimit) (hg : s.gens = #[])
    (ha : s.heap.get? a = some { cls := .type "list", data := .seq vs.toArray }) (hi : IntsAre vs ns) (hl : ns.length ≤ sizeLine) (hr : RoomG k callerA)
    (F : ∀ base : Heap, FnG P w K mg base (L2.CX P w) k fa fd [x] (spD ⟨K, mg, w⟩ 1 cal)) (hbind : ∀ (s : Shared) (u : Value), BindsTo s fd ⟨[u], []⟩ [(x, u)])
    (hcal : cal [.rol (ns.map D.int)] (fun _ => none) (fun d _ => d = .bl true) (fun _ _ _ => False)) : codeAny (model P w) callerA (.call (.ref fa) ⟨[.ref a], []⟩) (LawEnd s) s := by
  have rv := vals_ints hi
  have lv := hi.length
  have go := law_core (P := P) (w := w) (K := K) (mb := mb) (k := k) (fa := fa) (fd := fd) (x := x) KX hns hb hbb hlim hg ha hr F hbind hcal
  by_cases hk : K.lookup a = none
  · refine go (upd (fun _ => none) a (.frz { cls := .type "list", data := .seq vs.toArray } (.lst (ns.map V.int)))) (fun b => ?_) (.inl ⟨_, upd_same⟩) (fun b u z => ?_) (fun b z => ?_) fun _ => hk
    · by_cases h : b = a
      · exact .inr ⟨_, _, by rw [h, upd_same]⟩
      · exact .inl (by rw [upd_ne h])
    · by_cases h : b = a
      · subst h
        rw [upd_same] at z
        cases z
        exact ⟨ha, by rw [List.length_map]; exact hl, vs, _, rv, ha⟩
      · rw [upd_ne h] at z
        cases z
    · exact Classical.byContradiction fun h => z (by rw [upd_ne h])
  · obtain ⟨o, ho⟩ := Option.ne_none_iff_exists'.mp hk
    have e := KX a o ho
    rw [ha] at e
    cases e
    exact go (fun _ => none) (fun _ => .inl rfl) (.inr ⟨_, vs.toArray, _, ho, rfl, rfl, rfl, by rw [List.size_toArray, lv]; exact hl, by simpa using rv⟩) (fun b u z => by cases z) (fun b z => absurd rfl z) fun z => absurd rfl z
end
/-- the law: F gives the written part, its facts, the answer -/
theorem walk_G {l : PySem.W.OpenLaw} {n m : Nat} {q : Program} {loose : List Str} {XP : (Str → Option Value) → Heap → Prop} {YP : World → Heap → Prop} {d : DefRec} {x : Str} {G : Prg} {fL : FE}
    (hn : l.most = some n) (hn2 : n ≤ sizeLine) (hdf : d.params.defaults = []) (hr : RoomG (4 * m) callerA) (hL : G.fe (d.name, none) = some fL) (hps : fL.fi.ps = [x])
    (F : ∀ (w : World) (mg : Str → Option Value) (fa : Addr) (h : Heap), YP w h → h.Ns mainGlobals mg → mg d.name = some (.ref fa) →
      ∃ (K : PySem.W.Frag) (fo : Key → Addr) (fd : FuncData), K.In h ∧ fo (d.name, none) = fa ∧ PrgOk l.prog w K mg G fo ∧ KeyOk K mg w G fL fa fd ∧ ∀ (s : Shared) (u : Value), BindsTo s fd ⟨[u], []⟩ [(x, u)])
    (A : ∀ ns : List Int, ns.length ≤ n → (∀ k ∈ ns, Builtin.Int.intBits k ≤ 1048576) → mCall G m (d.name, none) [.rol (ns.map D.int)] (fun _ => none) (fun d _ => d = .bl true) (fun _ _ _ => False)) :
    PySem.W.WalkO q loose XP YP l.row.toRowW d [] (fun f vs => PySem.call f vs) := by
  refine Att.attach_callB hn hdf fun w s₀ s₁ mg mb fa o pm cd doc a vs ns G' Y ho hd hcd hmg hobj hints hlen hbits hg => ?_
  obtain ⟨K, fo, fd, KX, e, W, KO, hb⟩ := F w mg fa _ Y G'.T.g hmg
  subst e
  have FN : ∀ base : Heap, FnG l.prog w K mg base (L2.CX l.prog w) (4 * m) (fo (d.name, none)) fd [x] (spD ⟨K, mg, w⟩ 1 (mCall G m (d.name, none))) := fun base => by
    have q := fn_ok (base := base) W m (d.name, none) fL hL fd KO
    rw [hps] at q
    exact q
  exact law_end KX G'.T.g G'.T.b G'.T.builtins G'.T.nolimit hg hobj hints (Nat.le_trans hlen hn2) hr FN hb (A ns hlen hbits)
end DL

set_option Elab.async false
set_option linter.all false
set_option maxRecDepth 100000
set_option maxHeartbeats 4000000
namespace DL
open PySem PySem.Spec PyProof.Rows L2

def eqOO (a b : Option (Option Value)) : Bool := decide (a = b)
/-- a def's place: a global's, a method's, a property's getter's -/
def foK (K : PySem.W.Frag) (key : Key) : Addr := match key.2 with
  | none => He.ga K key.1
  | some m => match PySem.W.recIn K (He.ma K (He.ga K key.1) m) "property" with
    | some (.ref g :: _) => g
    | _ => He.ma K (He.ga K key.1) m
def fnA (K : PySem.W.Frag) (a : Addr) : He.FnW := match K.lookup a with
  | some ⟨_, _, .func fd, _⟩ => some (fd.name, fd.qualname, fd.params, fd.body, fd.scope, fd.globals, fd.closure, fd.builtins)
  | _ => none
def fnB (K : PySem.W.Frag) (a : Addr) (d : He.DefD) : Bool := PySem.W.keepIn K (.ref a) && (match K.lookup a with
  | some ⟨_, _, .func fd, _⟩ => PySem.W.codeIn K fd.code d.qual && (He.dflB K fd.defaults (d.dvs K) && He.kwdB K fd.kwdefaults (d.kws K))
  | _ => false)
section
variable {K : PySem.W.Frag} {h : Heap} {mg : Str → Option Value}
theorem ands {a b : Bool} (h : (a && b) = true) : a = true ∧ b = true := by simpa using h
theorem funA {a : Addr} {d : He.DefD} (e : fnA K a = d.val) (c : fnB K a d = true) : ∃ fd, FunD K d.name d.qual d.params d.body d.scope (d.dvs K) (d.kws K) a fd := by
  obtain ⟨kp, c2⟩ := ands c
  unfold fnA at e
  cases q : K.lookup a with
  | none => rw [q] at c2; cases c2
  | some o =>
    obtain ⟨oc, od, dt, osl⟩ := o
    rw [q] at c2 e
    cases dt with
    | func fd =>
      obtain ⟨n1, n2, n3, n4, n5, n6, n7, n8, n9, n10, n11, n12, n13, n14, n15⟩ := fd
      have e2 : (some (n1, n2, n3, n4, n5, n6, n7, n15) : He.FnW) = some (d.name, d.qual, d.params, .stmts d.body, d.scope, mainGlobals, [], builtinsNs) := e
      injection e2 with e2
      simp only [Prod.mk.injEq] at e2
      obtain ⟨rfl, rfl, rfl, rfl, rfl, rfl, rfl, rfl⟩ := e2
      obtain ⟨k1, k2⟩ := ands (show (PySem.W.codeIn K _ d.qual && _) = true from c2)
      obtain ⟨k3, k4⟩ := ands k2
      exact ⟨_, ⟨oc, od, n8, n9, n10, n11, n12, n13, n14, osl, rfl, q, k1, He.dflB_ok k3, He.kwdB_ok k4⟩, kp⟩
    | _ => cases c2
def slotB (K : PySem.W.Frag) (C : Addr) (f : Str) (i : Nat) : Bool := let p := He.ma K C f
  eqOO (PySem.W.findIn K (.ref C) f) (some (some (.ref p))) && (eqOO (PySem.W.specialIn K (.ref p) "__get__") (some (some (.builtin "member_descriptor.__get__"))) && (decide (PySem.W.takesIn K (.ref p) = some true) &&
    (decide (PySem.W.typeIn K (.ref p) = some (.type "member_descriptor")) && (decide (PySem.W.slotIn K p C = some i) && decide (i < 1000)))))
theorem slotB_ok {C : Addr} {f : Str} {i : Nat} (h : slotB K C f i = true) : ∃ p, SlX.Slot1 K C f p i := by
  obtain ⟨h1, h⟩ := ands h
  obtain ⟨h2, h⟩ := ands h
  obtain ⟨h3, h⟩ := ands h
  obtain ⟨h4, h⟩ := ands h
  obtain ⟨h5, h6⟩ := ands h
  exact ⟨_, of_decide_eq_true h1, of_decide_eq_true h2, of_decide_eq_true h3, of_decide_eq_true h4, of_decide_eq_true h5, of_decide_eq_true h6⟩
def propB (K : PySem.W.Frag) (C : Addr) (f : Str) : Bool := let p := He.ma K C f
  eqOO (PySem.W.findIn K (.ref C) f) (some (some (.ref p))) && (eqOO (PySem.W.specialIn K (.ref p) "__get__") (some (some (.builtin "property.__get__"))) && (decide (PySem.W.takesIn K (.ref p) = some true) && (match PySem.W.recIn K p "property" with
    | some (.ref _ :: _) => true
    | _ => false)))
theorem propB_ok {c f : Str} (h : propB K (He.ga K c) f = true) : ∃ p, PropOf K (He.ga K c) f p (foK K (c, some f)) := by
  obtain ⟨h1, h⟩ := ands h
  obtain ⟨h2, h⟩ := ands h
  obtain ⟨h3, h4⟩ := ands h
  refine ⟨_, of_decide_eq_true h1, of_decide_eq_true h2, of_decide_eq_true h3, ?_⟩
  unfold foK
  dsimp only
  cases e : PySem.W.recIn K (He.ma K (He.ga K c) f) "property" with
  | none => rw [e] at h4; cases h4
  | some l =>
    rw [e] at h4
    cases l with
    | nil => cases h4
    | cons v r =>
      cases v with
      | ref g => exact ⟨r, rfl⟩
      | _ => cases h4
def methB (K : PySem.W.Frag) (c m : Str) : Bool := eqOO (PySem.W.findIn K (.ref (He.ga K c)) m) (some (some (.ref (foK K (c, some m))))) && (PySem.W.isFn K (.ref (foK K (c, some m))) && (PySem.W.keepIn K (.ref (foK K (c, some m))) && PySem.W.fnIn K (foK K (c, some m))))
theorem methB_ok {c m : Str} (h : methB K c m = true) : Meth K (He.ga K c) m (foK K (c, some m)) ∧ PySem.W.fnIn K (foK K (c, some m)) = true := by
  obtain ⟨h1, h⟩ := ands h
  obtain ⟨h2, h⟩ := ands h
  obtain ⟨h3, h4⟩ := ands h
  exact ⟨⟨of_decide_eq_true h1, h2, h3⟩, h4⟩
def slotsB (K : PySem.W.Frag) (C : Addr) : Nat → List Str → Bool
  | _, [] => true
  | i, f :: r => slotB K C f i && slotsB K C (i + 1) r
theorem slotsB_ok {C : Addr} : ∀ {l : List Str} {j : Nat}, slotsB K C j l = true → ∀ (i : Nat) f, l[i]? = some f → ∃ p, SlX.Slot1 K C f p (j + i)
  | [], _, _, i, f, e => by simp at e
  | g :: r, j, h, 0, f, e => by
    simp at e; subst e
    exact slotB_ok (ands h).1
  | g :: r, j, h, i + 1, f, e => by
    obtain ⟨p, q⟩ := slotsB_ok (ands h).2 i f (by simpa using e)
    exact ⟨p, by rw [show j + (i + 1) = j + 1 + i by omega]; exact q⟩
def clsB (K : PySem.W.Frag) (c : Str) (ce : ClsE) : Bool := let C := He.ga K c
  eqOO (PySem.W.nsIn K mainGlobals c) (some (some (.ref C))) && (PySem.W.plainGet K C Str.empty && (PySem.W.isClsIn K C && (PySem.W.plainOver K C && (eqOO (PySem.W.findIn K (.ref C) "__setattr__") (some (some (.builtin "object.__setattr__"))) &&
  (eqOO (PySem.W.findIn K (.ref C) "__class__") (some (some (.builtin "object.__class__"))) && (eqOO (PySem.W.specialIn K (.builtin "object.__class__") "__get__") (some (some (.builtin "getset_descriptor.__get__"))) && (decide (PySem.W.takesIn K (.builtin "object.__class__") = some true) &&
  (decide (PySem.W.mroIn K C (.type "object") = some true) && ((ce.slo || (PySem.W.hasDictIn K C && ce.fields.all fun f => eqOO (PySem.W.findIn K (.ref C) f) (some none))) && ((!ce.slo || slotsB K C 0 ce.fields) && (ce.props.all (propB K C) &&
  (ce.meths.all (methB K c) && (PySem.W.makesIn K C && (methB K c "__init__" && (PySem.W.keepIn K (.ref C) && headMe K C)))))))))))))))
theorem clsB_ok (X : K.In h) (G : h.Ns mainGlobals mg) {c : Str} {ce : ClsE} (hb : clsB K c ce = true) : mg c = some (.ref (He.ga K c)) ∧ ClsOk K (foK K) c ce (He.ga K c) ∧ headMe K (He.ga K c) = true ∧ ∀ m ∈ ce.meths, PySem.W.fnIn K (foK K (c, some m)) = true := by
  obtain ⟨h1, hb⟩ := ands hb
  obtain ⟨h2, hb⟩ := ands hb
  obtain ⟨h3, hb⟩ := ands hb
  obtain ⟨h4, hb⟩ := ands hb
  obtain ⟨h5, hb⟩ := ands hb
  obtain ⟨h6, hb⟩ := ands hb
  obtain ⟨h7, hb⟩ := ands hb
  obtain ⟨h8, hb⟩ := ands hb
  obtain ⟨h9, hb⟩ := ands hb
  obtain ⟨h10, hb⟩ := ands hb
  obtain ⟨h11, hb⟩ := ands hb
  obtain ⟨h12, hb⟩ := ands hb
  obtain ⟨h13, hb⟩ := ands hb
  obtain ⟨h14, hb⟩ := ands hb
  obtain ⟨h15, hb⟩ := ands hb
  obtain ⟨h16, h17⟩ := ands hb
  obtain ⟨mi, _⟩ := methB_ok h15
  refine ⟨PySem.W.mg_of X G (of_decide_eq_true h1), ⟨⟨h2, h3, h4, of_decide_eq_true h5⟩, ⟨of_decide_eq_true h6, of_decide_eq_true h7, of_decide_eq_true h8, of_decide_eq_true h9⟩, fun hs => ?_, fun hs i f e => ?_, fun f hf => ?_, fun m hm => (methB_ok (List.all_eq_true.mp h13 m hm)).1, ⟨h14, mi.at_, mi.fn, h16⟩⟩, h17, fun m hm => (methB_ok (List.all_eq_true.mp h13 m hm)).2⟩
  · rw [hs] at h10
    obtain ⟨g1, g2⟩ := ands (show (PySem.W.hasDictIn K (He.ga K c) && _) = true from h10)
    exact ⟨⟨h2, g1, h4, of_decide_eq_true h5⟩, fun f hf => show PySem.W.findIn K (.ref (He.ga K c)) f = some none from of_decide_eq_true (List.all_eq_true.mp g2 f hf)⟩
  · rw [hs] at h11
    have q := slotsB_ok (show slotsB K (He.ga K c) 0 ce.fields = true from h11) i f e
    simpa using q
  · exact propB_ok (List.all_eq_true.mp h12 f hf)
end
end DL

set_option Elab.async false
set_option linter.all false
set_option maxRecDepth 100000
set_option maxHeartbeats 4000000
namespace DL
open PySem PySem.Spec PyProof.Rows L2

/-- a function's own part, with the names of its closure -/
abbrev FnW2 : Type := Option (Str × Str × Arguments × FuncBody × Scope × Addr × List Str × Addr)
def fnA2 (K : PySem.W.Frag) (a : Addr) : FnW2 := match K.lookup a with
  | some ⟨_, _, .func fd, _⟩ => some (fd.name, fd.qualname, fd.params, fd.body, fd.scope, fd.globals, fd.closure.map (·.1), fd.builtins)
  | _ => none
/-- an own error's text: its field, its message, the places -/
structure ExD where
  cn : Str
  f : Str
  qual : Str
  msg : Str
  n : Nat
  a : List Pos
/-- the i-th place -/
def ExD.p (e : ExD) (i : Nat) : Pos := e.a.getD i default
def ExD.val (e : ExD) : FnW2 := some ("__init__", e.qual, PySem.ExW.iA e.f (e.p 0) (e.p 1), .stmts (PySem.ExW.iB e.f e.msg e.n (e.p 2) (e.p 3) (e.p 4) (e.p 5) (e.p 6) (e.p 7) (e.p 8) (e.p 9) (e.p 10) (e.p 11)), PySem.ExW.iS e.f, mainGlobals, ["__class__"], builtinsNs)
def exClB (K : PySem.W.Frag) (C : Addr) : Bool := match K.lookup C with
  | some ⟨.type t, _, .cls cd, sl⟩ => decide (t = "type") && (match cd.mro, sl.toList with
    | .ref C' :: bm, [_, _, _, _, some (.builtin n), _] => decide (C' = C) && (decide (n = "ValueError.__new__") && (!cd.hasDel && (cd.hasDict && PySem.HandSPX.refsVE bm)))
    | _, _ => false)
  | _ => false
theorem exClB_ok {K : PySem.W.Frag} {C : Addr} (h : exClB K C = true) : ∃ nm q N bs bm sn sub ab col dd k0 k1 k2 k3 k5, K.lookup C = some (excClassObj nm q C N bs bm true sn sub ab col dd k0 k1 k2 k3 k5 "ValueError.__new__") ∧ PySem.HandSPX.refsVE bm = true := by
  unfold exClB at h
  split at h
  · rename_i t dd cd sl e
    obtain ⟨h0, h⟩ := ands h
    split at h
    · rename_i C' bm k0 k1 k2 k3 n k5 hm hs
      obtain ⟨h1, h⟩ := ands h
      obtain ⟨h2, h⟩ := ands h
      obtain ⟨h3, h⟩ := ands h
      obtain ⟨h4, h5⟩ := ands h
      have h0 := of_decide_eq_true h0
      have h1 := of_decide_eq_true h1
      have h2 := of_decide_eq_true h2
      have es : sl = #[k0, k1, k2, k3, some (.builtin n), k5] := by
        apply Array.ext'
        simpa using hs
      obtain ⟨nm, bs, mro, ns, qn, hd, sn, sub, ab, col, hdel⟩ := cd
      simp only at hm h3 h4
      subst h0 h1 h2 es hm
      simp at h3
      subst h3 h4
      exact ⟨_, _, _, _, _, _, _, _, _, _, _, _, _, _, _, e, h5⟩
    · cases h
  · cases h
def clo1 : List (Str × Addr) → Option (Str × Addr)
  | [p] => some p
  | _ => none
theorem clo1_ok {l : List (Str × Addr)} {p : Str × Addr} (h : clo1 l = some p) : l = [p] := by
  match l, h with
  | [q], h => cases h; rfl
  | [], h => cases h
  | _ :: _ :: _, h => cases h
def refOf : Value → Option Addr
  | .ref a => some a
  | _ => none
theorem refOf_ok {v : Value} {a : Addr} (h : refOf v = some a) : v = .ref a := by
  cases v <;> first | (cases h; rfl) | (simp [refOf] at h)
def noneV : Value → Bool
  | .none => true
  | _ => false
theorem noneV_ok {v : Value} (h : noneV v = true) : v = .none := by
  cases v <;> first | rfl | (simp [noneV] at h)
def strOf2 (vs : Array Value) : Option Str := match vs[2]? with
  | some (Value.str file _) => some file
  | _ => none
theorem strOf2_ok {vs : Array Value} {f : Str} (h : strOf2 vs = some f) : ∃ t, vs[2]? = some (.str f t) := by
  unfold strOf2 at h
  split at h
  · rename_i t e
    cases h
    exact ⟨t, e⟩
  · cases h
def fieldsAt (K : PySem.W.Frag) (a : Addr) : Option Str := match K.lookup a with
  | some ⟨_, _, .fields vs, _⟩ => strOf2 vs
  | _ => none
theorem fieldsAt_ok {K : PySem.W.Frag} {a : Addr} {f : Str} (h : fieldsAt K a = some f) : ∃ c d vs sl t, K.lookup a = some ⟨c, d, .fields vs, sl⟩ ∧ vs[2]? = some (.str f t) := by
  unfold fieldsAt at h
  split at h
  · rename_i c d vs sl e
    obtain ⟨t, ht⟩ := strOf2_ok h
    exact ⟨c, d, vs, sl, t, e, ht⟩
  · cases h
def cellB (K : PySem.W.Frag) (a C : Addr) : Bool := match K.lookup a with
  | some ⟨_, _, .cell (some (.ref C')), _⟩ => decide (C' = C)
  | _ => false
theorem cellB_ok {K : PySem.W.Frag} {a C : Addr} (h : cellB K a C = true) : ∃ c d sl, K.lookup a = some ⟨c, d, .cell (some (.ref C)), sl⟩ := by
  unfold cellB at h
  split at h
  · rename_i c d C' sl e
    have e2 := of_decide_eq_true h
    subst e2
    exact ⟨c, d, sl, e⟩
  · cases h
def exFnB (P : Program) (K : PySem.W.Frag) (C fI : Addr) (qual : Str) : Bool := match K.lookup fI with
  | some ⟨_, _, .func fd, _⟩ => noneV fd.defaults && (noneV fd.kwdefaults && (match clo1 fd.closure, refOf fd.code with
    | some p, some cda => PySem.W.codeIn K (.ref cda) qual && (decide (fieldsAt K cda = some P.main.file) && cellB K p.2 C)
    | _, _ => false))
  | _ => false
def exB (P : Program) (K : PySem.W.Frag) (e : ExD) : Bool := let C := He.ga K e.cn; let fI := He.ma K C "__init__"
  eqOO (PySem.W.nsIn K mainGlobals e.cn) (some (some (.ref C))) && (exClB K C && (eqOO (PySem.W.findIn K (.ref C) "__setattr__") (some (some (.builtin "object.__setattr__"))) && (eqOO (PySem.W.findIn K (.ref C) "__getattribute__") (some (some (.builtin "BaseException.__getattribute__"))) &&
  (eqOO (PySem.W.findIn K (.ref C) "__getattr__") (some none) && (eqOO (PySem.W.findIn K (.ref C) e.f) (some none) && (eqOO (PySem.W.findIn K (.ref C) "__init__") (some (some (.ref fI))) && (decide (PySem.W.typeIn K (.ref fI) = some (.type "function")) && (PySem.W.keepIn K (.ref C) &&
  (decide (PySem.W.subIn K (.ref C) (.type "BaseException") = some true) && (decide (PySem.W.typeIn K (.ref C) = some (.type "type")) && (PySem.W.hasDictIn K C && (decide (PySem.W.exmOne K (.ref C) (.ref C) = some true) && (decide (PySem.W.mroIn K C (.ref C) = some true) &&
  (decide (PySem.W.subIn K (.ref C) (.type "ValueError") = some true) && (eqOO (PySem.W.nsIn K mainGlobals "super") (some none) && (eqOO (PySem.W.nsIn K cStatics "thirdparty.any") (some none) && (eqOO (PySem.W.ks_superIn K C C "__init__") (some (some (.builtin "ValueError.__init__"))) &&
  (!(P.main.scope.names.lookup ("super" : Str)).isSome && ((decide (e.f = "value") || (decide (e.f = "line") || decide (e.f = "limit"))) && (exFnB P K C fI e.qual && ((e.p 4).endLine == (e.p 6).line)))))))))))))))))))))
theorem exB_ok {P : Program} {K : PySem.W.Frag} {h : Heap} {mg : Str → Option Value} (X : K.In h) (G : h.Ns mainGlobals mg) {e : ExD} (hb : exB P K e = true) (hv : fnA2 K (He.ma K (He.ga K e.cn) "__init__") = e.val) : PySem.ExW.ExT P K mg e.cn e.f (He.ga K e.cn) (He.ma K (He.ga K e.cn) "__init__") := by
  obtain ⟨h1, hb⟩ := ands hb
  obtain ⟨h2, hb⟩ := ands hb
  obtain ⟨h3, hb⟩ := ands hb
  obtain ⟨h4, hb⟩ := ands hb
  obtain ⟨h5, hb⟩ := ands hb
  obtain ⟨h6, hb⟩ := ands hb
  obtain ⟨h7, hb⟩ := ands hb
  obtain ⟨h8, hb⟩ := ands hb
  obtain ⟨h9, hb⟩ := ands hb
  obtain ⟨h10, hb⟩ := ands hb
  obtain ⟨h11, hb⟩ := ands hb
  obtain ⟨h12, hb⟩ := ands hb
  obtain ⟨h13, hb⟩ := ands hb
  obtain ⟨h14, hb⟩ := ands hb
  obtain ⟨h15, hb⟩ := ands hb
  obtain ⟨h16, hb⟩ := ands hb
  obtain ⟨h17, hb⟩ := ands hb
  obtain ⟨h18, hb⟩ := ands hb
  obtain ⟨h19, hb⟩ := ands hb
  obtain ⟨h20, hb⟩ := ands hb
  obtain ⟨h21, h22⟩ := ands hb
  refine ⟨PySem.W.mg_of X G (of_decide_eq_true h1), exClB_ok h2, of_decide_eq_true h3, of_decide_eq_true h4, of_decide_eq_true h5, of_decide_eq_true h6, of_decide_eq_true h7, of_decide_eq_true h8, h9, of_decide_eq_true h10, of_decide_eq_true h11, h12, of_decide_eq_true h13, of_decide_eq_true h14, of_decide_eq_true h15, of_decide_eq_true h16, of_decide_eq_true h17,
    of_decide_eq_true h18, by simpa using h19, by simpa using h20, ?_⟩
  generalize He.ma K (He.ga K e.cn) "__init__" = fI at hv h21
  generalize He.ga K e.cn = C at h21
  unfold fnA2 at hv
  unfold exFnB at h21
  cases q : K.lookup fI with
  | none => rw [q] at h21; cases h21
  | some o =>
    obtain ⟨oc, od, dt, osl⟩ := o
    rw [q] at h21 hv
    cases dt with
    | func fd =>
      obtain ⟨n1, n2, n3, n4, n5, n6, n7, n8, n9, n10, n11, n12, n13, n14, n15⟩ := fd
      have e2 : (some (n1, n2, n3, n4, n5, n6, n7.map (·.1), n15) : FnW2) = e.val := hv
      unfold ExD.val at e2
      injection e2 with e2
      simp only [Prod.mk.injEq] at e2
      obtain ⟨rfl, rfl, rfl, rfl, rfl, rfl, e7, rfl⟩ := e2
      obtain ⟨k1, h21⟩ := ands (show (noneV n8 && (noneV n9 && _)) = true from h21)
      obtain ⟨k2, h21⟩ := ands h21
      have e8 := noneV_ok k1
      have e9 := noneV_ok k2
      subst e8 e9
      split at h21
      · rename_i p cda hc1 hc2
        have z1 := clo1_ok hc1
        have z2 := refOf_ok hc2
        simp only at z1 z2
        subst z1 z2
        obtain ⟨k3, h23⟩ := ands (show (PySem.W.codeIn K (.ref cda) e.qual && _) = true by first | exact h21 | exact (ands h21).2)
        obtain ⟨k4, k5⟩ := ands h23
        obtain ⟨x, cc⟩ := p
        have ex : x = "__class__" := by simpa using e7
        subst ex
        obtain ⟨c1, d1, vs, s1, t, g1, g2⟩ := fieldsAt_ok (of_decide_eq_true k4)
        obtain ⟨c2, d2, s2, g3⟩ := cellB_ok k5
        exact ⟨_, _, _, _, _, _, _, _, _, _, _, _, _, _, _, _, _, _, _, _, _, _, _, _, _, _, _, _, _, _, _, _, _, rfl, k3, g1, g2, by simp, g3, h22⟩
      · cases h21
    | _ => cases h21
end DL

set_option Elab.async false
set_option linter.all false
set_option maxRecDepth 100000
set_option maxHeartbeats 4000000
namespace DL
open PySem PySem.Spec PyProof.Rows L2

/-- a def as printed: where, its reading, its text, the fuel of its reading -/
structure DefE where
  key : Key
  fe : FE
  d : He.DefD
  m : Nat
/-- a program as printed -/
structure PD where
  gk : List (Str × GK)
  tb : List (Str × ClsE)
  defs : List DefE
  exs : List ExD
  isi : List ((TyC × TyC) × Bool)
  sx : List ((Str × Str) × Bool)
def PD.feOf (D : PD) (key : Key) : Option DefE := D.defs.find? fun e => decide (e.key = key)
def PD.prg (D : PD) : Prg where
  gk := fun x => D.gk.lookup x
  tb := fun c => D.tb.lookup c
  tab := fun t c => D.isi.lookup (t, c)
  et := fun c => (D.exs.find? fun e => decide (e.cn = c)).map (·.f)
  sx := fun a b => D.sx.lookup (a, b)
  fe := fun key => (D.feOf key).map (·.fe)
def tyA (K : PySem.W.Frag) : TyC → Value
  | .b n => .type n
  | .c x => .ref (He.ga K x)
def gloB (K : PySem.W.Frag) (x : Str) : Bool := eqOO (PySem.W.nsIn K mainGlobals x) (some (some (.ref (He.ga K x))))
def tyGlo (K : PySem.W.Frag) : TyC → Bool
  | .b _ => true
  | .c x => gloB K x
def valB (K : PySem.W.Frag) (x : Str) : D → Bool
  | .int i => (match PySem.W.nsIn K mainGlobals x with
    | some (some (.int j _)) => decide (j = i)
    | _ => false)
  | .str y => (match PySem.W.nsIn K mainGlobals x with
    | some (some (.str z _)) => decide (z = y)
    | _ => false)
  | _ => false
def gkB (D : PD) (K : PySem.W.Frag) (x : Str) : GK → Bool
  | .fn => eqOO (PySem.W.nsIn K mainGlobals x) (some (some (.ref (foK K (x, none))))) && PySem.W.keepIn K (.ref (foK K (x, none)))
  | .cls => gloB K x && PySem.W.keepIn K (.ref (He.ga K x))
  | .exc f => gloB K x && (decide (f = "") || decide (D.prg.et x = some f))
  | .blt => eqOO (PySem.W.nsIn K mainGlobals x) (some none)
  | .val d => valB K x d
def baseTys : List TyC := [.b "NoneType", .b "bool", .b "int", .b "str", .b "tuple", .b "list", .b "dict"]
def opsB (D : PD) (K : PySem.W.Frag) (c : Str) (ce : ClsE) : Bool := ((baseTys ++ D.tb.map fun p => TyC.c p.1).all fun t => PySem.W.notFirst K (He.ga K c) (tyA K t)) && (!(ce.meths.contains "__eq__") || eqOO (PySem.W.findIn K (.ref (He.ga K c)) "__ne__") (some (some (.builtin "object.__ne__")))) && (!(ce.meths.contains "__add__") || eqOO (PySem.W.findIn K (.ref (He.ga K c)) "__radd__") (some none))
/-- the modules' dict is there -/
def sysB (K : PySem.W.Frag) : Bool := match K.lookup sysModules with
  | some o => (match o.data with
    | .dict _ _ => true
    | _ => false)
  | none => false
theorem sysB_ok {K : PySem.W.Frag} (h : sysB K = true) : SysOk K := by
  unfold sysB at h
  split at h
  · rename_i o e
    split at h
    · rename_i es n d; exact ⟨o, es, n, e, d⟩
    · cases h
  · cases h
def PD.ok (D : PD) (P : Program) (K : PySem.W.Frag) : Bool := sysB K && ((D.gk.all fun p => gkB D K p.1 p.2) && ((D.tb.all fun p => clsB K p.1 p.2 && opsB D K p.1 p.2) && ((D.exs.all fun e => exB P K e) && ((D.isi.all fun p => tyGlo K p.1.1 && (tyGlo K p.1.2 && decide (PySem.W.kitOne K (tyA K p.1.1) (tyA K p.1.2) = some p.2))) &&
  ((D.sx.all fun p => gloB K p.1.1 && (gloB K p.1.2 && decide (PySem.W.exmOne K (.ref (He.ga K p.1.1)) (.ref (He.ga K p.1.2)) = some p.2))) && D.defs.all fun e => fnB K (foK K e.key) e.d)))))
theorem lookup_mem {α β : Type} [BEq α] [LawfulBEq α] {x : α} {v : β} : ∀ {l : List (α × β)}, l.lookup x = some v → (x, v) ∈ l
  | [], h => by cases h
  | (y, w) :: r, h => by
    rw [List.lookup_cons] at h
    cases e : x == y with
    | true =>
      rw [e] at h
      cases h
      rw [eq_of_beq e]
      exact List.mem_cons_self
    | false =>
      rw [e] at h
      exact List.mem_cons_of_mem _ (lookup_mem h)
section
variable {D : PD} {P : Program} {w : World} {K : PySem.W.Frag} {mg : Str → Option Value} {h : Heap}
theorem glo_at (X : K.In h) (G : h.Ns mainGlobals mg) {x : Str} (hb : gloB K x = true) : mg x = some (.ref (He.ga K x)) := PySem.W.mg_of X G (of_decide_eq_true hb)
theorem ty_at (X : K.In h) (G : h.Ns mainGlobals mg) {t : TyC} {v : Value} (hb : tyGlo K t = true) (hv : TyV mg t v) : v = tyA K t := by
  cases t with
  | b n => exact hv
  | c x =>
    obtain ⟨C, h1, h2⟩ := hv
    rw [glo_at X G hb] at h1
    cases h1
    exact h2
/-- what the whole program must have, beyond the looks: the readings of the bodies, the bindings of the parameters -/
structure PD.Reads (D : PD) : Prop where
  sc : ∀ e ∈ D.defs, FnScope e.fe.N e.fe.fi.ps e.d.scope
  code : ∀ e ∈ D.defs, cSs e.m ⟨e.fe.N, e.d.scope, fun _ => true, D.prg.gk, true, true⟩ e.d.body = some e.fe.code
  bd : ∀ e ∈ D.defs, ∀ (K : PySem.W.Frag) (mg : Str → Option Value) (w : World) (a : Addr) (fd : FuncData), FunD K e.d.name e.d.qual e.d.params e.d.body e.d.scope (e.d.dvs K) (e.d.kws K) a fd → ∀ j, j ≤ e.fe.fi.dfl.length →
    ∃ (dvs : List V) (ds : List Value), Binds K fd e.fe.fi.ps ds ∧ Vals dvs ds ∧ ∀ H, DRels ⟨K, mg, w⟩ H (e.fe.fi.dfl.drop (e.fe.fi.dfl.length - j)) dvs
theorem prg_ok (R : D.Reads) (X : K.In h) (G : h.Ns mainGlobals mg) (hb : D.ok P K = true) (hf : D.defs.map (fun e => fnA K (foK K e.key)) = D.defs.map fun e => e.d.val) (hx : D.exs.map (fun e => fnA2 K (He.ma K (He.ga K e.cn) "__init__")) = D.exs.map ExD.val) : PrgOk P w K mg D.prg (foK K) := by
  obtain ⟨h0, hb⟩ := ands hb
  obtain ⟨h1, hb⟩ := ands hb
  obtain ⟨h2, hb⟩ := ands hb
  obtain ⟨h3, hb⟩ := ands hb
  obtain ⟨h4, hb⟩ := ands hb
  obtain ⟨h5, h6⟩ := ands hb
  have cls : ∀ c ce, D.prg.tb c = some ce → mg c = some (.ref (He.ga K c)) ∧ ClsOk K (foK K) c ce (He.ga K c) ∧ headMe K (He.ga K c) = true ∧ (∀ m ∈ ce.meths, PySem.W.fnIn K (foK K (c, some m)) = true) ∧ opsB D K c ce = true := fun c ce hc => by
    obtain ⟨q1, q2⟩ := ands (List.all_eq_true.mp h2 (c, ce) (lookup_mem hc))
    obtain ⟨a, b, d, e⟩ := clsB_ok X G q1
    exact ⟨a, b, d, e, q2⟩
  refine ⟨fun key f hk => ?_, fun Y e1 e2 e3 e4 M hM x g hg => ?_, sysB_ok h0, fun Y e1 e2 e3 e4 => ?_⟩
  · obtain ⟨e, he, ef⟩ := Option.map_eq_some_iff.mp hk
    have he : D.defs.find? (fun e => decide (e.key = key)) = some e := he
    have hm := List.mem_of_find?_eq_some he
    have ek : e.key = key := of_decide_eq_true (List.find?_some (p := fun e : DefE => decide (e.key = key)) he)
    subst ef ek
    have e9 : fnA K (foK K e.key) = e.d.val := by
      obtain ⟨i, hi⟩ := List.getElem?_of_mem hm
      have z := congrArg (fun l : List He.FnW => l[i]?) hf
      simp only [List.getElem?_map, hi] at z
      exact Option.some.inj z
    obtain ⟨fd, FD⟩ := funA e9 (List.all_eq_true.mp h6 e hm)
    exact ⟨fd, ⟨⟨_, _, _, _, _, _, _, e.m, FD, R.sc e hm, R.code e hm⟩, R.bd e hm K mg w _ fd FD⟩⟩
  · have q := List.all_eq_true.mp h1 (x, g) (lookup_mem hg)
    subst e3 e4
    cases g with
    | fn =>
      obtain ⟨a, b⟩ := ands q
      exact ⟨PySem.W.mg_of X G (of_decide_eq_true a), b⟩
    | cls =>
      obtain ⟨a, b⟩ := ands q
      exact ⟨_, glo_at X G a, b⟩
    | exc f =>
      obtain ⟨a, b⟩ := ands q
      refine ⟨_, glo_at X G a, fun hne => ?_⟩
      rw [hM]
      simp only [Bool.or_eq_true, decide_eq_true_eq] at b
      exact b.resolve_left hne
    | blt => exact PySem.W.mg_none_of X G (of_decide_eq_true q)
    | val d =>
      have q : valB Y.K x d = true := q
      cases d with
      | int i =>
        simp only [valB] at q
        split at q
        · rename_i j t e
          have ej := of_decide_eq_true q
          subst ej
          exact ⟨.int j, _, PySem.W.mg_of X G e, ⟨t, rfl⟩, fun H => by simp [DRel]⟩
        · cases q
      | str y =>
        simp only [valB] at q
        split at q
        · rename_i z t e
          have ej := of_decide_eq_true q
          subst ej
          exact ⟨.str z, _, PySem.W.mg_of X G e, ⟨t, rfl⟩, fun H => by simp [DRel]⟩
        · cases q
      | _ => cases q
  · subst e1 e3 e4
    refine ⟨fun c ce hc => ⟨_, (cls c ce hc).1, (cls c ce hc).2.1⟩, ⟨fun c ce C t tv hc hC ht hv => ?_, fun c ce C hc hC => ?_, fun c ce hc m hm => (cls c ce hc).2.2.2.1 m hm, fun c ce C hc hC hm => ?_, fun c ce C hc hC hm => ?_⟩, fun t c b hb tv cv h7 h8 => ?_, fun cn f hf' => ?_, fun c c' b hb C C' h7 h8 => ?_⟩
    · obtain ⟨k1, _, _, _, k5⟩ := cls c ce hc
      rw [k1] at hC
      cases hC
      obtain ⟨k6, _⟩ := ands (ands k5).1
      have mem : t ∈ baseTys ++ D.tb.map fun p => TyC.c p.1 := by
        cases t with
        | b n =>
          refine List.mem_append_left _ ?_
          simpa [okT, baseTys] using ht
        | c x =>
          refine List.mem_append_right _ ?_
          obtain ⟨ce', hce⟩ := Option.isSome_iff_exists.mp (show (D.prg.tb x).isSome = true from ht)
          exact List.mem_map.mpr ⟨(x, ce'), lookup_mem hce, rfl⟩
      have et : tv = tyA Y.K t := by
        cases t with
        | b n => exact hv
        | c x =>
          obtain ⟨C, g1, g2⟩ := hv
          obtain ⟨ce', hce⟩ := Option.isSome_iff_exists.mp (show (D.prg.tb x).isSome = true from ht)
          rw [(cls x ce' hce).1] at g1
          cases g1
          exact g2
      rw [et]
      exact List.all_eq_true.mp k6 t mem
    · obtain ⟨k1, _, k3, _⟩ := cls c ce hc
      rw [k1] at hC
      cases hC
      exact k3
    · obtain ⟨k1, _, _, _, k5⟩ := cls c ce hc
      rw [k1] at hC
      cases hC
      obtain ⟨_, k6⟩ := ands (ands k5).1
      have hm' : ce.meths.contains ("__eq__" : Str) = true := by simpa using hm
      rw [hm'] at k6
      exact of_decide_eq_true (show eqOO _ _ = true from k6)
    · obtain ⟨k1, _, _, _, k5⟩ := cls c ce hc
      rw [k1] at hC
      cases hC
      obtain ⟨_, k6⟩ := ands k5
      have hm' : ce.meths.contains ("__add__" : Str) = true := by simpa using hm
      rw [hm'] at k6
      exact of_decide_eq_true (show eqOO _ _ = true from k6)
    · obtain ⟨k1, k2⟩ := ands (List.all_eq_true.mp h4 ((t, c), b) (lookup_mem hb))
      obtain ⟨k2, k3⟩ := ands k2
      rw [ty_at X G k1 h7, ty_at X G k2 h8]
      exact of_decide_eq_true k3
    · obtain ⟨e, he, ef⟩ := Option.map_eq_some_iff.mp hf'
      have hm := List.mem_of_find?_eq_some he
      have ek : e.cn = cn := of_decide_eq_true (List.find?_some (p := fun e : ExD => decide (e.cn = cn)) he)
      subst ef ek
      have e9 : fnA2 Y.K (He.ma Y.K (He.ga Y.K e.cn) "__init__") = e.val := by
        obtain ⟨i, hi⟩ := List.getElem?_of_mem hm
        have z := congrArg (fun l : List FnW2 => l[i]?) hx
        simp only [List.getElem?_map, hi] at z
        exact Option.some.inj z
      exact ⟨_, _, exB_ok X G (List.all_eq_true.mp h3 e hm) e9⟩
    · obtain ⟨k1, k2⟩ := ands (List.all_eq_true.mp h5 ((c, c'), b) (lookup_mem hb))
      obtain ⟨k2, k3⟩ := ands k2
      rw [glo_at X G k1] at h7
      rw [glo_at X G k2] at h8
      cases h7
      cases h8
      exact of_decide_eq_true k3
end
end DL

set_option Elab.async false
set_option linter.all false
set_option maxRecDepth 100000
set_option maxHeartbeats 4000000
namespace DL
open PySem PySem.Spec PyProof.Rows L2

abbrev Obs : Type := Bool × List He.FnW × List FnW2
def PD.obs (D : PD) (P : Program) (K : PySem.W.Frag) : Obs := (D.ok P K, D.defs.map fun e => fnA K (foK K e.key), D.exs.map fun e => fnA2 K (He.ma K (He.ga K e.cn) "__init__"))
def PD.want (D : PD) : Obs := (true, D.defs.map fun e => e.d.val, D.exs.map ExD.val)
/-- the part of the heap that is looked at -/
def fragOf (n : Nat) (g : Addr → Option Obj) : PySem.W.Frag := He.frG g (sysModules :: cStatics :: He.asD g n)
def PD.obsG (D : PD) (P : Program) (n : Nat) (g : Addr → Option Obj) : Obs := D.obs P (fragOf n g)
def PD.hook (D : PD) (P : Program) (n : Nat) : PySem.W.Hook where
  α := Obs
  obs := fun s => D.obsG P n s.heap.get?
  val := fun _ => D.want
  says := fun _ h => ∃ K : PySem.W.Frag, K.In h ∧ D.obs P K = D.want
  of := fun _ _ e => ⟨_, He.frG_in, e⟩
  keeps := fun _ _ _ ⟨K, hK, c⟩ k => ⟨K, PySem.W.Frag.In.keeps hK k, c⟩
def PD.ob (D : PD) (P : Program) (n : Nat) (s : PySem.W.SharedT) : Obs := D.obsG P n (HandSHeadRun.getT s)
theorem ob_eq {D : PD} {P : Program} {n : Nat} (s : PySem.W.SharedT) : D.ob P n s = (D.hook P n).obs s.abs := by
  have e : HandSHeadRun.getT s = s.abs.heap.get? := funext (HandSHeadRun.getT_eq s)
  unfold PD.ob
  rw [e]
  rfl
/-- a law over a program as printed -/
theorem walk_D {l : PySem.W.OpenLaw} {n m i : Nat} {q : Program} {loose : List Str} {XP : (Str → Option Value) → Heap → Prop} {d : DefRec} {x : Str} {D : PD} {e : DefE}
    (hn : l.most = some n) (hn2 : n ≤ sizeLine) (hdf : d.params.defaults = []) (hr : RoomG (4 * m) callerA) (R : D.Reads) (hL : D.feOf (d.name, none) = some e) (hg : D.gk.lookup d.name = some .fn) (hps : e.fe.fi.ps = [x]) (hdl : e.fe.fi.dfl = [])
    (hb : ∀ (K : PySem.W.Frag) (a : Addr) (fd : FuncData), FunD K e.d.name e.d.qual e.d.params e.d.body e.d.scope (e.d.dvs K) (e.d.kws K) a fd → ∀ (s : Shared) (u : Value), BindsTo s fd ⟨[u], []⟩ [(x, u)])
    (A : ∀ ns : List Int, ns.length ≤ n → (∀ k ∈ ns, Builtin.Int.intBits k ≤ 1048576) → mCall D.prg m (d.name, none) [.rol (ns.map DL.D.int)] (fun _ => none) (fun d _ => d = .bl true) (fun _ _ _ => False)) :
    PySem.W.WalkO q loose XP (D.hook l.prog i).says l.row.toRowW d [] (fun f vs => PySem.call f vs) := by
  refine walk_G (G := D.prg) (fL := e.fe) hn hn2 hdf hr (by show (D.feOf _).map _ = _; rw [hL]; rfl) hps (fun w mg fa h Y G hfa => ?_) A
  obtain ⟨K, KX, c⟩ := Y
  have c1 : D.ok l.prog K = true := congrArg (fun z : Obs => z.1) c
  have c2 : D.defs.map (fun e => fnA K (foK K e.key)) = D.defs.map fun e => e.d.val := congrArg (fun z : Obs => z.2.1) c
  have c3 : D.exs.map (fun e => fnA2 K (He.ma K (He.ga K e.cn) "__init__")) = D.exs.map ExD.val := congrArg (fun z : Obs => z.2.2) c
  have PO : PrgOk l.prog w K mg D.prg (foK K) := prg_ok R KX G c1 c2 c3
  have hm := List.mem_of_find?_eq_some (show D.defs.find? (fun e => decide (e.key = (d.name, none))) = some e from hL)
  have ek : e.key = (d.name, none) := of_decide_eq_true (List.find?_some (p := fun e : DefE => decide (e.key = (d.name, none))) hL)
  have e9 : fnA K (foK K e.key) = e.d.val := by
    obtain ⟨i, hi⟩ := List.getElem?_of_mem hm
    have z := congrArg (fun l : List He.FnW => l[i]?) c2
    simp only [List.getElem?_map, hi] at z
    exact Option.some.inj z
  obtain ⟨_, h⟩ := ands c1
  obtain ⟨h1, h⟩ := ands h
  obtain ⟨h2, h⟩ := ands h
  obtain ⟨h3, h⟩ := ands h
  obtain ⟨h4, h⟩ := ands h
  obtain ⟨h5, h6⟩ := ands h
  obtain ⟨fd, FD⟩ := funA e9 (List.all_eq_true.mp h6 e hm)
  obtain ⟨k1, _⟩ := ands (List.all_eq_true.mp h1 (d.name, .fn) (lookup_mem hg))
  have ea : mg d.name = some (.ref (foK K (d.name, none))) := PySem.W.mg_of KX G (of_decide_eq_true k1)
  rw [hfa] at ea
  cases ea
  rw [ek] at FD
  exact ⟨K, foK K, fd, KX, rfl, PO, ⟨⟨_, _, _, _, _, _, _, e.m, FD, R.sc e hm, R.code e hm⟩, R.bd e hm K mg w _ fd FD⟩, hb K _ fd FD⟩
end DL

set_option Elab.async false
set_option linter.all false
set_option maxRecDepth 100000
set_option maxHeartbeats 4000000
namespace DL
open PySem PySem.Spec PyProof.Rows L2

/-- the statement at i, or at j within the class at i -/
def stAt (P : Program) (i : Nat) : Option Nat → Option Stmt
  | none => P.main.body[i]?
  | some j => match P.main.body[i]? with
    | some (.ClassDef _ _ _ bs _ _ _ _ _ _ _) => bs[j]?
    | _ => none
def dAt (P : Program) (i : Nat) (j : Option Nat) (key : Key) (qual : Str) : He.DefD := match stAt P i j with
  | some (.FunctionDef n a b _ _ _ sc _ _ _) => ⟨key, n, qual, a, b, sc, [], []⟩
  | _ => ⟨key, qual, qual, ⟨[], [], none, [], [], none, []⟩, [], ⟨.module, [], false, false, []⟩, [], []⟩
/-- an own error's places -/
def exPl (P : Program) (i j : Nat) : List Pos := match stAt P i (some j) with
  | some (.FunctionDef _ a b _ _ _ _ _ _ _) => (a.args.map (·.pos)) ++ (match b with
    | [.Expr (.Call (.Attribute (.Call (.Name _ p1) _ _ p2) _ p3) [.Constant _ _ p4] _ p5) p6, .Assign [.Attribute (.Name _ q1) _ q2] (.Name _ q3) q4] => [p1, p2, p3, p4, p5, p6, q1, q2, q3, q4]
    | _ => [])
  | _ => []
/-- no defaults -/
theorem bd0 {e : DefE} (h0 : e.fe.fi.dfl = []) (hd : e.d.dfl = []) (hb : ∀ (kV doc pm : Value) (an : Option Addr) (cdv ct : Value) (us : List Value), us.length = e.fe.fi.ps.length → bindArgs (PySem.W.fnOf e.d.name e.d.qual e.d.params e.d.body e.d.scope .none kV doc pm an cdv ct) { pos := us } = pure (e.fe.fi.ps.zip us)) :
    ∀ (K : PySem.W.Frag) (mg : Str → Option Value) (w : World) (a : Addr) (fd : FuncData), FunD K e.d.name e.d.qual e.d.params e.d.body e.d.scope (e.d.dvs K) (e.d.kws K) a fd → ∀ j, j ≤ e.fe.fi.dfl.length →
    ∃ (dvs : List V) (ds : List Value), Binds K fd e.fe.fi.ps ds ∧ Vals dvs ds ∧ ∀ H, DRels ⟨K, mg, w⟩ H (e.fe.fi.dfl.drop (e.fe.fi.dfl.length - j)) dvs := by
  intro K mg w a fd F j hj
  have e0 : e.d.dvs K = [] := by
    unfold He.DefD.dvs
    rw [hd]
    rfl
  rw [e0] at F
  refine ⟨[], [], F.bindsN fun kV doc pm an cdv ct us hl => hb kV doc pm an cdv ct us hl, .nil, fun H => ?_⟩
  rw [h0, List.drop_nil]
  exact .nil
theorem hb0 {e : DefE} {x : Str} (hps : e.fe.fi.ps = [x]) (hd : e.d.dfl = []) (hb : ∀ (kV doc pm : Value) (an : Option Addr) (cdv ct : Value) (us : List Value), us.length = e.fe.fi.ps.length → bindArgs (PySem.W.fnOf e.d.name e.d.qual e.d.params e.d.body e.d.scope .none kV doc pm an cdv ct) { pos := us } = pure (e.fe.fi.ps.zip us)) :
    ∀ (K : PySem.W.Frag) (a : Addr) (fd : FuncData), FunD K e.d.name e.d.qual e.d.params e.d.body e.d.scope (e.d.dvs K) (e.d.kws K) a fd → ∀ (s : Shared) (u : Value), BindsTo s fd ⟨[u], []⟩ [(x, u)] := by
  intro K a fd F s u
  have e0 : e.d.dvs K = [] := by
    unfold He.DefD.dvs
    rw [hd]
    rfl
  rw [e0] at F
  have b := F.bindsA (ps := [x]) (fun kV doc pm an cdv ct us hl => by
    have z := hb kV doc pm an cdv ct us (by rw [hps]; exact hl)
    rw [hps] at z
    exact z)
  exact b s [u] rfl
end DL

set_option Elab.async false
set_option linter.all false
set_option maxRecDepth 100000
set_option maxHeartbeats 4000000
namespace DL
open PySem PySem.Spec PyProof.Rows L2
def isX : SO → Bool
  | .exd _ => true
  | _ => false
/-- what stood still stands (caught errors' fields left out) -/
def Le (S S' : Sto) : Prop := ∀ a o, isX o = false → S a = some o → S' a = some o
/-- .. but for one place -/
def LeX (p : Addr) (S S' : Sto) : Prop := ∀ a o, a ≠ p → isX o = false → S a = some o → S' a = some o
theorem Le.refl {S : Sto} : Le S S := fun _ _ _ h => h
theorem Le.trans {S S' S'' : Sto} (a : Le S S') (b : Le S' S'') : Le S S'' := fun x o i h => b x o i (a x o i h)
theorem Le.new {S : Sto} {p : Addr} {o : SO} (h : S p = none) : Le S (sup S p o) := fun a x _ e => by
  have : a ≠ p := by rintro rfl; rw [h] at e; cases e
  rw [sup_ne this]; exact e
theorem Le.new' {S T : Sto} {p : Addr} {o : SO} (l : Le S T) (h : T p = none) : Le S (sup T p o) := l.trans (.new h)
theorem Le.x {S S' : Sto} {p : Addr} (l : Le S S') : LeX p S S' := fun a o _ i h => l a o i h
theorem LeX.refl {S : Sto} {p : Addr} : LeX p S S := fun _ _ _ _ h => h
theorem LeX.trans {S S' S'' : Sto} {p : Addr} (a : LeX p S S') (b : LeX p S' S'') : LeX p S S'' := fun x o n i h => b x o n i (a x o n i h)
theorem LeX.mut {S : Sto} {p : Addr} {o : SO} : LeX p S (sup S p o) := fun a x n _ e => by rw [sup_ne n]; exact e
theorem Le.caught {S : Sto} {d : Option Addr} {fs : List (Str × D)} (h : ∀ dd, d = some dd → ∀ o, S dd = some o → ∃ fs', o = .exd fs') : Le S (caught S d fs) := fun a o i e => by
  cases d with
  | none => exact e
  | some dd =>
    have : a ≠ dd := by
      rintro rfl
      obtain ⟨fs', q⟩ := h a rfl o e
      subst q
      cases i
    show sup S dd _ a = _
    rw [sup_ne this]; exact e
theorem ne_new {S : Sto} {a p : Addr} {o : SO} (h : S p = none) (g : S a = some o) : a ≠ p := by rintro rfl; rw [h] at g; cases g
theorem ne_new' {S : Sto} {a p : Addr} {o : SO} (h : S p = none) (g : S a = some o) : p ≠ a := by rintro rfl; rw [h] at g; cases g
theorem look_old {S : Sto} {p a : Addr} {x o : SO} (h : S p = none) (g : S a = some o) : sup S p x a = some o := by rw [sup_ne (ne_new h g)]; exact g
theorem look_ne {S : Sto} {p a : Addr} {x o : SO} (h : a ≠ p) (g : S a = some o) : sup S p x a = some o := by rw [sup_ne h]; exact g
theorem look_le {S S' : Sto} {a : Addr} {o : SO} (l : Le S S') (i : isX o = false) (g : S a = some o) : S' a = some o := l a o i g
theorem look_lx {S S' : Sto} {a p : Addr} {o : SO} (l : LeX p S S') (n : a ≠ p) (i : isX o = false) (g : S a = some o) : S' a = some o := l a o n i g
theorem sup_sup {S : Sto} {p : Addr} {x y : SO} : sup (sup S p x) p y = sup S p y := by
  funext b; unfold sup; split <;> rfl
theorem le_mut {S T : Sto} {p : Addr} {x y : SO} (h : S p = none) (l : Le (sup S p x) T) : Le S (sup T p y) := fun a o i e => look_ne (ne_new h e) (l a o i (look_old h e))
theorem LeX.le {S T : Sto} {p : Addr} (h : S p = none) (l : LeX p S T) : Le S T := fun a o i e => l a o (ne_new h e) i e
theorem len_ok {n : Nat} (h : n ≤ 16777216) : n ≤ sizeLine := h
theorem ite_t {P Q : Prop} (h : P) : if true = true then P else Q := h
theorem ite_f {P Q : Prop} (h : Q) : if false = true then P else Q := h
theorem ite_ct {c : Bool} {P Q : Prop} (e : c = true) (h : P) : if c = true then P else Q := by subst e; exact h
theorem ite_cf {c : Bool} {P Q : Prop} (e : c = false) (h : Q) : if c = true then P else Q := by subst e; exact h
theorem ite_any {c : Bool} {P Q : Prop} (h1 : c = true → P) (h2 : c = false → Q) : if c = true then P else Q := by
  cases c
  · exact h2 rfl
  · exact h1 rfl
theorem ite_pt {p : Prop} [Decidable p] {P Q : Prop} (e : p) (h : P) : if decide p = true then P else Q := by simp [e, h]
theorem ite_pf {p : Prop} [Decidable p] {P Q : Prop} (e : ¬p) (h : Q) : if decide p = true then P else Q := by simp [e, h]
theorem ite_p {p : Prop} [Decidable p] {P Q : Prop} (h1 : p → P) (h2 : ¬p → Q) : if decide p = true then P else Q := by
  by_cases e : p
  · simp [e, h1 e]
  · simp [e, h2 e]
theorem ite_npt {p : Prop} [Decidable p] {P Q : Prop} (e : p) (h : Q) : if (!decide p) = true then P else Q := by simp [e, h]
theorem ite_npf {p : Prop} [Decidable p] {P Q : Prop} (e : ¬p) (h : P) : if (!decide p) = true then P else Q := by simp [e, h]
theorem ite_np {p : Prop} [Decidable p] {P Q : Prop} (h1 : ¬p → P) (h2 : p → Q) : if (!decide p) = true then P else Q := by
  by_cases e : p
  · simp [e, h2 e]
  · simp [e, h1 e]
theorem kb_bl {K : Bool → Sto → Prop} {b : Bool} {S : Sto} (h : K b S) : kB K (.bl b) S := ⟨b, rfl, h⟩
theorem nk_bl {K : DK} {b : Bool} {S : Sto} (h : K (.bl (!b)) S) : notK K (.bl b) S := ⟨b, rfl, h⟩
theorem bk_bl {K : DK} {b : Bool} {S : Sto} (h : K (.bl b) S) : blK K (.bl b) S := ⟨b, rfl, h⟩
section
variable {M : Env1} {cu : Option Cur} {σ : DSt} {S : Sto} {K : DK} {E : DX} {KT : Bool → Sto → Prop} {KA : List D → Sto → Prop} {nx bk ct : DSt → Sto → Prop} {rt : DK} {ex : DXs}

theorem v0 {d : D} {r : DSt} (k : K d S) : mE M cu (.var 0) (some d :: r) S K E := ⟨d, rfl, k⟩
theorem v1 {a0 : Option D} {d : D} {r : DSt} (k : K d S) : mE M cu (.var 1) (a0 :: some d :: r) S K E := ⟨d, rfl, k⟩
theorem v2 {a0 a1 : Option D} {d : D} {r : DSt} (k : K d S) : mE M cu (.var 2) (a0 :: a1 :: some d :: r) S K E := ⟨d, rfl, k⟩
theorem v3 {a0 a1 a2 : Option D} {d : D} {r : DSt} (k : K d S) : mE M cu (.var 3) (a0 :: a1 :: a2 :: some d :: r) S K E := ⟨d, rfl, k⟩
theorem v4 {a0 a1 a2 a3 : Option D} {d : D} {r : DSt} (k : K d S) : mE M cu (.var 4) (a0 :: a1 :: a2 :: a3 :: some d :: r) S K E := ⟨d, rfl, k⟩
theorem v5 {a0 a1 a2 a3 a4 : Option D} {d : D} {r : DSt} (k : K d S) : mE M cu (.var 5) (a0 :: a1 :: a2 :: a3 :: a4 :: some d :: r) S K E := ⟨d, rfl, k⟩
theorem v6 {a0 a1 a2 a3 a4 a5 : Option D} {d : D} {r : DSt} (k : K d S) : mE M cu (.var 6) (a0 :: a1 :: a2 :: a3 :: a4 :: a5 :: some d :: r) S K E := ⟨d, rfl, k⟩
theorem v7 {a0 a1 a2 a3 a4 a5 a6 : Option D} {d : D} {r : DSt} (k : K d S) : mE M cu (.var 7) (a0 :: a1 :: a2 :: a3 :: a4 :: a5 :: a6 :: some d :: r) S K E := ⟨d, rfl, k⟩
theorem v8 {a0 a1 a2 a3 a4 a5 a6 a7 : Option D} {d : D} {r : DSt} (k : K d S) : mE M cu (.var 8) (a0 :: a1 :: a2 :: a3 :: a4 :: a5 :: a6 :: a7 :: some d :: r) S K E := ⟨d, rfl, k⟩
theorem v9 {a0 a1 a2 a3 a4 a5 a6 a7 a8 : Option D} {d : D} {r : DSt} (k : K d S) : mE M cu (.var 9) (a0 :: a1 :: a2 :: a3 :: a4 :: a5 :: a6 :: a7 :: a8 :: some d :: r) S K E := ⟨d, rfl, k⟩
theorem v10 {a0 a1 a2 a3 a4 a5 a6 a7 a8 a9 : Option D} {d : D} {r : DSt} (k : K d S) : mE M cu (.var 10) (a0 :: a1 :: a2 :: a3 :: a4 :: a5 :: a6 :: a7 :: a8 :: a9 :: some d :: r) S K E := ⟨d, rfl, k⟩
theorem v11 {a0 a1 a2 a3 a4 a5 a6 a7 a8 a9 a10 : Option D} {d : D} {r : DSt} (k : K d S) : mE M cu (.var 11) (a0 :: a1 :: a2 :: a3 :: a4 :: a5 :: a6 :: a7 :: a8 :: a9 :: a10 :: some d :: r) S K E := ⟨d, rfl, k⟩
theorem v12 {a0 a1 a2 a3 a4 a5 a6 a7 a8 a9 a10 a11 : Option D} {d : D} {r : DSt} (k : K d S) : mE M cu (.var 12) (a0 :: a1 :: a2 :: a3 :: a4 :: a5 :: a6 :: a7 :: a8 :: a9 :: a10 :: a11 :: some d :: r) S K E := ⟨d, rfl, k⟩
theorem v13 {a0 a1 a2 a3 a4 a5 a6 a7 a8 a9 a10 a11 a12 : Option D} {d : D} {r : DSt} (k : K d S) : mE M cu (.var 13) (a0 :: a1 :: a2 :: a3 :: a4 :: a5 :: a6 :: a7 :: a8 :: a9 :: a10 :: a11 :: a12 :: some d :: r) S K E := ⟨d, rfl, k⟩
theorem v14 {a0 a1 a2 a3 a4 a5 a6 a7 a8 a9 a10 a11 a12 a13 : Option D} {d : D} {r : DSt} (k : K d S) : mE M cu (.var 14) (a0 :: a1 :: a2 :: a3 :: a4 :: a5 :: a6 :: a7 :: a8 :: a9 :: a10 :: a11 :: a12 :: a13 :: some d :: r) S K E := ⟨d, rfl, k⟩
theorem v15 {a0 a1 a2 a3 a4 a5 a6 a7 a8 a9 a10 a11 a12 a13 a14 : Option D} {d : D} {r : DSt} (k : K d S) : mE M cu (.var 15) (a0 :: a1 :: a2 :: a3 :: a4 :: a5 :: a6 :: a7 :: a8 :: a9 :: a10 :: a11 :: a12 :: a13 :: a14 :: some d :: r) S K E := ⟨d, rfl, k⟩
theorem v16 {a0 a1 a2 a3 a4 a5 a6 a7 a8 a9 a10 a11 a12 a13 a14 a15 : Option D} {d : D} {r : DSt} (k : K d S) : mE M cu (.var 16) (a0 :: a1 :: a2 :: a3 :: a4 :: a5 :: a6 :: a7 :: a8 :: a9 :: a10 :: a11 :: a12 :: a13 :: a14 :: a15 :: some d :: r) S K E := ⟨d, rfl, k⟩
theorem v17 {a0 a1 a2 a3 a4 a5 a6 a7 a8 a9 a10 a11 a12 a13 a14 a15 a16 : Option D} {d : D} {r : DSt} (k : K d S) : mE M cu (.var 17) (a0 :: a1 :: a2 :: a3 :: a4 :: a5 :: a6 :: a7 :: a8 :: a9 :: a10 :: a11 :: a12 :: a13 :: a14 :: a15 :: a16 :: some d :: r) S K E := ⟨d, rfl, k⟩
theorem v18 {a0 a1 a2 a3 a4 a5 a6 a7 a8 a9 a10 a11 a12 a13 a14 a15 a16 a17 : Option D} {d : D} {r : DSt} (k : K d S) : mE M cu (.var 18) (a0 :: a1 :: a2 :: a3 :: a4 :: a5 :: a6 :: a7 :: a8 :: a9 :: a10 :: a11 :: a12 :: a13 :: a14 :: a15 :: a16 :: a17 :: some d :: r) S K E := ⟨d, rfl, k⟩
theorem v19 {a0 a1 a2 a3 a4 a5 a6 a7 a8 a9 a10 a11 a12 a13 a14 a15 a16 a17 a18 : Option D} {d : D} {r : DSt} (k : K d S) : mE M cu (.var 19) (a0 :: a1 :: a2 :: a3 :: a4 :: a5 :: a6 :: a7 :: a8 :: a9 :: a10 :: a11 :: a12 :: a13 :: a14 :: a15 :: a16 :: a17 :: a18 :: some d :: r) S K E := ⟨d, rfl, k⟩
theorem v20 {a0 a1 a2 a3 a4 a5 a6 a7 a8 a9 a10 a11 a12 a13 a14 a15 a16 a17 a18 a19 : Option D} {d : D} {r : DSt} (k : K d S) : mE M cu (.var 20) (a0 :: a1 :: a2 :: a3 :: a4 :: a5 :: a6 :: a7 :: a8 :: a9 :: a10 :: a11 :: a12 :: a13 :: a14 :: a15 :: a16 :: a17 :: a18 :: a19 :: some d :: r) S K E := ⟨d, rfl, k⟩
theorem v21 {a0 a1 a2 a3 a4 a5 a6 a7 a8 a9 a10 a11 a12 a13 a14 a15 a16 a17 a18 a19 a20 : Option D} {d : D} {r : DSt} (k : K d S) : mE M cu (.var 21) (a0 :: a1 :: a2 :: a3 :: a4 :: a5 :: a6 :: a7 :: a8 :: a9 :: a10 :: a11 :: a12 :: a13 :: a14 :: a15 :: a16 :: a17 :: a18 :: a19 :: a20 :: some d :: r) S K E := ⟨d, rfl, k⟩
theorem v22 {a0 a1 a2 a3 a4 a5 a6 a7 a8 a9 a10 a11 a12 a13 a14 a15 a16 a17 a18 a19 a20 a21 : Option D} {d : D} {r : DSt} (k : K d S) : mE M cu (.var 22) (a0 :: a1 :: a2 :: a3 :: a4 :: a5 :: a6 :: a7 :: a8 :: a9 :: a10 :: a11 :: a12 :: a13 :: a14 :: a15 :: a16 :: a17 :: a18 :: a19 :: a20 :: a21 :: some d :: r) S K E := ⟨d, rfl, k⟩
theorem v23 {a0 a1 a2 a3 a4 a5 a6 a7 a8 a9 a10 a11 a12 a13 a14 a15 a16 a17 a18 a19 a20 a21 a22 : Option D} {d : D} {r : DSt} (k : K d S) : mE M cu (.var 23) (a0 :: a1 :: a2 :: a3 :: a4 :: a5 :: a6 :: a7 :: a8 :: a9 :: a10 :: a11 :: a12 :: a13 :: a14 :: a15 :: a16 :: a17 :: a18 :: a19 :: a20 :: a21 :: a22 :: some d :: r) S K E := ⟨d, rfl, k⟩
theorem v24 {a0 a1 a2 a3 a4 a5 a6 a7 a8 a9 a10 a11 a12 a13 a14 a15 a16 a17 a18 a19 a20 a21 a22 a23 : Option D} {d : D} {r : DSt} (k : K d S) : mE M cu (.var 24) (a0 :: a1 :: a2 :: a3 :: a4 :: a5 :: a6 :: a7 :: a8 :: a9 :: a10 :: a11 :: a12 :: a13 :: a14 :: a15 :: a16 :: a17 :: a18 :: a19 :: a20 :: a21 :: a22 :: a23 :: some d :: r) S K E := ⟨d, rfl, k⟩
theorem v25 {a0 a1 a2 a3 a4 a5 a6 a7 a8 a9 a10 a11 a12 a13 a14 a15 a16 a17 a18 a19 a20 a21 a22 a23 a24 : Option D} {d : D} {r : DSt} (k : K d S) : mE M cu (.var 25) (a0 :: a1 :: a2 :: a3 :: a4 :: a5 :: a6 :: a7 :: a8 :: a9 :: a10 :: a11 :: a12 :: a13 :: a14 :: a15 :: a16 :: a17 :: a18 :: a19 :: a20 :: a21 :: a22 :: a23 :: a24 :: some d :: r) S K E := ⟨d, rfl, k⟩
theorem v26 {a0 a1 a2 a3 a4 a5 a6 a7 a8 a9 a10 a11 a12 a13 a14 a15 a16 a17 a18 a19 a20 a21 a22 a23 a24 a25 : Option D} {d : D} {r : DSt} (k : K d S) : mE M cu (.var 26) (a0 :: a1 :: a2 :: a3 :: a4 :: a5 :: a6 :: a7 :: a8 :: a9 :: a10 :: a11 :: a12 :: a13 :: a14 :: a15 :: a16 :: a17 :: a18 :: a19 :: a20 :: a21 :: a22 :: a23 :: a24 :: a25 :: some d :: r) S K E := ⟨d, rfl, k⟩
theorem v27 {a0 a1 a2 a3 a4 a5 a6 a7 a8 a9 a10 a11 a12 a13 a14 a15 a16 a17 a18 a19 a20 a21 a22 a23 a24 a25 a26 : Option D} {d : D} {r : DSt} (k : K d S) : mE M cu (.var 27) (a0 :: a1 :: a2 :: a3 :: a4 :: a5 :: a6 :: a7 :: a8 :: a9 :: a10 :: a11 :: a12 :: a13 :: a14 :: a15 :: a16 :: a17 :: a18 :: a19 :: a20 :: a21 :: a22 :: a23 :: a24 :: a25 :: a26 :: some d :: r) S K E := ⟨d, rfl, k⟩
theorem v28 {a0 a1 a2 a3 a4 a5 a6 a7 a8 a9 a10 a11 a12 a13 a14 a15 a16 a17 a18 a19 a20 a21 a22 a23 a24 a25 a26 a27 : Option D} {d : D} {r : DSt} (k : K d S) : mE M cu (.var 28) (a0 :: a1 :: a2 :: a3 :: a4 :: a5 :: a6 :: a7 :: a8 :: a9 :: a10 :: a11 :: a12 :: a13 :: a14 :: a15 :: a16 :: a17 :: a18 :: a19 :: a20 :: a21 :: a22 :: a23 :: a24 :: a25 :: a26 :: a27 :: some d :: r) S K E := ⟨d, rfl, k⟩
theorem v29 {a0 a1 a2 a3 a4 a5 a6 a7 a8 a9 a10 a11 a12 a13 a14 a15 a16 a17 a18 a19 a20 a21 a22 a23 a24 a25 a26 a27 a28 : Option D} {d : D} {r : DSt} (k : K d S) : mE M cu (.var 29) (a0 :: a1 :: a2 :: a3 :: a4 :: a5 :: a6 :: a7 :: a8 :: a9 :: a10 :: a11 :: a12 :: a13 :: a14 :: a15 :: a16 :: a17 :: a18 :: a19 :: a20 :: a21 :: a22 :: a23 :: a24 :: a25 :: a26 :: a27 :: a28 :: some d :: r) S K E := ⟨d, rfl, k⟩
theorem v30 {a0 a1 a2 a3 a4 a5 a6 a7 a8 a9 a10 a11 a12 a13 a14 a15 a16 a17 a18 a19 a20 a21 a22 a23 a24 a25 a26 a27 a28 a29 : Option D} {d : D} {r : DSt} (k : K d S) : mE M cu (.var 30) (a0 :: a1 :: a2 :: a3 :: a4 :: a5 :: a6 :: a7 :: a8 :: a9 :: a10 :: a11 :: a12 :: a13 :: a14 :: a15 :: a16 :: a17 :: a18 :: a19 :: a20 :: a21 :: a22 :: a23 :: a24 :: a25 :: a26 :: a27 :: a28 :: a29 :: some d :: r) S K E := ⟨d, rfl, k⟩
theorem v31 {a0 a1 a2 a3 a4 a5 a6 a7 a8 a9 a10 a11 a12 a13 a14 a15 a16 a17 a18 a19 a20 a21 a22 a23 a24 a25 a26 a27 a28 a29 a30 : Option D} {d : D} {r : DSt} (k : K d S) : mE M cu (.var 31) (a0 :: a1 :: a2 :: a3 :: a4 :: a5 :: a6 :: a7 :: a8 :: a9 :: a10 :: a11 :: a12 :: a13 :: a14 :: a15 :: a16 :: a17 :: a18 :: a19 :: a20 :: a21 :: a22 :: a23 :: a24 :: a25 :: a26 :: a27 :: a28 :: a29 :: a30 :: some d :: r) S K E := ⟨d, rfl, k⟩
theorem v32 {a0 a1 a2 a3 a4 a5 a6 a7 a8 a9 a10 a11 a12 a13 a14 a15 a16 a17 a18 a19 a20 a21 a22 a23 a24 a25 a26 a27 a28 a29 a30 a31 : Option D} {d : D} {r : DSt} (k : K d S) : mE M cu (.var 32) (a0 :: a1 :: a2 :: a3 :: a4 :: a5 :: a6 :: a7 :: a8 :: a9 :: a10 :: a11 :: a12 :: a13 :: a14 :: a15 :: a16 :: a17 :: a18 :: a19 :: a20 :: a21 :: a22 :: a23 :: a24 :: a25 :: a26 :: a27 :: a28 :: a29 :: a30 :: a31 :: some d :: r) S K E := ⟨d, rfl, k⟩
theorem v33 {a0 a1 a2 a3 a4 a5 a6 a7 a8 a9 a10 a11 a12 a13 a14 a15 a16 a17 a18 a19 a20 a21 a22 a23 a24 a25 a26 a27 a28 a29 a30 a31 a32 : Option D} {d : D} {r : DSt} (k : K d S) : mE M cu (.var 33) (a0 :: a1 :: a2 :: a3 :: a4 :: a5 :: a6 :: a7 :: a8 :: a9 :: a10 :: a11 :: a12 :: a13 :: a14 :: a15 :: a16 :: a17 :: a18 :: a19 :: a20 :: a21 :: a22 :: a23 :: a24 :: a25 :: a26 :: a27 :: a28 :: a29 :: a30 :: a31 :: a32 :: some d :: r) S K E := ⟨d, rfl, k⟩
theorem g0 {x : Option D} {d : D} {r : DSt} {P : DSt → Sto → Prop} {tb : Tb} (k : P (some d :: r) S) : mG tb (.nm 0) d (x :: r) S P := k
theorem g1 {a0 : Option D} {x : Option D} {d : D} {r : DSt} {P : DSt → Sto → Prop} {tb : Tb} (k : P (a0 :: some d :: r) S) : mG tb (.nm 1) d (a0 :: x :: r) S P := k
theorem g2 {a0 a1 : Option D} {x : Option D} {d : D} {r : DSt} {P : DSt → Sto → Prop} {tb : Tb} (k : P (a0 :: a1 :: some d :: r) S) : mG tb (.nm 2) d (a0 :: a1 :: x :: r) S P := k
theorem g3 {a0 a1 a2 : Option D} {x : Option D} {d : D} {r : DSt} {P : DSt → Sto → Prop} {tb : Tb} (k : P (a0 :: a1 :: a2 :: some d :: r) S) : mG tb (.nm 3) d (a0 :: a1 :: a2 :: x :: r) S P := k
theorem g4 {a0 a1 a2 a3 : Option D} {x : Option D} {d : D} {r : DSt} {P : DSt → Sto → Prop} {tb : Tb} (k : P (a0 :: a1 :: a2 :: a3 :: some d :: r) S) : mG tb (.nm 4) d (a0 :: a1 :: a2 :: a3 :: x :: r) S P := k
theorem g5 {a0 a1 a2 a3 a4 : Option D} {x : Option D} {d : D} {r : DSt} {P : DSt → Sto → Prop} {tb : Tb} (k : P (a0 :: a1 :: a2 :: a3 :: a4 :: some d :: r) S) : mG tb (.nm 5) d (a0 :: a1 :: a2 :: a3 :: a4 :: x :: r) S P := k
theorem g6 {a0 a1 a2 a3 a4 a5 : Option D} {x : Option D} {d : D} {r : DSt} {P : DSt → Sto → Prop} {tb : Tb} (k : P (a0 :: a1 :: a2 :: a3 :: a4 :: a5 :: some d :: r) S) : mG tb (.nm 6) d (a0 :: a1 :: a2 :: a3 :: a4 :: a5 :: x :: r) S P := k
theorem g7 {a0 a1 a2 a3 a4 a5 a6 : Option D} {x : Option D} {d : D} {r : DSt} {P : DSt → Sto → Prop} {tb : Tb} (k : P (a0 :: a1 :: a2 :: a3 :: a4 :: a5 :: a6 :: some d :: r) S) : mG tb (.nm 7) d (a0 :: a1 :: a2 :: a3 :: a4 :: a5 :: a6 :: x :: r) S P := k
theorem g8 {a0 a1 a2 a3 a4 a5 a6 a7 : Option D} {x : Option D} {d : D} {r : DSt} {P : DSt → Sto → Prop} {tb : Tb} (k : P (a0 :: a1 :: a2 :: a3 :: a4 :: a5 :: a6 :: a7 :: some d :: r) S) : mG tb (.nm 8) d (a0 :: a1 :: a2 :: a3 :: a4 :: a5 :: a6 :: a7 :: x :: r) S P := k
theorem g9 {a0 a1 a2 a3 a4 a5 a6 a7 a8 : Option D} {x : Option D} {d : D} {r : DSt} {P : DSt → Sto → Prop} {tb : Tb} (k : P (a0 :: a1 :: a2 :: a3 :: a4 :: a5 :: a6 :: a7 :: a8 :: some d :: r) S) : mG tb (.nm 9) d (a0 :: a1 :: a2 :: a3 :: a4 :: a5 :: a6 :: a7 :: a8 :: x :: r) S P := k
theorem g10 {a0 a1 a2 a3 a4 a5 a6 a7 a8 a9 : Option D} {x : Option D} {d : D} {r : DSt} {P : DSt → Sto → Prop} {tb : Tb} (k : P (a0 :: a1 :: a2 :: a3 :: a4 :: a5 :: a6 :: a7 :: a8 :: a9 :: some d :: r) S) : mG tb (.nm 10) d (a0 :: a1 :: a2 :: a3 :: a4 :: a5 :: a6 :: a7 :: a8 :: a9 :: x :: r) S P := k
theorem g11 {a0 a1 a2 a3 a4 a5 a6 a7 a8 a9 a10 : Option D} {x : Option D} {d : D} {r : DSt} {P : DSt → Sto → Prop} {tb : Tb} (k : P (a0 :: a1 :: a2 :: a3 :: a4 :: a5 :: a6 :: a7 :: a8 :: a9 :: a10 :: some d :: r) S) : mG tb (.nm 11) d (a0 :: a1 :: a2 :: a3 :: a4 :: a5 :: a6 :: a7 :: a8 :: a9 :: a10 :: x :: r) S P := k
theorem g12 {a0 a1 a2 a3 a4 a5 a6 a7 a8 a9 a10 a11 : Option D} {x : Option D} {d : D} {r : DSt} {P : DSt → Sto → Prop} {tb : Tb} (k : P (a0 :: a1 :: a2 :: a3 :: a4 :: a5 :: a6 :: a7 :: a8 :: a9 :: a10 :: a11 :: some d :: r) S) : mG tb (.nm 12) d (a0 :: a1 :: a2 :: a3 :: a4 :: a5 :: a6 :: a7 :: a8 :: a9 :: a10 :: a11 :: x :: r) S P := k
theorem g13 {a0 a1 a2 a3 a4 a5 a6 a7 a8 a9 a10 a11 a12 : Option D} {x : Option D} {d : D} {r : DSt} {P : DSt → Sto → Prop} {tb : Tb} (k : P (a0 :: a1 :: a2 :: a3 :: a4 :: a5 :: a6 :: a7 :: a8 :: a9 :: a10 :: a11 :: a12 :: some d :: r) S) : mG tb (.nm 13) d (a0 :: a1 :: a2 :: a3 :: a4 :: a5 :: a6 :: a7 :: a8 :: a9 :: a10 :: a11 :: a12 :: x :: r) S P := k
theorem g14 {a0 a1 a2 a3 a4 a5 a6 a7 a8 a9 a10 a11 a12 a13 : Option D} {x : Option D} {d : D} {r : DSt} {P : DSt → Sto → Prop} {tb : Tb} (k : P (a0 :: a1 :: a2 :: a3 :: a4 :: a5 :: a6 :: a7 :: a8 :: a9 :: a10 :: a11 :: a12 :: a13 :: some d :: r) S) : mG tb (.nm 14) d (a0 :: a1 :: a2 :: a3 :: a4 :: a5 :: a6 :: a7 :: a8 :: a9 :: a10 :: a11 :: a12 :: a13 :: x :: r) S P := k
theorem g15 {a0 a1 a2 a3 a4 a5 a6 a7 a8 a9 a10 a11 a12 a13 a14 : Option D} {x : Option D} {d : D} {r : DSt} {P : DSt → Sto → Prop} {tb : Tb} (k : P (a0 :: a1 :: a2 :: a3 :: a4 :: a5 :: a6 :: a7 :: a8 :: a9 :: a10 :: a11 :: a12 :: a13 :: a14 :: some d :: r) S) : mG tb (.nm 15) d (a0 :: a1 :: a2 :: a3 :: a4 :: a5 :: a6 :: a7 :: a8 :: a9 :: a10 :: a11 :: a12 :: a13 :: a14 :: x :: r) S P := k
theorem g16 {a0 a1 a2 a3 a4 a5 a6 a7 a8 a9 a10 a11 a12 a13 a14 a15 : Option D} {x : Option D} {d : D} {r : DSt} {P : DSt → Sto → Prop} {tb : Tb} (k : P (a0 :: a1 :: a2 :: a3 :: a4 :: a5 :: a6 :: a7 :: a8 :: a9 :: a10 :: a11 :: a12 :: a13 :: a14 :: a15 :: some d :: r) S) : mG tb (.nm 16) d (a0 :: a1 :: a2 :: a3 :: a4 :: a5 :: a6 :: a7 :: a8 :: a9 :: a10 :: a11 :: a12 :: a13 :: a14 :: a15 :: x :: r) S P := k
theorem g17 {a0 a1 a2 a3 a4 a5 a6 a7 a8 a9 a10 a11 a12 a13 a14 a15 a16 : Option D} {x : Option D} {d : D} {r : DSt} {P : DSt → Sto → Prop} {tb : Tb} (k : P (a0 :: a1 :: a2 :: a3 :: a4 :: a5 :: a6 :: a7 :: a8 :: a9 :: a10 :: a11 :: a12 :: a13 :: a14 :: a15 :: a16 :: some d :: r) S) : mG tb (.nm 17) d (a0 :: a1 :: a2 :: a3 :: a4 :: a5 :: a6 :: a7 :: a8 :: a9 :: a10 :: a11 :: a12 :: a13 :: a14 :: a15 :: a16 :: x :: r) S P := k
theorem g18 {a0 a1 a2 a3 a4 a5 a6 a7 a8 a9 a10 a11 a12 a13 a14 a15 a16 a17 : Option D} {x : Option D} {d : D} {r : DSt} {P : DSt → Sto → Prop} {tb : Tb} (k : P (a0 :: a1 :: a2 :: a3 :: a4 :: a5 :: a6 :: a7 :: a8 :: a9 :: a10 :: a11 :: a12 :: a13 :: a14 :: a15 :: a16 :: a17 :: some d :: r) S) : mG tb (.nm 18) d (a0 :: a1 :: a2 :: a3 :: a4 :: a5 :: a6 :: a7 :: a8 :: a9 :: a10 :: a11 :: a12 :: a13 :: a14 :: a15 :: a16 :: a17 :: x :: r) S P := k
theorem g19 {a0 a1 a2 a3 a4 a5 a6 a7 a8 a9 a10 a11 a12 a13 a14 a15 a16 a17 a18 : Option D} {x : Option D} {d : D} {r : DSt} {P : DSt → Sto → Prop} {tb : Tb} (k : P (a0 :: a1 :: a2 :: a3 :: a4 :: a5 :: a6 :: a7 :: a8 :: a9 :: a10 :: a11 :: a12 :: a13 :: a14 :: a15 :: a16 :: a17 :: a18 :: some d :: r) S) : mG tb (.nm 19) d (a0 :: a1 :: a2 :: a3 :: a4 :: a5 :: a6 :: a7 :: a8 :: a9 :: a10 :: a11 :: a12 :: a13 :: a14 :: a15 :: a16 :: a17 :: a18 :: x :: r) S P := k
theorem g20 {a0 a1 a2 a3 a4 a5 a6 a7 a8 a9 a10 a11 a12 a13 a14 a15 a16 a17 a18 a19 : Option D} {x : Option D} {d : D} {r : DSt} {P : DSt → Sto → Prop} {tb : Tb} (k : P (a0 :: a1 :: a2 :: a3 :: a4 :: a5 :: a6 :: a7 :: a8 :: a9 :: a10 :: a11 :: a12 :: a13 :: a14 :: a15 :: a16 :: a17 :: a18 :: a19 :: some d :: r) S) : mG tb (.nm 20) d (a0 :: a1 :: a2 :: a3 :: a4 :: a5 :: a6 :: a7 :: a8 :: a9 :: a10 :: a11 :: a12 :: a13 :: a14 :: a15 :: a16 :: a17 :: a18 :: a19 :: x :: r) S P := k
theorem g21 {a0 a1 a2 a3 a4 a5 a6 a7 a8 a9 a10 a11 a12 a13 a14 a15 a16 a17 a18 a19 a20 : Option D} {x : Option D} {d : D} {r : DSt} {P : DSt → Sto → Prop} {tb : Tb} (k : P (a0 :: a1 :: a2 :: a3 :: a4 :: a5 :: a6 :: a7 :: a8 :: a9 :: a10 :: a11 :: a12 :: a13 :: a14 :: a15 :: a16 :: a17 :: a18 :: a19 :: a20 :: some d :: r) S) : mG tb (.nm 21) d (a0 :: a1 :: a2 :: a3 :: a4 :: a5 :: a6 :: a7 :: a8 :: a9 :: a10 :: a11 :: a12 :: a13 :: a14 :: a15 :: a16 :: a17 :: a18 :: a19 :: a20 :: x :: r) S P := k
theorem g22 {a0 a1 a2 a3 a4 a5 a6 a7 a8 a9 a10 a11 a12 a13 a14 a15 a16 a17 a18 a19 a20 a21 : Option D} {x : Option D} {d : D} {r : DSt} {P : DSt → Sto → Prop} {tb : Tb} (k : P (a0 :: a1 :: a2 :: a3 :: a4 :: a5 :: a6 :: a7 :: a8 :: a9 :: a10 :: a11 :: a12 :: a13 :: a14 :: a15 :: a16 :: a17 :: a18 :: a19 :: a20 :: a21 :: some d :: r) S) : mG tb (.nm 22) d (a0 :: a1 :: a2 :: a3 :: a4 :: a5 :: a6 :: a7 :: a8 :: a9 :: a10 :: a11 :: a12 :: a13 :: a14 :: a15 :: a16 :: a17 :: a18 :: a19 :: a20 :: a21 :: x :: r) S P := k
theorem g23 {a0 a1 a2 a3 a4 a5 a6 a7 a8 a9 a10 a11 a12 a13 a14 a15 a16 a17 a18 a19 a20 a21 a22 : Option D} {x : Option D} {d : D} {r : DSt} {P : DSt → Sto → Prop} {tb : Tb} (k : P (a0 :: a1 :: a2 :: a3 :: a4 :: a5 :: a6 :: a7 :: a8 :: a9 :: a10 :: a11 :: a12 :: a13 :: a14 :: a15 :: a16 :: a17 :: a18 :: a19 :: a20 :: a21 :: a22 :: some d :: r) S) : mG tb (.nm 23) d (a0 :: a1 :: a2 :: a3 :: a4 :: a5 :: a6 :: a7 :: a8 :: a9 :: a10 :: a11 :: a12 :: a13 :: a14 :: a15 :: a16 :: a17 :: a18 :: a19 :: a20 :: a21 :: a22 :: x :: r) S P := k
theorem g24 {a0 a1 a2 a3 a4 a5 a6 a7 a8 a9 a10 a11 a12 a13 a14 a15 a16 a17 a18 a19 a20 a21 a22 a23 : Option D} {x : Option D} {d : D} {r : DSt} {P : DSt → Sto → Prop} {tb : Tb} (k : P (a0 :: a1 :: a2 :: a3 :: a4 :: a5 :: a6 :: a7 :: a8 :: a9 :: a10 :: a11 :: a12 :: a13 :: a14 :: a15 :: a16 :: a17 :: a18 :: a19 :: a20 :: a21 :: a22 :: a23 :: some d :: r) S) : mG tb (.nm 24) d (a0 :: a1 :: a2 :: a3 :: a4 :: a5 :: a6 :: a7 :: a8 :: a9 :: a10 :: a11 :: a12 :: a13 :: a14 :: a15 :: a16 :: a17 :: a18 :: a19 :: a20 :: a21 :: a22 :: a23 :: x :: r) S P := k
theorem g25 {a0 a1 a2 a3 a4 a5 a6 a7 a8 a9 a10 a11 a12 a13 a14 a15 a16 a17 a18 a19 a20 a21 a22 a23 a24 : Option D} {x : Option D} {d : D} {r : DSt} {P : DSt → Sto → Prop} {tb : Tb} (k : P (a0 :: a1 :: a2 :: a3 :: a4 :: a5 :: a6 :: a7 :: a8 :: a9 :: a10 :: a11 :: a12 :: a13 :: a14 :: a15 :: a16 :: a17 :: a18 :: a19 :: a20 :: a21 :: a22 :: a23 :: a24 :: some d :: r) S) : mG tb (.nm 25) d (a0 :: a1 :: a2 :: a3 :: a4 :: a5 :: a6 :: a7 :: a8 :: a9 :: a10 :: a11 :: a12 :: a13 :: a14 :: a15 :: a16 :: a17 :: a18 :: a19 :: a20 :: a21 :: a22 :: a23 :: a24 :: x :: r) S P := k
theorem g26 {a0 a1 a2 a3 a4 a5 a6 a7 a8 a9 a10 a11 a12 a13 a14 a15 a16 a17 a18 a19 a20 a21 a22 a23 a24 a25 : Option D} {x : Option D} {d : D} {r : DSt} {P : DSt → Sto → Prop} {tb : Tb} (k : P (a0 :: a1 :: a2 :: a3 :: a4 :: a5 :: a6 :: a7 :: a8 :: a9 :: a10 :: a11 :: a12 :: a13 :: a14 :: a15 :: a16 :: a17 :: a18 :: a19 :: a20 :: a21 :: a22 :: a23 :: a24 :: a25 :: some d :: r) S) : mG tb (.nm 26) d (a0 :: a1 :: a2 :: a3 :: a4 :: a5 :: a6 :: a7 :: a8 :: a9 :: a10 :: a11 :: a12 :: a13 :: a14 :: a15 :: a16 :: a17 :: a18 :: a19 :: a20 :: a21 :: a22 :: a23 :: a24 :: a25 :: x :: r) S P := k
theorem g27 {a0 a1 a2 a3 a4 a5 a6 a7 a8 a9 a10 a11 a12 a13 a14 a15 a16 a17 a18 a19 a20 a21 a22 a23 a24 a25 a26 : Option D} {x : Option D} {d : D} {r : DSt} {P : DSt → Sto → Prop} {tb : Tb} (k : P (a0 :: a1 :: a2 :: a3 :: a4 :: a5 :: a6 :: a7 :: a8 :: a9 :: a10 :: a11 :: a12 :: a13 :: a14 :: a15 :: a16 :: a17 :: a18 :: a19 :: a20 :: a21 :: a22 :: a23 :: a24 :: a25 :: a26 :: some d :: r) S) : mG tb (.nm 27) d (a0 :: a1 :: a2 :: a3 :: a4 :: a5 :: a6 :: a7 :: a8 :: a9 :: a10 :: a11 :: a12 :: a13 :: a14 :: a15 :: a16 :: a17 :: a18 :: a19 :: a20 :: a21 :: a22 :: a23 :: a24 :: a25 :: a26 :: x :: r) S P := k
theorem g28 {a0 a1 a2 a3 a4 a5 a6 a7 a8 a9 a10 a11 a12 a13 a14 a15 a16 a17 a18 a19 a20 a21 a22 a23 a24 a25 a26 a27 : Option D} {x : Option D} {d : D} {r : DSt} {P : DSt → Sto → Prop} {tb : Tb} (k : P (a0 :: a1 :: a2 :: a3 :: a4 :: a5 :: a6 :: a7 :: a8 :: a9 :: a10 :: a11 :: a12 :: a13 :: a14 :: a15 :: a16 :: a17 :: a18 :: a19 :: a20 :: a21 :: a22 :: a23 :: a24 :: a25 :: a26 :: a27 :: some d :: r) S) : mG tb (.nm 28) d (a0 :: a1 :: a2 :: a3 :: a4 :: a5 :: a6 :: a7 :: a8 :: a9 :: a10 :: a11 :: a12 :: a13 :: a14 :: a15 :: a16 :: a17 :: a18 :: a19 :: a20 :: a21 :: a22 :: a23 :: a24 :: a25 :: a26 :: a27 :: x :: r) S P := k
theorem g29 {a0 a1 a2 a3 a4 a5 a6 a7 a8 a9 a10 a11 a12 a13 a14 a15 a16 a17 a18 a19 a20 a21 a22 a23 a24 a25 a26 a27 a28 : Option D} {x : Option D} {d : D} {r : DSt} {P : DSt → Sto → Prop} {tb : Tb} (k : P (a0 :: a1 :: a2 :: a3 :: a4 :: a5 :: a6 :: a7 :: a8 :: a9 :: a10 :: a11 :: a12 :: a13 :: a14 :: a15 :: a16 :: a17 :: a18 :: a19 :: a20 :: a21 :: a22 :: a23 :: a24 :: a25 :: a26 :: a27 :: a28 :: some d :: r) S) : mG tb (.nm 29) d (a0 :: a1 :: a2 :: a3 :: a4 :: a5 :: a6 :: a7 :: a8 :: a9 :: a10 :: a11 :: a12 :: a13 :: a14 :: a15 :: a16 :: a17 :: a18 :: a19 :: a20 :: a21 :: a22 :: a23 :: a24 :: a25 :: a26 :: a27 :: a28 :: x :: r) S P := k
theorem g30 {a0 a1 a2 a3 a4 a5 a6 a7 a8 a9 a10 a11 a12 a13 a14 a15 a16 a17 a18 a19 a20 a21 a22 a23 a24 a25 a26 a27 a28 a29 : Option D} {x : Option D} {d : D} {r : DSt} {P : DSt → Sto → Prop} {tb : Tb} (k : P (a0 :: a1 :: a2 :: a3 :: a4 :: a5 :: a6 :: a7 :: a8 :: a9 :: a10 :: a11 :: a12 :: a13 :: a14 :: a15 :: a16 :: a17 :: a18 :: a19 :: a20 :: a21 :: a22 :: a23 :: a24 :: a25 :: a26 :: a27 :: a28 :: a29 :: some d :: r) S) : mG tb (.nm 30) d (a0 :: a1 :: a2 :: a3 :: a4 :: a5 :: a6 :: a7 :: a8 :: a9 :: a10 :: a11 :: a12 :: a13 :: a14 :: a15 :: a16 :: a17 :: a18 :: a19 :: a20 :: a21 :: a22 :: a23 :: a24 :: a25 :: a26 :: a27 :: a28 :: a29 :: x :: r) S P := k
theorem g31 {a0 a1 a2 a3 a4 a5 a6 a7 a8 a9 a10 a11 a12 a13 a14 a15 a16 a17 a18 a19 a20 a21 a22 a23 a24 a25 a26 a27 a28 a29 a30 : Option D} {x : Option D} {d : D} {r : DSt} {P : DSt → Sto → Prop} {tb : Tb} (k : P (a0 :: a1 :: a2 :: a3 :: a4 :: a5 :: a6 :: a7 :: a8 :: a9 :: a10 :: a11 :: a12 :: a13 :: a14 :: a15 :: a16 :: a17 :: a18 :: a19 :: a20 :: a21 :: a22 :: a23 :: a24 :: a25 :: a26 :: a27 :: a28 :: a29 :: a30 :: some d :: r) S) : mG tb (.nm 31) d (a0 :: a1 :: a2 :: a3 :: a4 :: a5 :: a6 :: a7 :: a8 :: a9 :: a10 :: a11 :: a12 :: a13 :: a14 :: a15 :: a16 :: a17 :: a18 :: a19 :: a20 :: a21 :: a22 :: a23 :: a24 :: a25 :: a26 :: a27 :: a28 :: a29 :: a30 :: x :: r) S P := k
theorem g32 {a0 a1 a2 a3 a4 a5 a6 a7 a8 a9 a10 a11 a12 a13 a14 a15 a16 a17 a18 a19 a20 a21 a22 a23 a24 a25 a26 a27 a28 a29 a30 a31 : Option D} {x : Option D} {d : D} {r : DSt} {P : DSt → Sto → Prop} {tb : Tb} (k : P (a0 :: a1 :: a2 :: a3 :: a4 :: a5 :: a6 :: a7 :: a8 :: a9 :: a10 :: a11 :: a12 :: a13 :: a14 :: a15 :: a16 :: a17 :: a18 :: a19 :: a20 :: a21 :: a22 :: a23 :: a24 :: a25 :: a26 :: a27 :: a28 :: a29 :: a30 :: a31 :: some d :: r) S) : mG tb (.nm 32) d (a0 :: a1 :: a2 :: a3 :: a4 :: a5 :: a6 :: a7 :: a8 :: a9 :: a10 :: a11 :: a12 :: a13 :: a14 :: a15 :: a16 :: a17 :: a18 :: a19 :: a20 :: a21 :: a22 :: a23 :: a24 :: a25 :: a26 :: a27 :: a28 :: a29 :: a30 :: a31 :: x :: r) S P := k
theorem g33 {a0 a1 a2 a3 a4 a5 a6 a7 a8 a9 a10 a11 a12 a13 a14 a15 a16 a17 a18 a19 a20 a21 a22 a23 a24 a25 a26 a27 a28 a29 a30 a31 a32 : Option D} {x : Option D} {d : D} {r : DSt} {P : DSt → Sto → Prop} {tb : Tb} (k : P (a0 :: a1 :: a2 :: a3 :: a4 :: a5 :: a6 :: a7 :: a8 :: a9 :: a10 :: a11 :: a12 :: a13 :: a14 :: a15 :: a16 :: a17 :: a18 :: a19 :: a20 :: a21 :: a22 :: a23 :: a24 :: a25 :: a26 :: a27 :: a28 :: a29 :: a30 :: a31 :: a32 :: some d :: r) S) : mG tb (.nm 33) d (a0 :: a1 :: a2 :: a3 :: a4 :: a5 :: a6 :: a7 :: a8 :: a9 :: a10 :: a11 :: a12 :: a13 :: a14 :: a15 :: a16 :: a17 :: a18 :: a19 :: a20 :: a21 :: a22 :: a23 :: a24 :: a25 :: a26 :: a27 :: a28 :: a29 :: a30 :: a31 :: a32 :: x :: r) S P := k
theorem m_var {i : Nat} {d : D} (h : σ[i]? = some (some d)) (k : K d S) : mE M cu (.var i) σ S K E := ⟨d, h, k⟩
theorem m_cst {d : D} (k : K d S) : mE M cu (.cst d) σ S K E := k
theorem m_tup {es : CEs} (k : mEs M cu es σ S (fun xs S1 => xs.length ≤ sizeLine ∧ K (.tup xs) S1) E) : mE M cu (.tup es) σ S K E := k
theorem m_lst {es : CEs} (k : mEs M cu es σ S (fun xs S1 => xs.length ≤ sizeLine ∧ ∀ p, S1 p = none → K (.ref p) (sup S1 p (.lst xs))) E) : mE M cu (.lst es) σ S K E := k
theorem m_dic (k : ∀ p, S p = none → K (.ref p) (sup S p (.dic []))) : mE M cu .dic0 σ S K E := k
theorem m_op {o : Operator} {a b : CE} (k : mE M cu a σ S (fun x S1 => mE M cu b σ S1 (fun y S2 => opM M o x y S2 K E) E) E) : mE M cu (.op o a b) σ S K E := k
theorem m_cmp {o : CmpOp} {a b : CE} (k : mE M cu a σ S (fun x S1 => mE M cu b σ S1 (fun y S2 => cmpM M o x y S2 K E) E) E) : mE M cu (.cmp o a b) σ S K E := k
theorem m_chn {o o' : CmpOp} {a b c : CE} (k : mE M cu a σ S (fun x S1 => mE M cu b σ S1 (fun y S2 => cmpM M o x y S2 (fun z S3 => ∃ k, z = .bl k ∧ (if k = true then mE M cu c σ S3 (fun w S4 => cmpM M o' y w S4 K E) E else K (.bl false) S3)) E) E) E) : mE M cu (.chn o o' a b c) σ S K E := k
theorem m_and {a b : CE} (k : mE M cu a σ S (fun x S1 => M.tru x S1 (fun k S2 => if k = true then mE M cu b σ S2 K E else K x S2) E) E) : mE M cu (.and a b) σ S K E := k
theorem m_or {a b : CE} (k : mE M cu a σ S (fun x S1 => M.tru x S1 (fun k S2 => if k = true then K x S2 else mE M cu b σ S2 K E) E) E) : mE M cu (.or a b) σ S K E := k
theorem m_not {a : CE} (k : mE M cu a σ S (fun x S1 => M.tru x S1 (fun k S2 => K (.bl (!k)) S2) E) E) : mE M cu (.not a) σ S K E := k
def negK (K : DK) : DK := fun x S => match x with
  | .int i => K (.int (-i)) S
  | _ => False
theorem n_int {K : DK} {i : Int} (k : K (.int (-i)) S) : negK K (.int i) S := k
theorem m_neg {a : CE} (k : mE M cu a σ S (negK K) E) : mE M cu (.neg a) σ S K E := k
theorem m_negc {i : Int} (k : K (.int (-i)) S) : mE M cu (.neg (.cst (.int i))) σ S K E := k
theorem m_ite {c : CT} {a b : CE} (k : mT M cu c σ S (fun c S1 => if c = true then mE M cu a σ S1 K E else mE M cu b σ S1 K E) E) : mE M cu (.ite c a b) σ S K E := k
theorem m_ix {a b : CE} (k : mE M cu a σ S (fun x S1 => mE M cu b σ S1 (fun y S2 => ixX M.own x y S2 K E) E) E) : mE M cu (.ix a b) σ S K E := k
theorem m_sl {a lo hi : CE} (k : mE M cu a σ S (fun x S1 => mE M cu lo σ S1 (fun l S2 => mE M cu hi σ S2 (fun h S3 => slD x l h S3 K) E) E) E) : mE M cu (.sl a lo hi) σ S K E := k
theorem m_att {e : CE} {f : Str} (k : mE M cu e σ S (fun o S1 => attC M cu f o S1 K) E) : mE M cu (.att e f) σ S K E := k
theorem m_call {f : DL.Key} {es : CEs} (k : mEs M cu es σ S (fun ds S1 => callO M.fi M.orc f ds S1 K E) E) : mE M cu (.call f es) σ S K E := k
theorem m_make {c : Str} {es : CEs} (k : mEs M cu es σ S (fun ds S1 => makeO M.tb M.fi M.orc c ds S1 K E) E) : mE M cu (.make c es) σ S K E := k
theorem m_blt {b : Str} {es : CEs} (k : mEs M cu es σ S (fun ds S1 => bltM M b ds S1 K E) E) : mE M cu (.blt b es) σ S K E := k
theorem m_lrg {es : CEs} (k : mEs M cu es σ S (fun vs S1 => ∃ i j, (vs = [.int j] ∧ i = 0 ∨ vs = [.int i, .int j]) ∧ okR i ∧ okR j ∧ (j - i).toNat ≤ sizeLine ∧ ∀ p, S1 p = none → K (.ref p) (sup S1 p (.lst (rgD i (j - i).toNat)))) E) : mE M cu (.lrg es) σ S K E := k
theorem lrg1 {j : Int} {S : Sto} {K : DK} (h1 : -(2 ^ 62) ≤ j) (h2 : j < 2 ^ 62) (hz : j.toNat ≤ sizeLine) (k : ∀ p, S p = none → K (.ref p) (sup S p (.lst (rgD 0 j.toNat)))) : ∃ i j', ([D.int j] = [.int j'] ∧ i = 0 ∨ [D.int j] = [.int i, .int j']) ∧ okR i ∧ okR j' ∧ (j' - i).toNat ≤ sizeLine ∧ ∀ p, S p = none → K (.ref p) (sup S p (.lst (rgD i (j' - i).toNat))) := ⟨0, j, .inl ⟨rfl, rfl⟩, ⟨by decide, by decide⟩, ⟨h1, h2⟩, by simpa using hz, by simpa using k⟩
theorem m_nil (k : KA [] S) : mEs M cu .nil σ S KA E := k
theorem m_cons {e : CE} {es : CEs} (k : mE M cu e σ S (fun x S1 => mEs M cu es σ S1 (fun xs S2 => KA (x :: xs) S2) E) E) : mEs M cu (.cons e es) σ S KA E := k
theorem m_tval {e : CE} (k : mE M cu e σ S (fun x S1 => M.tru x S1 KT E) E) : mT M cu (.val e) σ S KT E := k
theorem m_tcmp {o : CmpOp} {a b : CE} (k : mE M cu a σ S (fun x S1 => mE M cu b σ S1 (fun y S2 => cmpM M o x y S2 (kB KT) E) E) E) : mT M cu (.cmp o a b) σ S KT E := k
theorem m_tchn {o o' : CmpOp} {a b c : CE} (k : mE M cu a σ S (fun x S1 => mE M cu b σ S1 (fun y S2 => cmpM M o x y S2 (fun z S3 => ∃ k, z = .bl k ∧ (if k = true then mE M cu c σ S3 (fun w S4 => cmpM M o' y w S4 (kB KT) E) E else kB KT (.bl false) S3)) E) E) E) : mT M cu (.chn o o' a b c) σ S KT E := k
theorem m_chk {b : Bool} {P Q : Prop} (h : if b = true then P else Q) : ∃ k, D.bl b = D.bl k ∧ (if k = true then P else Q) := ⟨b, rfl, h⟩
theorem m_tand {a b : CT} (k : mT M cu a σ S (fun x S1 => if x = true then mT M cu b σ S1 KT E else KT false S1) E) : mT M cu (.and a b) σ S KT E := k
theorem m_tor {a b : CT} (k : mT M cu a σ S (fun x S1 => if x = true then KT true S1 else mT M cu b σ S1 KT E) E) : mT M cu (.or a b) σ S KT E := k
theorem m_tnot {a : CT} (k : mT M cu a σ S (fun x S1 => KT (!x) S1) E) : mT M cu (.not a) σ S KT E := k
theorem m_tite {c a b : CT} (k : mT M cu c σ S (fun x S1 => if x = true then mT M cu a σ S1 KT E else mT M cu b σ S1 KT E) E) : mT M cu (.ite c a b) σ S KT E := k
theorem t_bl {b : Bool} (k : KT b S) : M.tru (.bl b) S KT E := .inl k
theorem t_non (k : KT false S) : M.tru .non S KT E := .inl k
theorem t_int {i : Int} (k : KT (i != 0) S) : M.tru (.int i) S KT E := .inl k
theorem t_tup {xs : List D} (k : KT (!xs.isEmpty) S) : M.tru (.tup xs) S KT E := .inl k
theorem t_rol {xs : List D} (k : KT (!xs.isEmpty) S) : M.tru (.rol xs) S KT E := .inl k
theorem t_lst {a : Addr} {xs : List D} (h : S a = some (.lst xs)) (k : KT (!xs.isEmpty) S) : M.tru (.ref a) S KT E := by
  refine .inl ?_
  show truD _ _ _ _ _
  simp only [truD, h]; exact k
theorem t_slo {a : Addr} {c : Str} {vs : List (Option D)} {ce : ClsE} (h : S a = some (.slo c vs)) (hc : M.tb c = some ce) (hm : ce.meths.contains "__bool__" = true) (k : callO M.fi M.orc (c, some "__bool__") [.ref a] S (kB KT) E) : M.tru (.ref a) S KT E := by
  refine .inl ?_
  show truD _ _ _ _ _
  simp only [truD, h]
  exact ⟨c, ⟨a, _, ce, rfl, h, rfl, hc, by simpa using hm⟩, k⟩
theorem m_ssnil (k : nx σ S) : mSs M cu .nil ⟨nx, rt, bk, ct, ex⟩ σ S := k
theorem m_sscons {s : CS} {r : CSs} (k : mS M cu s ⟨mSs M cu r ⟨nx, rt, bk, ct, ex⟩, rt, bk, ct, ex⟩ σ S) : mSs M cu (.cons s r) ⟨nx, rt, bk, ct, ex⟩ σ S := k
theorem m_sret {e : CE} (k : mE M cu e σ S rt (fun c fs S => ex c fs σ S)) : mS M cu (.ret e) ⟨nx, rt, bk, ct, ex⟩ σ S := k
theorem m_sretN (k : rt .non S) : mS M cu .retN ⟨nx, rt, bk, ct, ex⟩ σ S := k
theorem m_spass (k : nx σ S) : mS M cu .pass ⟨nx, rt, bk, ct, ex⟩ σ S := k
theorem m_sbrk (k : bk σ S) : mS M cu .brk ⟨nx, rt, bk, ct, ex⟩ σ S := k
theorem m_scont (k : ct σ S) : mS M cu .cont ⟨nx, rt, bk, ct, ex⟩ σ S := k
theorem m_sexpr {e : CE} (k : mE M cu e σ S (fun _ S1 => nx σ S1) (fun c fs S => ex c fs σ S)) : mS M cu (.expr e) ⟨nx, rt, bk, ct, ex⟩ σ S := k
theorem m_siff {c : CT} {a b : CSs} (k : mT M cu c σ S (fun x S1 => if x = true then mSs M cu a ⟨nx, rt, bk, ct, ex⟩ σ S1 else mSs M cu b ⟨nx, rt, bk, ct, ex⟩ σ S1) (fun c fs S => ex c fs σ S)) : mS M cu (.iff c a b) ⟨nx, rt, bk, ct, ex⟩ σ S := k
theorem m_sasg {e : CE} {g : CG} (k : mE M cu e σ S (fun x S1 => mG M.tb g x σ S1 nx) (fun c fs S => ex c fs σ S)) : mS M cu (.asg e g) ⟨nx, rt, bk, ct, ex⟩ σ S := k
theorem m_spar {i j : Nat} {a b : CE} (k : mE M cu a σ S (fun v S1 => mE M cu b σ S1 (fun w S2 => mG M.tb (.nm i) v σ S2 fun σ3 S3 => mG M.tb (.nm j) w σ3 S3 nx) (fun c fs S => ex c fs σ S)) (fun c fs S => ex c fs σ S)) : mS M cu (.par i j a b) ⟨nx, rt, bk, ct, ex⟩ σ S := by
  refine Eq.mp ?_ k
  show _ = mE M cu a σ S (fun v S1 => mE M cu b σ S1 (fun w S2 => ∃ v' w', [v, w] = [v', w'] ∧ nx ((σ.set i (some v')).set j (some w')) S2) (fun c fs S => ex c fs σ S)) (fun c fs S => ex c fs σ S)
  congr 1
  funext v S1
  congr 1
  funext w S2
  refine propext ⟨fun h => ⟨v, w, rfl, h⟩, fun ⟨v', w', e, h⟩ => ?_⟩
  cases e
  exact h
theorem m_sset {e o : CE} {f : Str} (k : mE M cu e σ S (fun d S1 => mE M cu o σ S1 (fun o S2 => setAD M.tb f o d S2 fun S3 => nx σ S3) (fun c fs S => ex c fs σ S)) (fun c fs S => ex c fs σ S)) : mS M cu (.setA e o f) ⟨nx, rt, bk, ct, ex⟩ σ S := k
theorem m_ssub {e o i : CE} (k : mE M cu e σ S (fun x S1 => mE M cu o σ S1 (fun o S2 => mE M cu i σ S2 (fun i S3 => setX o i x S3 fun S4 => nx σ S4) (fun c fs S => ex c fs σ S)) (fun c fs S => ex c fs σ S)) (fun c fs S => ex c fs σ S)) : mS M cu (.sub e o i) ⟨nx, rt, bk, ct, ex⟩ σ S := k
theorem m_saug {i : Nat} {o : Operator} {e : CE} (k : mE M cu (.var i) σ S (fun x S0 => mE M cu e σ S0 (fun y S1 => inpM o x y S1 (fun z S2 => mG M.tb (.nm i) z σ S2 nx) (fun c fs S => ex c fs σ S)) (fun c fs S => ex c fs σ S)) (fun c fs S => ex c fs σ S)) : mS M cu (.aug i o e) ⟨nx, rt, bk, ct, ex⟩ σ S := k
theorem m_srais {cn f : Str} {e : CE} (k : mE M cu e σ S (fun v S1 => ex cn [(f, v)] σ S1) (fun c fs S => ex c fs σ S)) : mS M cu (.raise cn f e) ⟨nx, rt, bk, ct, ex⟩ σ S := by
  refine Eq.mp ?_ k
  show _ = mE M cu e σ S (fun v S1 => ∃ w, [v] = [w] ∧ ex cn [(f, w)] σ S1) (fun c fs S => ex c fs σ S)
  congr 1
  funext v S1
  exact propext ⟨fun h => ⟨v, rfl, h⟩, fun ⟨w, e, h⟩ => by cases e; exact h⟩
/-- try: b, except c as i: h; c is the class, f its one field -/
theorem m_tryAs {c : Str} {i : Nat} {b h : CSs} (k : mSs M cu b ⟨nx, rt, bk, ct, fun cls fs σ' S' => ∃ b, M.sx cls c = some b ∧ if b = true then suiteD i (fun cu' => mSs { M with fi := fun _ => none } (some cu') h) ⟨nx, rt, bk, ct, ex⟩ cls fs σ' S' else ex cls fs σ' S'⟩ σ S) : mS M cu (.tryAs c i b h) ⟨nx, rt, bk, ct, ex⟩ σ S := k
theorem m_try {b : CSs} {hs : CHs} (k : mSs M cu b ⟨nx, rt, bk, ct, manyD M.sx ⟨nx, rt, bk, ct, ex⟩ (mHs M hs)⟩ σ S) : mS M cu (.try_ b hs) ⟨nx, rt, bk, ct, ex⟩ σ S := k
theorem u_as {i : Nat} {M' : Env1} {h : CSs} {cls : Str} {fs : List (Str × D)} (hne : fs ≠ [])
    (k : ∀ a dd, S a = none → (∀ o, S dd = some o → ∃ fs', o = .exd fs') → Le S (sup S dd (.exd fs)) → mG M'.tb (.nm i) (.ref a) σ (sup S dd (.exd fs)) fun σ' S' => mSs M' (some (a, cls, some dd)) h ⟨fun σ2 S2 => nx (σ2.set i none) S2, rt, fun σ2 S2 => bk (σ2.set i none) S2, fun σ2 S2 => ct (σ2.set i none) S2, noX⟩ σ' S') :
    suiteD i (fun cu' => mSs M' (some cu') h) ⟨nx, rt, bk, ct, ex⟩ cls fs σ S := fun a d ha hd hx => by
  cases d with
  | none => exact absurd (hd rfl) hne
  | some dd => exact k a dd ha (hx dd rfl) (Le.caught hx)
theorem u_no {M' : Env1} {h : CSs} {cls : Str} {fs : List (Str × D)} (k : ∀ a d, Le S (caught S d fs) → mSs M' (some (a, cls, d)) h ⟨nx, rt, bk, ct, noX⟩ σ (caught S d fs)) :
    suite0D (fun cu' => mSs M' (some cu') h) ⟨nx, rt, bk, ct, ex⟩ cls fs σ S := fun a d ha hd hx => k a d (Le.caught hx)
/-- targets -/
theorem g_tup {n : Nat} {gs : CGs} {xs : List D} {P : DSt → Sto → Prop} {tb : Tb} (hn : xs.length = n) (k : mGs tb gs xs σ S P) : mG tb (.tup n gs) (.tup xs) σ S P := ⟨xs, rfl, hn, k⟩
theorem g_nm {i : Nat} {d : D} {P : DSt → Sto → Prop} {tb : Tb} (k : P (σ.set i (some d)) S) : mG tb (.nm i) d σ S P := k
theorem g_lst {n : Nat} {gs : CGs} {a : Addr} {xs : List D} {P : DSt → Sto → Prop} {tb : Tb} (h : S a = some (.lst xs)) (hn : xs.length = n) (k : mGs tb gs xs σ S P) : mG tb (.tup n gs) (.ref a) σ S P := ⟨xs, by simp only [seqOf, h], hn, k⟩
theorem g_att {i : Nat} {f : Str} {o d : D} {P : DSt → Sto → Prop} {tb : Tb} (h : σ[i]? = some (some o)) (k : setAD tb f o d S (fun S' => P σ S')) : mG tb (.att i f) d σ S P := ⟨o, h, k⟩
theorem g_nil {P : DSt → Sto → Prop} {tb : Tb} (k : P σ S) : mGs tb .nil [] σ S P := ⟨rfl, k⟩
theorem g_cons {g : CG} {gs : CGs} {x : D} {xs : List D} {P : DSt → Sto → Prop} {tb : Tb} (k : mG tb g x σ S (fun σ1 S1 => mGs tb gs xs σ1 S1 P)) : mGs tb (.cons g gs) (x :: xs) σ S P := ⟨x, xs, rfl, k⟩
theorem blt_eq (b : Str) (r : DB) (h : ∀ ds S K E, bltM M b ds S K E = r ds S K E) {ds : List D} (k : r ds S K E) : bltM M b ds S K E := by rw [h]; exact k

theorem blt_abs {ds : List D} (k : absD ds S K E) : bltM M "abs" ds S K E := blt_eq "abs" (absD) (fun ds S K E => if_pos rfl) k
theorem blt_int {ds : List D} (k : int1D ds S K E) : bltM M "int" ds S K E := blt_eq "int" (int1D) (fun ds S K E => (if_neg (by decide)).trans <| if_pos rfl) k
theorem blt_bool {ds : List D} (k : boolXD M.tru ds S K E) : bltM M "bool" ds S K E := blt_eq "bool" (boolXD M.tru) (fun ds S K E => (if_neg (by decide)).trans <| (if_neg (by decide)).trans <| if_pos rfl) k
theorem blt_len {ds : List D} (k : (fun ds S K E => lenD ds S K E ∨ lenLf ds S K E) ds S K E) : bltM M "len" ds S K E := blt_eq "len" ((fun ds S K E => lenD ds S K E ∨ lenLf ds S K E)) (fun ds S K E => (if_neg (by decide)).trans <| (if_neg (by decide)).trans <| (if_neg (by decide)).trans <| if_pos rfl) k
theorem blt_max {ds : List D} (k : (fun ds S K E => max2D ds S K E ∨ maxlD ds S K E) ds S K E) : bltM M "max" ds S K E := blt_eq "max" ((fun ds S K E => max2D ds S K E ∨ maxlD ds S K E)) (fun ds S K E => (if_neg (by decide)).trans <| (if_neg (by decide)).trans <| (if_neg (by decide)).trans <| (if_neg (by decide)).trans <| if_pos rfl) k
theorem blt_min {ds : List D} (k : (fun ds S K E => min2D ds S K E ∨ minlD ds S K E) ds S K E) : bltM M "min" ds S K E := blt_eq "min" ((fun ds S K E => min2D ds S K E ∨ minlD ds S K E)) (fun ds S K E => (if_neg (by decide)).trans <| (if_neg (by decide)).trans <| (if_neg (by decide)).trans <| (if_neg (by decide)).trans <| (if_neg (by decide)).trans <| if_pos rfl) k
theorem blt_sum {ds : List D} (k : sumD ds S K E) : bltM M "sum" ds S K E := blt_eq "sum" (sumD) (fun ds S K E => (if_neg (by decide)).trans <| (if_neg (by decide)).trans <| (if_neg (by decide)).trans <| (if_neg (by decide)).trans <| (if_neg (by decide)).trans <| (if_neg (by decide)).trans <| if_pos rfl) k
theorem blt_all {ds : List D} (k : allD ds S K E) : bltM M "all" ds S K E := blt_eq "all" (allD) (fun ds S K E => (if_neg (by decide)).trans <| (if_neg (by decide)).trans <| (if_neg (by decide)).trans <| (if_neg (by decide)).trans <| (if_neg (by decide)).trans <| (if_neg (by decide)).trans <| (if_neg (by decide)).trans <| if_pos rfl) k
theorem blt_any {ds : List D} (k : anyD ds S K E) : bltM M "any" ds S K E := blt_eq "any" (anyD) (fun ds S K E => (if_neg (by decide)).trans <| (if_neg (by decide)).trans <| (if_neg (by decide)).trans <| (if_neg (by decide)).trans <| (if_neg (by decide)).trans <| (if_neg (by decide)).trans <| (if_neg (by decide)).trans <| (if_neg (by decide)).trans <| if_pos rfl) k
theorem blt_list {ds : List D} (k : listD ds S K E) : bltM M "list" ds S K E := blt_eq "list" (listD) (fun ds S K E => (if_neg (by decide)).trans <| (if_neg (by decide)).trans <| (if_neg (by decide)).trans <| (if_neg (by decide)).trans <| (if_neg (by decide)).trans <| (if_neg (by decide)).trans <| (if_neg (by decide)).trans <| (if_neg (by decide)).trans <| (if_neg (by decide)).trans <| if_pos rfl) k
theorem blt_tuple {ds : List D} (k : tupleD ds S K E) : bltM M "tuple" ds S K E := blt_eq "tuple" (tupleD) (fun ds S K E => (if_neg (by decide)).trans <| (if_neg (by decide)).trans <| (if_neg (by decide)).trans <| (if_neg (by decide)).trans <| (if_neg (by decide)).trans <| (if_neg (by decide)).trans <| (if_neg (by decide)).trans <| (if_neg (by decide)).trans <| (if_neg (by decide)).trans <| (if_neg (by decide)).trans <| if_pos rfl) k
theorem blt_repr {ds : List D} (k : reprD ds S K E) : bltM M "repr" ds S K E := blt_eq "repr" (reprD) (fun ds S K E => (if_neg (by decide)).trans <| (if_neg (by decide)).trans <| (if_neg (by decide)).trans <| (if_neg (by decide)).trans <| (if_neg (by decide)).trans <| (if_neg (by decide)).trans <| (if_neg (by decide)).trans <| (if_neg (by decide)).trans <| (if_neg (by decide)).trans <| (if_neg (by decide)).trans <| (if_neg (by decide)).trans <| if_pos rfl) k
theorem blt_isinstance {ds : List D} (k : isiD M.tb M.tab ds S K E) : bltM M "isinstance" ds S K E := blt_eq "isinstance" (isiD M.tb M.tab) (fun ds S K E => (if_neg (by decide)).trans <| (if_neg (by decide)).trans <| (if_neg (by decide)).trans <| (if_neg (by decide)).trans <| (if_neg (by decide)).trans <| (if_neg (by decide)).trans <| (if_neg (by decide)).trans <| (if_neg (by decide)).trans <| (if_neg (by decide)).trans <| (if_neg (by decide)).trans <| (if_neg (by decide)).trans <| (if_neg (by decide)).trans <| if_pos rfl) k
theorem blt_sorted {ds : List D} (k : sortedD ds S K E) : bltM M "sorted" ds S K E := blt_eq "sorted" (sortedD) (fun ds S K E => (if_neg (by decide)).trans <| (if_neg (by decide)).trans <| (if_neg (by decide)).trans <| (if_neg (by decide)).trans <| (if_neg (by decide)).trans <| (if_neg (by decide)).trans <| (if_neg (by decide)).trans <| (if_neg (by decide)).trans <| (if_neg (by decide)).trans <| (if_neg (by decide)).trans <| (if_neg (by decide)).trans <| (if_neg (by decide)).trans <| (if_neg (by decide)).trans <| if_pos rfl) k
theorem b_abs {i : Int} (k : K (.int (if i < 0 then -i else i)) S) : bltM M "abs" [.int i] S K E := blt_abs ⟨i, rfl, k⟩
theorem b_int {i : Int} (k : K (.int i) S) : bltM M "int" [.int i] S K E := blt_int (.inl ⟨i, rfl, k⟩)
theorem b_intb {b : Bool} (k : K (.int (if b then 1 else 0)) S) : bltM M "int" [.bl b] S K E := blt_int (.inr ⟨b, rfl, k⟩)
theorem b_bool {x : D} (k : M.tru x S (fun b S' => K (.bl b) S') E) : bltM M "bool" [x] S K E := blt_bool ⟨x, rfl, k⟩
theorem b_len {a : Addr} {xs : List D} (h : S a = some (.lst xs)) (k : K (.int xs.length) S) : bltM M "len" [.ref a] S K E := blt_len (.inl ⟨_, rfl, .inl ⟨xs, by simp only [itemsD, h], k⟩⟩)
theorem b_lenr {xs : List D} (k : K (.int xs.length) S) : bltM M "len" [.rol xs] S K E := blt_len (.inl ⟨_, rfl, .inl ⟨xs, rfl, k⟩⟩)
theorem b_lent {xs : List D} (k : K (.int xs.length) S) : bltM M "len" [.tup xs] S K E := blt_len (.inl ⟨_, rfl, .inl ⟨xs, rfl, k⟩⟩)
theorem b_lens {x : Str} (h : x.length ≤ sizeLine) (k : K (.int x.length) S) : bltM M "len" [.str x] S K E := blt_len (.inl ⟨_, rfl, .inr ⟨x, rfl, h, k⟩⟩)
theorem b_max {i j : Int} (k : K (.int (if j > i then j else i)) S) : bltM M "max" [.int i, .int j] S K E := blt_max (.inl ⟨i, j, rfl, k⟩)
theorem b_min {i j : Int} (k : K (.int (if j < i then j else i)) S) : bltM M "min" [.int i, .int j] S K E := blt_min (.inl ⟨i, j, rfl, k⟩)
theorem b_isi {x y : D} {t c : TyC} {b : Bool} (ht : tyD M.tb S x = some t) (hc : clD y = some c) (hb : M.tab t c = some b) (k : K (.bl b) S) : bltM M "isinstance" [x, y] S K E := blt_isinstance ⟨x, y, t, b, rfl, ht, k, .inl ⟨c, hc, hb⟩⟩
theorem b_repr {d : D} {p : PyData} (h : toPyR S 64 d = some p) (ho : p.showable = true) (hl : p.shown.length ≤ sizeLine) (k : K (.str p.shown) S) : bltM M "repr" [d] S K E := blt_repr ⟨d, p, rfl, h, ⟨ho, hl⟩, k⟩
theorem b_reprd {a : Addr} (h : S a = some (.dic [])) (k : K (.str (PyData.dict []).shown) S) : bltM M "repr" [.ref a] S K E := b_repr (p := .dict []) (by simp only [toPyR, h, mapP, Option.map]) (by decide +kernel) (by decide +kernel) k
theorem b_sorted {a : Addr} {nss : List (List Int)} {d : Nat} (h : S a = some (.lst (nss.map tupI))) (hd : 1 ≤ d) (hl : ∀ ns ∈ nss, ns.length = d) (k : ∀ (mss : List (List Int)) (p : Addr), mss.Perm nss → mss.Pairwise (fun x y => lexI y x = false) → S p = none → K (.ref p) (sup S p (.lst (mss.map tupI)))) : bltM M "sorted" [.ref a] S K E := blt_sorted ⟨a, nss, d, rfl, h, hd, hl, k⟩
theorem b_minl {a : Addr} {ns : List Int} (h : S a = some (.lst (ns.map D.int))) (h0 : 0 < ns.length) (k : ∀ m, m ∈ ns → (∀ y, y ∈ ns → m ≤ y) → K (.int m) S) : bltM M "min" [.ref a] S K E := blt_min (.inr ⟨_, ns, rfl, by simp only [litemsD, h], h0, k⟩)
theorem b_maxl {a : Addr} {ns : List Int} (h : S a = some (.lst (ns.map D.int))) (h0 : 0 < ns.length) (k : ∀ m, m ∈ ns → (∀ y, y ∈ ns → y ≤ m) → K (.int m) S) : bltM M "max" [.ref a] S K E := blt_max (.inr ⟨_, ns, rfl, by simp only [litemsD, h], h0, k⟩)
theorem k_is {x : D} (k : K (.bl (isN x)) S) : cmpM M .Is x .non S K E := .inl ⟨rfl, k⟩
theorem k_isn {x : D} (k : K (.bl (!isN x)) S) : cmpM M .IsNot x .non S K E := .inl ⟨rfl, k⟩
theorem k_isb {a b : Bool} (k : K (.bl (decide (a = b))) S) : cmpM M .Is (.bl a) (.bl b) S K E := .inr ⟨a, b, rfl, rfl, k⟩
theorem k_isnb {a b : Bool} (k : K (.bl (!decide (a = b))) S) : cmpM M .IsNot (.bl a) (.bl b) S K E := .inr ⟨a, b, rfl, rfl, k⟩
theorem k_eqt0 {xs : List D} (k : K (.bl xs.isEmpty) S) : cmpM M .Eq (.tup xs) (.tup []) S K E := .inr (.inl ⟨xs, rfl, rfl, by simpa using k⟩)
theorem k_eql0 {a b : Addr} {xs : List D} (ha : S a = some (.lst xs)) (hb : S b = some (.lst [])) (k : K (.bl xs.isEmpty) S) : cmpM M .Eq (.ref a) (.ref b) S K E := .inr (.inr ⟨a, b, xs, rfl, rfl, ha, hb, by simpa using k⟩)
theorem k_lt {i j : Int} (k : K (.bl (decide (i < j))) S) : cmpM M .Lt (.int i) (.int j) S K E := k
theorem k_le {i j : Int} (k : K (.bl (decide (i ≤ j))) S) : cmpM M .LtE (.int i) (.int j) S K E := k
theorem k_gt {i j : Int} (k : K (.bl (decide (j < i))) S) : cmpM M .Gt (.int i) (.int j) S K E := k
theorem k_ge {i j : Int} (k : K (.bl (decide (j ≤ i))) S) : cmpM M .GtE (.int i) (.int j) S K E := k
theorem k_eq {x y : D} {p q : PyData} (hx : toPy S 64 x = some p) (hy : toPy S 64 y = some q) (k : K (.bl (PyData.eqv p q)) S) : cmpM M .Eq x y S K E := by
  refine .inl ?_
  show eqDn _ _ _ _ _ _ _
  unfold eqDn; rw [hx, hy]; simpa using k
theorem k_ne {x y : D} {p q : PyData} (hx : toPy S 64 x = some p) (hy : toPy S 64 y = some q) (k : K (.bl (!PyData.eqv p q)) S) : cmpM M .NotEq x y S K E := by
  show eqDn _ _ _ _ _ _ _
  unfold eqDn; rw [hx, hy]; simpa using k
theorem k_eqi {i j : Int} (k : K (.bl (decide (i = j))) S) : cmpM M .Eq (.int i) (.int j) S K E := k_eq rfl rfl k
theorem k_nei {i j : Int} (k : K (.bl (!decide (i = j))) S) : cmpM M .NotEq (.int i) (.int j) S K E := k_ne rfl rfl k
theorem k_eqb {i j : Bool} (k : K (.bl (decide (i = j))) S) : cmpM M .Eq (.bl i) (.bl j) S K E := k_eq rfl rfl k
theorem k_neb {i j : Bool} (k : K (.bl (!decide (i = j))) S) : cmpM M .NotEq (.bl i) (.bl j) S K E := k_ne rfl rfl k
theorem k_eqs {i j : Str} (k : K (.bl (decide (i = j))) S) : cmpM M .Eq (.str i) (.str j) S K E := k_eq rfl rfl k
theorem k_nes {i j : Str} (k : K (.bl (!decide (i = j))) S) : cmpM M .NotEq (.str i) (.str j) S K E := k_ne rfl rfl k
theorem k_eqnn (k : K (.bl true) S) : cmpM M .Eq .non .non S K E := k_eq rfl rfl k
theorem k_eqni {j : Int} (k : K (.bl false) S) : cmpM M .Eq .non (.int j) S K E := k_eq rfl rfl k
theorem k_eqin {j : Int} (k : K (.bl false) S) : cmpM M .Eq (.int j) .non S K E := k_eq rfl rfl k
theorem k_nenn (k : K (.bl false) S) : cmpM M .NotEq .non .non S K E := k_ne rfl rfl k
theorem k_neni {j : Int} (k : K (.bl true) S) : cmpM M .NotEq .non (.int j) S K E := k_ne rfl rfl k
theorem k_nein {j : Int} (k : K (.bl true) S) : cmpM M .NotEq (.int j) .non S K E := k_ne rfl rfl k
theorem k_eqis {i : Int} {x : Str} (k : K (.bl false) S) : cmpM M .Eq (.int i) (.str x) S K E := k_eq rfl rfl k
theorem k_eqsi {i : Int} {x : Str} (k : K (.bl false) S) : cmpM M .Eq (.str x) (.int i) S K E := k_eq rfl rfl k
theorem k_eqns {x : Str} (k : K (.bl false) S) : cmpM M .Eq .non (.str x) S K E := k_eq rfl rfl k
theorem k_eqsn {x : Str} (k : K (.bl false) S) : cmpM M .Eq (.str x) .non S K E := k_eq rfl rfl k
theorem k_neis {i : Int} {x : Str} (k : K (.bl true) S) : cmpM M .NotEq (.int i) (.str x) S K E := k_ne rfl rfl k
theorem k_nesi {i : Int} {x : Str} (k : K (.bl true) S) : cmpM M .NotEq (.str x) (.int i) S K E := k_ne rfl rfl k
theorem k_nens {x : Str} (k : K (.bl true) S) : cmpM M .NotEq .non (.str x) S K E := k_ne rfl rfl k
theorem k_nesn {x : Str} (k : K (.bl true) S) : cmpM M .NotEq (.str x) .non S K E := k_ne rfl rfl k
/-- an instance's == -/
theorem k_eqo {a : Addr} {c : Str} {ob : SO} {ce : ClsE} {y : D} {t : TyC} (h : S a = some ob) (hn : ob.cn = some c) (hc : M.tb c = some ce) (hm : ce.meths.contains "__eq__" = true) (ht : tyD M.tb S y = some t) (k : callO M.fi M.orc (c, some "__eq__") [.ref a, y] S K E) : cmpM M .Eq (.ref a) y S K E := by
  have hi : isIns (S a) = true := by rw [h]; cases ob <;> first | rfl | cases hn
  have e1 : toPy S 64 (.ref a) = none := by
    show (match S a with | some (.lst xs) => _ | _ => none) = none
    rw [h]; cases ob <;> first | rfl | cases hn
  refine .inl ?_
  show eqDn _ _ _ _ _ _ _
  unfold eqDn
  rw [e1]
  exact ⟨a, rfl, hi, (if_pos rfl).mpr ⟨c, t, ⟨a, ob, ce, rfl, h, hn, hc, by simpa using hm⟩, ht, k⟩⟩
theorem k_neo {a : Addr} {c : Str} {ob : SO} {ce : ClsE} {y : D} {t : TyC} (h : S a = some ob) (hn : ob.cn = some c) (hc : M.tb c = some ce) (hm : ce.meths.contains "__eq__" = true) (ht : tyD M.tb S y = some t) (k : callO M.fi M.orc (c, some "__eq__") [.ref a, y] S (notK K) E) : cmpM M .NotEq (.ref a) y S K E := by
  have hi : isIns (S a) = true := by rw [h]; cases ob <;> first | rfl | cases hn
  have e1 : toPy S 64 (.ref a) = none := by
    show (match S a with | some (.lst xs) => _ | _ => none) = none
    rw [h]; cases ob <;> first | rfl | cases hn
  show eqDn _ _ _ _ _ _ _
  unfold eqDn
  rw [e1]
  exact ⟨a, rfl, hi, (if_neg (by decide)).mpr <| (if_pos rfl).mpr ⟨c, t, ⟨a, ob, ce, rfl, h, hn, hc, by simpa using hm⟩, ht, k⟩⟩
theorem toPy_ins {a : Addr} {ob : SO} {c : Str} (h : S a = some ob) (hn : ob.cn = some c) {n : Nat} : toPy S n (.ref a) = none := by
  cases n with
  | zero => rfl
  | succ n =>
    show (match S a with | some (.lst xs) => _ | _ => none) = none
    rw [h]; cases ob <;> first | rfl | cases hn
/-- x in instance -/
theorem k_ino {a : Addr} {c : Str} {ob : SO} {ce : ClsE} {x : D} (h : S a = some ob) (hn : ob.cn = some c) (hc : M.tb c = some ce) (hm : ce.meths.contains "__contains__" = true) (k : callO M.fi M.orc (c, some "__contains__") [.ref a, x] S (blK K) E) : cmpM M .In x (.ref a) S K E := by
  have hi : isIns (S a) = true := by rw [h]; cases ob <;> first | rfl | cases hn
  have q : ∃ a', D.ref a = .ref a' ∧ isIns (S a') = true ∧ M.own "__contains__" x (.ref a) S K E := ⟨a, rfl, hi, (if_neg (by decide)).mpr <| (if_neg (by decide)).mpr <| (if_pos rfl).mpr ⟨c, ⟨a, ob, ce, rfl, h, hn, hc, by simpa using hm⟩, k⟩⟩
  refine .inl ?_
  show inDn _ _ _ _ _ _ _
  have e1 : toPy S 64 (.ref a) = none := toPy_ins h hn
  cases x <;> (unfold inDn; simp only [e1]; split <;> first | exact q | contradiction)
theorem o_add {i j : Int} (k : K (.int (i + j)) S) : opM M .Add (.int i) (.int j) S K E := .inl k
theorem o_adds {i j : Str} (h : i.length + j.length ≤ sizeLine) (k : K (.str (i ++ j)) S) : opM M .Add (.str i) (.str j) S K E := .inl ⟨h, k⟩
theorem o_addt {i j : List D} (h : i.length + j.length ≤ sizeLine) (k : K (.tup (i ++ j)) S) : opM M .Add (.tup i) (.tup j) S K E := .inl ⟨h, k⟩
theorem o_addl {a b : Addr} {xs ys : List D} (h1 : S a = some (.lst xs)) (h2 : S b = some (.lst ys)) (h : xs.length + ys.length ≤ sizeLine) (k : ∀ p, S p = none → K (.ref p) (sup S p (.lst (xs ++ ys)))) : opM M .Add (.ref a) (.ref b) S K E := by
  refine .inl ?_
  simp only [addD, h1, h2]
  exact ⟨h, k⟩
theorem o_addoi {a : Addr} {i : Int} {c : Str} {ob : SO} {ce : ClsE} (h : S a = some ob) (hn : ob.cn = some c) (hc : M.tb c = some ce) (hm : ce.meths.contains "__add__" = true) (k : callO M.fi M.orc (c, some "__add__") [.ref a, .int i] S K E) : opM M .Add (.ref a) (.int i) S K E := by
  have hi : isIns (S a) = true := by rw [h]; cases ob <;> first | rfl | cases hn
  exact .inr ⟨a, rfl, hi, (if_neg (by decide)).mpr <| (if_neg (by decide)).mpr <| (if_neg (by decide)).mpr <| (if_neg (by decide)).mpr <| (if_neg (by decide)).mpr <| (if_pos rfl).mpr ⟨c, i, ⟨a, ob, ce, rfl, h, hn, hc, by simpa using hm⟩, rfl, k⟩⟩
theorem o_oro {a b : Addr} {c : Str} {ob oc : SO} {ce : ClsE} (h : S a = some ob) (hn : ob.cn = some c) (hc : M.tb c = some ce) (hm : ce.meths.contains "__or__" = true) (h2 : S b = some oc) (hn2 : oc.cn = some c) (k : callO M.fi M.orc (c, some "__or__") [.ref a, .ref b] S K E) : opM M .BitOr (.ref a) (.ref b) S K E := by
  have hi : isIns (S a) = true := by rw [h]; cases ob <;> first | rfl | cases hn
  exact ⟨a, rfl, hi, (if_neg (by decide)).mpr <| (if_neg (by decide)).mpr <| (if_neg (by decide)).mpr <| (if_neg (by decide)).mpr <| (if_pos (.inr (.inr rfl))).mpr ⟨c, b, oc, ⟨a, ob, ce, rfl, h, hn, hc, by simpa using hm⟩, rfl, h2, hn2, k⟩⟩
theorem o_sub {i j : Int} (k : K (.int (i - j)) S) : opM M .Sub (.int i) (.int j) S K E := ⟨trivial, k⟩
theorem o_mul {i j : Int} (h : CMulD i j) (k : K (.int (i * j)) S) : opM M .Mult (.int i) (.int j) S K E := .inl ⟨h, k⟩
theorem o_mult {xs : List D} {i : Int} (h0 : xs ≠ []) (h1 : 2 ≤ i) (h2 : i ≤ 1000) (h3 : xs.length ≤ 1000) (k : K (.tup (List.replicate i.toNat xs).flatten) S) : opM M .Mult (.tup xs) (.int i) S K E := .inr ⟨xs, i, rfl, rfl, h0, h1, h2, h3, k⟩
theorem o_div {i j : Int} (h : CDivW i j) (k : K (.int (i / j)) S) : opM M .FloorDiv (.int i) (.int j) S K E := ⟨h, k⟩
theorem o_mod {i j : Int} (h : 0 < j) (k : K (.int (i % j)) S) : opM M .Mod (.int i) (.int j) S K E := ⟨h, k⟩
theorem o_pow {i j : Int} (h : CPow i j) (k : K (.int (i ^ j.toNat)) S) : opM M .Pow (.int i) (.int j) S K E := ⟨h, k⟩
theorem p_add {i j : Int} (k : K (.int (i + j)) S) : inpM .Add (.int i) (.int j) S K E := k
theorem p_sub {i j : Int} (k : K (.int (i - j)) S) : inpM .Sub (.int i) (.int j) S K E := ⟨trivial, k⟩
theorem o_ando {a b : Addr} {c : Str} {ob oc : SO} {ce : ClsE} (h : S a = some ob) (hn : ob.cn = some c) (hc : M.tb c = some ce) (hm : ce.meths.contains "__and__" = true) (h2 : S b = some oc) (hn2 : oc.cn = some c) (k : callO M.fi M.orc (c, some "__and__") [.ref a, .ref b] S K E) : opM M .BitAnd (.ref a) (.ref b) S K E := by
  have hi : isIns (S a) = true := by rw [h]; cases ob <;> first | rfl | cases hn
  exact ⟨a, rfl, hi, (if_neg (by decide)).mpr <| (if_neg (by decide)).mpr <| (if_neg (by decide)).mpr <| (if_neg (by decide)).mpr <| (if_pos (.inr (.inl rfl))).mpr ⟨c, b, oc, ⟨a, ob, ce, rfl, h, hn, hc, by simpa using hm⟩, rfl, h2, hn2, k⟩⟩
theorem x_lst {ow : Own} {a : Addr} {xs : List D} {i : Int} {d : D} (h : S a = some (.lst xs)) (hi : atI xs i = some d) (k : K d S) : ixX ow (.ref a) (.int i) S K E := by
  refine .inl ?_
  show ixD2 _ _ _ _ _ _
  simp only [ixD2, seqOf, h]
  exact ⟨d, hi, k⟩
theorem x_tup {ow : Own} {xs : List D} {i : Int} {d : D} (hi : atI xs i = some d) (k : K d S) : ixX ow (.tup xs) (.int i) S K E := .inl ⟨d, hi, k⟩
theorem x_rol {ow : Own} {xs : List D} {i : Int} {d : D} (hi : atI xs i = some d) (k : K d S) : ixX ow (.rol xs) (.int i) S K E := .inl ⟨d, hi, k⟩
theorem s_lst {a : Addr} {xs : List D} {i : Int} {j : Nat} {d : D} {P : Sto → Prop} (h : S a = some (.lst xs)) (hj : ixN xs.length i = some j) (k : P (sup S a (.lst (xs.set j d)))) : setX (.ref a) (.int i) d S P := by
  refine .inl ?_
  show (match S a with | some (.lst xs) => _ | _ => False)
  rw [h]
  exact ⟨j, hj, k⟩
theorem a_slo {tb : Tb} {fi : DL.Key → Option FI} {orc : Orc} {a : Addr} {c f : Str} {vs : List (Option D)} {ce : ClsE} {i : Nat} {d : D} (h : S a = some (.slo c vs)) (hc : tb c = some ce) (hp : ce.props.contains f = false) (hs : ce.slo = true) (hi : ixOf f ce.fields = some i) (hv : vs[i]? = some (some d)) (k : K d S) : attD tb fi orc f (.ref a) S K := by
  refine ⟨a, _, c, ce, rfl, h, rfl, hc, ?_⟩
  rw [if_neg (by simpa using hp)]
  exact ⟨hs, i, d, hi, hv, k⟩
theorem a_ins {tb : Tb} {fi : DL.Key → Option FI} {orc : Orc} {a : Addr} {c f : Str} {vs : List (Str × D)} {ce : ClsE} {d : D} (h : S a = some (.ins c vs)) (hc : tb c = some ce) (hp : ce.props.contains f = false) (hs : ce.slo = false) (hi : ce.fields.contains f = true) (hv : vs.lookup f = some d) (k : K d S) : attD tb fi orc f (.ref a) S K := by
  refine ⟨a, _, c, ce, rfl, h, rfl, hc, ?_⟩
  rw [if_neg (by simpa using hp)]
  exact ⟨hs, by simpa using hi, d, hv, k⟩
theorem a_prop {tb : Tb} {fi : DL.Key → Option FI} {orc : Orc} {a : Addr} {c f : Str} {ob : SO} {ce : ClsE} (h : S a = some ob) (hn : ob.cn = some c) (hc : tb c = some ce) (hp : ce.props.contains f = true) (k : callO fi orc (c, some f) [.ref a] S K (fun _ _ _ => False)) : attD tb fi orc f (.ref a) S K := by
  refine ⟨a, ob, c, ce, rfl, h, hn, hc, ?_⟩
  rw [if_pos (by simpa using hp)]
  exact k
theorem a_o {f : Str} {o : D} (k : attD M.tb M.fi M.orc f o S K) : attC M cu f o S K := .inr k
theorem a_e {f c : Str} {a dd : Addr} {d : D} {fs : List (Str × D)} (hf : M.et c = some f) (h : S dd = some (.exd fs)) (hl : fs.lookup f = some d) (k : K d S) : attC M (some (a, c, some dd)) f (.ref a) S K := .inl ⟨a, c, dd, fs, d, rfl, rfl, hf, h, hl, k⟩
theorem sa_slo {tb : Tb} {a : Addr} {c f : Str} {vs : List (Option D)} {ce : ClsE} {i : Nat} {d : D} {P : Sto → Prop} (h : S a = some (.slo c vs)) (hc : tb c = some ce) (hs : ce.slo = true) (hi : ixOf f ce.fields = some i) (k : P (sup S a (.slo c ((vs ++ List.replicate (i + 1 - vs.length) none).set i (some d))))) : setAD tb f (.ref a) d S P :=
  ⟨a, _, c, ce, rfl, h, rfl, hc, hs, i, hi, k⟩
theorem sa_ins {tb : Tb} {a : Addr} {c f : Str} {vs : List (Str × D)} {ce : ClsE} {d : D} {P : Sto → Prop} (h : S a = some (.ins c vs)) (hc : tb c = some ce) (hs : ce.slo = false) (hi : ce.fields.contains f = true) (hl : vs.length < 1000) (k : P (sup S a (.ins c (putD f d vs)))) : setAD tb f (.ref a) d S P :=
  ⟨a, _, c, ce, rfl, h, rfl, hc, hs, by simpa using hi, hl, k⟩
theorem m_callI {i : Nat} {es : CEs} (k : mE M cu (.var i) σ S (fun o S1 => ∃ c, hasM M.tb S1 "__call__" o c ∧ mEs M cu es σ S1 (fun xs S2 => hasM M.tb S2 "__call__" o c ∧ callO M.fi M.orc (c, some "__call__") (o :: xs) S2 K E) E) E) : mE M cu (.callI i es) σ S K E := k
theorem has_m {tb : Tb} {a : Addr} {ob : SO} {c m : Str} {ce : ClsE} (h : S a = some ob) (hn : ob.cn = some c) (hc : tb c = some ce) (hm : ce.meths.contains m = true) : hasM tb S m (.ref a) c := ⟨a, ob, ce, rfl, h, hn, hc, by simpa using hm⟩
theorem LeX.frs {T : Sto} {p q : Addr} {o : SO} (h : S q = none) (l : LeX p S T) : LeX p S (sup T q o) := fun a x n i g => look_ne (ne_new h g) (l a x n i g)
theorem LeX.nw {T : Sto} {p q : Addr} {o : SO} (l : LeX p S T) (h : T q = none) : LeX p S (sup T q o) := fun a x n i g => look_old h (l a x n i g)
theorem LeX.mt {T : Sto} {p : Addr} {o : SO} (l : LeX p S T) : LeX p S (sup T p o) := l.trans .mut
theorem LeX.tr {T U : Sto} {p : Addr} (l : LeX p S T) (l' : Le T U) : LeX p S U := l.trans l'.x
theorem m_methO {e : CE} {m : Str} {es : CEs} (k : mE M cu e σ S (fun o S1 => ∃ a ob, o = .ref a ∧ S1 a = some ob ∧ match ob.cn with
  | some c => (∃ ce, M.tb c = some ce ∧ m ∈ ce.meths ∧ ob.bare m) ∧ mEs M cu es σ S1 (fun xs S2 => callO M.fi M.orc (c, some m) (o :: xs) S2 K E) E
  | none => (isLst ob = true ∧ isLm m = true ∧ mEs M cu es σ S1 (fun xs S2 => lmD m (o :: xs) S2 K E) E) ∨ (isDic ob = true ∧ isDm m = true ∧ mEs M cu es σ S1 (fun xs S2 => dmD m (o :: xs) S2 K E) E)) E) : mE M cu (.meth e m es) σ S K E := k
theorem mm_slo {a : Addr} {c m : Str} {vs : List (Option D)} {ce : ClsE} {P : Prop} (h : S a = some (.slo c vs)) (hc : M.tb c = some ce) (hm : ce.meths.contains m = true) {es : CEs} (k : mEs M cu es σ S (fun xs S2 => callO M.fi M.orc (c, some m) (.ref a :: xs) S2 K E) E) : ∃ a' ob, D.ref a = .ref a' ∧ S a' = some ob ∧ match ob.cn with
  | some c => (∃ ce, M.tb c = some ce ∧ m ∈ ce.meths ∧ ob.bare m) ∧ mEs M cu es σ S (fun xs S2 => callO M.fi M.orc (c, some m) (.ref a :: xs) S2 K E) E
  | none => (isLst ob = true ∧ isLm m = true ∧ mEs M cu es σ S (fun xs S2 => lmD m (.ref a :: xs) S2 K E) E) ∨ (isDic ob = true ∧ isDm m = true ∧ mEs M cu es σ S (fun xs S2 => dmD m (.ref a :: xs) S2 K E) E) := ⟨a, _, rfl, h, ⟨ce, hc, by simpa using hm, trivial⟩, k⟩
theorem mm_ins {a : Addr} {c m : Str} {vs : List (Str × D)} {ce : ClsE} {P : Prop} (h : S a = some (.ins c vs)) (hc : M.tb c = some ce) (hm : ce.meths.contains m = true) (hb : vs.lookup m = none) {es : CEs} (k : mEs M cu es σ S (fun xs S2 => callO M.fi M.orc (c, some m) (.ref a :: xs) S2 K E) E) : ∃ a' ob, D.ref a = .ref a' ∧ S a' = some ob ∧ match ob.cn with
  | some c => (∃ ce, M.tb c = some ce ∧ m ∈ ce.meths ∧ ob.bare m) ∧ mEs M cu es σ S (fun xs S2 => callO M.fi M.orc (c, some m) (.ref a :: xs) S2 K E) E
  | none => (isLst ob = true ∧ isLm m = true ∧ mEs M cu es σ S (fun xs S2 => lmD m (.ref a :: xs) S2 K E) E) ∨ (isDic ob = true ∧ isDm m = true ∧ mEs M cu es σ S (fun xs S2 => dmD m (.ref a :: xs) S2 K E) E) := ⟨a, _, rfl, h, ⟨ce, hc, by simpa using hm, hb⟩, k⟩
theorem mm_lst {a : Addr} {m : Str} {xs : List D} {P : Prop} (h : S a = some (.lst xs)) (hm : isLm m = true) {es : CEs} (k : mEs M cu es σ S (fun xs S2 => lmD m (.ref a :: xs) S2 K E) E) : ∃ a' ob, D.ref a = .ref a' ∧ S a' = some ob ∧ match ob.cn with
  | some c => (∃ ce, M.tb c = some ce ∧ m ∈ ce.meths ∧ ob.bare m) ∧ mEs M cu es σ S (fun xs S2 => callO M.fi M.orc (c, some m) (.ref a :: xs) S2 K E) E
  | none => (isLst ob = true ∧ isLm m = true ∧ mEs M cu es σ S (fun xs S2 => lmD m (.ref a :: xs) S2 K E) E) ∨ (isDic ob = true ∧ isDm m = true ∧ mEs M cu es σ S (fun xs S2 => dmD m (.ref a :: xs) S2 K E) E) := ⟨a, _, rfl, h, .inl ⟨rfl, hm, k⟩⟩
theorem mm_dic {a : Addr} {m : Str} {kvs : List (D × D)} (h : S a = some (.dic kvs)) (hm : isDm m = true) {es : CEs} (k : mEs M cu es σ S (fun xs S2 => dmD m (.ref a :: xs) S2 K E) E) : ∃ a' ob, D.ref a = .ref a' ∧ S a' = some ob ∧ match ob.cn with
  | some c => (∃ ce, M.tb c = some ce ∧ m ∈ ce.meths ∧ ob.bare m) ∧ mEs M cu es σ S (fun xs S2 => callO M.fi M.orc (c, some m) (.ref a :: xs) S2 K E) E
  | none => (isLst ob = true ∧ isLm m = true ∧ mEs M cu es σ S (fun xs S2 => lmD m (.ref a :: xs) S2 K E) E) ∨ (isDic ob = true ∧ isDm m = true ∧ mEs M cu es σ S (fun xs S2 => dmD m (.ref a :: xs) S2 K E) E) := ⟨a, _, rfl, h, .inr ⟨rfl, hm, k⟩⟩
theorem dg_get1 {a : Addr} {kvs : List (D × D)} {y : D} (h : S a = some (.dic kvs)) (hy : isLf y = true) (hl : allLf kvs = true) (k : K ((atD kvs y).getD .non) S) : dmD "get" [.ref a, y] S K E := (if_pos rfl).mpr ⟨a, kvs, y, .non, .inl ⟨rfl, rfl⟩, h, hy, hl, k⟩
theorem dg_get2 {a : Addr} {kvs : List (D × D)} {y z : D} (h : S a = some (.dic kvs)) (hy : isLf y = true) (hl : allLf kvs = true) (k : K ((atD kvs y).getD z) S) : dmD "get" [.ref a, y, z] S K E := (if_pos rfl).mpr ⟨a, kvs, y, z, .inr rfl, h, hy, hl, k⟩
theorem k_ind {a : Addr} {kvs : List (D × D)} {x : D} (h : S a = some (.dic kvs)) (hy : isLf x = true) (hl : allLf kvs = true) (k : K (.bl (atD kvs x).isSome) S) : cmpM M .In x (.ref a) S K E := .inr ⟨a, kvs, rfl, h, hy, hl, by simpa using k⟩
theorem k_nind {a : Addr} {kvs : List (D × D)} {x : D} (h : S a = some (.dic kvs)) (hy : isLf x = true) (hl : allLf kvs = true) (k : K (.bl (!(atD kvs x).isSome)) S) : cmpM M .NotIn x (.ref a) S K E := .inr ⟨a, kvs, rfl, h, hy, hl, by simpa using k⟩
theorem x_dic {ow : Own} {a : Addr} {kvs : List (D × D)} {y d : D} (h : S a = some (.dic kvs)) (hy : isLf y = true) (hl : allLf kvs = true) (hd : atD kvs y = some d) (k : K d S) : ixX ow (.ref a) y S K E := .inr ⟨a, kvs, d, rfl, h, hy, hl, hd, k⟩
theorem s_dic {a : Addr} {kvs : List (D × D)} {y d : D} {P : Sto → Prop} (h : S a = some (.dic kvs)) (hy : isLf y = true) (hl : allLf kvs = true) (hz : kvs.length < sizeLine) (k : P (sup S a (.dic (putKD kvs y d)))) : setX (.ref a) y d S P := .inr ⟨a, kvs, rfl, h, hy, hl, hz, k⟩
theorem b_lend {a : Addr} {kvs : List (D × D)} (h : S a = some (.dic kvs)) (hl : allLf kvs = true) (k : K (.int kvs.length) S) : bltM M "len" [.ref a] S K E := blt_len (.inr ⟨a, kvs, rfl, h, hl, k⟩)
theorem t_dic {a : Addr} {kvs : List (D × D)} (h : S a = some (.dic kvs)) (hl : allLf kvs = true) (k : KT (!kvs.isEmpty) S) : M.tru (.ref a) S KT E := .inr ⟨a, kvs, rfl, h, hl, k⟩
theorem m_dsp {ps : CPs} (k : ∀ p, S p = none → mPs M cu ps σ (sup S p (.dic [])) (fun ps S2 => S2 p = some (.dic []) ∧ allLf ps = true ∧ ps.length ≤ 15 ∧ K (.ref p) (sup S2 p (.dic (mergeKD [] ps)))) E) : mE M cu (.dsp ps) σ S K E := k
theorem mp_nil {KP : List (D × D) → Sto → Prop} (k : KP [] S) : mPs M cu .nil σ S KP E := k
theorem mp_cons {a b : CE} {r : CPs} {KP : List (D × D) → Sto → Prop} (k : mE M cu a σ S (fun y S1 => mE M cu b σ S1 (fun z S2 => mPs M cu r σ S2 (fun ps S3 => KP ((y, z) :: ps) S3) E) E) E) : mPs M cu (.cons a b r) σ S KP E := k
theorem m_mat {e : CE} {cs : CCs} (k : mE M cu e σ S (fun d S1 => mCs M cu cs d ⟨nx, rt, bk, ct, ex⟩ σ S1) (fun c fs S => ex c fs σ S)) : mS M cu (.mat e cs) ⟨nx, rt, bk, ct, ex⟩ σ S := k
theorem mc_nil {d : D} (k : nx σ S) : mCs M cu .nil d ⟨nx, rt, bk, ct, ex⟩ σ S := k
theorem mc_any {d : D} {b : CSs} {r : CCs} (k : mSs M cu b ⟨nx, rt, bk, ct, ex⟩ σ S) : mCs M cu (.cons .any b r) d ⟨nx, rt, bk, ct, ex⟩ σ S := k
theorem mc_val {w x : Str} {b : CSs} {r : CCs} (k : if decide (x = w) = true then mSs M cu b ⟨nx, rt, bk, ct, ex⟩ σ S else mCs M cu r (.str x) ⟨nx, rt, bk, ct, ex⟩ σ S) : mCs M cu (.cons (.val w) b r) (.str x) ⟨nx, rt, bk, ct, ex⟩ σ S := ⟨.str x, rfl, k⟩
theorem mc_seq {w x : Str} {is : List Nat} {ds : List D} {b : CSs} {r : CCs} (k : if decide (ds.length = is.length ∧ x = w) = true then mSs M cu b ⟨nx, rt, bk, ct, ex⟩ (setAll is ds σ) S else mCs M cu r (.tup (.str x :: ds)) ⟨nx, rt, bk, ct, ex⟩ σ S) : mCs M cu (.cons (.seq w is) b r) (.tup (.str x :: ds)) ⟨nx, rt, bk, ct, ex⟩ σ S := by
  show (if ds.length = is.length then eqW S (.str x) w _ _ else _)
  by_cases h1 : ds.length = is.length
  · rw [if_pos h1]
    refine ⟨.str x, rfl, ?_⟩
    show if decide (x = w) = true then _ else _
    by_cases h2 : x = w
    · rw [if_pos (by simp [h2])]
      rw [if_pos (by simp [h1, h2])] at k
      exact k
    · rw [if_neg (by simp [h2])]
      rw [if_neg (by simp [h2])] at k
      exact k
  · rw [if_neg h1]
    rw [if_neg (by simp [h1])] at k
    exact k
/-- .. the form at literal lists -/
theorem mc_seqn {w x : Str} {is : List Nat} {ds : List D} {b : CSs} {r : CCs} (hn : ds.length ≠ is.length) (k : mCs M cu r (.tup (.str x :: ds)) ⟨nx, rt, bk, ct, ex⟩ σ S) : mCs M cu (.cons (.seq w is) b r) (.tup (.str x :: ds)) ⟨nx, rt, bk, ct, ex⟩ σ S := mc_seq (by rw [if_neg (by simp [hn])]; exact k)
theorem mc_seqw {w x : Str} {is : List Nat} {ds : List D} {b : CSs} {r : CCs} (hn : x ≠ w) (k : mCs M cu r (.tup (.str x :: ds)) ⟨nx, rt, bk, ct, ex⟩ σ S) : mCs M cu (.cons (.seq w is) b r) (.tup (.str x :: ds)) ⟨nx, rt, bk, ct, ex⟩ σ S := mc_seq (by rw [if_neg (by simp [hn])]; exact k)
theorem l_app {a : Addr} {xs : List D} {y : D} (h : S a = some (.lst xs)) (hl : xs.length < sizeLine) (k : K .non (sup S a (.lst (xs ++ [y])))) : lmD "append" [.ref a, y] S K E := (if_pos rfl).mpr ⟨a, xs, y, rfl, h, hl, k⟩
theorem c_run {G : Prg} {n : Nat} {key : DL.Key} {ds : List D} {f : FE} (hf : G.fe key = some f) (hl : ds.length = f.fi.ps.length) (k : mCall G n key ds S K E) : callO (G.env (mCall G n)).fi (G.env (mCall G n)).orc key ds S K E := by
  refine ⟨f.fi, ?_, by omega, by omega, ?_⟩
  · show Option.map _ (G.fe key) = _
    rw [hf]
    rfl
  · rw [hl, Nat.sub_self, Nat.sub_zero, List.drop_length, List.append_nil]
    exact k
theorem c_make {G : Prg} {n : Nat} {c : Str} {ce : ClsE} {ds : List D} {f : FE} (hc : G.tb c = some ce) (hf : G.fe (c, some "__init__") = some f) (hl : ds.length + 1 = f.fi.ps.length)
    (k : ∀ x, S x = none → mCall G n (c, some "__init__") (.ref x :: ds) (sup S x (if ce.slo then .slo c [] else .ins c [])) (fun v S' => v = .non ∧ K (.ref x) S') E) : makeO (G.env (mCall G n)).tb (G.env (mCall G n)).fi (G.env (mCall G n)).orc c ds S K E := by
  refine ⟨ce, hc, f.fi, ?_, by omega, by omega, fun x hx => ?_⟩
  · show Option.map _ (G.fe _) = _
    rw [hf]
    rfl
  · have e : f.fi.dfl.drop (f.fi.dfl.length - (f.fi.ps.length - (ds.length + 1))) = [] := by
      rw [hl, Nat.sub_self, Nat.sub_zero, List.drop_length]
    show mCall G n _ (.ref x :: ds ++ _) _ _ _
    rw [e, List.append_nil]
    exact k x hx
theorem l_ext {a b : Addr} {xs ys : List D} (h : S a = some (.lst xs)) (h' : S b = some (.lst ys)) (hl : xs.length + ys.length ≤ sizeLine) (k : K .non (sup S a (.lst (xs ++ ys)))) : lmD "extend" [.ref a, .ref b] S K E := (if_neg (by decide)).mpr <| (if_pos rfl).mpr ⟨a, b, xs, ys, rfl, h, h', hl, k⟩
theorem sl_lst {a : Addr} {xs : List D} {lo hi : D} {l h' : Option Int} (h : S a = some (.lst xs)) (hl : ptD lo = some l) (hh : ptD hi = some h') (k : ∀ p, S p = none → K (.ref p) (sup S p (.lst (cutD xs l h')))) : slD (.ref a) lo hi S K := ⟨l, h', hl, hh, by simp only [h]; exact k⟩
theorem sl_tup {xs : List D} {lo hi : D} {l h' : Option Int} (hl : ptD lo = some l) (hh : ptD hi = some h') (k : K (.tup (cutD xs l h')) S) : slD (.tup xs) lo hi S K := ⟨l, h', hl, hh, k⟩
theorem b_list {d : D} {xs : List D} (h : itemsD S d = some xs) (k : ∀ p, S p = none → K (.ref p) (sup S p (.lst xs))) : bltM M "list" [d] S K E := blt_list ⟨d, xs, rfl, h, k⟩
theorem b_listl {a : Addr} {xs : List D} (h : S a = some (.lst xs)) (k : ∀ p, S p = none → K (.ref p) (sup S p (.lst xs))) : bltM M "list" [.ref a] S K E := b_list (by simp only [itemsD, h]) k
theorem b_tupl {a : Addr} {xs : List D} (h : S a = some (.lst xs)) (k : K (.tup xs) S) : bltM M "tuple" [.ref a] S K E := blt_tuple ⟨_, xs, rfl, by simp only [itemsD, h], k⟩
theorem b_all' {a : Addr} {bs : List Bool} (h : S a = some (.lst (bs.map D.bl))) (k : K (.bl (bs.all id)) S) : bltM M "all" [.ref a] S K E := blt_all ⟨_, bs, rfl, by simp only [litemsD, h], k⟩
theorem b_any' {a : Addr} {bs : List Bool} (h : S a = some (.lst (bs.map D.bl))) (k : K (.bl (bs.any id)) S) : bltM M "any" [.ref a] S K E := blt_any ⟨_, bs, rfl, by simp only [litemsD, h], k⟩
def RngK (vs : List D) (R : ItD → Sto → Prop) (S : Sto) : Prop := (∃ j, vs = [.int j] ∧ okR j ∧ R (itL (rgD 0 j.toNat)) S) ∨ ∃ i j, vs = [.int i, .int j] ∧ okR i ∧ okR j ∧ R (itL (rgD i (j - i).toNat)) S
theorem rng1 {R : ItD → Sto → Prop} {j : Int} (h1 : -(2 ^ 62) ≤ j) (h2 : j < 2 ^ 62) (k : R (itL (rgD 0 j.toNat)) S) : RngK [.int j] R S := .inl ⟨j, rfl, ⟨h1, h2⟩, k⟩
theorem rng2 {R : ItD → Sto → Prop} {i j : Int} (h1 : -(2 ^ 62) ≤ i) (h2 : i < 2 ^ 62) (h3 : -(2 ^ 62) ≤ j) (h4 : j < 2 ^ 62) (k : R (itL (rgD i (j - i).toNat)) S) : RngK [.int i, .int j] R S := .inr ⟨i, j, rfl, ⟨h1, h2⟩, ⟨h3, h4⟩, k⟩
def SeqK (d : D) (R : ItD → Sto → Prop) (S : Sto) : Prop := ((itemsD S d).isSome = true ∧ R (itOf d) S) ∨ ∃ x, d = .str x ∧ R (itL (signsD x)) S
theorem m_iseq {e : CE} {R : ItD → Sto → Prop} (k : mE M cu e σ S (fun d S1 => SeqK d R S1) E) : mI M cu (.seq e) σ S R E := k
theorem m_irng {es : CEs} {R : ItD → Sto → Prop} (k : mEs M cu es σ S (fun vs S1 => RngK vs R S1) E) : mI M cu (.rng es) σ S R E := k
theorem m_ienu {es : CEs} {R : ItD → Sto → Prop} (k : mEs M cu es σ S (fun ds S1 => ∃ d, ds = [d] ∧ (litemsD S1 d).isSome = true ∧ R (enuIt d) S1) E) : mI M cu (.enu es) σ S R E := k
theorem q_enu {a : Addr} {xs : List D} {P : D → Prop} (h : S a = some (.lst xs)) (k : P (.ref a)) : ∃ d, [D.ref a] = [d] ∧ (litemsD S d).isSome = true ∧ P d := ⟨_, rfl, by simp only [litemsD, h]; rfl, k⟩
theorem q_lst {a : Addr} {xs : List D} {R : ItD → Sto → Prop} (h : S a = some (.lst xs)) (k : R (itOf (.ref a)) S) : SeqK (.ref a) R S := .inl ⟨by simp only [itemsD, h]; rfl, k⟩
theorem q_tup {xs : List D} {R : ItD → Sto → Prop} (k : R (itOf (.tup xs)) S) : SeqK (.tup xs) R S := .inl ⟨rfl, k⟩
theorem q_rol {xs : List D} {R : ItD → Sto → Prop} (k : R (itOf (.rol xs)) S) : SeqK (.rol xs) R S := .inl ⟨rfl, k⟩
theorem q_str {x : Str} {R : ItD → Sto → Prop} (k : R (itL (signsD x)) S) : SeqK (.str x) R S := .inr ⟨x, rfl, k⟩
def ForL (M : Env1) (cu : Option Cur) (it : ItD) (g : CG) (b : CSs) (D0 : DKs) (σ : DSt) (S1 : Sto) : Prop := ∃ W : Nat → Nat → DSt → Sto → Prop, (∃ m, W 0 m σ S1) ∧ ∀ i m σ S, W i m σ S → ∃ xs, it S = some xs ∧
  ((xs.length ≤ i ∧ D0.nx σ S) ∨ ∃ d, xs[i]? = some d ∧ mG M.tb g d σ S fun σ2 S2 => mSs M cu b { D0 with nx := fun σ' S' => ∃ m', m' < m ∧ W (i + 1) m' σ' S', ct := fun σ' S' => ∃ m', m' < m ∧ W (i + 1) m' σ' S', bk := D0.nx } σ2 S2)
theorem m_sfor {it : CI} {g : CG} {b : CSs} (k : mI M cu it σ S (fun it' S1 => ForL M cu it' g b ⟨nx, rt, bk, ct, ex⟩ σ S1) (fun c fs S => ex c fs σ S)) : mS M cu (.for_ it g b) ⟨nx, rt, bk, ct, ex⟩ σ S := k
/-- the items stay: a wish over the turns -/
theorem for_at {it : ItD} {g : CG} {b : CSs} (xs : List D) (W : Nat → DSt → Sto → Prop) (h0 : W 0 σ S) (hx : ∀ i σ S, W i σ S → it S = some xs)
    (turn : ∀ i σ S d (N : DSt → Sto → Prop), W i σ S → xs[i]? = some d → (∀ σ S, W (i + 1) σ S → N σ S) → mG M.tb g d σ S fun σ2 S2 => mSs M cu b ⟨N, rt, nx, N, ex⟩ σ2 S2) (fin : ∀ σ S, W xs.length σ S → nx σ S) :
    ForL M cu it g b ⟨nx, rt, bk, ct, ex⟩ σ S := by
  refine ⟨fun i m σ S => W i σ S ∧ i ≤ xs.length ∧ m = xs.length - i, ⟨_, h0, Nat.zero_le _, rfl⟩, ?_⟩
  rintro i m σ S ⟨hw, hi, rfl⟩
  refine ⟨xs, hx i σ S hw, ?_⟩
  by_cases h : xs.length ≤ i
  · exact .inl ⟨h, fin σ S (by rw [show xs.length = i by omega]; exact hw)⟩
  · have hl : i < xs.length := by omega
    exact .inr ⟨xs[i], by simp [hl], turn i σ S _ _ hw (by simp [hl]) fun σ' S' hw' => ⟨xs.length - (i + 1), by omega, hw', by omega, rfl⟩⟩
theorem m_swhl {c : CT} {b : CSs} (W : Nat → DSt → Sto → Prop) {m : Nat} (h0 : W m σ S)
    (turn : ∀ m σ S (N : DSt → Sto → Prop), W m σ S → (∀ m' σ S, m' < m → W m' σ S → N σ S) → mT M cu c σ S (fun x S1 => if x = true then mSs M cu b ⟨N, rt, nx, N, ex⟩ σ S1 else nx σ S1) (fun c fs S => ex c fs σ S)) :
    mS M cu (.whl c b) ⟨nx, rt, bk, ct, ex⟩ σ S := ⟨W, ⟨m, h0⟩, fun m σ S hw => turn m σ S _ hw fun m' σ' S' hm hw' => ⟨m', hm, hw'⟩⟩
def LcL (M : Env1) (cu : Option Cur) (it : ItD) (g : CG) (tt : Option CT) (e : CE) (vs : List Nat) (σ : DSt) (S1 : Sto) (K : DK) : Prop := ∀ p, S1 p = none → ∃ W : Nat → Nat → Sto → Prop, (∃ m, W 0 m (sup S1 p (.lst []))) ∧ ∀ i m S, W i m S → ∃ xs, it S = some xs ∧
  ((xs.length ≤ i ∧ K (.ref p) S) ∨ ∃ d, xs[i]? = some d ∧ mG M.tb g d (wipeD σ vs) S fun σ2 S2 => dIfs (mO M cu tt) σ2 S2 (fun b S3 => if b = true then mE M cu e σ2 S3 (fun y S4 => ∃ acc, S4 p = some (.lst acc) ∧ acc.length < sizeLine ∧ ∃ m', m' < m ∧ W (i + 1) m' (sup S4 p (.lst (acc ++ [y])))) noE
    else ∃ m', m' < m ∧ W (i + 1) m' S3) noE)
theorem m_comp {it : CI} {g : CG} {tt : Option CT} {e : CE} {vs : List Nat} (k : mI M cu it σ S (fun it' S1 => LcL M cu it' g tt e vs σ S1 K) E) : mE M cu (.comp it g tt e vs) σ S K E := k
def DcL (M : Env1) (cu : Option Cur) (it : ItD) (g : CG) (tt : Option CT) (ek ev : CE) (vs : List Nat) (σ : DSt) (S1 : Sto) (K : DK) : Prop := ∀ p, S1 p = none → ∃ W : Nat → Nat → Sto → Prop, (∃ m, W 0 m (sup S1 p (.dic []))) ∧ ∀ i m S, W i m S → ∃ xs, it S = some xs ∧
  ((xs.length ≤ i ∧ K (.ref p) S) ∨ ∃ d, xs[i]? = some d ∧ mG M.tb g d (wipeD σ vs) S fun σ2 S2 => dIfs (mO M cu tt) σ2 S2 (fun b S3 => if b = true then mE M cu ek σ2 S3 (fun y S4 => mE M cu ev σ2 S4 (fun z S5 => ∃ kvs, S5 p = some (.dic kvs) ∧ isLf y = true ∧ allLf kvs = true ∧ kvs.length < sizeLine ∧ ∃ m', m' < m ∧ W (i + 1) m' (sup S5 p (.dic (putKD kvs y z)))) noE) noE
    else ∃ m', m' < m ∧ W (i + 1) m' S3) noE)
theorem m_dcomp {it : CI} {g : CG} {tt : Option CT} {ek ev : CE} {vs : List Nat} (k : mI M cu it σ S (fun it' S1 => DcL M cu it' g tt ek ev vs σ S1 K) E) : mE M cu (.dcomp it g tt ek ev vs) σ S K E := k
theorem d_none {KT : Bool → Sto → Prop} {E : DX} (k : KT true S) : dIfs (mO M cu none) σ S KT E := k
theorem d_some {t : CT} {KT : Bool → Sto → Prop} {E : DX} (k : mT M cu t σ S KT E) : dIfs (mO M cu (some t)) σ S KT E := k
/-- a comprehension over items that stay: a wish over the list made so far -/
theorem lc_at {it : ItD} {g : CG} {tt : Option CT} {e : CE} {vs : List Nat} (xs : List D) (A : Nat → List D → Prop) (hl : xs.length ≤ sizeLine) (h0 : A 0 []) (hx : ∀ S', Le S S' → it S' = some xs)
    (turn : ∀ i d acc S' (Y : D → Sto → Prop) (Z : Sto → Prop), xs[i]? = some d → A i acc → Le S S' → (∀ y S4, Le S' S4 → A (i + 1) (acc ++ [y]) → Y y S4) → (∀ S4, Le S' S4 → A (i + 1) acc → Z S4) →
      mG M.tb g d (wipeD σ vs) S' fun σ2 S2 => dIfs (mO M cu tt) σ2 S2 (fun b S3 => if b = true then mE M cu e σ2 S3 Y noE else Z S3) noE)
    (fin : ∀ p acc S', A xs.length acc → Le S S' → S p = none → S' p = some (.lst acc) → K (.ref p) S') : LcL M cu it g tt e vs σ S K := by
  intro p hp
  refine ⟨fun i m S' => i ≤ xs.length ∧ m = xs.length - i ∧ ∃ acc, A i acc ∧ acc.length ≤ i ∧ S' p = some (.lst acc) ∧ Le S S', ⟨_, Nat.zero_le _, rfl, [], h0, Nat.le_refl _, sup_same, Le.new hp⟩, ?_⟩
  rintro i m S' ⟨hi, rfl, acc, hA, ha, hS, hL⟩
  refine ⟨xs, hx S' hL, ?_⟩
  by_cases h : xs.length ≤ i
  · have e : xs.length = i := by omega
    exact .inl ⟨h, fin p acc S' (by rw [e]; exact hA) hL hp hS⟩
  · have hlt : i < xs.length := by omega
    refine .inr ⟨xs[i], by simp [hlt], turn i _ acc S' _ _ (by simp [hlt]) hA hL (fun y S4 l4 hA' => ?_) (fun S4 l4 hA' => ?_)⟩
    · exact ⟨acc, l4 p _ rfl hS, by omega, _, (by omega : xs.length - (i + 1) < xs.length - i), by omega, rfl, acc ++ [y], hA', by simp; omega, sup_same, fun a o i q => look_ne (by rintro rfl; rw [hp] at q; cases q) (l4 a o i (hL a o i q))⟩
    · exact ⟨_, (by omega : xs.length - (i + 1) < xs.length - i), by omega, rfl, acc, hA', by omega, l4 p _ rfl hS, hL.trans l4⟩
/-- a dict comprehension over items that stay: a wish over the pairs made so far -/
theorem dc_at {it : ItD} {g : CG} {tt : Option CT} {ek ev : CE} {vs : List Nat} (xs : List D) (A : Nat → List (D × D) → Prop) (hl : xs.length ≤ sizeLine) (h0 : A 0 []) (hx : ∀ S', Le S S' → it S' = some xs) (hA : ∀ i acc, A i acc → allLf acc = true ∧ acc.length ≤ i)
    (turn : ∀ i d acc S' (Y : D → D → Sto → Prop) (Z : Sto → Prop), xs[i]? = some d → A i acc → Le S S' → (∀ y z S5, Le S' S5 → isLf y = true → A (i + 1) (putKD acc y z) → Y y z S5) → (∀ S4, Le S' S4 → A (i + 1) acc → Z S4) →
      mG M.tb g d (wipeD σ vs) S' fun σ2 S2 => dIfs (mO M cu tt) σ2 S2 (fun b S3 => if b = true then mE M cu ek σ2 S3 (fun y S4 => mE M cu ev σ2 S4 (fun z S5 => Y y z S5) noE) noE else Z S3) noE)
    (fin : ∀ p acc S', A xs.length acc → Le S S' → S p = none → S' p = some (.dic acc) → K (.ref p) S') : DcL M cu it g tt ek ev vs σ S K := by
  intro p hp
  refine ⟨fun i m S' => i ≤ xs.length ∧ m = xs.length - i ∧ ∃ acc, A i acc ∧ S' p = some (.dic acc) ∧ Le S S', ⟨_, Nat.zero_le _, rfl, [], h0, sup_same, Le.new hp⟩, ?_⟩
  rintro i m S' ⟨hi, rfl, acc, ha, hS, hL⟩
  refine ⟨xs, hx S' hL, ?_⟩
  by_cases h : xs.length ≤ i
  · have e : xs.length = i := by omega
    exact .inl ⟨h, fin p acc S' (by rw [e]; exact ha) hL hp hS⟩
  · have hlt : i < xs.length := by omega
    obtain ⟨q1, q2⟩ := hA i acc ha
    refine .inr ⟨xs[i], by simp [hlt], turn i _ acc S' _ _ (by simp [hlt]) ha hL (fun y z S5 l5 hy hA' => ?_) (fun S4 l4 hA' => ?_)⟩
    · exact ⟨acc, l5 p _ rfl hS, hy, q1, by omega, _, (by omega : xs.length - (i + 1) < xs.length - i), by omega, rfl, _, hA', sup_same, fun a o i q => look_ne (by rintro rfl; rw [hp] at q; cases q) (l5 a o i (hL a o i q))⟩
    · exact ⟨_, (by omega : xs.length - (i + 1) < xs.length - i), by omega, rfl, acc, hA', l4 p _ rfl hS, hL.trans l4⟩
end
end DL

set_option Elab.async false
set_option linter.all false
set_option maxRecDepth 100000
set_option maxHeartbeats 1000000
namespace DL
open PySem PySem.Spec PyProof.Rows L2
section
variable {M : Env1} {it : ItD} {i : Nat} {e : CE} {vs : List Nat} {σ : DSt} {S : Sto} {K : DK}
/-- [f(d) for d in xs] -/
theorem lc_map (xs : List D) (f : D → D) (hl : xs.length ≤ sizeLine) (hx : ∀ S', Le S S' → it S' = some xs)
    (he : ∀ (d : D) (S' : Sto) (Y : DK), d ∈ xs → Le S S' → (∀ S'', Le S' S'' → Y (f d) S'') → mE M none e ((wipeD σ vs).set i (some d)) S' Y noE)
    (fin : ∀ p S', Le S S' → S p = none → S' p = some (.lst (xs.map f)) → K (.ref p) S') : LcL M none it (.nm i) none e vs σ S K := by
  refine lc_at xs (fun j acc => acc = (xs.take j).map f) hl rfl hx ?_ ?_
  · intro j d acc S' Y Z hd hA l hY hZ
    obtain ⟨hj, hd'⟩ := List.getElem?_eq_some_iff.mp hd
    refine g_nm ?_
    refine d_none ?_
    refine ite_t ?_
    refine he d S' _ (List.mem_of_getElem? hd) l fun S'' l' => ?_
    refine hY _ _ l' ?_
    rw [hA, List.take_succ_eq_append_getElem hj, List.map_append, hd']
    rfl
  · intro p acc S' hA l hp hS
    rw [List.take_length] at hA
    rw [hA] at hS
    exact fin p S' l hp hS
/-- [b(d) for d in xs], b a truth value -/
theorem lc_bool (xs : List D) (f : D → Bool) (hl : xs.length ≤ sizeLine) (hx : ∀ S', Le S S' → it S' = some xs)
    (he : ∀ (d : D) (S' : Sto) (Y : DK), d ∈ xs → Le S S' → (∀ S'', Le S' S'' → Y (.bl (f d)) S'') → mE M none e ((wipeD σ vs).set i (some d)) S' Y noE)
    (fin : ∀ p S', Le S S' → S p = none → S' p = some (.lst ((xs.map f).map D.bl)) → K (.ref p) S') : LcL M none it (.nm i) none e vs σ S K :=
  lc_map xs (fun d => .bl (f d)) hl hx he fun p S' l h1 h2 => fin p S' l h1 (by rw [List.map_map]; exact h2)
/-- [f(d) for d in xs if p(d)] -/
theorem lc_flt {t : CT} (xs : List D) (p : D → Bool) (f : D → D) (hl : xs.length ≤ sizeLine) (hx : ∀ S', Le S S' → it S' = some xs)
    (ht : ∀ (d : D) (S' : Sto) (Y : Bool → Sto → Prop), d ∈ xs → Le S S' → (∀ S'', Le S' S'' → Y (p d) S'') → mT M none t ((wipeD σ vs).set i (some d)) S' Y noE)
    (he : ∀ (d : D) (S' : Sto) (Y : DK), d ∈ xs → p d = true → Le S S' → (∀ S'', Le S' S'' → Y (f d) S'') → mE M none e ((wipeD σ vs).set i (some d)) S' Y noE)
    (fin : ∀ q S', Le S S' → S q = none → S' q = some (.lst ((xs.filter p).map f)) → K (.ref q) S') : LcL M none it (.nm i) (some t) e vs σ S K := by
  refine lc_at xs (fun j acc => acc = ((xs.take j).filter p).map f) hl rfl hx ?_ ?_
  · intro j d acc S' Y Z hd hA l hY hZ
    obtain ⟨hj, hd'⟩ := List.getElem?_eq_some_iff.mp hd
    refine g_nm ?_
    refine d_some ?_
    have hm := List.mem_of_getElem? hd
    refine ht d S' _ hm l fun S2 l2 => ?_
    have et : (xs.take (j + 1)).filter p = (xs.take j).filter p ++ (if p d = true then [d] else []) := by
      rw [List.take_succ_eq_append_getElem hj, List.filter_append, hd']
      cases hp : p d <;> simp [List.filter, hp]
    refine ite_any (fun h => ?_) (fun h => ?_)
    · refine he d S2 _ hm h (l.trans l2) fun S3 l3 => hY _ _ (l2.trans l3) ?_
      rw [hA, et, if_pos h, List.map_append]
      rfl
    · refine hZ _ l2 ?_
      rw [hA, et, if_neg (by rw [h]; simp), List.append_nil]
  · intro q acc S' hA l hp hS
    rw [List.take_length] at hA
    rw [hA] at hS
    exact fin q S' l hp hS
end
end DL

open PySem PySem.Spec PyProof.Rows L2 DL
local macro_rules | `(tactic| walk_at "dl_var") => `(tactic| first | (with_reducible refine v0 ?_) | (with_reducible refine v1 ?_) | (with_reducible refine v2 ?_) | (with_reducible refine v3 ?_) | (with_reducible refine v4 ?_) | (with_reducible refine v5 ?_) | (with_reducible refine v6 ?_) | (with_reducible refine v7 ?_) | (with_reducible refine v8 ?_) | (with_reducible refine v9 ?_) | (with_reducible refine v10 ?_) | (with_reducible refine v11 ?_) | (with_reducible refine v12 ?_) | (with_reducible refine v13 ?_) | (with_reducible refine v14 ?_) | (with_reducible refine v15 ?_) | (with_reducible refine v16 ?_) | (with_reducible refine v17 ?_) | (with_reducible refine v18 ?_) | (with_reducible refine v19 ?_) | (with_reducible refine v20 ?_) | (with_reducible refine v21 ?_) | (with_reducible refine v22 ?_) | (with_reducible refine v23 ?_) | (with_reducible refine v24 ?_) | (with_reducible refine v25 ?_) | (with_reducible refine v26 ?_) | (with_reducible refine v27 ?_) | (with_reducible refine v28 ?_) | (with_reducible refine v29 ?_) | (with_reducible refine v30 ?_) | (with_reducible refine v31 ?_) | (with_reducible refine v32 ?_) | (with_reducible refine v33 ?_))
local macro_rules | `(tactic| walk_at "dl_g") => `(tactic| first | (with_reducible refine g0 ?_) | (with_reducible refine g1 ?_) | (with_reducible refine g2 ?_) | (with_reducible refine g3 ?_) | (with_reducible refine g4 ?_) | (with_reducible refine g5 ?_) | (with_reducible refine g6 ?_) | (with_reducible refine g7 ?_) | (with_reducible refine g8 ?_) | (with_reducible refine g9 ?_) | (with_reducible refine g10 ?_) | (with_reducible refine g11 ?_) | (with_reducible refine g12 ?_) | (with_reducible refine g13 ?_) | (with_reducible refine g14 ?_) | (with_reducible refine g15 ?_) | (with_reducible refine g16 ?_) | (with_reducible refine g17 ?_) | (with_reducible refine g18 ?_) | (with_reducible refine g19 ?_) | (with_reducible refine g20 ?_) | (with_reducible refine g21 ?_) | (with_reducible refine g22 ?_) | (with_reducible refine g23 ?_) | (with_reducible refine g24 ?_) | (with_reducible refine g25 ?_) | (with_reducible refine g26 ?_) | (with_reducible refine g27 ?_) | (with_reducible refine g28 ?_) | (with_reducible refine g29 ?_) | (with_reducible refine g30 ?_) | (with_reducible refine g31 ?_) | (with_reducible refine g32 ?_) | (with_reducible refine g33 ?_))
local macro_rules | `(tactic| walk_at "dl_e") => `(tactic| first | (with_reducible refine m_cst ?_) | (with_reducible refine m_nil ?_) | (with_reducible refine m_cons ?_) | (with_reducible refine m_op ?_) | (with_reducible refine m_cmp ?_) | (with_reducible refine m_att ?_) | (with_reducible refine m_call ?_) | (with_reducible refine m_ix ?_) | (with_reducible refine m_blt ?_) | (with_reducible refine m_and ?_) | (with_reducible refine m_or ?_) | (with_reducible refine m_not ?_) | (with_reducible refine m_negc ?_) | (with_reducible refine m_ite ?_) | (with_reducible refine m_tup ?_) | (with_reducible refine m_lst ?_) | (with_reducible refine m_make ?_) | (with_reducible refine m_methO ?_) | (with_reducible refine m_sl ?_) | (with_reducible refine m_neg ?_) | (with_reducible refine m_chn ?_) | (with_reducible refine m_comp ?_) | (with_reducible refine m_callI ?_) | (with_reducible refine m_lrg ?_) | (with_reducible refine m_dcomp ?_) | (with_reducible refine m_dsp ?_) | (with_reducible refine mp_nil ?_) | (with_reducible refine mp_cons ?_))
local macro_rules | `(tactic| walk_at "dl_t") => `(tactic| first | (with_reducible refine m_tcmp ?_) | (with_reducible refine m_tval ?_) | (with_reducible refine m_tand ?_) | (with_reducible refine m_tor ?_) | (with_reducible refine m_tnot ?_) | (with_reducible refine m_tite ?_) | (with_reducible refine m_tchn ?_))
local macro_rules | `(tactic| walk_at "dl_s") => `(tactic| first | (with_reducible refine m_sscons ?_) | (with_reducible refine m_ssnil ?_) | (with_reducible refine m_sasg ?_) | (with_reducible refine m_siff ?_) | (with_reducible refine m_sret ?_) | (with_reducible refine m_sexpr ?_) | (with_reducible refine m_sset ?_) | (with_reducible refine m_ssub ?_) | (with_reducible refine m_spar ?_) | (with_reducible refine m_saug ?_) | (with_reducible refine m_srais ?_) | (with_reducible refine m_sretN ?_) | (with_reducible refine m_scont ?_) | (with_reducible refine m_sbrk ?_) | (with_reducible refine m_spass ?_) | (with_reducible refine m_sfor ?_) | (with_reducible refine m_iseq ?_) | (with_reducible refine m_irng ?_) | (with_reducible refine m_ienu ?_) | (with_reducible refine g_cons ?_) | (with_reducible refine g_nil ?_) | (with_reducible refine m_try ?_) | (with_reducible refine m_tryAs ?_) | (with_reducible refine m_mat ?_) | (with_reducible refine mc_nil ?_) | (with_reducible refine mc_any ?_))
local macro_rules | `(tactic| walk_at "dl_v") => `(tactic| first | (with_reducible refine kb_bl ?_) | (with_reducible refine n_int ?_) | (with_reducible refine nk_bl ?_) | (with_reducible refine bk_bl ?_) | (with_reducible refine t_bl ?_) | (with_reducible refine t_non ?_) | (with_reducible refine t_int ?_) | (with_reducible refine t_tup ?_) | (with_reducible refine k_is ?_) | (with_reducible refine k_isn ?_) | (with_reducible refine k_isb ?_) | (with_reducible refine k_isnb ?_) | (with_reducible refine k_lt ?_) | (with_reducible refine k_le ?_) | (with_reducible refine k_gt ?_) | (with_reducible refine k_ge ?_) | (with_reducible refine k_eqi ?_) | (with_reducible refine k_nei ?_) | (with_reducible refine k_eqnn ?_) | (with_reducible refine k_eqni ?_) | (with_reducible refine k_eqin ?_) | (with_reducible refine k_nenn ?_) | (with_reducible refine k_neni ?_) | (with_reducible refine k_nein ?_) | (with_reducible refine k_eqb ?_) | (with_reducible refine k_neb ?_) | (with_reducible refine k_eqs ?_) | (with_reducible refine k_nes ?_) | (with_reducible refine k_eqis ?_) | (with_reducible refine k_eqsi ?_) | (with_reducible refine k_eqns ?_) | (with_reducible refine k_eqsn ?_) | (with_reducible refine k_neis ?_) | (with_reducible refine k_nesi ?_) | (with_reducible refine k_nens ?_) | (with_reducible refine k_nesn ?_) | (with_reducible refine o_add ?_) | (with_reducible refine o_sub ?_) | (with_reducible refine p_add ?_) | (with_reducible refine p_sub ?_) | (with_reducible refine b_abs ?_) | (with_reducible refine b_int ?_) | (with_reducible refine b_intb ?_) | (with_reducible refine b_bool ?_) | (with_reducible refine b_lenr ?_) | (with_reducible refine b_lent ?_) | (with_reducible refine b_max ?_) | (with_reducible refine b_min ?_) | (with_reducible refine ite_t ?_) | (with_reducible refine ite_f ?_) | (with_reducible refine q_tup ?_) | (with_reducible refine q_rol ?_) | (with_reducible refine q_str ?_) | (with_reducible refine d_none ?_) | (with_reducible refine d_some ?_) | (with_reducible refine m_chk ?_))
local macro_rules | `(tactic| walk_at "dl_k") => `(tactic| first | ((with_reducible refine ite_ct ?_ ?_); · rfl) | ((with_reducible refine ite_cf ?_ ?_); · rfl))
local macro_rules | `(tactic| walk_at "dl_one") => `(tactic| first | (first | (with_reducible refine v0 ?_) | (with_reducible refine v1 ?_) | (with_reducible refine v2 ?_) | (with_reducible refine v3 ?_) | (with_reducible refine v4 ?_) | (with_reducible refine v5 ?_) | (with_reducible refine v6 ?_) | (with_reducible refine v7 ?_) | (with_reducible refine v8 ?_) | (with_reducible refine v9 ?_) | (with_reducible refine v10 ?_) | (with_reducible refine v11 ?_) | (with_reducible refine v12 ?_) | (with_reducible refine v13 ?_) | (with_reducible refine v14 ?_) | (with_reducible refine v15 ?_) | (with_reducible refine v16 ?_) | (with_reducible refine v17 ?_) | (with_reducible refine v18 ?_) | (with_reducible refine v19 ?_) | (with_reducible refine v20 ?_) | (with_reducible refine v21 ?_) | (with_reducible refine v22 ?_) | (with_reducible refine v23 ?_) | (with_reducible refine v24 ?_) | (with_reducible refine v25 ?_) | (with_reducible refine v26 ?_) | (with_reducible refine v27 ?_) | (with_reducible refine v28 ?_) | (with_reducible refine v29 ?_) | (with_reducible refine v30 ?_) | (with_reducible refine v31 ?_) | (with_reducible refine v32 ?_) | (with_reducible refine v33 ?_)) | (first | (with_reducible refine m_cst ?_) | (with_reducible refine m_nil ?_) | (with_reducible refine m_cons ?_) | (with_reducible refine m_op ?_) | (with_reducible refine m_cmp ?_) | (with_reducible refine m_att ?_) | (with_reducible refine m_call ?_) | (with_reducible refine m_ix ?_) | (with_reducible refine m_blt ?_) | (with_reducible refine m_and ?_) | (with_reducible refine m_or ?_) | (with_reducible refine m_not ?_) | (with_reducible refine m_negc ?_) | (with_reducible refine m_ite ?_) | (with_reducible refine m_tup ?_) | (with_reducible refine m_lst ?_) | (with_reducible refine m_make ?_) | (with_reducible refine m_methO ?_) | (with_reducible refine m_sl ?_) | (with_reducible refine m_neg ?_) | (with_reducible refine m_chn ?_) | (with_reducible refine m_comp ?_) | (with_reducible refine m_callI ?_) | (with_reducible refine m_lrg ?_) | (with_reducible refine m_dcomp ?_) | (with_reducible refine m_dsp ?_) | (with_reducible refine mp_nil ?_) | (with_reducible refine mp_cons ?_)) | (first | (with_reducible refine m_tcmp ?_) | (with_reducible refine m_tval ?_) | (with_reducible refine m_tand ?_) | (with_reducible refine m_tor ?_) | (with_reducible refine m_tnot ?_) | (with_reducible refine m_tite ?_) | (with_reducible refine m_tchn ?_)) | (first | (with_reducible refine m_sscons ?_) | (with_reducible refine m_ssnil ?_) | (with_reducible refine m_sasg ?_) | (with_reducible refine m_siff ?_) | (with_reducible refine m_sret ?_) | (with_reducible refine m_sexpr ?_) | (with_reducible refine m_sset ?_) | (with_reducible refine m_ssub ?_) | (with_reducible refine m_spar ?_) | (with_reducible refine m_saug ?_) | (with_reducible refine m_srais ?_) | (with_reducible refine m_sretN ?_) | (with_reducible refine m_scont ?_) | (with_reducible refine m_sbrk ?_) | (with_reducible refine m_spass ?_) | (with_reducible refine m_sfor ?_) | (with_reducible refine m_iseq ?_) | (with_reducible refine m_irng ?_) | (with_reducible refine m_ienu ?_) | (with_reducible refine g_cons ?_) | (with_reducible refine g_nil ?_) | (with_reducible refine m_try ?_) | (with_reducible refine m_tryAs ?_) | (with_reducible refine m_mat ?_) | (with_reducible refine mc_nil ?_) | (with_reducible refine mc_any ?_)) | (first | (with_reducible refine kb_bl ?_) | (with_reducible refine n_int ?_) | (with_reducible refine nk_bl ?_) | (with_reducible refine bk_bl ?_) | (with_reducible refine t_bl ?_) | (with_reducible refine t_non ?_) | (with_reducible refine t_int ?_) | (with_reducible refine t_tup ?_) | (with_reducible refine k_is ?_) | (with_reducible refine k_isn ?_) | (with_reducible refine k_isb ?_) | (with_reducible refine k_isnb ?_) | (with_reducible refine k_lt ?_) | (with_reducible refine k_le ?_) | (with_reducible refine k_gt ?_) | (with_reducible refine k_ge ?_) | (with_reducible refine k_eqi ?_) | (with_reducible refine k_nei ?_) | (with_reducible refine k_eqnn ?_) | (with_reducible refine k_eqni ?_) | (with_reducible refine k_eqin ?_) | (with_reducible refine k_nenn ?_) | (with_reducible refine k_neni ?_) | (with_reducible refine k_nein ?_) | (with_reducible refine k_eqb ?_) | (with_reducible refine k_neb ?_) | (with_reducible refine k_eqs ?_) | (with_reducible refine k_nes ?_) | (with_reducible refine k_eqis ?_) | (with_reducible refine k_eqsi ?_) | (with_reducible refine k_eqns ?_) | (with_reducible refine k_eqsn ?_) | (with_reducible refine k_neis ?_) | (with_reducible refine k_nesi ?_) | (with_reducible refine k_nens ?_) | (with_reducible refine k_nesn ?_) | (with_reducible refine o_add ?_) | (with_reducible refine o_sub ?_) | (with_reducible refine p_add ?_) | (with_reducible refine p_sub ?_) | (with_reducible refine b_abs ?_) | (with_reducible refine b_int ?_) | (with_reducible refine b_intb ?_) | (with_reducible refine b_bool ?_) | (with_reducible refine b_lenr ?_) | (with_reducible refine b_lent ?_) | (with_reducible refine b_max ?_) | (with_reducible refine b_min ?_) | (with_reducible refine ite_t ?_) | (with_reducible refine ite_f ?_) | (with_reducible refine q_tup ?_) | (with_reducible refine q_rol ?_) | (with_reducible refine q_str ?_) | (with_reducible refine d_none ?_) | (with_reducible refine d_some ?_) | (with_reducible refine m_chk ?_)) | (first | (with_reducible refine g0 ?_) | (with_reducible refine g1 ?_) | (with_reducible refine g2 ?_) | (with_reducible refine g3 ?_) | (with_reducible refine g4 ?_) | (with_reducible refine g5 ?_) | (with_reducible refine g6 ?_) | (with_reducible refine g7 ?_) | (with_reducible refine g8 ?_) | (with_reducible refine g9 ?_) | (with_reducible refine g10 ?_) | (with_reducible refine g11 ?_) | (with_reducible refine g12 ?_) | (with_reducible refine g13 ?_) | (with_reducible refine g14 ?_) | (with_reducible refine g15 ?_) | (with_reducible refine g16 ?_) | (with_reducible refine g17 ?_) | (with_reducible refine g18 ?_) | (with_reducible refine g19 ?_) | (with_reducible refine g20 ?_) | (with_reducible refine g21 ?_) | (with_reducible refine g22 ?_) | (with_reducible refine g23 ?_) | (with_reducible refine g24 ?_) | (with_reducible refine g25 ?_) | (with_reducible refine g26 ?_) | (with_reducible refine g27 ?_) | (with_reducible refine g28 ?_) | (with_reducible refine g29 ?_) | (with_reducible refine g30 ?_) | (with_reducible refine g31 ?_) | (with_reducible refine g32 ?_) | (with_reducible refine g33 ?_)) | (first | ((with_reducible refine ite_ct ?_ ?_); · rfl) | ((with_reducible refine ite_cf ?_ ?_); · rfl)) | ((with_reducible refine g_tup ?_ ?_); · rfl) | ((with_reducible show mG _ (CG.att _ _) _ _ _ _); refine g_att rfl ?_) | ((with_reducible show ixX _ (DL.D.tup _) _ _ _ _); refine x_tup rfl ?_) | ((with_reducible refine o_mod ?_ ?_); · decide) | ((with_reducible refine o_pow ?_ ?_); · exact ⟨by decide, by decide, by decide⟩) | ((with_reducible refine And.intro (len_ok ?_) ?_); · (simp only [List.length_cons, List.length_nil]; omega)))
local macro_rules | `(tactic| walk_at "dl_if") => `(tactic| first | ((with_reducible refine ite_pt ?_ ?_); · omega) | ((with_reducible refine ite_pf ?_ ?_); · omega) | ((with_reducible refine ite_npt ?_ ?_); · omega) | ((with_reducible refine ite_npf ?_ ?_); · omega))
local macro_rules | `(tactic| walk_at "dl_all") => `(tactic| repeat (first | (first | (with_reducible refine v0 ?_) | (with_reducible refine v1 ?_) | (with_reducible refine v2 ?_) | (with_reducible refine v3 ?_) | (with_reducible refine v4 ?_) | (with_reducible refine v5 ?_) | (with_reducible refine v6 ?_) | (with_reducible refine v7 ?_) | (with_reducible refine v8 ?_) | (with_reducible refine v9 ?_) | (with_reducible refine v10 ?_) | (with_reducible refine v11 ?_) | (with_reducible refine v12 ?_) | (with_reducible refine v13 ?_) | (with_reducible refine v14 ?_) | (with_reducible refine v15 ?_) | (with_reducible refine v16 ?_) | (with_reducible refine v17 ?_) | (with_reducible refine v18 ?_) | (with_reducible refine v19 ?_) | (with_reducible refine v20 ?_) | (with_reducible refine v21 ?_) | (with_reducible refine v22 ?_) | (with_reducible refine v23 ?_) | (with_reducible refine v24 ?_) | (with_reducible refine v25 ?_) | (with_reducible refine v26 ?_) | (with_reducible refine v27 ?_) | (with_reducible refine v28 ?_) | (with_reducible refine v29 ?_) | (with_reducible refine v30 ?_) | (with_reducible refine v31 ?_) | (with_reducible refine v32 ?_) | (with_reducible refine v33 ?_)) | (first | (with_reducible refine m_cst ?_) | (with_reducible refine m_nil ?_) | (with_reducible refine m_cons ?_) | (with_reducible refine m_op ?_) | (with_reducible refine m_cmp ?_) | (with_reducible refine m_att ?_) | (with_reducible refine m_call ?_) | (with_reducible refine m_ix ?_) | (with_reducible refine m_blt ?_) | (with_reducible refine m_and ?_) | (with_reducible refine m_or ?_) | (with_reducible refine m_not ?_) | (with_reducible refine m_negc ?_) | (with_reducible refine m_ite ?_) | (with_reducible refine m_tup ?_) | (with_reducible refine m_lst ?_) | (with_reducible refine m_make ?_) | (with_reducible refine m_methO ?_) | (with_reducible refine m_sl ?_) | (with_reducible refine m_neg ?_) | (with_reducible refine m_chn ?_) | (with_reducible refine m_comp ?_) | (with_reducible refine m_callI ?_) | (with_reducible refine m_lrg ?_) | (with_reducible refine m_dcomp ?_) | (with_reducible refine m_dsp ?_) | (with_reducible refine mp_nil ?_) | (with_reducible refine mp_cons ?_)) | (first | (with_reducible refine m_tcmp ?_) | (with_reducible refine m_tval ?_) | (with_reducible refine m_tand ?_) | (with_reducible refine m_tor ?_) | (with_reducible refine m_tnot ?_) | (with_reducible refine m_tite ?_) | (with_reducible refine m_tchn ?_)) | (first | (with_reducible refine m_sscons ?_) | (with_reducible refine m_ssnil ?_) | (with_reducible refine m_sasg ?_) | (with_reducible refine m_siff ?_) | (with_reducible refine m_sret ?_) | (with_reducible refine m_sexpr ?_) | (with_reducible refine m_sset ?_) | (with_reducible refine m_ssub ?_) | (with_reducible refine m_spar ?_) | (with_reducible refine m_saug ?_) | (with_reducible refine m_srais ?_) | (with_reducible refine m_sretN ?_) | (with_reducible refine m_scont ?_) | (with_reducible refine m_sbrk ?_) | (with_reducible refine m_spass ?_) | (with_reducible refine m_sfor ?_) | (with_reducible refine m_iseq ?_) | (with_reducible refine m_irng ?_) | (with_reducible refine m_ienu ?_) | (with_reducible refine g_cons ?_) | (with_reducible refine g_nil ?_) | (with_reducible refine m_try ?_) | (with_reducible refine m_tryAs ?_) | (with_reducible refine m_mat ?_) | (with_reducible refine mc_nil ?_) | (with_reducible refine mc_any ?_)) | (first | (with_reducible refine kb_bl ?_) | (with_reducible refine n_int ?_) | (with_reducible refine nk_bl ?_) | (with_reducible refine bk_bl ?_) | (with_reducible refine t_bl ?_) | (with_reducible refine t_non ?_) | (with_reducible refine t_int ?_) | (with_reducible refine t_tup ?_) | (with_reducible refine k_is ?_) | (with_reducible refine k_isn ?_) | (with_reducible refine k_isb ?_) | (with_reducible refine k_isnb ?_) | (with_reducible refine k_lt ?_) | (with_reducible refine k_le ?_) | (with_reducible refine k_gt ?_) | (with_reducible refine k_ge ?_) | (with_reducible refine k_eqi ?_) | (with_reducible refine k_nei ?_) | (with_reducible refine k_eqnn ?_) | (with_reducible refine k_eqni ?_) | (with_reducible refine k_eqin ?_) | (with_reducible refine k_nenn ?_) | (with_reducible refine k_neni ?_) | (with_reducible refine k_nein ?_) | (with_reducible refine k_eqb ?_) | (with_reducible refine k_neb ?_) | (with_reducible refine k_eqs ?_) | (with_reducible refine k_nes ?_) | (with_reducible refine k_eqis ?_) | (with_reducible refine k_eqsi ?_) | (with_reducible refine k_eqns ?_) | (with_reducible refine k_eqsn ?_) | (with_reducible refine k_neis ?_) | (with_reducible refine k_nesi ?_) | (with_reducible refine k_nens ?_) | (with_reducible refine k_nesn ?_) | (with_reducible refine o_add ?_) | (with_reducible refine o_sub ?_) | (with_reducible refine p_add ?_) | (with_reducible refine p_sub ?_) | (with_reducible refine b_abs ?_) | (with_reducible refine b_int ?_) | (with_reducible refine b_intb ?_) | (with_reducible refine b_bool ?_) | (with_reducible refine b_lenr ?_) | (with_reducible refine b_lent ?_) | (with_reducible refine b_max ?_) | (with_reducible refine b_min ?_) | (with_reducible refine ite_t ?_) | (with_reducible refine ite_f ?_) | (with_reducible refine q_tup ?_) | (with_reducible refine q_rol ?_) | (with_reducible refine q_str ?_) | (with_reducible refine d_none ?_) | (with_reducible refine d_some ?_) | (with_reducible refine m_chk ?_)) | (first | (with_reducible refine g0 ?_) | (with_reducible refine g1 ?_) | (with_reducible refine g2 ?_) | (with_reducible refine g3 ?_) | (with_reducible refine g4 ?_) | (with_reducible refine g5 ?_) | (with_reducible refine g6 ?_) | (with_reducible refine g7 ?_) | (with_reducible refine g8 ?_) | (with_reducible refine g9 ?_) | (with_reducible refine g10 ?_) | (with_reducible refine g11 ?_) | (with_reducible refine g12 ?_) | (with_reducible refine g13 ?_) | (with_reducible refine g14 ?_) | (with_reducible refine g15 ?_) | (with_reducible refine g16 ?_) | (with_reducible refine g17 ?_) | (with_reducible refine g18 ?_) | (with_reducible refine g19 ?_) | (with_reducible refine g20 ?_) | (with_reducible refine g21 ?_) | (with_reducible refine g22 ?_) | (with_reducible refine g23 ?_) | (with_reducible refine g24 ?_) | (with_reducible refine g25 ?_) | (with_reducible refine g26 ?_) | (with_reducible refine g27 ?_) | (with_reducible refine g28 ?_) | (with_reducible refine g29 ?_) | (with_reducible refine g30 ?_) | (with_reducible refine g31 ?_) | (with_reducible refine g32 ?_) | (with_reducible refine g33 ?_)) | (first | ((with_reducible refine ite_ct ?_ ?_); · rfl) | ((with_reducible refine ite_cf ?_ ?_); · rfl)) | ((with_reducible refine g_tup ?_ ?_); · rfl) | ((with_reducible show mG _ (CG.att _ _) _ _ _ _); refine g_att rfl ?_) | ((with_reducible show ixX _ (DL.D.tup _) _ _ _ _); refine x_tup rfl ?_) | ((with_reducible refine o_mod ?_ ?_); · decide) | ((with_reducible refine o_pow ?_ ?_); · exact ⟨by decide, by decide, by decide⟩) | ((with_reducible refine And.intro (len_ok ?_) ?_); · (simp only [List.length_cons, List.length_nil]; omega))))
local macro_rules | `(tactic| walk_at "dl_look") => `(tactic| first | assumption | exact sup_same | (refine look_old (by assumption) ?_; walk_at "dl_look") | (refine look_ne (by assumption) ?_; walk_at "dl_look") | (refine look_le (by assumption) rfl ?_; walk_at "dl_look") | (refine look_lx (by assumption) (by first | assumption | exact Ne.symm (by assumption)) rfl ?_; walk_at "dl_look"))
local macro_rules | `(tactic| walk_at "dl_ne") => `(tactic| first | assumption | exact ne_new (by assumption) (by walk_at "dl_look") | exact ne_new' (by assumption) (by walk_at "dl_look"))
local macro_rules | `(tactic| walk_at "dl_go") => `(tactic| repeat (first | (first | (first | (with_reducible refine v0 ?_) | (with_reducible refine v1 ?_) | (with_reducible refine v2 ?_) | (with_reducible refine v3 ?_) | (with_reducible refine v4 ?_) | (with_reducible refine v5 ?_) | (with_reducible refine v6 ?_) | (with_reducible refine v7 ?_) | (with_reducible refine v8 ?_) | (with_reducible refine v9 ?_) | (with_reducible refine v10 ?_) | (with_reducible refine v11 ?_) | (with_reducible refine v12 ?_) | (with_reducible refine v13 ?_) | (with_reducible refine v14 ?_) | (with_reducible refine v15 ?_) | (with_reducible refine v16 ?_) | (with_reducible refine v17 ?_) | (with_reducible refine v18 ?_) | (with_reducible refine v19 ?_) | (with_reducible refine v20 ?_) | (with_reducible refine v21 ?_) | (with_reducible refine v22 ?_) | (with_reducible refine v23 ?_) | (with_reducible refine v24 ?_) | (with_reducible refine v25 ?_) | (with_reducible refine v26 ?_) | (with_reducible refine v27 ?_) | (with_reducible refine v28 ?_) | (with_reducible refine v29 ?_) | (with_reducible refine v30 ?_) | (with_reducible refine v31 ?_) | (with_reducible refine v32 ?_) | (with_reducible refine v33 ?_)) | (first | (with_reducible refine m_cst ?_) | (with_reducible refine m_nil ?_) | (with_reducible refine m_cons ?_) | (with_reducible refine m_op ?_) | (with_reducible refine m_cmp ?_) | (with_reducible refine m_att ?_) | (with_reducible refine m_call ?_) | (with_reducible refine m_ix ?_) | (with_reducible refine m_blt ?_) | (with_reducible refine m_and ?_) | (with_reducible refine m_or ?_) | (with_reducible refine m_not ?_) | (with_reducible refine m_negc ?_) | (with_reducible refine m_ite ?_) | (with_reducible refine m_tup ?_) | (with_reducible refine m_lst ?_) | (with_reducible refine m_make ?_) | (with_reducible refine m_methO ?_) | (with_reducible refine m_sl ?_) | (with_reducible refine m_neg ?_) | (with_reducible refine m_chn ?_) | (with_reducible refine m_comp ?_) | (with_reducible refine m_callI ?_) | (with_reducible refine m_lrg ?_) | (with_reducible refine m_dcomp ?_) | (with_reducible refine m_dsp ?_) | (with_reducible refine mp_nil ?_) | (with_reducible refine mp_cons ?_)) | (first | (with_reducible refine m_tcmp ?_) | (with_reducible refine m_tval ?_) | (with_reducible refine m_tand ?_) | (with_reducible refine m_tor ?_) | (with_reducible refine m_tnot ?_) | (with_reducible refine m_tite ?_) | (with_reducible refine m_tchn ?_)) | (first | (with_reducible refine m_sscons ?_) | (with_reducible refine m_ssnil ?_) | (with_reducible refine m_sasg ?_) | (with_reducible refine m_siff ?_) | (with_reducible refine m_sret ?_) | (with_reducible refine m_sexpr ?_) | (with_reducible refine m_sset ?_) | (with_reducible refine m_ssub ?_) | (with_reducible refine m_spar ?_) | (with_reducible refine m_saug ?_) | (with_reducible refine m_srais ?_) | (with_reducible refine m_sretN ?_) | (with_reducible refine m_scont ?_) | (with_reducible refine m_sbrk ?_) | (with_reducible refine m_spass ?_) | (with_reducible refine m_sfor ?_) | (with_reducible refine m_iseq ?_) | (with_reducible refine m_irng ?_) | (with_reducible refine m_ienu ?_) | (with_reducible refine g_cons ?_) | (with_reducible refine g_nil ?_) | (with_reducible refine m_try ?_) | (with_reducible refine m_tryAs ?_) | (with_reducible refine m_mat ?_) | (with_reducible refine mc_nil ?_) | (with_reducible refine mc_any ?_)) | (first | (with_reducible refine kb_bl ?_) | (with_reducible refine n_int ?_) | (with_reducible refine nk_bl ?_) | (with_reducible refine bk_bl ?_) | (with_reducible refine t_bl ?_) | (with_reducible refine t_non ?_) | (with_reducible refine t_int ?_) | (with_reducible refine t_tup ?_) | (with_reducible refine k_is ?_) | (with_reducible refine k_isn ?_) | (with_reducible refine k_isb ?_) | (with_reducible refine k_isnb ?_) | (with_reducible refine k_lt ?_) | (with_reducible refine k_le ?_) | (with_reducible refine k_gt ?_) | (with_reducible refine k_ge ?_) | (with_reducible refine k_eqi ?_) | (with_reducible refine k_nei ?_) | (with_reducible refine k_eqnn ?_) | (with_reducible refine k_eqni ?_) | (with_reducible refine k_eqin ?_) | (with_reducible refine k_nenn ?_) | (with_reducible refine k_neni ?_) | (with_reducible refine k_nein ?_) | (with_reducible refine k_eqb ?_) | (with_reducible refine k_neb ?_) | (with_reducible refine k_eqs ?_) | (with_reducible refine k_nes ?_) | (with_reducible refine k_eqis ?_) | (with_reducible refine k_eqsi ?_) | (with_reducible refine k_eqns ?_) | (with_reducible refine k_eqsn ?_) | (with_reducible refine k_neis ?_) | (with_reducible refine k_nesi ?_) | (with_reducible refine k_nens ?_) | (with_reducible refine k_nesn ?_) | (with_reducible refine o_add ?_) | (with_reducible refine o_sub ?_) | (with_reducible refine p_add ?_) | (with_reducible refine p_sub ?_) | (with_reducible refine b_abs ?_) | (with_reducible refine b_int ?_) | (with_reducible refine b_intb ?_) | (with_reducible refine b_bool ?_) | (with_reducible refine b_lenr ?_) | (with_reducible refine b_lent ?_) | (with_reducible refine b_max ?_) | (with_reducible refine b_min ?_) | (with_reducible refine ite_t ?_) | (with_reducible refine ite_f ?_) | (with_reducible refine q_tup ?_) | (with_reducible refine q_rol ?_) | (with_reducible refine q_str ?_) | (with_reducible refine d_none ?_) | (with_reducible refine d_some ?_) | (with_reducible refine m_chk ?_)) | (first | (with_reducible refine g0 ?_) | (with_reducible refine g1 ?_) | (with_reducible refine g2 ?_) | (with_reducible refine g3 ?_) | (with_reducible refine g4 ?_) | (with_reducible refine g5 ?_) | (with_reducible refine g6 ?_) | (with_reducible refine g7 ?_) | (with_reducible refine g8 ?_) | (with_reducible refine g9 ?_) | (with_reducible refine g10 ?_) | (with_reducible refine g11 ?_) | (with_reducible refine g12 ?_) | (with_reducible refine g13 ?_) | (with_reducible refine g14 ?_) | (with_reducible refine g15 ?_) | (with_reducible refine g16 ?_) | (with_reducible refine g17 ?_) | (with_reducible refine g18 ?_) | (with_reducible refine g19 ?_) | (with_reducible refine g20 ?_) | (with_reducible refine g21 ?_) | (with_reducible refine g22 ?_) | (with_reducible refine g23 ?_) | (with_reducible refine g24 ?_) | (with_reducible refine g25 ?_) | (with_reducible refine g26 ?_) | (with_reducible refine g27 ?_) | (with_reducible refine g28 ?_) | (with_reducible refine g29 ?_) | (with_reducible refine g30 ?_) | (with_reducible refine g31 ?_) | (with_reducible refine g32 ?_) | (with_reducible refine g33 ?_)) | (first | ((with_reducible refine ite_ct ?_ ?_); · rfl) | ((with_reducible refine ite_cf ?_ ?_); · rfl)) | ((with_reducible refine g_tup ?_ ?_); · rfl) | ((with_reducible show mG _ (CG.att _ _) _ _ _ _); refine g_att rfl ?_) | ((with_reducible show ixX _ (DL.D.tup _) _ _ _ _); refine x_tup rfl ?_) | ((with_reducible refine o_mod ?_ ?_); · decide) | ((with_reducible refine o_pow ?_ ?_); · exact ⟨by decide, by decide, by decide⟩) | ((with_reducible refine And.intro (len_ok ?_) ?_); · (simp only [List.length_cons, List.length_nil]; omega))) | (first | ((with_reducible refine ite_pt ?_ ?_); · omega) | ((with_reducible refine ite_pf ?_ ?_); · omega) | ((with_reducible refine ite_npt ?_ ?_); · omega) | ((with_reducible refine ite_npf ?_ ?_); · omega))))
set_option Elab.async false
set_option linter.all false
set_option maxRecDepth 100000
set_option maxHeartbeats 4000000
namespace LW
open PySem PySem.Spec PyProof.Rows L2 DL

abbrev pP : Program := PySem.Challenge.pw_safeupto_k01_bodies_recognized
def gkL : List (Str × GK) := [(("MOST_NUMBER" : Str), (GK.val (.int (1000000000000000000000000000000)))), (("LETTERS" : Str), (GK.val (.str "abcdefghijklmnopqrstuvwxyz"))), (("is_integer" : Str), GK.fn), (("is_between" : Str), GK.fn), (("is_number" : Str), GK.fn), (("is_name" : Str), GK.fn), (("is_range" : Str), GK.fn), (("are_different" : Str), GK.fn), (("MOST_STATEMENTS" : Str), (GK.val (.int (40)))), (("MOST_DEPTH" : Str), (GK.val (.int (4)))), (("MOST_PARTS" : Str), (GK.val (.int (4)))), (("MOST_COST" : Str), (GK.val (.int (99)))), (("is_part" : Str), GK.fn), (("is_parts" : Str), GK.fn), (("is_statement" : Str), GK.fn), (("is_deep" : Str), GK.fn), (("bodies_in" : Str), GK.fn), (("all_statements" : Str), GK.fn), (("is_body" : Str), GK.fn), (("_law_pool" : Str), GK.fn), (("_law_take" : Str), GK.fn), (("_law_is_name" : Str), GK.fn), (("_law_is_int" : Str), GK.fn), (("_law_is_big" : Str), GK.fn), (("_law_are_parts" : Str), GK.fn), (("_law_fits" : Str), GK.fn), (("_law_is_inner" : Str), GK.fn), (("_law_many" : Str), GK.fn), (("_law_is_body" : Str), GK.fn), (("_law_drawn" : Str), GK.fn), (("_law_odd" : Str), GK.fn), (("_law_known_right" : Str), GK.fn), (("law" : Str), GK.fn), (("abs" : Str), GK.blt), (("int" : Str), GK.blt), (("bool" : Str), GK.blt), (("len" : Str), GK.blt), (("max" : Str), GK.blt), (("min" : Str), GK.blt), (("all" : Str), GK.blt), (("list" : Str), GK.blt), (("tuple" : Str), GK.blt), (("repr" : Str), GK.blt), (("isinstance" : Str), GK.blt), (("range" : Str), GK.blt), (("str" : Str), GK.blt)]
def tbL : List (Str × ClsE) := []
def exL : List ExD := []
def isiL : List ((TyC × TyC) × Bool) := [((TyC.b "NoneType", TyC.b "bool"), false), ((TyC.b "bool", TyC.b "bool"), true), ((TyC.b "int", TyC.b "bool"), false), ((TyC.b "str", TyC.b "bool"), false), ((TyC.b "tuple", TyC.b "bool"), false), ((TyC.b "list", TyC.b "bool"), false), ((TyC.b "dict", TyC.b "bool"), false), ((TyC.b "NoneType", TyC.b "int"), false), ((TyC.b "bool", TyC.b "int"), true), ((TyC.b "int", TyC.b "int"), true), ((TyC.b "str", TyC.b "int"), false), ((TyC.b "tuple", TyC.b "int"), false), ((TyC.b "list", TyC.b "int"), false), ((TyC.b "dict", TyC.b "int"), false), ((TyC.b "NoneType", TyC.b "str"), false), ((TyC.b "bool", TyC.b "str"), false), ((TyC.b "int", TyC.b "str"), false), ((TyC.b "str", TyC.b "str"), true), ((TyC.b "tuple", TyC.b "str"), false), ((TyC.b "list", TyC.b "str"), false), ((TyC.b "dict", TyC.b "str"), false), ((TyC.b "NoneType", TyC.b "tuple"), false), ((TyC.b "bool", TyC.b "tuple"), false), ((TyC.b "int", TyC.b "tuple"), false), ((TyC.b "str", TyC.b "tuple"), false), ((TyC.b "tuple", TyC.b "tuple"), true), ((TyC.b "list", TyC.b "tuple"), false), ((TyC.b "dict", TyC.b "tuple"), false)]
def sxL : List ((Str × Str) × Bool) := []
def c_is_integer : CSs := (.cons (.ret (.and (.blt "isinstance" (.cons (.var 0) (.cons (.cst (.ty "int")) .nil))) (.not (.blt "isinstance" (.cons (.var 0) (.cons (.cst (.ty "bool")) .nil)))))) <| .nil)
def e_is_integer : DefE := ⟨("is_integer", none), ⟨⟨["value"], []⟩, ["value"], c_is_integer⟩, dAt pP 3 none ("is_integer", none) "is_integer", 400⟩
def c_is_between : CSs := (.cons (.ret (.and (.call ("is_integer", none) (.cons (.var 0) .nil)) (.chn .LtE .LtE (.var 1) (.var 0) (.var 2)))) <| .nil)
def e_is_between : DefE := ⟨("is_between", none), ⟨⟨["value", "least", "most"], []⟩, ["value", "least", "most"], c_is_between⟩, dAt pP 4 none ("is_between", none) "is_between", 400⟩
def c_is_number : CSs := (.cons (.ret (.call ("is_between", none) (.cons (.var 0) (.cons (.neg (.cst (.int 1000000000000000000000000000000))) (.cons (.cst (.int 1000000000000000000000000000000)) .nil))))) <| .nil)
def e_is_number : DefE := ⟨("is_number", none), ⟨⟨["value"], []⟩, ["value"], c_is_number⟩, dAt pP 5 none ("is_number", none) "is_number", 400⟩
def c_is_name : CSs := (.cons (.ret (.and (.blt "isinstance" (.cons (.var 0) (.cons (.cst (.ty "str")) .nil))) (.and (.chn .LtE .LtE (.cst (.int 1)) (.blt "len" (.cons (.var 0) .nil)) (.cst (.int 8))) (.blt "all" (.cons (.comp (.seq (.var 0)) (.nm 2) none (.cmp .In (.var 2) (.cst (.str "abcdefghijklmnopqrstuvwxyz"))) [1, 2]) .nil))))) <| .nil)
def e_is_name : DefE := ⟨("is_name", none), ⟨⟨["value"], []⟩, ["value", ".0", "sign"], c_is_name⟩, dAt pP 6 none ("is_name", none) "is_name", 400⟩
def c_is_range : CSs := (.cons (.ret (.and (.blt "isinstance" (.cons (.var 0) (.cons (.cst (.ty "tuple")) .nil))) (.and (.cmp .Eq (.blt "len" (.cons (.var 0) .nil)) (.cst (.int 2))) (.and (.call ("is_number", none) (.cons (.ix (.var 0) (.cst (.int 0))) .nil)) (.and (.call ("is_number", none) (.cons (.ix (.var 0) (.cst (.int 1))) .nil)) (.cmp .LtE (.ix (.var 0) (.cst (.int 0))) (.ix (.var 0) (.cst (.int 1))))))))) <| .nil)
def e_is_range : DefE := ⟨("is_range", none), ⟨⟨["value"], []⟩, ["value"], c_is_range⟩, dAt pP 7 none ("is_range", none) "is_range", 400⟩
def c_are_different : CSs := (.cons (.ret (.cmp .Eq (.blt "len" (.cons (.dcomp (.seq (.var 0)) (.nm 2) none (.var 2) (.cst (.bl true)) [1, 2]) .nil)) (.blt "len" (.cons (.var 0) .nil)))) <| .nil)
def e_are_different : DefE := ⟨("are_different", none), ⟨⟨["values"], []⟩, ["values", ".0", "value"], c_are_different⟩, dAt pP 8 none ("are_different", none) "are_different", 400⟩
def c_is_part : CSs := (.cons (.iff (.or (.not (.val (.blt "isinstance" (.cons (.var 0) (.cons (.cst (.ty "tuple")) .nil))))) (.cmp .NotEq (.blt "len" (.cons (.var 0) .nil)) (.cst (.int 2)))) (.cons (.ret (.cst (.bl false))) <| .nil) (.nil)) <| .cons (.ret (.and (.or (.cmp .Is (.ix (.var 0) (.cst (.int 0))) (.cst .non)) (.call ("is_name", none) (.cons (.ix (.var 0) (.cst (.int 0))) .nil))) (.or (.call ("is_number", none) (.cons (.ix (.var 0) (.cst (.int 1))) .nil)) (.call ("is_name", none) (.cons (.ix (.var 0) (.cst (.int 1))) .nil))))) <| .nil)
def e_is_part : DefE := ⟨("is_part", none), ⟨⟨["value"], []⟩, ["value"], c_is_part⟩, dAt pP 14 none ("is_part", none) "is_part", 400⟩
def c_is_parts : CSs := (.cons (.iff (.or (.not (.val (.blt "isinstance" (.cons (.var 0) (.cons (.cst (.ty "tuple")) .nil))))) (.not (.chn .LtE .LtE (.cst (.int 1)) (.blt "len" (.cons (.var 0) .nil)) (.cst (.int 4))))) (.cons (.ret (.cst (.bl false))) <| .nil) (.nil)) <| .cons (.ret (.and (.blt "all" (.cons (.comp (.seq (.var 0)) (.nm 2) none (.call ("is_part", none) (.cons (.var 2) .nil)) [1, 2]) .nil)) (.call ("are_different", none) (.cons (.comp (.seq (.var 0)) (.nm 2) none (.ix (.var 2) (.cst (.int 0))) [1, 2]) .nil)))) <| .nil)
def e_is_parts : DefE := ⟨("is_parts", none), ⟨⟨["value"], []⟩, ["value", ".0", "part"], c_is_parts⟩, dAt pP 15 none ("is_parts", none) "is_parts", 400⟩
def c_is_statement : CSs := (.cons (.iff (.or (.not (.val (.blt "isinstance" (.cons (.var 0) (.cons (.cst (.ty "tuple")) .nil))))) (.or (.cmp .Eq (.var 0) (.tup .nil)) (.not (.val (.blt "isinstance" (.cons (.ix (.var 0) (.cst (.int 0))) (.cons (.cst (.ty "str")) .nil))))))) (.cons (.ret (.cst (.bl false))) <| .nil) (.nil)) <| .cons (.mat (.var 0) (.cons (.seq "set" [2, 3]) (.cons (.ret (.and (.call ("is_name", none) (.cons (.var 2) .nil)) (.call ("is_parts", none) (.cons (.var 3) .nil)))) <| .nil) (.cons (.seq "input" [2, 4, 5]) (.cons (.ret (.and (.call ("is_name", none) (.cons (.var 2) .nil)) (.call ("is_range", none) (.cons (.tup (.cons (.var 4) (.cons (.var 5) .nil))) .nil)))) <| .nil) (.cons (.seq "either" [6, 7]) (.cons (.ret (.and (.call ("is_deep", none) (.cons (.var 6) (.cons (.op .Add (.var 1) (.cst (.int 1))) .nil))) (.call ("is_deep", none) (.cons (.var 7) (.cons (.op .Add (.var 1) (.cst (.int 1))) .nil))))) <| .nil) (.cons (.seq "loop" [8, 9]) (.cons (.ret (.and (.call ("is_name", none) (.cons (.var 8) .nil)) (.call ("is_deep", none) (.cons (.var 9) (.cons (.op .Add (.var 1) (.cst (.int 1))) .nil))))) <| .nil) (.cons (.seq "call" [8]) (.cons (.ret (.call ("is_name", none) (.cons (.var 8) .nil))) <| .nil) (.cons (.seq "place" [8]) (.cons (.ret (.call ("is_name", none) (.cons (.var 8) .nil))) <| .nil) (.cons (.seq "read" [8, 2]) (.cons (.ret (.and (.call ("is_name", none) (.cons (.var 8) .nil)) (.call ("is_name", none) (.cons (.var 2) .nil)))) <| .nil) (.cons (.seq "guard" [8, 2, 10, 11]) (.cons (.ret (.and (.call ("is_name", none) (.cons (.var 8) .nil)) (.and (.call ("is_name", none) (.cons (.var 2) .nil)) (.and (.call ("is_number", none) (.cons (.var 10) .nil)) (.call ("is_between", none) (.cons (.var 11) (.cons (.cst (.int 1)) (.cons (.cst (.int 99)) .nil)))))))) <| .nil) .nil))))))))) <| .cons (.ret (.cst (.bl false))) <| .nil)
def e_is_statement : DefE := ⟨("is_statement", none), ⟨⟨["value", "depth"], []⟩, ["value", "depth", "x", "parts", "low", "high", "first", "second", "name", "body", "most", "cost"], c_is_statement⟩, dAt pP 16 none ("is_statement", none) "is_statement", 400⟩
def c_is_deep : CSs := (.cons (.iff (.or (.cmp .Gt (.var 1) (.cst (.int 4))) (.not (.val (.blt "isinstance" (.cons (.var 0) (.cons (.cst (.ty "tuple")) .nil)))))) (.cons (.ret (.cst (.bl false))) <| .nil) (.nil)) <| .cons (.ret (.blt "all" (.cons (.comp (.seq (.var 0)) (.nm 3) none (.call ("is_statement", none) (.cons (.var 3) (.cons (.var 1) .nil))) [2, 3]) .nil))) <| .nil)
def e_is_deep : DefE := ⟨("is_deep", none), ⟨⟨["value", "depth"], []⟩, ["value", "depth", ".0", "statement"], c_is_deep⟩, dAt pP 17 none ("is_deep", none) "is_deep", 400⟩
def c_bodies_in : CSs := (.cons (.mat (.ix (.var 0) (.cst (.int 0))) (.cons (.val "either") (.cons (.ret (.tup (.cons (.ix (.var 0) (.cst (.int 1))) (.cons (.ix (.var 0) (.cst (.int 2))) .nil)))) <| .nil) (.cons (.val "loop") (.cons (.ret (.tup (.cons (.ix (.var 0) (.cst (.int 2))) .nil))) <| .nil) .nil))) <| .cons (.ret (.tup .nil)) <| .nil)
def e_bodies_in : DefE := ⟨("bodies_in", none), ⟨⟨["statement"], []⟩, ["statement"], c_bodies_in⟩, dAt pP 18 none ("bodies_in", none) "bodies_in", 400⟩
def c_all_statements_L1 : CSs := (.cons (.expr (.meth (.var 1) "extend" (.cons (.call ("all_statements", none) (.cons (.var 3) .nil)) .nil))) <| .nil)
def c_all_statements_L2 : CSs := (.cons (.expr (.meth (.var 1) "append" (.cons (.var 2) .nil))) <| .cons (.for_ (.seq (.call ("bodies_in", none) (.cons (.var 2) .nil))) (.nm 3) c_all_statements_L1) <| .nil)
def c_all_statements : CSs := (.cons (.asg (.lst .nil) (.nm 1)) <| .cons (.for_ (.seq (.var 0)) (.nm 2) c_all_statements_L2) <| .cons (.ret (.var 1)) <| .nil)
def e_all_statements : DefE := ⟨("all_statements", none), ⟨⟨["body"], []⟩, ["body", "found", "statement", "inner"], c_all_statements⟩, dAt pP 19 none ("all_statements", none) "all_statements", 400⟩
def c_is_body : CSs := (.cons (.ret (.and (.call ("is_deep", none) (.cons (.var 0) (.cons (.cst (.int 1)) .nil))) (.cmp .LtE (.blt "len" (.cons (.call ("all_statements", none) (.cons (.var 0) .nil)) .nil)) (.cst (.int 40))))) <| .nil)
def e_is_body : DefE := ⟨("is_body", none), ⟨⟨["value"], []⟩, ["value"], c_is_body⟩, dAt pP 20 none ("is_body", none) "is_body", 400⟩
def c__law_pool : CSs := (.cons (.asg (.cst (.int 0)) (.nm 2)) <| .cons (.iff (.cmp .Lt (.var 1) (.blt "len" (.cons (.var 0) .nil))) (.cons (.asg (.blt "abs" (.cons (.ix (.var 0) (.var 1)) .nil)) (.nm 2)) <| .nil) (.nil)) <| .cons (.asg (.op .Mod (.blt "int" (.cons (.op .Mult (.op .Add (.op .Add (.op .Add (.op .Mod (.blt "int" (.cons (.var 2) .nil)) (.cst (.int 2147483629))) (.op .Mult (.op .Mult (.cst (.int 7919)) (.var 1)) (.var 1))) (.op .Mult (.cst (.int 31)) (.var 1))) (.cst (.int 17))) (.cst (.int 48271))) .nil)) (.cst (.int 2147483647))) (.nm 3)) <| .cons (.ret (.lst (.cons (.op .Mult (.var 2) (.blt "int" (.cons (.cmp .GtE (.var 2) (.op .Pow (.cst (.int 10)) (.cst (.int 18)))) .nil))) (.cons (.op .Mod (.blt "int" (.cons (.op .Mult (.var 3) (.var 3)) .nil)) (.cst (.int 2147483629))) .nil)))) <| .nil)
def e__law_pool : DefE := ⟨("_law_pool", none), ⟨⟨["_law_script", "_law_k"], []⟩, ["_law_script", "_law_k", "_law_cell", "_law_mixed"], c__law_pool⟩, dAt pP 22 none ("_law_pool", none) "_law_pool", 400⟩
def c__law_take : CSs := (.cons (.iff (.cmp .Gt (.ix (.var 0) (.cst (.int 0))) (.cst (.int 0))) (.cons (.asg (.op .Mod (.blt "int" (.cons (.ix (.var 0) (.cst (.int 0))) .nil)) (.var 1)) (.nm 2)) <| .cons (.sub (.op .FloorDiv (.blt "int" (.cons (.ix (.var 0) (.cst (.int 0))) .nil)) (.var 1)) (.var 0) (.cst (.int 0))) <| .cons (.ret (.var 2)) <| .nil) (.nil)) <| .cons (.sub (.op .Mod (.blt "int" (.cons (.op .Add (.op .Mult (.ix (.var 0) (.cst (.int 1))) (.cst (.int 48271))) (.cst (.int 12345))) .nil)) (.cst (.int 2147483647))) (.var 0) (.cst (.int 1))) <| .cons (.ret (.op .Mod (.blt "int" (.cons (.op .FloorDiv (.op .Mod (.blt "int" (.cons (.op .Mult (.ix (.var 0) (.cst (.int 1))) (.ix (.var 0) (.cst (.int 1)))) .nil)) (.cst (.int 2147483629))) (.cst (.int 64))) .nil)) (.var 1))) <| .nil)
def e__law_take : DefE := ⟨("_law_take", none), ⟨⟨["_law_pool_here", "_law_many_here"], []⟩, ["_law_pool_here", "_law_many_here", "_law_found"], c__law_take⟩, dAt pP 23 none ("_law_take", none) "_law_take", 400⟩
def c__law_is_name : CSs := (.cons (.iff (.or (.not (.val (.blt "isinstance" (.cons (.var 0) (.cons (.cst (.ty "str")) .nil))))) (.not (.chn .LtE .LtE (.cst (.int 1)) (.blt "len" (.cons (.var 0) .nil)) (.cst (.int 8))))) (.cons (.ret (.cst (.bl false))) <| .nil) (.nil)) <| .cons (.ret (.cmp .Eq (.comp (.seq (.var 0)) (.nm 2) (some (.cmp .NotIn (.var 2) (.cst (.str "abcdefghijklmnopqrstuvwxyz")))) (.var 2) [1, 2]) (.lst .nil))) <| .nil)
def e__law_is_name : DefE := ⟨("_law_is_name", none), ⟨⟨["_law_value"], []⟩, ["_law_value", ".0", "_law_sign"], c__law_is_name⟩, dAt pP 24 none ("_law_is_name", none) "_law_is_name", 400⟩
def c__law_is_int : CSs := (.cons (.ret (.and (.blt "isinstance" (.cons (.var 0) (.cons (.cst (.ty "int")) .nil))) (.and (.not (.blt "isinstance" (.cons (.var 0) (.cons (.cst (.ty "bool")) .nil)))) (.chn .LtE .LtE (.var 1) (.var 0) (.var 2))))) <| .nil)
def e__law_is_int : DefE := ⟨("_law_is_int", none), ⟨⟨["_law_value", "_law_low", "_law_high"], []⟩, ["_law_value", "_law_low", "_law_high"], c__law_is_int⟩, dAt pP 25 none ("_law_is_int", none) "_law_is_int", 400⟩
def c__law_is_big : CSs := (.cons (.ret (.call ("_law_is_int", none) (.cons (.var 0) (.cons (.op .Sub (.cst (.int 0)) (.op .Pow (.cst (.int 10)) (.cst (.int 30)))) (.cons (.op .Pow (.cst (.int 10)) (.cst (.int 30))) .nil))))) <| .nil)
def e__law_is_big : DefE := ⟨("_law_is_big", none), ⟨⟨["_law_value"], []⟩, ["_law_value"], c__law_is_big⟩, dAt pP 26 none ("_law_is_big", none) "_law_is_big", 400⟩
def c__law_are_parts_L1 : CSs := (.cons (.iff (.or (.not (.val (.blt "isinstance" (.cons (.var 2) (.cons (.cst (.ty "tuple")) .nil))))) (.or (.cmp .NotEq (.blt "len" (.cons (.var 2) .nil)) (.cst (.int 2))) (.and (.cmp .IsNot (.ix (.var 2) (.cst (.int 0))) (.cst .non)) (.not (.val (.call ("_law_is_name", none) (.cons (.ix (.var 2) (.cst (.int 0))) .nil))))))) (.cons (.ret (.cst (.bl false))) <| .nil) (.nil)) <| .cons (.iff (.or (.and (.not (.val (.call ("_law_is_big", none) (.cons (.ix (.var 2) (.cst (.int 1))) .nil)))) (.not (.val (.call ("_law_is_name", none) (.cons (.ix (.var 2) (.cst (.int 1))) .nil))))) (.cmp .In (.ix (.var 2) (.cst (.int 0))) (.var 1))) (.cons (.ret (.cst (.bl false))) <| .nil) (.nil)) <| .cons (.expr (.meth (.var 1) "append" (.cons (.ix (.var 2) (.cst (.int 0))) .nil))) <| .nil)
def c__law_are_parts : CSs := (.cons (.iff (.or (.not (.val (.blt "isinstance" (.cons (.var 0) (.cons (.cst (.ty "tuple")) .nil))))) (.not (.chn .LtE .LtE (.cst (.int 1)) (.blt "len" (.cons (.var 0) .nil)) (.cst (.int 4))))) (.cons (.ret (.cst (.bl false))) <| .nil) (.nil)) <| .cons (.asg (.lst .nil) (.nm 1)) <| .cons (.for_ (.seq (.var 0)) (.nm 2) c__law_are_parts_L1) <| .cons (.ret (.cst (.bl true))) <| .nil)
def e__law_are_parts : DefE := ⟨("_law_are_parts", none), ⟨⟨["_law_value"], []⟩, ["_law_value", "_law_names", "_law_part"], c__law_are_parts⟩, dAt pP 27 none ("_law_are_parts", none) "_law_are_parts", 400⟩
def c__law_fits : CSs := (.cons (.par 2 3 (.ix (.var 0) (.cst (.int 0))) (.sl (.var 0) (.cst (.int 1)) (.cst .non))) <| .cons (.iff (.and (.cmp .In (.var 2) (.tup (.cons (.cst (.str "call")) (.cons (.cst (.str "place")) .nil)))) (.val (.blt "isinstance" (.cons (.var 2) (.cons (.cst (.ty "str")) .nil))))) (.cons (.ret (.and (.cmp .Eq (.blt "len" (.cons (.var 3) .nil)) (.cst (.int 1))) (.call ("_law_is_name", none) (.cons (.ix (.var 3) (.cst (.int 0))) .nil)))) <| .nil) (.nil)) <| .cons (.iff (.cmp .Eq (.var 2) (.cst (.str "read"))) (.cons (.ret (.and (.cmp .Eq (.blt "len" (.cons (.var 3) .nil)) (.cst (.int 2))) (.and (.call ("_law_is_name", none) (.cons (.ix (.var 3) (.cst (.int 0))) .nil)) (.call ("_law_is_name", none) (.cons (.ix (.var 3) (.cst (.int 1))) .nil))))) <| .nil) (.nil)) <| .cons (.iff (.cmp .Eq (.var 2) (.cst (.str "set"))) (.cons (.ret (.and (.cmp .Eq (.blt "len" (.cons (.var 3) .nil)) (.cst (.int 2))) (.and (.call ("_law_is_name", none) (.cons (.ix (.var 3) (.cst (.int 0))) .nil)) (.call ("_law_are_parts", none) (.cons (.ix (.var 3) (.cst (.int 1))) .nil))))) <| .nil) (.nil)) <| .cons (.iff (.cmp .Eq (.var 2) (.cst (.str "input"))) (.cons (.iff (.or (.cmp .NotEq (.blt "len" (.cons (.var 3) .nil)) (.cst (.int 3))) (.or (.not (.val (.call ("_law_is_big", none) (.cons (.ix (.var 3) (.cst (.int 1))) .nil)))) (.not (.val (.call ("_law_is_big", none) (.cons (.ix (.var 3) (.cst (.int 2))) .nil)))))) (.cons (.ret (.cst (.bl false))) <| .nil) (.nil)) <| .cons (.ret (.and (.call ("_law_is_name", none) (.cons (.ix (.var 3) (.cst (.int 0))) .nil)) (.cmp .LtE (.ix (.var 3) (.cst (.int 1))) (.ix (.var 3) (.cst (.int 2)))))) <| .nil) (.nil)) <| .cons (.iff (.cmp .Eq (.var 2) (.cst (.str "guard"))) (.cons (.iff (.or (.cmp .NotEq (.blt "len" (.cons (.var 3) .nil)) (.cst (.int 4))) (.or (.not (.val (.call ("_law_is_name", none) (.cons (.ix (.var 3) (.cst (.int 0))) .nil)))) (.not (.val (.call ("_law_is_name", none) (.cons (.ix (.var 3) (.cst (.int 1))) .nil)))))) (.cons (.ret (.cst (.bl false))) <| .nil) (.nil)) <| .cons (.ret (.and (.call ("_law_is_big", none) (.cons (.ix (.var 3) (.cst (.int 2))) .nil)) (.call ("_law_is_int", none) (.cons (.ix (.var 3) (.cst (.int 3))) (.cons (.cst (.int 1)) (.cons (.cst (.int 99)) .nil)))))) <| .nil) (.nil)) <| .cons (.iff (.cmp .Eq (.var 2) (.cst (.str "either"))) (.cons (.ret (.and (.cmp .Eq (.blt "len" (.cons (.var 3) .nil)) (.cst (.int 2))) (.cmp .Eq (.comp (.seq (.var 3)) (.nm 5) (some (.not (.val (.call ("_law_is_inner", none) (.cons (.var 5) (.cons (.op .Add (.var 1) (.cst (.int 1))) .nil)))))) (.var 5) [4, 5]) (.lst .nil)))) <| .nil) (.nil)) <| .cons (.ret (.and (.cmp .Eq (.var 2) (.cst (.str "loop"))) (.and (.cmp .Eq (.blt "len" (.cons (.var 3) .nil)) (.cst (.int 2))) (.and (.call ("_law_is_name", none) (.cons (.ix (.var 3) (.cst (.int 0))) .nil)) (.call ("_law_is_inner", none) (.cons (.ix (.var 3) (.cst (.int 1))) (.cons (.op .Add (.var 1) (.cst (.int 1))) .nil))))))) <| .nil)
def e__law_fits : DefE := ⟨("_law_fits", none), ⟨⟨["_law_value", "_law_depth"], []⟩, ["_law_value", "_law_depth", "_law_word", "_law_rest", ".0", "_law_one"], c__law_fits⟩, dAt pP 28 none ("_law_fits", none) "_law_fits", 400⟩
def c__law_is_inner_L1 : CSs := (.cons (.iff (.or (.not (.val (.blt "isinstance" (.cons (.var 2) (.cons (.cst (.ty "tuple")) .nil))))) (.or (.cmp .Eq (.var 2) (.tup .nil)) (.or (.not (.val (.blt "isinstance" (.cons (.ix (.var 2) (.cst (.int 0))) (.cons (.cst (.ty "str")) .nil))))) (.not (.val (.call ("_law_fits", none) (.cons (.var 2) (.cons (.var 1) .nil)))))))) (.cons (.ret (.cst (.bl false))) <| .nil) (.nil)) <| .nil)
def c__law_is_inner : CSs := (.cons (.iff (.or (.cmp .Gt (.var 1) (.cst (.int 4))) (.not (.val (.blt "isinstance" (.cons (.var 0) (.cons (.cst (.ty "tuple")) .nil)))))) (.cons (.ret (.cst (.bl false))) <| .nil) (.nil)) <| .cons (.for_ (.seq (.var 0)) (.nm 2) c__law_is_inner_L1) <| .cons (.ret (.cst (.bl true))) <| .nil)
def e__law_is_inner : DefE := ⟨("_law_is_inner", none), ⟨⟨["_law_value", "_law_depth"], []⟩, ["_law_value", "_law_depth", "_law_one"], c__law_is_inner⟩, dAt pP 29 none ("_law_is_inner", none) "_law_is_inner", 400⟩
def c__law_many_L1 : CSs := (.cons (.asg (.op .Add (.var 1) (.cst (.int 1))) (.nm 1)) <| .cons (.iff (.cmp .Eq (.ix (.var 2) (.cst (.int 0))) (.cst (.str "either"))) (.cons (.asg (.op .Add (.op .Add (.var 1) (.call ("_law_many", none) (.cons (.ix (.var 2) (.cst (.int 1))) .nil))) (.call ("_law_many", none) (.cons (.ix (.var 2) (.cst (.int 2))) .nil))) (.nm 1)) <| .nil) (.nil)) <| .cons (.iff (.cmp .Eq (.ix (.var 2) (.cst (.int 0))) (.cst (.str "loop"))) (.cons (.asg (.op .Add (.var 1) (.call ("_law_many", none) (.cons (.ix (.var 2) (.cst (.int 2))) .nil))) (.nm 1)) <| .nil) (.nil)) <| .nil)
def c__law_many : CSs := (.cons (.asg (.cst (.int 0)) (.nm 1)) <| .cons (.for_ (.seq (.var 0)) (.nm 2) c__law_many_L1) <| .cons (.ret (.var 1)) <| .nil)
def e__law_many : DefE := ⟨("_law_many", none), ⟨⟨["_law_body"], []⟩, ["_law_body", "_law_found", "_law_one"], c__law_many⟩, dAt pP 30 none ("_law_many", none) "_law_many", 400⟩
def c__law_is_body : CSs := (.cons (.ret (.and (.call ("_law_is_inner", none) (.cons (.var 0) (.cons (.cst (.int 1)) .nil))) (.cmp .LtE (.call ("_law_many", none) (.cons (.var 0) .nil)) (.cst (.int 40))))) <| .nil)
def e__law_is_body : DefE := ⟨("_law_is_body", none), ⟨⟨["_law_value"], []⟩, ["_law_value"], c__law_is_body⟩, dAt pP 31 none ("_law_is_body", none) "_law_is_body", 400⟩
def c__law_drawn_L1 : CSs := (.cons (.asg (.call ("_law_take", none) (.cons (.var 0) (.cons (.ite (.cmp .Lt (.var 2) (.cst (.int 4))) (.cst (.int 9)) (.cst (.int 7))) .nil))) (.nm 5)) <| .cons (.sub (.op .Sub (.ix (.var 1) (.cst (.int 0))) (.cst (.int 1))) (.var 1) (.cst (.int 0))) <| .cons (.iff (.cmp .Lt (.ix (.var 1) (.cst (.int 0))) (.cst (.int 0))) (.cons .brk <| .nil) (.nil)) <| .cons (.asg (.ix (.lst (.cons (.cst (.str "x")) (.cons (.cst (.str "abcdefgh")) (.cons (.cst (.str "go")) .nil)))) (.call ("_law_take", none) (.cons (.var 0) (.cons (.cst (.int 3)) .nil)))) (.nm 6)) <| .cons (.asg (.tup (.cons (.tup (.cons (.cst .non) (.cons (.op .Sub (.call ("_law_take", none) (.cons (.var 0) (.cons (.cst (.int 9)) .nil))) (.cst (.int 4))) .nil))) (.cons (.tup (.cons (.var 6) (.cons (.cst (.str "p")) .nil))) (.cons (.tup (.cons (.cst (.str "y")) (.cons (.op .Sub (.cst (.int 0)) (.op .Pow (.cst (.int 10)) (.cst (.int 30)))) .nil))) (.cons (.tup (.cons (.cst (.str "w")) (.cons (.op .Pow (.cst (.int 10)) (.cst (.int 30))) .nil))) .nil))))) (.nm 7)) <| .cons (.asg (.lst (.cons (.tup (.cons (.cst (.str "set")) (.cons (.cst (.str "x")) (.cons (.sl (.var 7) (.cst .non) (.op .Add (.cst (.int 1)) (.call ("_law_take", none) (.cons (.var 0) (.cons (.cst (.int 4)) .nil))))) .nil)))) (.cons (.tup (.cons (.cst (.str "set")) (.cons (.var 6) (.cons (.tup (.cons (.tup (.cons (.var 6) (.cons (.cst (.int 0)) .nil))) .nil)) .nil)))) (.cons (.tup (.cons (.cst (.str "input")) (.cons (.var 6) (.cons (.neg (.cst (.int 2))) (.cons (.cst (.int 5)) .nil))))) .nil)))) (.nm 8)) <| .cons (.asg (.op .Add (.var 8) (.lst (.cons (.tup (.cons (.cst (.str "call")) (.cons (.var 6) .nil))) (.cons (.tup (.cons (.cst (.str "place")) (.cons (.var 6) .nil))) (.cons (.tup (.cons (.cst (.str "read")) (.cons (.var 6) (.cons (.cst (.str "x")) .nil)))) (.cons (.tup (.cons (.cst (.str "guard")) (.cons (.cst (.str "g")) (.cons (.var 6) (.cons (.cst (.int 0)) (.cons (.cst (.int 99)) .nil)))))) .nil)))))) (.nm 8)) <| .cons (.iff (.cmp .Lt (.var 5) (.cst (.int 7))) (.cons (.expr (.meth (.var 3) "append" (.cons (.ix (.var 8) (.var 5)) .nil))) <| .nil) (.cons (.iff (.cmp .Eq (.var 5) (.cst (.int 7))) (.cons (.asg (.call ("_law_drawn", none) (.cons (.var 0) (.cons (.var 1) (.cons (.op .Add (.var 2) (.cst (.int 1))) .nil)))) (.nm 9)) <| .cons (.expr (.meth (.var 3) "append" (.cons (.tup (.cons (.cst (.str "either")) (.cons (.var 9) (.cons (.call ("_law_drawn", none) (.cons (.var 0) (.cons (.var 1) (.cons (.op .Add (.var 2) (.cst (.int 1))) .nil)))) .nil)))) .nil))) <| .nil) (.cons (.expr (.meth (.var 3) "append" (.cons (.tup (.cons (.cst (.str "loop")) (.cons (.var 6) (.cons (.call ("_law_drawn", none) (.cons (.var 0) (.cons (.var 1) (.cons (.op .Add (.var 2) (.cst (.int 1))) .nil)))) .nil)))) .nil))) <| .nil)) <| .nil)) <| .nil)
def c__law_drawn : CSs := (.cons (.asg (.lst .nil) (.nm 3)) <| .cons (.for_ (.rng (.cons (.op .Add (.cst (.int 1)) (.call ("_law_take", none) (.cons (.var 0) (.cons (.cst (.int 4)) .nil)))) .nil)) (.nm 4) c__law_drawn_L1) <| .cons (.ret (.blt "tuple" (.cons (.var 3) .nil))) <| .nil)
def e__law_drawn : DefE := ⟨("_law_drawn", none), ⟨⟨["_law_pool_here", "_law_left", "_law_depth"], []⟩, ["_law_pool_here", "_law_left", "_law_depth", "_law_found", "_law_turn", "_law_kind", "_law_name", "_law_parts", "_law_some", "_law_one"], c__law_drawn⟩, dAt pP 32 none ("_law_drawn", none) "_law_drawn", 400⟩
def c__law_odd : CSs := (.cons (.asg (.lst (.cons (.tup (.cons (.cst (.str "set")) (.cons (.cst (.str "x")) (.cons (.tup .nil) .nil)))) (.cons (.tup (.cons (.cst (.str "set")) (.cons (.cst (.str "x")) (.cons (.tup (.cons (.tup (.cons (.cst (.str "y")) (.cons (.cst (.int 1)) .nil))) (.cons (.tup (.cons (.cst (.str "y")) (.cons (.cst (.int 2)) .nil))) .nil))) .nil)))) (.cons (.tup (.cons (.cst (.str "set")) (.cons (.cst (.str "x")) (.cons (.tup (.cons (.tup (.cons (.cst .non) (.cons (.cst (.int 1)) .nil))) (.cons (.tup (.cons (.cst .non) (.cons (.cst (.int 2)) .nil))) .nil))) .nil)))) (.cons (.tup (.cons (.cst (.str "set")) (.cons (.cst (.str "x")) .nil))) (.cons (.tup .nil) .nil)))))) (.nm 1)) <| .cons (.asg (.op .Add (.var 1) (.lst (.cons (.tup (.cons (.cst (.str "set")) (.cons (.cst (.str "x")) (.cons (.tup (.cons (.tup (.cons (.cst (.str "y")) (.cons (.cst (.int 1)) (.cons (.cst (.int 2)) .nil)))) .nil)) .nil)))) (.cons (.tup (.cons (.cst (.str "set")) (.cons (.cst (.str "x")) (.cons (.lst (.cons (.tup (.cons (.cst (.str "y")) (.cons (.cst (.int 1)) .nil))) .nil)) .nil)))) (.cons (.tup (.cons (.cst (.str "set")) (.cons (.cst (.str "x")) (.cons (.tup (.cons (.lst (.cons (.cst (.str "y")) (.cons (.cst (.int 1)) .nil))) .nil)) .nil)))) .nil))))) (.nm 1)) <| .cons (.asg (.op .Add (.var 1) (.lst (.cons (.tup (.cons (.cst (.str "set")) (.cons (.cst (.int 1)) (.cons (.tup (.cons (.tup (.cons (.cst (.str "y")) (.cons (.cst (.int 1)) .nil))) .nil)) .nil)))) .nil))) (.nm 1)) <| .cons (.asg (.op .Add (.var 1) (.lst (.cons (.tup (.cons (.cst (.str "set")) (.cons (.cst (.str "x")) (.cons (.tup (.cons (.tup (.cons (.cst (.str "y")) (.cons (.cst (.bl true)) .nil))) .nil)) .nil)))) (.cons (.tup (.cons (.cst (.str "set")) (.cons (.cst (.str "x")) (.cons (.tup (.cons (.tup (.cons (.cst (.str "y")) (.cons (.cst .non) .nil))) .nil)) .nil)))) (.cons (.tup (.cons (.cst (.str "set")) (.cons (.cst (.str "X")) (.cons (.tup (.cons (.tup (.cons (.cst (.str "y")) (.cons (.cst (.int 1)) .nil))) .nil)) .nil)))) (.cons (.cst .non) .nil)))))) (.nm 1)) <| .cons (.asg (.op .Add (.var 1) (.lst (.cons (.cst (.int 5)) (.cons (.cst (.str "place")) .nil)))) (.nm 1)) <| .cons (.asg (.op .Add (.var 1) (.lst (.cons (.tup (.cons (.cst (.str "set")) (.cons (.cst (.str "x")) (.cons (.tup (.cons (.tup (.cons (.cst (.str "y")) (.cons (.op .Add (.op .Pow (.cst (.int 10)) (.cst (.int 30))) (.cst (.int 1))) .nil))) .nil)) .nil)))) (.cons (.tup (.cons (.cst (.str "set")) (.cons (.cst (.str "x")) (.cons (.tup (.cons (.tup (.cons (.cst (.str "y")) (.cons (.op .Sub (.op .Sub (.cst (.int 0)) (.op .Pow (.cst (.int 10)) (.cst (.int 30)))) (.cst (.int 1))) .nil))) .nil)) .nil)))) (.cons (.tup (.cons (.cst (.str "set")) .nil)) .nil))))) (.nm 1)) <| .cons (.expr (.meth (.var 1) "append" (.cons (.tup (.cons (.cst (.str "set")) (.cons (.cst (.str "x")) (.cons (.blt "tuple" (.cons (.comp (.seq (.cst (.str "abcde"))) (.nm 3) none (.tup (.cons (.var 3) (.cons (.cst (.int 1)) .nil))) [2, 3]) .nil)) .nil)))) .nil))) <| .cons (.asg (.op .Add (.var 1) (.lst (.cons (.tup (.cons (.cst (.str "input")) (.cons (.cst (.str "x")) (.cons (.cst (.int 3)) (.cons (.cst (.int 2)) .nil))))) (.cons (.tup (.cons (.cst (.str "input")) (.cons (.cst (.str "x")) (.cons (.cst (.int 1)) .nil)))) (.cons (.tup (.cons (.cst (.str "input")) (.cons (.cst (.str "x")) (.cons (.cst (.int 0)) (.cons (.op .Add (.op .Pow (.cst (.int 10)) (.cst (.int 30))) (.cst (.int 1))) .nil))))) (.cons (.tup (.cons (.cst (.str "input")) (.cons (.cst (.str "x")) (.cons (.cst (.str "p")) (.cons (.cst (.int 2)) .nil))))) .nil)))))) (.nm 1)) <| .cons (.asg (.op .Add (.op .Add (.var 1) (.lst (.cons (.tup (.cons (.cst (.str "either")) (.cons (.tup .nil) .nil))) (.cons (.tup (.cons (.cst (.str "either")) (.cons (.tup .nil) (.cons (.lst .nil) .nil)))) .nil)))) (.lst (.cons (.tup (.cons (.cst (.str "loop")) (.cons (.cst (.str "l")) (.cons (.cst .non) .nil)))) (.cons (.tup (.cons (.cst (.str "loop")) (.cons (.cst (.str "")) (.cons (.tup .nil) .nil)))) (.cons (.tup (.cons (.cst (.str "call")) (.cons (.cst (.str "abcdefghi")) .nil))) .nil))))) (.nm 1)) <| .cons (.asg (.op .Add (.var 1) (.lst (.cons (.tup (.cons (.cst (.str "call")) (.cons (.tup (.cons (.cst (.str "f")) .nil)) .nil))) (.cons (.tup (.cons (.cst (.str "place")) .nil)) (.cons (.tup (.cons (.cst (.str "place")) (.cons (.cst (.str "a")) (.cons (.cst (.str "b")) .nil)))) (.cons (.tup (.cons (.cst (.str "read")) (.cons (.cst (.str "a")) .nil))) (.cons (.tup (.cons (.cst (.str "read")) (.cons (.cst (.str "a")) (.cons (.cst (.int 3)) .nil)))) (.cons (.tup (.cons (.lst (.cons (.cst (.str "set")) .nil)) (.cons (.cst (.int 1)) (.cons (.cst (.int 2)) .nil)))) .nil)))))))) (.nm 1)) <| .cons (.asg (.op .Add (.var 1) (.lst (.cons (.tup (.cons (.cst (.str "guard")) (.cons (.cst (.str "g")) (.cons (.cst (.str "x")) (.cons (.cst (.int 1)) (.cons (.cst (.int 0)) .nil)))))) (.cons (.tup (.cons (.cst (.str "guard")) (.cons (.cst (.str "g")) (.cons (.cst (.str "x")) (.cons (.cst (.int 1)) (.cons (.cst (.int 100)) .nil)))))) (.cons (.tup (.cons (.cst (.str "guard")) (.cons (.cst (.str "g")) (.cons (.cst (.str "x")) (.cons (.cst .non) (.cons (.cst (.int 1)) .nil)))))) (.cons (.tup (.cons (.cst (.str "stop")) .nil)) .nil)))))) (.nm 1)) <| .cons (.asg (.op .Add (.var 1) (.lst (.cons (.lst (.cons (.cst (.str "place")) (.cons (.cst (.str "a")) .nil))) (.cons (.tup (.cons (.cst (.str "either")) (.cons (.tup (.cons (.tup (.cons (.cst (.str "place")) (.cons (.cst (.int 1)) .nil))) .nil)) (.cons (.tup .nil) .nil)))) (.cons (.tup (.cons (.cst (.str "loop")) (.cons (.cst (.str "l")) (.cons (.tup (.cons (.tup .nil) .nil)) .nil)))) (.cons (.tup (.cons (.cst (.str "place")) (.cons (.cst (.str "a1")) .nil))) (.cons (.tup (.cons .dic0 (.cons (.cst (.int 1)) .nil))) .nil))))))) (.nm 1)) <| .cons (.ret (.ix (.var 1) (.call ("_law_take", none) (.cons (.var 0) (.cons (.blt "len" (.cons (.var 1) .nil)) .nil))))) <| .nil)
def e__law_odd : DefE := ⟨("_law_odd", none), ⟨⟨["_law_pool_here"], []⟩, ["_law_pool_here", "_law_odd_here", ".0", "_law_name"], c__law_odd⟩, dAt pP 33 none ("_law_odd", none) "_law_odd", 400⟩
def c__law_known_right_L1 : CSs := (.cons (.asg (.op .Add (.op .Mult (.tup (.cons (.tup (.cons (.cst (.str "place")) (.cons (.cst (.str "p")) .nil))) .nil)) (.op .Sub (.var 1) (.cst (.int 4)))) (.tup (.cons (.var 0) .nil))) (.nm 2)) <| .cons (.iff (.cmp .NotEq (.blt "repr" (.cons (.call ("is_body", none) (.cons (.var 2) .nil)) .nil)) (.blt "repr" (.cons (.cmp .LtE (.var 1) (.cst (.int 40))) .nil))) (.cons (.ret (.cst (.bl false))) <| .nil) (.nil)) <| .nil)
def c__law_known_right : CSs := (.cons (.asg (.tup (.cons (.cst (.str "loop")) (.cons (.cst (.str "l")) (.cons (.tup (.cons (.tup (.cons (.cst (.str "either")) (.cons (.tup (.cons (.tup (.cons (.cst (.str "loop")) (.cons (.cst (.str "m")) (.cons (.tup (.cons (.tup (.cons (.cst (.str "place")) (.cons (.cst (.str "p")) .nil))) .nil)) .nil)))) .nil)) (.cons (.tup .nil) .nil)))) .nil)) .nil)))) (.nm 0)) <| .cons (.for_ (.rng (.cons (.cst (.int 38)) (.cons (.cst (.int 43)) .nil))) (.nm 1) c__law_known_right_L1) <| .cons (.asg (.tup (.cons (.tup (.cons (.cst (.str "loop")) (.cons (.cst (.str "k")) (.cons (.tup (.cons (.var 0) .nil)) .nil)))) .nil)) (.nm 3)) <| .cons (.ret (.and (.cmp .Is (.call ("is_body", none) (.cons (.tup (.cons (.var 0) .nil)) .nil)) (.cst (.bl true))) (.and (.cmp .Is (.call ("is_body", none) (.cons (.var 3) .nil)) (.cst (.bl false))) (.cmp .Is (.call ("is_body", none) (.cons (.tup .nil) .nil)) (.cst (.bl true)))))) <| .nil)
def e__law_known_right : DefE := ⟨("_law_known_right", none), ⟨⟨[], []⟩, ["_law_deep", "_law_many_here", "_law_rows", "_law_more"], c__law_known_right⟩, dAt pP 34 none ("_law_known_right", none) "_law_known_right", 400⟩
def c_law_L1 : CSs := (.cons (.iff (.cmp .IsNot (.call ("is_body", none) (.cons (.var 1) .nil)) (.cst (.bl false))) (.cons (.ret (.cst (.bl false))) <| .nil) (.nil)) <| .nil)
def c_law_L2 : CSs := (.cons (.iff (.cmp .NotEq (.blt "repr" (.cons (.call ("is_body", none) (.cons (.var 1) .nil)) .nil)) (.blt "repr" (.cons (.call ("_law_is_body", none) (.cons (.var 1) .nil)) .nil))) (.cons (.ret (.cst (.bl false))) <| .nil) (.nil)) <| .nil)
def c_law_L3 : CSs := (.cons (.asg (.call ("_law_drawn", none) (.cons (.var 3) (.cons (.lst (.cons (.op .Add (.cst (.int 4)) (.call ("_law_take", none) (.cons (.var 3) (.cons (.cst (.int 20)) .nil)))) .nil)) (.cons (.cst (.int 1)) .nil)))) (.nm 5)) <| .cons (.asg (.call ("_law_take", none) (.cons (.var 3) (.cons (.op .Add (.blt "len" (.cons (.var 5) .nil)) (.cst (.int 1))) .nil))) (.nm 6)) <| .cons (.asg (.call ("_law_odd", none) (.cons (.var 3) .nil)) (.nm 7)) <| .cons (.asg (.tup (.cons (.tup (.cons (.cst (.str "loop")) (.cons (.cst (.str "l")) (.cons (.tup (.cons (.var 7) .nil)) .nil)))) .nil)) (.nm 8)) <| .cons (.for_ (.seq (.lst (.cons (.var 5) (.cons (.blt "list" (.cons (.var 5) .nil)) (.cons (.op .Add (.op .Add (.sl (.var 5) (.cst .non) (.var 6)) (.tup (.cons (.var 7) .nil))) (.sl (.var 5) (.var 6) (.cst .non))) (.cons (.op .Add (.var 5) (.var 8)) (.cons (.tup (.cons (.tup (.cons (.cst (.str "either")) (.cons (.tup .nil) (.cons (.var 5) .nil)))) .nil)) .nil))))))) (.nm 1) c_law_L2) <| .nil)
def c_law_L4 : CSs := (.cons (.asg (.call ("_law_pool", none) (.cons (.var 0) (.cons (.var 2) .nil))) (.nm 3)) <| .cons (.for_ (.rng (.cons (.cst (.int 12)) .nil)) (.nm 4) c_law_L3) <| .nil)
def c_law : CSs := (.cons (.for_ (.seq (.lst (.cons (.cst .non) (.cons (.cst (.int 5)) (.cons (.lst .nil) (.cons (.cst (.str "")) (.cons .dic0 (.cons (.lst (.cons (.cst (.str "place")) (.cons (.cst (.str "a")) .nil))) (.cons (.tup (.cons (.cst .non) .nil)) (.cons (.tup (.cons (.cst (.str "place")) (.cons (.cst (.str "a")) .nil))) (.cons (.lst (.cons (.tup (.cons (.cst (.str "place")) (.cons (.cst (.str "a")) .nil))) .nil)) .nil))))))))))) (.nm 1) c_law_L1) <| .cons (.for_ (.rng (.cons (.blt "max" (.cons (.cst (.int 1)) (.cons (.blt "min" (.cons (.cst (.int 16)) (.cons (.blt "len" (.cons (.var 0) .nil)) .nil))) .nil))) .nil)) (.nm 2) c_law_L4) <| .cons (.ret (.call ("_law_known_right", none) .nil)) <| .nil)
def e_law : DefE := ⟨("law", none), ⟨⟨["_law_script"], []⟩, ["_law_script", "_law_value", "_law_k", "_law_pool_here", "_law_turn", "_law_body", "_law_at", "_law_odd_here", "_law_inner"], c_law⟩, dAt pP 35 none ("law", none) "law", 400⟩
def pd : PD := ⟨gkL, tbL, [e_is_integer, e_is_between, e_is_number, e_is_name, e_is_range, e_are_different, e_is_part, e_is_parts, e_is_statement, e_is_deep, e_bodies_in, e_all_statements, e_is_body, e__law_pool, e__law_take, e__law_is_name, e__law_is_int, e__law_is_big, e__law_are_parts, e__law_fits, e__law_is_inner, e__law_many, e__law_is_body, e__law_drawn, e__law_odd, e__law_known_right, e_law], exL, isiL, sxL⟩
theorem s_is_integer : FnScope e_is_integer.fe.N e_is_integer.fe.fi.ps e_is_integer.d.scope := ⟨by kernel_rfl, by kernel_rfl, by kernel_rfl, by decide +kernel, by kernel_rfl, by decide +kernel, by decide +kernel⟩
theorem r_is_integer : cSs e_is_integer.m ⟨e_is_integer.fe.N, e_is_integer.d.scope, fun _ => true, pd.prg.gk, true, true⟩ e_is_integer.d.body = some e_is_integer.fe.code := by kernel_rfl
theorem b_is_integer : ∀ (kV doc pm : Value) (an : Option Addr) (cdv ct : Value) (us : List Value), us.length = e_is_integer.fe.fi.ps.length → bindArgs (PySem.W.fnOf e_is_integer.d.name e_is_integer.d.qual e_is_integer.d.params e_is_integer.d.body e_is_integer.d.scope .none kV doc pm an cdv ct) { pos := us } = pure (e_is_integer.fe.fi.ps.zip us) := fun _ _ _ _ _ _ us hl => match us, hl with | [_], _ => rfl
theorem s_is_between : FnScope e_is_between.fe.N e_is_between.fe.fi.ps e_is_between.d.scope := ⟨by kernel_rfl, by kernel_rfl, by kernel_rfl, by decide +kernel, by kernel_rfl, by decide +kernel, by decide +kernel⟩
theorem r_is_between : cSs e_is_between.m ⟨e_is_between.fe.N, e_is_between.d.scope, fun _ => true, pd.prg.gk, true, true⟩ e_is_between.d.body = some e_is_between.fe.code := by kernel_rfl
theorem b_is_between : ∀ (kV doc pm : Value) (an : Option Addr) (cdv ct : Value) (us : List Value), us.length = e_is_between.fe.fi.ps.length → bindArgs (PySem.W.fnOf e_is_between.d.name e_is_between.d.qual e_is_between.d.params e_is_between.d.body e_is_between.d.scope .none kV doc pm an cdv ct) { pos := us } = pure (e_is_between.fe.fi.ps.zip us) := fun _ _ _ _ _ _ us hl => match us, hl with | [_, _, _], _ => rfl
theorem s_is_number : FnScope e_is_number.fe.N e_is_number.fe.fi.ps e_is_number.d.scope := ⟨by kernel_rfl, by kernel_rfl, by kernel_rfl, by decide +kernel, by kernel_rfl, by decide +kernel, by decide +kernel⟩
theorem r_is_number : cSs e_is_number.m ⟨e_is_number.fe.N, e_is_number.d.scope, fun _ => true, pd.prg.gk, true, true⟩ e_is_number.d.body = some e_is_number.fe.code := by kernel_rfl
theorem b_is_number : ∀ (kV doc pm : Value) (an : Option Addr) (cdv ct : Value) (us : List Value), us.length = e_is_number.fe.fi.ps.length → bindArgs (PySem.W.fnOf e_is_number.d.name e_is_number.d.qual e_is_number.d.params e_is_number.d.body e_is_number.d.scope .none kV doc pm an cdv ct) { pos := us } = pure (e_is_number.fe.fi.ps.zip us) := fun _ _ _ _ _ _ us hl => match us, hl with | [_], _ => rfl
theorem s_is_name : FnScope e_is_name.fe.N e_is_name.fe.fi.ps e_is_name.d.scope := ⟨by kernel_rfl, by kernel_rfl, by kernel_rfl, by decide +kernel, by kernel_rfl, by decide +kernel, by decide +kernel⟩
theorem r_is_name : cSs e_is_name.m ⟨e_is_name.fe.N, e_is_name.d.scope, fun _ => true, pd.prg.gk, true, true⟩ e_is_name.d.body = some e_is_name.fe.code := by kernel_rfl
theorem b_is_name : ∀ (kV doc pm : Value) (an : Option Addr) (cdv ct : Value) (us : List Value), us.length = e_is_name.fe.fi.ps.length → bindArgs (PySem.W.fnOf e_is_name.d.name e_is_name.d.qual e_is_name.d.params e_is_name.d.body e_is_name.d.scope .none kV doc pm an cdv ct) { pos := us } = pure (e_is_name.fe.fi.ps.zip us) := fun _ _ _ _ _ _ us hl => match us, hl with | [_], _ => rfl
theorem s_is_range : FnScope e_is_range.fe.N e_is_range.fe.fi.ps e_is_range.d.scope := ⟨by kernel_rfl, by kernel_rfl, by kernel_rfl, by decide +kernel, by kernel_rfl, by decide +kernel, by decide +kernel⟩
theorem r_is_range : cSs e_is_range.m ⟨e_is_range.fe.N, e_is_range.d.scope, fun _ => true, pd.prg.gk, true, true⟩ e_is_range.d.body = some e_is_range.fe.code := by kernel_rfl
theorem b_is_range : ∀ (kV doc pm : Value) (an : Option Addr) (cdv ct : Value) (us : List Value), us.length = e_is_range.fe.fi.ps.length → bindArgs (PySem.W.fnOf e_is_range.d.name e_is_range.d.qual e_is_range.d.params e_is_range.d.body e_is_range.d.scope .none kV doc pm an cdv ct) { pos := us } = pure (e_is_range.fe.fi.ps.zip us) := fun _ _ _ _ _ _ us hl => match us, hl with | [_], _ => rfl
theorem s_are_different : FnScope e_are_different.fe.N e_are_different.fe.fi.ps e_are_different.d.scope := ⟨by kernel_rfl, by kernel_rfl, by kernel_rfl, by decide +kernel, by kernel_rfl, by decide +kernel, by decide +kernel⟩
theorem r_are_different : cSs e_are_different.m ⟨e_are_different.fe.N, e_are_different.d.scope, fun _ => true, pd.prg.gk, true, true⟩ e_are_different.d.body = some e_are_different.fe.code := by kernel_rfl
theorem b_are_different : ∀ (kV doc pm : Value) (an : Option Addr) (cdv ct : Value) (us : List Value), us.length = e_are_different.fe.fi.ps.length → bindArgs (PySem.W.fnOf e_are_different.d.name e_are_different.d.qual e_are_different.d.params e_are_different.d.body e_are_different.d.scope .none kV doc pm an cdv ct) { pos := us } = pure (e_are_different.fe.fi.ps.zip us) := fun _ _ _ _ _ _ us hl => match us, hl with | [_], _ => rfl
theorem s_is_part : FnScope e_is_part.fe.N e_is_part.fe.fi.ps e_is_part.d.scope := ⟨by kernel_rfl, by kernel_rfl, by kernel_rfl, by decide +kernel, by kernel_rfl, by decide +kernel, by decide +kernel⟩
theorem r_is_part : cSs e_is_part.m ⟨e_is_part.fe.N, e_is_part.d.scope, fun _ => true, pd.prg.gk, true, true⟩ e_is_part.d.body = some e_is_part.fe.code := by kernel_rfl
theorem b_is_part : ∀ (kV doc pm : Value) (an : Option Addr) (cdv ct : Value) (us : List Value), us.length = e_is_part.fe.fi.ps.length → bindArgs (PySem.W.fnOf e_is_part.d.name e_is_part.d.qual e_is_part.d.params e_is_part.d.body e_is_part.d.scope .none kV doc pm an cdv ct) { pos := us } = pure (e_is_part.fe.fi.ps.zip us) := fun _ _ _ _ _ _ us hl => match us, hl with | [_], _ => rfl
theorem s_is_parts : FnScope e_is_parts.fe.N e_is_parts.fe.fi.ps e_is_parts.d.scope := ⟨by kernel_rfl, by kernel_rfl, by kernel_rfl, by decide +kernel, by kernel_rfl, by decide +kernel, by decide +kernel⟩
theorem r_is_parts : cSs e_is_parts.m ⟨e_is_parts.fe.N, e_is_parts.d.scope, fun _ => true, pd.prg.gk, true, true⟩ e_is_parts.d.body = some e_is_parts.fe.code := by kernel_rfl
theorem b_is_parts : ∀ (kV doc pm : Value) (an : Option Addr) (cdv ct : Value) (us : List Value), us.length = e_is_parts.fe.fi.ps.length → bindArgs (PySem.W.fnOf e_is_parts.d.name e_is_parts.d.qual e_is_parts.d.params e_is_parts.d.body e_is_parts.d.scope .none kV doc pm an cdv ct) { pos := us } = pure (e_is_parts.fe.fi.ps.zip us) := fun _ _ _ _ _ _ us hl => match us, hl with | [_], _ => rfl
theorem s_is_statement : FnScope e_is_statement.fe.N e_is_statement.fe.fi.ps e_is_statement.d.scope := ⟨by kernel_rfl, by kernel_rfl, by kernel_rfl, by decide +kernel, by kernel_rfl, by decide +kernel, by decide +kernel⟩
theorem r_is_statement : cSs e_is_statement.m ⟨e_is_statement.fe.N, e_is_statement.d.scope, fun _ => true, pd.prg.gk, true, true⟩ e_is_statement.d.body = some e_is_statement.fe.code := by kernel_rfl
theorem b_is_statement : ∀ (kV doc pm : Value) (an : Option Addr) (cdv ct : Value) (us : List Value), us.length = e_is_statement.fe.fi.ps.length → bindArgs (PySem.W.fnOf e_is_statement.d.name e_is_statement.d.qual e_is_statement.d.params e_is_statement.d.body e_is_statement.d.scope .none kV doc pm an cdv ct) { pos := us } = pure (e_is_statement.fe.fi.ps.zip us) := fun _ _ _ _ _ _ us hl => match us, hl with | [_, _], _ => rfl
theorem s_is_deep : FnScope e_is_deep.fe.N e_is_deep.fe.fi.ps e_is_deep.d.scope := ⟨by kernel_rfl, by kernel_rfl, by kernel_rfl, by decide +kernel, by kernel_rfl, by decide +kernel, by decide +kernel⟩
theorem r_is_deep : cSs e_is_deep.m ⟨e_is_deep.fe.N, e_is_deep.d.scope, fun _ => true, pd.prg.gk, true, true⟩ e_is_deep.d.body = some e_is_deep.fe.code := by kernel_rfl
theorem b_is_deep : ∀ (kV doc pm : Value) (an : Option Addr) (cdv ct : Value) (us : List Value), us.length = e_is_deep.fe.fi.ps.length → bindArgs (PySem.W.fnOf e_is_deep.d.name e_is_deep.d.qual e_is_deep.d.params e_is_deep.d.body e_is_deep.d.scope .none kV doc pm an cdv ct) { pos := us } = pure (e_is_deep.fe.fi.ps.zip us) := fun _ _ _ _ _ _ us hl => match us, hl with | [_, _], _ => rfl
theorem s_bodies_in : FnScope e_bodies_in.fe.N e_bodies_in.fe.fi.ps e_bodies_in.d.scope := ⟨by kernel_rfl, by kernel_rfl, by kernel_rfl, by decide +kernel, by kernel_rfl, by decide +kernel, by decide +kernel⟩
theorem r_bodies_in : cSs e_bodies_in.m ⟨e_bodies_in.fe.N, e_bodies_in.d.scope, fun _ => true, pd.prg.gk, true, true⟩ e_bodies_in.d.body = some e_bodies_in.fe.code := by kernel_rfl
theorem b_bodies_in : ∀ (kV doc pm : Value) (an : Option Addr) (cdv ct : Value) (us : List Value), us.length = e_bodies_in.fe.fi.ps.length → bindArgs (PySem.W.fnOf e_bodies_in.d.name e_bodies_in.d.qual e_bodies_in.d.params e_bodies_in.d.body e_bodies_in.d.scope .none kV doc pm an cdv ct) { pos := us } = pure (e_bodies_in.fe.fi.ps.zip us) := fun _ _ _ _ _ _ us hl => match us, hl with | [_], _ => rfl
theorem s_all_statements : FnScope e_all_statements.fe.N e_all_statements.fe.fi.ps e_all_statements.d.scope := ⟨by kernel_rfl, by kernel_rfl, by kernel_rfl, by decide +kernel, by kernel_rfl, by decide +kernel, by decide +kernel⟩
theorem r_all_statements : cSs e_all_statements.m ⟨e_all_statements.fe.N, e_all_statements.d.scope, fun _ => true, pd.prg.gk, true, true⟩ e_all_statements.d.body = some e_all_statements.fe.code := by kernel_rfl
theorem b_all_statements : ∀ (kV doc pm : Value) (an : Option Addr) (cdv ct : Value) (us : List Value), us.length = e_all_statements.fe.fi.ps.length → bindArgs (PySem.W.fnOf e_all_statements.d.name e_all_statements.d.qual e_all_statements.d.params e_all_statements.d.body e_all_statements.d.scope .none kV doc pm an cdv ct) { pos := us } = pure (e_all_statements.fe.fi.ps.zip us) := fun _ _ _ _ _ _ us hl => match us, hl with | [_], _ => rfl
theorem s_is_body : FnScope e_is_body.fe.N e_is_body.fe.fi.ps e_is_body.d.scope := ⟨by kernel_rfl, by kernel_rfl, by kernel_rfl, by decide +kernel, by kernel_rfl, by decide +kernel, by decide +kernel⟩
theorem r_is_body : cSs e_is_body.m ⟨e_is_body.fe.N, e_is_body.d.scope, fun _ => true, pd.prg.gk, true, true⟩ e_is_body.d.body = some e_is_body.fe.code := by kernel_rfl
theorem b_is_body : ∀ (kV doc pm : Value) (an : Option Addr) (cdv ct : Value) (us : List Value), us.length = e_is_body.fe.fi.ps.length → bindArgs (PySem.W.fnOf e_is_body.d.name e_is_body.d.qual e_is_body.d.params e_is_body.d.body e_is_body.d.scope .none kV doc pm an cdv ct) { pos := us } = pure (e_is_body.fe.fi.ps.zip us) := fun _ _ _ _ _ _ us hl => match us, hl with | [_], _ => rfl
theorem s__law_pool : FnScope e__law_pool.fe.N e__law_pool.fe.fi.ps e__law_pool.d.scope := ⟨by kernel_rfl, by kernel_rfl, by kernel_rfl, by decide +kernel, by kernel_rfl, by decide +kernel, by decide +kernel⟩
theorem r__law_pool : cSs e__law_pool.m ⟨e__law_pool.fe.N, e__law_pool.d.scope, fun _ => true, pd.prg.gk, true, true⟩ e__law_pool.d.body = some e__law_pool.fe.code := by kernel_rfl
theorem b__law_pool : ∀ (kV doc pm : Value) (an : Option Addr) (cdv ct : Value) (us : List Value), us.length = e__law_pool.fe.fi.ps.length → bindArgs (PySem.W.fnOf e__law_pool.d.name e__law_pool.d.qual e__law_pool.d.params e__law_pool.d.body e__law_pool.d.scope .none kV doc pm an cdv ct) { pos := us } = pure (e__law_pool.fe.fi.ps.zip us) := fun _ _ _ _ _ _ us hl => match us, hl with | [_, _], _ => rfl
theorem s__law_take : FnScope e__law_take.fe.N e__law_take.fe.fi.ps e__law_take.d.scope := ⟨by kernel_rfl, by kernel_rfl, by kernel_rfl, by decide +kernel, by kernel_rfl, by decide +kernel, by decide +kernel⟩
theorem r__law_take : cSs e__law_take.m ⟨e__law_take.fe.N, e__law_take.d.scope, fun _ => true, pd.prg.gk, true, true⟩ e__law_take.d.body = some e__law_take.fe.code := by kernel_rfl
theorem b__law_take : ∀ (kV doc pm : Value) (an : Option Addr) (cdv ct : Value) (us : List Value), us.length = e__law_take.fe.fi.ps.length → bindArgs (PySem.W.fnOf e__law_take.d.name e__law_take.d.qual e__law_take.d.params e__law_take.d.body e__law_take.d.scope .none kV doc pm an cdv ct) { pos := us } = pure (e__law_take.fe.fi.ps.zip us) := fun _ _ _ _ _ _ us hl => match us, hl with | [_, _], _ => rfl
theorem s__law_is_name : FnScope e__law_is_name.fe.N e__law_is_name.fe.fi.ps e__law_is_name.d.scope := ⟨by kernel_rfl, by kernel_rfl, by kernel_rfl, by decide +kernel, by kernel_rfl, by decide +kernel, by decide +kernel⟩
theorem r__law_is_name : cSs e__law_is_name.m ⟨e__law_is_name.fe.N, e__law_is_name.d.scope, fun _ => true, pd.prg.gk, true, true⟩ e__law_is_name.d.body = some e__law_is_name.fe.code := by kernel_rfl
theorem b__law_is_name : ∀ (kV doc pm : Value) (an : Option Addr) (cdv ct : Value) (us : List Value), us.length = e__law_is_name.fe.fi.ps.length → bindArgs (PySem.W.fnOf e__law_is_name.d.name e__law_is_name.d.qual e__law_is_name.d.params e__law_is_name.d.body e__law_is_name.d.scope .none kV doc pm an cdv ct) { pos := us } = pure (e__law_is_name.fe.fi.ps.zip us) := fun _ _ _ _ _ _ us hl => match us, hl with | [_], _ => rfl
theorem s__law_is_int : FnScope e__law_is_int.fe.N e__law_is_int.fe.fi.ps e__law_is_int.d.scope := ⟨by kernel_rfl, by kernel_rfl, by kernel_rfl, by decide +kernel, by kernel_rfl, by decide +kernel, by decide +kernel⟩
theorem r__law_is_int : cSs e__law_is_int.m ⟨e__law_is_int.fe.N, e__law_is_int.d.scope, fun _ => true, pd.prg.gk, true, true⟩ e__law_is_int.d.body = some e__law_is_int.fe.code := by kernel_rfl
theorem b__law_is_int : ∀ (kV doc pm : Value) (an : Option Addr) (cdv ct : Value) (us : List Value), us.length = e__law_is_int.fe.fi.ps.length → bindArgs (PySem.W.fnOf e__law_is_int.d.name e__law_is_int.d.qual e__law_is_int.d.params e__law_is_int.d.body e__law_is_int.d.scope .none kV doc pm an cdv ct) { pos := us } = pure (e__law_is_int.fe.fi.ps.zip us) := fun _ _ _ _ _ _ us hl => match us, hl with | [_, _, _], _ => rfl
theorem s__law_is_big : FnScope e__law_is_big.fe.N e__law_is_big.fe.fi.ps e__law_is_big.d.scope := ⟨by kernel_rfl, by kernel_rfl, by kernel_rfl, by decide +kernel, by kernel_rfl, by decide +kernel, by decide +kernel⟩
theorem r__law_is_big : cSs e__law_is_big.m ⟨e__law_is_big.fe.N, e__law_is_big.d.scope, fun _ => true, pd.prg.gk, true, true⟩ e__law_is_big.d.body = some e__law_is_big.fe.code := by kernel_rfl
theorem b__law_is_big : ∀ (kV doc pm : Value) (an : Option Addr) (cdv ct : Value) (us : List Value), us.length = e__law_is_big.fe.fi.ps.length → bindArgs (PySem.W.fnOf e__law_is_big.d.name e__law_is_big.d.qual e__law_is_big.d.params e__law_is_big.d.body e__law_is_big.d.scope .none kV doc pm an cdv ct) { pos := us } = pure (e__law_is_big.fe.fi.ps.zip us) := fun _ _ _ _ _ _ us hl => match us, hl with | [_], _ => rfl
theorem s__law_are_parts : FnScope e__law_are_parts.fe.N e__law_are_parts.fe.fi.ps e__law_are_parts.d.scope := ⟨by kernel_rfl, by kernel_rfl, by kernel_rfl, by decide +kernel, by kernel_rfl, by decide +kernel, by decide +kernel⟩
theorem r__law_are_parts : cSs e__law_are_parts.m ⟨e__law_are_parts.fe.N, e__law_are_parts.d.scope, fun _ => true, pd.prg.gk, true, true⟩ e__law_are_parts.d.body = some e__law_are_parts.fe.code := by kernel_rfl
theorem b__law_are_parts : ∀ (kV doc pm : Value) (an : Option Addr) (cdv ct : Value) (us : List Value), us.length = e__law_are_parts.fe.fi.ps.length → bindArgs (PySem.W.fnOf e__law_are_parts.d.name e__law_are_parts.d.qual e__law_are_parts.d.params e__law_are_parts.d.body e__law_are_parts.d.scope .none kV doc pm an cdv ct) { pos := us } = pure (e__law_are_parts.fe.fi.ps.zip us) := fun _ _ _ _ _ _ us hl => match us, hl with | [_], _ => rfl
theorem s__law_fits : FnScope e__law_fits.fe.N e__law_fits.fe.fi.ps e__law_fits.d.scope := ⟨by kernel_rfl, by kernel_rfl, by kernel_rfl, by decide +kernel, by kernel_rfl, by decide +kernel, by decide +kernel⟩
theorem r__law_fits : cSs e__law_fits.m ⟨e__law_fits.fe.N, e__law_fits.d.scope, fun _ => true, pd.prg.gk, true, true⟩ e__law_fits.d.body = some e__law_fits.fe.code := by kernel_rfl
theorem b__law_fits : ∀ (kV doc pm : Value) (an : Option Addr) (cdv ct : Value) (us : List Value), us.length = e__law_fits.fe.fi.ps.length → bindArgs (PySem.W.fnOf e__law_fits.d.name e__law_fits.d.qual e__law_fits.d.params e__law_fits.d.body e__law_fits.d.scope .none kV doc pm an cdv ct) { pos := us } = pure (e__law_fits.fe.fi.ps.zip us) := fun _ _ _ _ _ _ us hl => match us, hl with | [_, _], _ => rfl
theorem s__law_is_inner : FnScope e__law_is_inner.fe.N e__law_is_inner.fe.fi.ps e__law_is_inner.d.scope := ⟨by kernel_rfl, by kernel_rfl, by kernel_rfl, by decide +kernel, by kernel_rfl, by decide +kernel, by decide +kernel⟩
theorem r__law_is_inner : cSs e__law_is_inner.m ⟨e__law_is_inner.fe.N, e__law_is_inner.d.scope, fun _ => true, pd.prg.gk, true, true⟩ e__law_is_inner.d.body = some e__law_is_inner.fe.code := by kernel_rfl
theorem b__law_is_inner : ∀ (kV doc pm : Value) (an : Option Addr) (cdv ct : Value) (us : List Value), us.length = e__law_is_inner.fe.fi.ps.length → bindArgs (PySem.W.fnOf e__law_is_inner.d.name e__law_is_inner.d.qual e__law_is_inner.d.params e__law_is_inner.d.body e__law_is_inner.d.scope .none kV doc pm an cdv ct) { pos := us } = pure (e__law_is_inner.fe.fi.ps.zip us) := fun _ _ _ _ _ _ us hl => match us, hl with | [_, _], _ => rfl
theorem s__law_many : FnScope e__law_many.fe.N e__law_many.fe.fi.ps e__law_many.d.scope := ⟨by kernel_rfl, by kernel_rfl, by kernel_rfl, by decide +kernel, by kernel_rfl, by decide +kernel, by decide +kernel⟩
theorem r__law_many : cSs e__law_many.m ⟨e__law_many.fe.N, e__law_many.d.scope, fun _ => true, pd.prg.gk, true, true⟩ e__law_many.d.body = some e__law_many.fe.code := by kernel_rfl
theorem b__law_many : ∀ (kV doc pm : Value) (an : Option Addr) (cdv ct : Value) (us : List Value), us.length = e__law_many.fe.fi.ps.length → bindArgs (PySem.W.fnOf e__law_many.d.name e__law_many.d.qual e__law_many.d.params e__law_many.d.body e__law_many.d.scope .none kV doc pm an cdv ct) { pos := us } = pure (e__law_many.fe.fi.ps.zip us) := fun _ _ _ _ _ _ us hl => match us, hl with | [_], _ => rfl
theorem s__law_is_body : FnScope e__law_is_body.fe.N e__law_is_body.fe.fi.ps e__law_is_body.d.scope := ⟨by kernel_rfl, by kernel_rfl, by kernel_rfl, by decide +kernel, by kernel_rfl, by decide +kernel, by decide +kernel⟩
theorem r__law_is_body : cSs e__law_is_body.m ⟨e__law_is_body.fe.N, e__law_is_body.d.scope, fun _ => true, pd.prg.gk, true, true⟩ e__law_is_body.d.body = some e__law_is_body.fe.code := by kernel_rfl
theorem b__law_is_body : ∀ (kV doc pm : Value) (an : Option Addr) (cdv ct : Value) (us : List Value), us.length = e__law_is_body.fe.fi.ps.length → bindArgs (PySem.W.fnOf e__law_is_body.d.name e__law_is_body.d.qual e__law_is_body.d.params e__law_is_body.d.body e__law_is_body.d.scope .none kV doc pm an cdv ct) { pos := us } = pure (e__law_is_body.fe.fi.ps.zip us) := fun _ _ _ _ _ _ us hl => match us, hl with | [_], _ => rfl
theorem s__law_drawn : FnScope e__law_drawn.fe.N e__law_drawn.fe.fi.ps e__law_drawn.d.scope := ⟨by kernel_rfl, by kernel_rfl, by kernel_rfl, by decide +kernel, by kernel_rfl, by decide +kernel, by decide +kernel⟩
theorem r__law_drawn : cSs e__law_drawn.m ⟨e__law_drawn.fe.N, e__law_drawn.d.scope, fun _ => true, pd.prg.gk, true, true⟩ e__law_drawn.d.body = some e__law_drawn.fe.code := by kernel_rfl
theorem b__law_drawn : ∀ (kV doc pm : Value) (an : Option Addr) (cdv ct : Value) (us : List Value), us.length = e__law_drawn.fe.fi.ps.length → bindArgs (PySem.W.fnOf e__law_drawn.d.name e__law_drawn.d.qual e__law_drawn.d.params e__law_drawn.d.body e__law_drawn.d.scope .none kV doc pm an cdv ct) { pos := us } = pure (e__law_drawn.fe.fi.ps.zip us) := fun _ _ _ _ _ _ us hl => match us, hl with | [_, _, _], _ => rfl
theorem s__law_odd : FnScope e__law_odd.fe.N e__law_odd.fe.fi.ps e__law_odd.d.scope := ⟨by kernel_rfl, by kernel_rfl, by kernel_rfl, by decide +kernel, by kernel_rfl, by decide +kernel, by decide +kernel⟩
theorem r__law_odd : cSs e__law_odd.m ⟨e__law_odd.fe.N, e__law_odd.d.scope, fun _ => true, pd.prg.gk, true, true⟩ e__law_odd.d.body = some e__law_odd.fe.code := by kernel_rfl
theorem b__law_odd : ∀ (kV doc pm : Value) (an : Option Addr) (cdv ct : Value) (us : List Value), us.length = e__law_odd.fe.fi.ps.length → bindArgs (PySem.W.fnOf e__law_odd.d.name e__law_odd.d.qual e__law_odd.d.params e__law_odd.d.body e__law_odd.d.scope .none kV doc pm an cdv ct) { pos := us } = pure (e__law_odd.fe.fi.ps.zip us) := fun _ _ _ _ _ _ us hl => match us, hl with | [_], _ => rfl
theorem s__law_known_right : FnScope e__law_known_right.fe.N e__law_known_right.fe.fi.ps e__law_known_right.d.scope := ⟨by kernel_rfl, by kernel_rfl, by kernel_rfl, by decide +kernel, by kernel_rfl, by decide +kernel, by decide +kernel⟩
theorem r__law_known_right : cSs e__law_known_right.m ⟨e__law_known_right.fe.N, e__law_known_right.d.scope, fun _ => true, pd.prg.gk, true, true⟩ e__law_known_right.d.body = some e__law_known_right.fe.code := by kernel_rfl
theorem b__law_known_right : ∀ (kV doc pm : Value) (an : Option Addr) (cdv ct : Value) (us : List Value), us.length = e__law_known_right.fe.fi.ps.length → bindArgs (PySem.W.fnOf e__law_known_right.d.name e__law_known_right.d.qual e__law_known_right.d.params e__law_known_right.d.body e__law_known_right.d.scope .none kV doc pm an cdv ct) { pos := us } = pure (e__law_known_right.fe.fi.ps.zip us) := fun _ _ _ _ _ _ us hl => match us, hl with | [], _ => rfl
theorem s_law : FnScope e_law.fe.N e_law.fe.fi.ps e_law.d.scope := ⟨by kernel_rfl, by kernel_rfl, by kernel_rfl, by decide +kernel, by kernel_rfl, by decide +kernel, by decide +kernel⟩
theorem r_law : cSs e_law.m ⟨e_law.fe.N, e_law.d.scope, fun _ => true, pd.prg.gk, true, true⟩ e_law.d.body = some e_law.fe.code := by kernel_rfl
theorem b_law : ∀ (kV doc pm : Value) (an : Option Addr) (cdv ct : Value) (us : List Value), us.length = e_law.fe.fi.ps.length → bindArgs (PySem.W.fnOf e_law.d.name e_law.d.qual e_law.d.params e_law.d.body e_law.d.scope .none kV doc pm an cdv ct) { pos := us } = pure (e_law.fe.fi.ps.zip us) := fun _ _ _ _ _ _ us hl => match us, hl with | [_], _ => rfl
theorem reads : pd.Reads where
  sc := List.forall_mem_cons.mpr ⟨s_is_integer, List.forall_mem_cons.mpr ⟨s_is_between, List.forall_mem_cons.mpr ⟨s_is_number, List.forall_mem_cons.mpr ⟨s_is_name, List.forall_mem_cons.mpr ⟨s_is_range, List.forall_mem_cons.mpr ⟨s_are_different, List.forall_mem_cons.mpr ⟨s_is_part, List.forall_mem_cons.mpr ⟨s_is_parts, List.forall_mem_cons.mpr ⟨s_is_statement, List.forall_mem_cons.mpr ⟨s_is_deep, List.forall_mem_cons.mpr ⟨s_bodies_in, List.forall_mem_cons.mpr ⟨s_all_statements, List.forall_mem_cons.mpr ⟨s_is_body, List.forall_mem_cons.mpr ⟨s__law_pool, List.forall_mem_cons.mpr ⟨s__law_take, List.forall_mem_cons.mpr ⟨s__law_is_name, List.forall_mem_cons.mpr ⟨s__law_is_int, List.forall_mem_cons.mpr ⟨s__law_is_big, List.forall_mem_cons.mpr ⟨s__law_are_parts, List.forall_mem_cons.mpr ⟨s__law_fits, List.forall_mem_cons.mpr ⟨s__law_is_inner, List.forall_mem_cons.mpr ⟨s__law_many, List.forall_mem_cons.mpr ⟨s__law_is_body, List.forall_mem_cons.mpr ⟨s__law_drawn, List.forall_mem_cons.mpr ⟨s__law_odd, List.forall_mem_cons.mpr ⟨s__law_known_right, List.forall_mem_cons.mpr ⟨s_law, fun _ h => nomatch h⟩⟩⟩⟩⟩⟩⟩⟩⟩⟩⟩⟩⟩⟩⟩⟩⟩⟩⟩⟩⟩⟩⟩⟩⟩⟩⟩
  code := List.forall_mem_cons.mpr ⟨r_is_integer, List.forall_mem_cons.mpr ⟨r_is_between, List.forall_mem_cons.mpr ⟨r_is_number, List.forall_mem_cons.mpr ⟨r_is_name, List.forall_mem_cons.mpr ⟨r_is_range, List.forall_mem_cons.mpr ⟨r_are_different, List.forall_mem_cons.mpr ⟨r_is_part, List.forall_mem_cons.mpr ⟨r_is_parts, List.forall_mem_cons.mpr ⟨r_is_statement, List.forall_mem_cons.mpr ⟨r_is_deep, List.forall_mem_cons.mpr ⟨r_bodies_in, List.forall_mem_cons.mpr ⟨r_all_statements, List.forall_mem_cons.mpr ⟨r_is_body, List.forall_mem_cons.mpr ⟨r__law_pool, List.forall_mem_cons.mpr ⟨r__law_take, List.forall_mem_cons.mpr ⟨r__law_is_name, List.forall_mem_cons.mpr ⟨r__law_is_int, List.forall_mem_cons.mpr ⟨r__law_is_big, List.forall_mem_cons.mpr ⟨r__law_are_parts, List.forall_mem_cons.mpr ⟨r__law_fits, List.forall_mem_cons.mpr ⟨r__law_is_inner, List.forall_mem_cons.mpr ⟨r__law_many, List.forall_mem_cons.mpr ⟨r__law_is_body, List.forall_mem_cons.mpr ⟨r__law_drawn, List.forall_mem_cons.mpr ⟨r__law_odd, List.forall_mem_cons.mpr ⟨r__law_known_right, List.forall_mem_cons.mpr ⟨r_law, fun _ h => nomatch h⟩⟩⟩⟩⟩⟩⟩⟩⟩⟩⟩⟩⟩⟩⟩⟩⟩⟩⟩⟩⟩⟩⟩⟩⟩⟩⟩
  bd := List.forall_mem_cons.mpr ⟨bd0 rfl (by kernel_rfl) b_is_integer, List.forall_mem_cons.mpr ⟨bd0 rfl (by kernel_rfl) b_is_between, List.forall_mem_cons.mpr ⟨bd0 rfl (by kernel_rfl) b_is_number, List.forall_mem_cons.mpr ⟨bd0 rfl (by kernel_rfl) b_is_name, List.forall_mem_cons.mpr ⟨bd0 rfl (by kernel_rfl) b_is_range, List.forall_mem_cons.mpr ⟨bd0 rfl (by kernel_rfl) b_are_different, List.forall_mem_cons.mpr ⟨bd0 rfl (by kernel_rfl) b_is_part, List.forall_mem_cons.mpr ⟨bd0 rfl (by kernel_rfl) b_is_parts, List.forall_mem_cons.mpr ⟨bd0 rfl (by kernel_rfl) b_is_statement, List.forall_mem_cons.mpr ⟨bd0 rfl (by kernel_rfl) b_is_deep, List.forall_mem_cons.mpr ⟨bd0 rfl (by kernel_rfl) b_bodies_in, List.forall_mem_cons.mpr ⟨bd0 rfl (by kernel_rfl) b_all_statements, List.forall_mem_cons.mpr ⟨bd0 rfl (by kernel_rfl) b_is_body, List.forall_mem_cons.mpr ⟨bd0 rfl (by kernel_rfl) b__law_pool, List.forall_mem_cons.mpr ⟨bd0 rfl (by kernel_rfl) b__law_take, List.forall_mem_cons.mpr ⟨bd0 rfl (by kernel_rfl) b__law_is_name, List.forall_mem_cons.mpr ⟨bd0 rfl (by kernel_rfl) b__law_is_int, List.forall_mem_cons.mpr ⟨bd0 rfl (by kernel_rfl) b__law_is_big, List.forall_mem_cons.mpr ⟨bd0 rfl (by kernel_rfl) b__law_are_parts, List.forall_mem_cons.mpr ⟨bd0 rfl (by kernel_rfl) b__law_fits, List.forall_mem_cons.mpr ⟨bd0 rfl (by kernel_rfl) b__law_is_inner, List.forall_mem_cons.mpr ⟨bd0 rfl (by kernel_rfl) b__law_many, List.forall_mem_cons.mpr ⟨bd0 rfl (by kernel_rfl) b__law_is_body, List.forall_mem_cons.mpr ⟨bd0 rfl (by kernel_rfl) b__law_drawn, List.forall_mem_cons.mpr ⟨bd0 rfl (by kernel_rfl) b__law_odd, List.forall_mem_cons.mpr ⟨bd0 rfl (by kernel_rfl) b__law_known_right, List.forall_mem_cons.mpr ⟨bd0 rfl (by kernel_rfl) b_law, fun _ h => nomatch h⟩⟩⟩⟩⟩⟩⟩⟩⟩⟩⟩⟩⟩⟩⟩⟩⟩⟩⟩⟩⟩⟩⟩⟩⟩⟩⟩
end LW

set_option Elab.async false
set_option linter.all false
set_option maxRecDepth 100000
set_option maxHeartbeats 0
namespace LW
open PySem PySem.Spec PyProof.Rows L2 DL
abbrev R : PySem.W.OpenRow := PySem.W.OpenLaw.row PySem.Challenge.rw_safeupto_k01_bodies_recognized
theorem run (w : World) : HandSHeadRun.RunEq R (PySem.W.view R.prog [35]) (pd.hook PySem.Challenge.pw_safeupto_k01_bodies_recognized 6) (pd.ob PySem.Challenge.pw_safeupto_k01_bodies_recognized 6) 4000 ["MOST_NUMBER", "LETTERS", "is_integer", "is_between", "is_number", "is_name", "is_range", "are_different", "MOST_STATEMENTS", "MOST_DEPTH", "MOST_PARTS", "MOST_COST", "is_part", "is_parts", "is_statement", "is_deep", "bodies_in", "all_statements", "is_body", "_law_pool", "_law_take", "_law_is_name", "_law_is_int", "_law_is_big", "_law_are_parts", "_law_fits", "_law_is_inner", "_law_many", "_law_is_body", "_law_drawn", "_law_odd", "_law_known_right"] w := by
  intro os
  kernel_rfl
end LW

set_option Elab.async false
set_option linter.all false
set_option maxRecDepth 100000
set_option maxHeartbeats 0
open PySem PySem.W PySem.Calls PyProof.Rows
theorem LW.join (plain : ∀ ns : List Int, ns.length ≤ 63 → (∀ k ∈ ns, Builtin.Int.intBits k ≤ 1048576) → DL.mCall LW.pd.prg 20 ("law", none) [.rol (ns.map DL.D.int)] (fun _ => none) (fun d _ => d = .bl true) (fun _ _ _ => False)) : PySem.Challenge.rw_safeupto_k01_bodies_recognized.Holds := by
  w_on; o_law
  refine HandSHeadRun.head_any (r := OpenLaw.row PySem.Challenge.rw_safeupto_k01_bodies_recognized) (q := view (OpenLaw.row PySem.Challenge.rw_safeupto_k01_bodies_recognized).prog [35]) (H := LW.pd.hook PySem.Challenge.pw_safeupto_k01_bodies_recognized 6) (ob := LW.pd.ob PySem.Challenge.pw_safeupto_k01_bodies_recognized 6) (M := 4000) (loose := ["MOST_NUMBER", "LETTERS", "is_integer", "is_between", "is_number", "is_name", "is_range", "are_different", "MOST_STATEMENTS", "MOST_DEPTH", "MOST_PARTS", "MOST_COST", "is_part", "is_parts", "is_statement", "is_deep", "bodies_in", "all_statements", "is_body", "_law_pool", "_law_take", "_law_is_name", "_law_is_int", "_law_is_big", "_law_are_parts", "_law_fits", "_law_is_inner", "_law_many", "_law_is_body", "_law_drawn", "_law_odd", "_law_known_right"]) (d := HandSHeadRun.topDef (OpenLaw.row PySem.Challenge.rw_safeupto_k01_bodies_recognized).prog 35) (kwd := []) (fun s => DL.ob_eq s)
    (by kernel_rfl) (fun s => by kernel_rfl) LW.run (by kernel_rfl) (by kernel_rfl) (by kernel_rfl) (by rfl) (by first | assumption | decide +kernel) (by decide +kernel) ⟨rfl, rfl, rfl, rfl, rfl, by decide +kernel⟩ ?hw ?hc
  case hw => w_witness2
  case hc =>
    exact DL.walk_D (l := PySem.Challenge.rw_safeupto_k01_bodies_recognized) (n := 63) (m := 20) (x := "_law_script") (e := LW.e_law) rfl (by decide) (by kernel_rfl) ⟨⟨rfl, by decide, by decide⟩, rfl⟩ LW.reads (by kernel_rfl) (by kernel_rfl) rfl rfl (DL.hb0 rfl (by kernel_rfl) LW.b_law) plain

set_option Elab.async false
set_option linter.all false
set_option maxRecDepth 100000
set_option maxHeartbeats 4000000
namespace LW
open PySem PySem.Spec PyProof.Rows L2 DL
abbrev Mn (n : Nat) : Env1 := pd.prg.env (mCall pd.prg n)
theorem fe_is_integer : pd.prg.fe ("is_integer", none) = some e_is_integer.fe := by kernel_rfl
theorem en_is_integer {n : Nat} {a0 : DL.D} {S : Sto} {K : DK} {E : DX} (h : mSs (Mn n) none c_is_integer ⟨fun _ S' => K .non S', K, fun _ _ => False, fun _ _ => False, fun c fs _ S' => E c fs S'⟩ [some a0] S) : mCall pd.prg (n + 1) ("is_integer", none) [a0] S K E := ⟨_, fe_is_integer, rfl, h⟩
theorem cl_is_integer {n : Nat} {a0 : DL.D} {S : Sto} {K : DK} {E : DX} (h : mCall pd.prg n ("is_integer", none) [a0] S K E) : callO (Mn n).fi (Mn n).orc ("is_integer", none) [a0] S K E := c_run fe_is_integer rfl h
theorem fe_is_between : pd.prg.fe ("is_between", none) = some e_is_between.fe := by kernel_rfl
theorem en_is_between {n : Nat} {a0 a1 a2 : DL.D} {S : Sto} {K : DK} {E : DX} (h : mSs (Mn n) none c_is_between ⟨fun _ S' => K .non S', K, fun _ _ => False, fun _ _ => False, fun c fs _ S' => E c fs S'⟩ [some a0, some a1, some a2] S) : mCall pd.prg (n + 1) ("is_between", none) [a0, a1, a2] S K E := ⟨_, fe_is_between, rfl, h⟩
theorem cl_is_between {n : Nat} {a0 a1 a2 : DL.D} {S : Sto} {K : DK} {E : DX} (h : mCall pd.prg n ("is_between", none) [a0, a1, a2] S K E) : callO (Mn n).fi (Mn n).orc ("is_between", none) [a0, a1, a2] S K E := c_run fe_is_between rfl h
theorem fe_is_number : pd.prg.fe ("is_number", none) = some e_is_number.fe := by kernel_rfl
theorem en_is_number {n : Nat} {a0 : DL.D} {S : Sto} {K : DK} {E : DX} (h : mSs (Mn n) none c_is_number ⟨fun _ S' => K .non S', K, fun _ _ => False, fun _ _ => False, fun c fs _ S' => E c fs S'⟩ [some a0] S) : mCall pd.prg (n + 1) ("is_number", none) [a0] S K E := ⟨_, fe_is_number, rfl, h⟩
theorem cl_is_number {n : Nat} {a0 : DL.D} {S : Sto} {K : DK} {E : DX} (h : mCall pd.prg n ("is_number", none) [a0] S K E) : callO (Mn n).fi (Mn n).orc ("is_number", none) [a0] S K E := c_run fe_is_number rfl h
theorem fe_is_name : pd.prg.fe ("is_name", none) = some e_is_name.fe := by kernel_rfl
theorem en_is_name {n : Nat} {a0 : DL.D} {S : Sto} {K : DK} {E : DX} (h : mSs (Mn n) none c_is_name ⟨fun _ S' => K .non S', K, fun _ _ => False, fun _ _ => False, fun c fs _ S' => E c fs S'⟩ [some a0, none, none] S) : mCall pd.prg (n + 1) ("is_name", none) [a0] S K E := ⟨_, fe_is_name, rfl, h⟩
theorem cl_is_name {n : Nat} {a0 : DL.D} {S : Sto} {K : DK} {E : DX} (h : mCall pd.prg n ("is_name", none) [a0] S K E) : callO (Mn n).fi (Mn n).orc ("is_name", none) [a0] S K E := c_run fe_is_name rfl h
theorem fe_is_range : pd.prg.fe ("is_range", none) = some e_is_range.fe := by kernel_rfl
theorem en_is_range {n : Nat} {a0 : DL.D} {S : Sto} {K : DK} {E : DX} (h : mSs (Mn n) none c_is_range ⟨fun _ S' => K .non S', K, fun _ _ => False, fun _ _ => False, fun c fs _ S' => E c fs S'⟩ [some a0] S) : mCall pd.prg (n + 1) ("is_range", none) [a0] S K E := ⟨_, fe_is_range, rfl, h⟩
theorem cl_is_range {n : Nat} {a0 : DL.D} {S : Sto} {K : DK} {E : DX} (h : mCall pd.prg n ("is_range", none) [a0] S K E) : callO (Mn n).fi (Mn n).orc ("is_range", none) [a0] S K E := c_run fe_is_range rfl h
theorem fe_are_different : pd.prg.fe ("are_different", none) = some e_are_different.fe := by kernel_rfl
theorem en_are_different {n : Nat} {a0 : DL.D} {S : Sto} {K : DK} {E : DX} (h : mSs (Mn n) none c_are_different ⟨fun _ S' => K .non S', K, fun _ _ => False, fun _ _ => False, fun c fs _ S' => E c fs S'⟩ [some a0, none, none] S) : mCall pd.prg (n + 1) ("are_different", none) [a0] S K E := ⟨_, fe_are_different, rfl, h⟩
theorem cl_are_different {n : Nat} {a0 : DL.D} {S : Sto} {K : DK} {E : DX} (h : mCall pd.prg n ("are_different", none) [a0] S K E) : callO (Mn n).fi (Mn n).orc ("are_different", none) [a0] S K E := c_run fe_are_different rfl h
theorem fe_is_part : pd.prg.fe ("is_part", none) = some e_is_part.fe := by kernel_rfl
theorem en_is_part {n : Nat} {a0 : DL.D} {S : Sto} {K : DK} {E : DX} (h : mSs (Mn n) none c_is_part ⟨fun _ S' => K .non S', K, fun _ _ => False, fun _ _ => False, fun c fs _ S' => E c fs S'⟩ [some a0] S) : mCall pd.prg (n + 1) ("is_part", none) [a0] S K E := ⟨_, fe_is_part, rfl, h⟩
theorem cl_is_part {n : Nat} {a0 : DL.D} {S : Sto} {K : DK} {E : DX} (h : mCall pd.prg n ("is_part", none) [a0] S K E) : callO (Mn n).fi (Mn n).orc ("is_part", none) [a0] S K E := c_run fe_is_part rfl h
theorem fe_is_parts : pd.prg.fe ("is_parts", none) = some e_is_parts.fe := by kernel_rfl
theorem en_is_parts {n : Nat} {a0 : DL.D} {S : Sto} {K : DK} {E : DX} (h : mSs (Mn n) none c_is_parts ⟨fun _ S' => K .non S', K, fun _ _ => False, fun _ _ => False, fun c fs _ S' => E c fs S'⟩ [some a0, none, none] S) : mCall pd.prg (n + 1) ("is_parts", none) [a0] S K E := ⟨_, fe_is_parts, rfl, h⟩
theorem cl_is_parts {n : Nat} {a0 : DL.D} {S : Sto} {K : DK} {E : DX} (h : mCall pd.prg n ("is_parts", none) [a0] S K E) : callO (Mn n).fi (Mn n).orc ("is_parts", none) [a0] S K E := c_run fe_is_parts rfl h
theorem fe_is_statement : pd.prg.fe ("is_statement", none) = some e_is_statement.fe := by kernel_rfl
theorem en_is_statement {n : Nat} {a0 a1 : DL.D} {S : Sto} {K : DK} {E : DX} (h : mSs (Mn n) none c_is_statement ⟨fun _ S' => K .non S', K, fun _ _ => False, fun _ _ => False, fun c fs _ S' => E c fs S'⟩ [some a0, some a1, none, none, none, none, none, none, none, none, none, none] S) : mCall pd.prg (n + 1) ("is_statement", none) [a0, a1] S K E := ⟨_, fe_is_statement, rfl, h⟩
theorem cl_is_statement {n : Nat} {a0 a1 : DL.D} {S : Sto} {K : DK} {E : DX} (h : mCall pd.prg n ("is_statement", none) [a0, a1] S K E) : callO (Mn n).fi (Mn n).orc ("is_statement", none) [a0, a1] S K E := c_run fe_is_statement rfl h
theorem fe_is_deep : pd.prg.fe ("is_deep", none) = some e_is_deep.fe := by kernel_rfl
theorem en_is_deep {n : Nat} {a0 a1 : DL.D} {S : Sto} {K : DK} {E : DX} (h : mSs (Mn n) none c_is_deep ⟨fun _ S' => K .non S', K, fun _ _ => False, fun _ _ => False, fun c fs _ S' => E c fs S'⟩ [some a0, some a1, none, none] S) : mCall pd.prg (n + 1) ("is_deep", none) [a0, a1] S K E := ⟨_, fe_is_deep, rfl, h⟩
theorem cl_is_deep {n : Nat} {a0 a1 : DL.D} {S : Sto} {K : DK} {E : DX} (h : mCall pd.prg n ("is_deep", none) [a0, a1] S K E) : callO (Mn n).fi (Mn n).orc ("is_deep", none) [a0, a1] S K E := c_run fe_is_deep rfl h
theorem fe_bodies_in : pd.prg.fe ("bodies_in", none) = some e_bodies_in.fe := by kernel_rfl
theorem en_bodies_in {n : Nat} {a0 : DL.D} {S : Sto} {K : DK} {E : DX} (h : mSs (Mn n) none c_bodies_in ⟨fun _ S' => K .non S', K, fun _ _ => False, fun _ _ => False, fun c fs _ S' => E c fs S'⟩ [some a0] S) : mCall pd.prg (n + 1) ("bodies_in", none) [a0] S K E := ⟨_, fe_bodies_in, rfl, h⟩
theorem cl_bodies_in {n : Nat} {a0 : DL.D} {S : Sto} {K : DK} {E : DX} (h : mCall pd.prg n ("bodies_in", none) [a0] S K E) : callO (Mn n).fi (Mn n).orc ("bodies_in", none) [a0] S K E := c_run fe_bodies_in rfl h
theorem fe_all_statements : pd.prg.fe ("all_statements", none) = some e_all_statements.fe := by kernel_rfl
theorem en_all_statements {n : Nat} {a0 : DL.D} {S : Sto} {K : DK} {E : DX} (h : mSs (Mn n) none c_all_statements ⟨fun _ S' => K .non S', K, fun _ _ => False, fun _ _ => False, fun c fs _ S' => E c fs S'⟩ [some a0, none, none, none] S) : mCall pd.prg (n + 1) ("all_statements", none) [a0] S K E := ⟨_, fe_all_statements, rfl, h⟩
theorem cl_all_statements {n : Nat} {a0 : DL.D} {S : Sto} {K : DK} {E : DX} (h : mCall pd.prg n ("all_statements", none) [a0] S K E) : callO (Mn n).fi (Mn n).orc ("all_statements", none) [a0] S K E := c_run fe_all_statements rfl h
theorem fe_is_body : pd.prg.fe ("is_body", none) = some e_is_body.fe := by kernel_rfl
theorem en_is_body {n : Nat} {a0 : DL.D} {S : Sto} {K : DK} {E : DX} (h : mSs (Mn n) none c_is_body ⟨fun _ S' => K .non S', K, fun _ _ => False, fun _ _ => False, fun c fs _ S' => E c fs S'⟩ [some a0] S) : mCall pd.prg (n + 1) ("is_body", none) [a0] S K E := ⟨_, fe_is_body, rfl, h⟩
theorem cl_is_body {n : Nat} {a0 : DL.D} {S : Sto} {K : DK} {E : DX} (h : mCall pd.prg n ("is_body", none) [a0] S K E) : callO (Mn n).fi (Mn n).orc ("is_body", none) [a0] S K E := c_run fe_is_body rfl h
theorem fe__law_pool : pd.prg.fe ("_law_pool", none) = some e__law_pool.fe := by kernel_rfl
theorem en__law_pool {n : Nat} {a0 a1 : DL.D} {S : Sto} {K : DK} {E : DX} (h : mSs (Mn n) none c__law_pool ⟨fun _ S' => K .non S', K, fun _ _ => False, fun _ _ => False, fun c fs _ S' => E c fs S'⟩ [some a0, some a1, none, none] S) : mCall pd.prg (n + 1) ("_law_pool", none) [a0, a1] S K E := ⟨_, fe__law_pool, rfl, h⟩
theorem cl__law_pool {n : Nat} {a0 a1 : DL.D} {S : Sto} {K : DK} {E : DX} (h : mCall pd.prg n ("_law_pool", none) [a0, a1] S K E) : callO (Mn n).fi (Mn n).orc ("_law_pool", none) [a0, a1] S K E := c_run fe__law_pool rfl h
theorem fe__law_take : pd.prg.fe ("_law_take", none) = some e__law_take.fe := by kernel_rfl
theorem en__law_take {n : Nat} {a0 a1 : DL.D} {S : Sto} {K : DK} {E : DX} (h : mSs (Mn n) none c__law_take ⟨fun _ S' => K .non S', K, fun _ _ => False, fun _ _ => False, fun c fs _ S' => E c fs S'⟩ [some a0, some a1, none] S) : mCall pd.prg (n + 1) ("_law_take", none) [a0, a1] S K E := ⟨_, fe__law_take, rfl, h⟩
theorem cl__law_take {n : Nat} {a0 a1 : DL.D} {S : Sto} {K : DK} {E : DX} (h : mCall pd.prg n ("_law_take", none) [a0, a1] S K E) : callO (Mn n).fi (Mn n).orc ("_law_take", none) [a0, a1] S K E := c_run fe__law_take rfl h
theorem fe__law_is_name : pd.prg.fe ("_law_is_name", none) = some e__law_is_name.fe := by kernel_rfl
theorem en__law_is_name {n : Nat} {a0 : DL.D} {S : Sto} {K : DK} {E : DX} (h : mSs (Mn n) none c__law_is_name ⟨fun _ S' => K .non S', K, fun _ _ => False, fun _ _ => False, fun c fs _ S' => E c fs S'⟩ [some a0, none, none] S) : mCall pd.prg (n + 1) ("_law_is_name", none) [a0] S K E := ⟨_, fe__law_is_name, rfl, h⟩
theorem cl__law_is_name {n : Nat} {a0 : DL.D} {S : Sto} {K : DK} {E : DX} (h : mCall pd.prg n ("_law_is_name", none) [a0] S K E) : callO (Mn n).fi (Mn n).orc ("_law_is_name", none) [a0] S K E := c_run fe__law_is_name rfl h
theorem fe__law_is_int : pd.prg.fe ("_law_is_int", none) = some e__law_is_int.fe := by kernel_rfl
theorem en__law_is_int {n : Nat} {a0 a1 a2 : DL.D} {S : Sto} {K : DK} {E : DX} (h : mSs (Mn n) none c__law_is_int ⟨fun _ S' => K .non S', K, fun _ _ => False, fun _ _ => False, fun c fs _ S' => E c fs S'⟩ [some a0, some a1, some a2] S) : mCall pd.prg (n + 1) ("_law_is_int", none) [a0, a1, a2] S K E := ⟨_, fe__law_is_int, rfl, h⟩
theorem cl__law_is_int {n : Nat} {a0 a1 a2 : DL.D} {S : Sto} {K : DK} {E : DX} (h : mCall pd.prg n ("_law_is_int", none) [a0, a1, a2] S K E) : callO (Mn n).fi (Mn n).orc ("_law_is_int", none) [a0, a1, a2] S K E := c_run fe__law_is_int rfl h
theorem fe__law_is_big : pd.prg.fe ("_law_is_big", none) = some e__law_is_big.fe := by kernel_rfl
theorem en__law_is_big {n : Nat} {a0 : DL.D} {S : Sto} {K : DK} {E : DX} (h : mSs (Mn n) none c__law_is_big ⟨fun _ S' => K .non S', K, fun _ _ => False, fun _ _ => False, fun c fs _ S' => E c fs S'⟩ [some a0] S) : mCall pd.prg (n + 1) ("_law_is_big", none) [a0] S K E := ⟨_, fe__law_is_big, rfl, h⟩
theorem cl__law_is_big {n : Nat} {a0 : DL.D} {S : Sto} {K : DK} {E : DX} (h : mCall pd.prg n ("_law_is_big", none) [a0] S K E) : callO (Mn n).fi (Mn n).orc ("_law_is_big", none) [a0] S K E := c_run fe__law_is_big rfl h
theorem fe__law_are_parts : pd.prg.fe ("_law_are_parts", none) = some e__law_are_parts.fe := by kernel_rfl
theorem en__law_are_parts {n : Nat} {a0 : DL.D} {S : Sto} {K : DK} {E : DX} (h : mSs (Mn n) none c__law_are_parts ⟨fun _ S' => K .non S', K, fun _ _ => False, fun _ _ => False, fun c fs _ S' => E c fs S'⟩ [some a0, none, none] S) : mCall pd.prg (n + 1) ("_law_are_parts", none) [a0] S K E := ⟨_, fe__law_are_parts, rfl, h⟩
theorem cl__law_are_parts {n : Nat} {a0 : DL.D} {S : Sto} {K : DK} {E : DX} (h : mCall pd.prg n ("_law_are_parts", none) [a0] S K E) : callO (Mn n).fi (Mn n).orc ("_law_are_parts", none) [a0] S K E := c_run fe__law_are_parts rfl h
theorem fe__law_fits : pd.prg.fe ("_law_fits", none) = some e__law_fits.fe := by kernel_rfl
theorem en__law_fits {n : Nat} {a0 a1 : DL.D} {S : Sto} {K : DK} {E : DX} (h : mSs (Mn n) none c__law_fits ⟨fun _ S' => K .non S', K, fun _ _ => False, fun _ _ => False, fun c fs _ S' => E c fs S'⟩ [some a0, some a1, none, none, none, none] S) : mCall pd.prg (n + 1) ("_law_fits", none) [a0, a1] S K E := ⟨_, fe__law_fits, rfl, h⟩
theorem cl__law_fits {n : Nat} {a0 a1 : DL.D} {S : Sto} {K : DK} {E : DX} (h : mCall pd.prg n ("_law_fits", none) [a0, a1] S K E) : callO (Mn n).fi (Mn n).orc ("_law_fits", none) [a0, a1] S K E := c_run fe__law_fits rfl h
theorem fe__law_is_inner : pd.prg.fe ("_law_is_inner", none) = some e__law_is_inner.fe := by kernel_rfl
theorem en__law_is_inner {n : Nat} {a0 a1 : DL.D} {S : Sto} {K : DK} {E : DX} (h : mSs (Mn n) none c__law_is_inner ⟨fun _ S' => K .non S', K, fun _ _ => False, fun _ _ => False, fun c fs _ S' => E c fs S'⟩ [some a0, some a1, none] S) : mCall pd.prg (n + 1) ("_law_is_inner", none) [a0, a1] S K E := ⟨_, fe__law_is_inner, rfl, h⟩
theorem cl__law_is_inner {n : Nat} {a0 a1 : DL.D} {S : Sto} {K : DK} {E : DX} (h : mCall pd.prg n ("_law_is_inner", none) [a0, a1] S K E) : callO (Mn n).fi (Mn n).orc ("_law_is_inner", none) [a0, a1] S K E := c_run fe__law_is_inner rfl h
theorem fe__law_many : pd.prg.fe ("_law_many", none) = some e__law_many.fe := by kernel_rfl
theorem en__law_many {n : Nat} {a0 : DL.D} {S : Sto} {K : DK} {E : DX} (h : mSs (Mn n) none c__law_many ⟨fun _ S' => K .non S', K, fun _ _ => False, fun _ _ => False, fun c fs _ S' => E c fs S'⟩ [some a0, none, none] S) : mCall pd.prg (n + 1) ("_law_many", none) [a0] S K E := ⟨_, fe__law_many, rfl, h⟩
theorem cl__law_many {n : Nat} {a0 : DL.D} {S : Sto} {K : DK} {E : DX} (h : mCall pd.prg n ("_law_many", none) [a0] S K E) : callO (Mn n).fi (Mn n).orc ("_law_many", none) [a0] S K E := c_run fe__law_many rfl h
theorem fe__law_is_body : pd.prg.fe ("_law_is_body", none) = some e__law_is_body.fe := by kernel_rfl
theorem en__law_is_body {n : Nat} {a0 : DL.D} {S : Sto} {K : DK} {E : DX} (h : mSs (Mn n) none c__law_is_body ⟨fun _ S' => K .non S', K, fun _ _ => False, fun _ _ => False, fun c fs _ S' => E c fs S'⟩ [some a0] S) : mCall pd.prg (n + 1) ("_law_is_body", none) [a0] S K E := ⟨_, fe__law_is_body, rfl, h⟩
theorem cl__law_is_body {n : Nat} {a0 : DL.D} {S : Sto} {K : DK} {E : DX} (h : mCall pd.prg n ("_law_is_body", none) [a0] S K E) : callO (Mn n).fi (Mn n).orc ("_law_is_body", none) [a0] S K E := c_run fe__law_is_body rfl h
theorem fe__law_drawn : pd.prg.fe ("_law_drawn", none) = some e__law_drawn.fe := by kernel_rfl
theorem en__law_drawn {n : Nat} {a0 a1 a2 : DL.D} {S : Sto} {K : DK} {E : DX} (h : mSs (Mn n) none c__law_drawn ⟨fun _ S' => K .non S', K, fun _ _ => False, fun _ _ => False, fun c fs _ S' => E c fs S'⟩ [some a0, some a1, some a2, none, none, none, none, none, none, none] S) : mCall pd.prg (n + 1) ("_law_drawn", none) [a0, a1, a2] S K E := ⟨_, fe__law_drawn, rfl, h⟩
theorem cl__law_drawn {n : Nat} {a0 a1 a2 : DL.D} {S : Sto} {K : DK} {E : DX} (h : mCall pd.prg n ("_law_drawn", none) [a0, a1, a2] S K E) : callO (Mn n).fi (Mn n).orc ("_law_drawn", none) [a0, a1, a2] S K E := c_run fe__law_drawn rfl h
theorem fe__law_odd : pd.prg.fe ("_law_odd", none) = some e__law_odd.fe := by kernel_rfl
theorem en__law_odd {n : Nat} {a0 : DL.D} {S : Sto} {K : DK} {E : DX} (h : mSs (Mn n) none c__law_odd ⟨fun _ S' => K .non S', K, fun _ _ => False, fun _ _ => False, fun c fs _ S' => E c fs S'⟩ [some a0, none, none, none] S) : mCall pd.prg (n + 1) ("_law_odd", none) [a0] S K E := ⟨_, fe__law_odd, rfl, h⟩
theorem cl__law_odd {n : Nat} {a0 : DL.D} {S : Sto} {K : DK} {E : DX} (h : mCall pd.prg n ("_law_odd", none) [a0] S K E) : callO (Mn n).fi (Mn n).orc ("_law_odd", none) [a0] S K E := c_run fe__law_odd rfl h
theorem fe__law_known_right : pd.prg.fe ("_law_known_right", none) = some e__law_known_right.fe := by kernel_rfl
theorem en__law_known_right {n : Nat} {S : Sto} {K : DK} {E : DX} (h : mSs (Mn n) none c__law_known_right ⟨fun _ S' => K .non S', K, fun _ _ => False, fun _ _ => False, fun c fs _ S' => E c fs S'⟩ [none, none, none, none] S) : mCall pd.prg (n + 1) ("_law_known_right", none) [] S K E := ⟨_, fe__law_known_right, rfl, h⟩
theorem cl__law_known_right {n : Nat} {S : Sto} {K : DK} {E : DX} (h : mCall pd.prg n ("_law_known_right", none) [] S K E) : callO (Mn n).fi (Mn n).orc ("_law_known_right", none) [] S K E := c_run fe__law_known_right rfl h
theorem fe_law : pd.prg.fe ("law", none) = some e_law.fe := by kernel_rfl
theorem en_law {n : Nat} {a0 : DL.D} {S : Sto} {K : DK} {E : DX} (h : mSs (Mn n) none c_law ⟨fun _ S' => K .non S', K, fun _ _ => False, fun _ _ => False, fun c fs _ S' => E c fs S'⟩ [some a0, none, none, none, none, none, none, none, none] S) : mCall pd.prg (n + 1) ("law", none) [a0] S K E := ⟨_, fe_law, rfl, h⟩
theorem cl_law {n : Nat} {a0 : DL.D} {S : Sto} {K : DK} {E : DX} (h : mCall pd.prg n ("law", none) [a0] S K E) : callO (Mn n).fi (Mn n).orc ("law", none) [a0] S K E := c_run fe_law rfl h
end LW

set_option Elab.async false
set_option linter.all false
set_option maxRecDepth 100000
set_option maxHeartbeats 1000000
namespace LW
open PySem PySem.Spec PyProof.Rows L2 DL
mutual
def VW (S : Sto) : DL.D → Prop
  | .non => True
  | .bl _ => True
  | .int _ => True
  | .str x => x.length ≤ sizeLine
  | .tup xs => xs.length ≤ sizeLine ∧ VWs S xs
  | .ref a => (∃ xs, S a = some (.lst xs)) ∨ ∃ kvs, S a = some (.dic kvs)
  | _ => False
def VWs (S : Sto) : List DL.D → Prop
  | [] => True
  | d :: ds => VW S d ∧ VWs S ds
end
theorem vws_iff {S : Sto} : ∀ {xs : List DL.D}, VWs S xs ↔ ∀ d ∈ xs, VW S d
  | [] => by simp [VWs]
  | x :: xs => by unfold VWs; rw [vws_iff (xs := xs)]; simp
mutual
theorem VW.le {S S' : Sto} (l : Le S S') : ∀ {d : DL.D}, VW S d → VW S' d
  | .non, _ => trivial
  | .bl _, _ => trivial
  | .int _, _ => trivial
  | .str x, h => h
  | .tup xs, h => by
    unfold VW at h ⊢
    exact ⟨h.1, VWs.le l h.2⟩
  | .ref a, h => by
    unfold VW at h ⊢
    rcases h with ⟨xs, h⟩ | ⟨kvs, h⟩
    · exact .inl ⟨xs, look_le l rfl h⟩
    · exact .inr ⟨kvs, look_le l rfl h⟩
  | .rol _, h => h
  | .ty _, h => h
  | .glo _, h => h
theorem VWs.le {S S' : Sto} (l : Le S S') : ∀ {ds : List DL.D}, VWs S ds → VWs S' ds
  | [], h => h
  | d :: ds, h => by
    unfold VWs at h ⊢
    exact ⟨VW.le l h.1, VWs.le l h.2⟩
end
theorem VW.tup {S : Sto} {xs : List DL.D} (h : VW S (.tup xs)) : xs.length ≤ sizeLine ∧ ∀ d ∈ xs, VW S d := by
  unfold VW at h; exact ⟨h.1, vws_iff.mp h.2⟩
theorem vw_tup {S : Sto} {xs : List DL.D} (h : xs.length ≤ sizeLine) (q : ∀ d ∈ xs, VW S d) : VW S (.tup xs) := by
  unfold VW; exact ⟨h, vws_iff.mpr q⟩
def isI : DL.D → Bool
  | .int _ => true
  | _ => false
def isS : DL.D → Bool
  | .str _ => true
  | _ => false
def isT : DL.D → Bool
  | .tup _ => true
  | _ => false
def isIB : DL.D → Bool
  | .int _ => true
  | .bl _ => true
  | _ => false
def isB : DL.D → Bool
  | .bl _ => true
  | _ => false
section
variable {n : Nat} {S : Sto} {K : DK} {E : DX}
theorem isi_g {d : DL.D} {T : String} {f : DL.D → Bool} (hv : VW S d) (hc : clD (.ty T) = some (.b T)) (h1 : pd.prg.tab (.b "NoneType") (.b T) = some (f .non)) (h2 : ∀ b, pd.prg.tab (.b "bool") (.b T) = some (f (.bl b))) (h3 : ∀ i, pd.prg.tab (.b "int") (.b T) = some (f (.int i))) (h4 : ∀ x, pd.prg.tab (.b "str") (.b T) = some (f (.str x))) (h5 : ∀ xs, pd.prg.tab (.b "tuple") (.b T) = some (f (.tup xs)))
    (h6 : ∀ a, pd.prg.tab (.b "list") (.b T) = some (f (.ref a))) (h7 : ∀ a, pd.prg.tab (.b "dict") (.b T) = some (f (.ref a))) (k : K (.bl (f d)) S) : bltM (Mn n) "isinstance" [d, .ty T] S K E := by
  cases d with
  | non => exact b_isi (t := .b "NoneType") rfl hc h1 k
  | bl b => exact b_isi (t := .b "bool") rfl hc (h2 b) k
  | int b => exact b_isi (t := .b "int") rfl hc (h3 b) k
  | str b => exact b_isi (t := .b "str") rfl hc (h4 b) k
  | tup b => exact b_isi (t := .b "tuple") rfl hc (h5 b) k
  | ref a =>
    unfold VW at hv
    rcases hv with ⟨xs, h⟩ | ⟨kvs, h⟩
    · exact b_isi (t := .b "list") (by simp only [tyD, h]) hc (h6 a) k
    · exact b_isi (t := .b "dict") (by simp only [tyD, h]) hc (h7 a) k
  | _ => exact hv.elim
theorem isi_int {d : DL.D} (hv : VW S d) (k : K (.bl (isIB d)) S) : bltM (Mn n) "isinstance" [d, .ty "int"] S K E := isi_g hv rfl (by kernel_rfl) (fun _ => by kernel_rfl) (fun _ => by kernel_rfl) (fun _ => by kernel_rfl) (fun _ => by kernel_rfl) (fun _ => by kernel_rfl) (fun _ => by kernel_rfl) k
theorem isi_bool {d : DL.D} (hv : VW S d) (k : K (.bl (isB d)) S) : bltM (Mn n) "isinstance" [d, .ty "bool"] S K E := isi_g hv rfl (by kernel_rfl) (fun _ => by kernel_rfl) (fun _ => by kernel_rfl) (fun _ => by kernel_rfl) (fun _ => by kernel_rfl) (fun _ => by kernel_rfl) (fun _ => by kernel_rfl) k
theorem isi_str {d : DL.D} (hv : VW S d) (k : K (.bl (isS d)) S) : bltM (Mn n) "isinstance" [d, .ty "str"] S K E := isi_g hv rfl (by kernel_rfl) (fun _ => by kernel_rfl) (fun _ => by kernel_rfl) (fun _ => by kernel_rfl) (fun _ => by kernel_rfl) (fun _ => by kernel_rfl) (fun _ => by kernel_rfl) k
theorem isi_tup {d : DL.D} (hv : VW S d) (k : K (.bl (isT d)) S) : bltM (Mn n) "isinstance" [d, .ty "tuple"] S K E := isi_g hv rfl (by kernel_rfl) (fun _ => by kernel_rfl) (fun _ => by kernel_rfl) (fun _ => by kernel_rfl) (fun _ => by kernel_rfl) (fun _ => by kernel_rfl) (fun _ => by kernel_rfl) k
theorem isI_and {d : DL.D} : (isIB d && !isB d) = isI d := by cases d <;> rfl
theorem is_integer_ok {d : DL.D} (hv : VW S d) (k : K (.bl (isI d)) S) : mCall pd.prg (n + 1) ("is_integer", none) [d] S K E := by
  refine en_is_integer ?_
  unfold c_is_integer
  walk_at "dl_all"
  refine isi_int hv ?_
  have e := isI_and (d := d)
  cases h : isIB d with
  | false =>
    rw [h] at e
    walk_at "dl_all"
    rw [← e] at k
    exact k
  | true =>
    rw [h] at e
    walk_at "dl_all"
    refine isi_bool hv ?_
    walk_at "dl_all"
    rw [← e] at k
    exact k
def betw (lo hi : Int) : DL.D → Bool
  | .int i => decide (lo ≤ i) && decide (i ≤ hi)
  | _ => false
theorem is_between_ok {d : DL.D} {lo hi : Int} (hv : VW S d) (k : K (.bl (betw lo hi d)) S) : mCall pd.prg (n + 2) ("is_between", none) [d, .int lo, .int hi] S K E := by
  refine en_is_between ?_
  unfold c_is_between
  walk_at "dl_all"
  refine cl_is_integer (is_integer_ok hv ?_)
  cases d with
  | int i =>
    walk_at "dl_all"
    have k : K (.bl (decide (lo ≤ i) && decide (i ≤ hi))) S := k
    refine ite_p (fun h => ?_) (fun h => ?_)
    · walk_at "dl_all"
      rw [decide_eq_true h] at k
      exact k
    · rw [decide_eq_false h] at k
      exact k
  | _ =>
    walk_at "dl_all"
    exact k
def numS (d : DL.D) : Bool := betw (-(10 ^ 30)) (10 ^ 30) d
theorem is_number_ok {d : DL.D} (hv : VW S d) (k : K (.bl (numS d)) S) : mCall pd.prg (n + 3) ("is_number", none) [d] S K E := by
  refine en_is_number ?_
  unfold c_is_number
  walk_at "dl_all"
  exact cl_is_between (is_between_ok hv k)
theorem law_is_int_ok {d : DL.D} {lo hi : Int} (hv : VW S d) (k : K (.bl (betw lo hi d)) S) : mCall pd.prg (n + 1) ("_law_is_int", none) [d, .int lo, .int hi] S K E := by
  refine en__law_is_int ?_
  unfold c__law_is_int
  walk_at "dl_all"
  refine isi_int hv ?_
  cases d with
  | int i =>
    walk_at "dl_all"
    refine isi_bool hv ?_
    walk_at "dl_all"
    have k : K (.bl (decide (lo ≤ i) && decide (i ≤ hi))) S := k
    refine ite_p (fun h => ?_) (fun h => ?_)
    · walk_at "dl_all"
      rw [decide_eq_true h] at k
      exact k
    · rw [decide_eq_false h] at k
      exact k
  | bl b =>
    walk_at "dl_all"
    refine isi_bool hv ?_
    walk_at "dl_all"
    exact k
  | _ =>
    walk_at "dl_all"
    exact k
theorem law_is_big_ok {d : DL.D} (hv : VW S d) (k : K (.bl (numS d)) S) : mCall pd.prg (n + 2) ("_law_is_big", none) [d] S K E := by
  refine en__law_is_big ?_
  unfold c__law_is_big
  walk_at "dl_all"
  exact cl__law_is_int (law_is_int_ok hv k)
end
end LW

set_option Elab.async false
set_option linter.all false
set_option maxRecDepth 100000
set_option maxHeartbeats 1000000
namespace LW
open PySem PySem.Spec PyProof.Rows L2 DL
/-- a small letter -/
def letS (d : DL.D) : Bool := match d with
  | .str x => !(Builtin.Str.occurrences ("abcdefghijklmnopqrstuvwxyz" : Str) x 0 ("abcdefghijklmnopqrstuvwxyz" : Str).length 1).isEmpty
  | _ => false
def nameS (d : DL.D) : Bool := match d with
  | .str x => decide (1 ≤ x.length) && decide (x.length ≤ 8) && (signsD x).all letS
  | _ => false
theorem k_ins {M : Env1} {x y : Str} {S : Sto} {K : DK} {E : DX} (k : K (.bl (!(Builtin.Str.occurrences y x 0 y.length 1).isEmpty)) S) : cmpM M .In (.str x) (.str y) S K E := .inl (by
  show K (.bl (false ^^ _)) S
  rw [Bool.false_xor]; exact k)
theorem k_nins {M : Env1} {x y : Str} {S : Sto} {K : DK} {E : DX} (k : K (.bl ((Builtin.Str.occurrences y x 0 y.length 1).isEmpty)) S) : cmpM M .NotIn (.str x) (.str y) S K E := .inl (by
  show K (.bl (true ^^ _)) S
  rw [Bool.true_xor, Bool.not_not]; exact k)
theorem signs_str {x : Str} {d : DL.D} (h : d ∈ signsD x) : ∃ c, d = .str ⟨#[c]⟩ := by
  unfold signsD at h
  obtain ⟨c, _, e⟩ := List.mem_map.mp h
  exact ⟨c, e.symm⟩
theorem signs_len {x : Str} : (signsD x).length = x.length := by simp [signsD, Str.length]
theorem all_map {xs : List DL.D} {f : DL.D → Bool} : (xs.map f).all id = xs.all f := by rw [List.all_map]; rfl
section
variable {n : Nat} {S : Sto} {K : DK} {E : DX}
theorem is_name_ok {d : DL.D} (hv : VW S d) (k : ∀ S', Le S S' → K (.bl (nameS d)) S') : mCall pd.prg (n + 1) ("is_name", none) [d] S K E := by
  refine en_is_name ?_
  unfold c_is_name
  walk_at "dl_all"
  refine isi_str hv ?_
  cases d with
  | str x =>
    have hx : x.length ≤ sizeLine := hv
    have k : ∀ S', Le S S' → K (.bl (decide (1 ≤ x.length) && decide (x.length ≤ 8) && (signsD x).all letS)) S' := k
    walk_at "dl_all"
    refine b_lens hx ?_
    walk_at "dl_all"
    refine ite_p (fun h => ?_) (fun h => ?_)
    · have h' : 1 ≤ x.length := by omega
      walk_at "dl_all"
      refine ite_p (fun h2 => ?_) (fun h2 => ?_)
      · have h2' : x.length ≤ 8 := by omega
        walk_at "dl_all"
        refine lc_bool (signsD x) letS (by rw [signs_len]; exact hx) (fun S' l => rfl) ?_ ?_
        · intro d S' Y hd l hY
          obtain ⟨c, rfl⟩ := signs_str hd
          simp only [wipeD, List.set]
          walk_at "dl_all"
          exact k_ins (hY _ .refl)
        · intro p S' l hp hS
          walk_at "dl_all"
          refine b_all' hS ?_
          rw [all_map]
          have := k S' l
          rw [decide_eq_true h', decide_eq_true h2'] at this
          exact this
      · have := k S .refl
        rw [show decide (x.length ≤ 8) = false from decide_eq_false (by omega)] at this
        rw [decide_eq_false h2]
        simpa using this
    · walk_at "dl_all"
      have := k S .refl
      rw [show decide (1 ≤ x.length) = false from decide_eq_false (by omega)] at this
      simpa using this
  | _ =>
    walk_at "dl_all"
    exact k S .refl
theorem toPy_nil {a : Addr} (h : S a = some (.lst [])) : toPy S 64 (.ref a) = some (.list []) := by
  show (match S a with | some (.lst xs) => _ | _ => none) = _
  rw [h]; rfl
theorem toPy_signs {a : Addr} {x : Str} {p : DL.D → Bool} (h : S a = some (.lst (((signsD x).filter p).map id))) : ∃ l, toPy S 64 (.ref a) = some (.list l) ∧ l.isEmpty = ((signsD x).filter p).isEmpty := by
  have go : ∀ ys : List DL.D, (∀ d ∈ ys, ∃ c, d = .str ⟨#[c]⟩) → ∃ l, mapO (toPy S 63) ys = some l ∧ l.isEmpty = ys.isEmpty := by
    intro ys
    induction ys with
    | nil => intro _; exact ⟨[], rfl, rfl⟩
    | cons y ys ih =>
      intro hy
      obtain ⟨c, rfl⟩ := hy y List.mem_cons_self
      obtain ⟨l, e, _⟩ := ih fun d hd => hy d (List.mem_cons_of_mem _ hd)
      refine ⟨.str ⟨#[c]⟩ :: l, ?_, rfl⟩
      have e0 : toPy S 63 (.str ⟨#[c]⟩) = some (.str ⟨#[c]⟩) := rfl
      simp only [mapO, e, e0]
  obtain ⟨l, e, q⟩ := go ((signsD x).filter p) fun d hd => signs_str (List.mem_filter.mp hd).1
  refine ⟨l, ?_, q⟩
  show (match S a with | some (.lst xs) => (mapO (toPy S 63) xs).map PyData.list | _ => none) = _
  rw [h, List.map_id]
  simp only [e]
  rfl
theorem law_is_name_ok {d : DL.D} (hv : VW S d) (k : ∀ S', Le S S' → K (.bl (nameS d)) S') : mCall pd.prg (n + 1) ("_law_is_name", none) [d] S K E := by
  refine en__law_is_name ?_
  unfold c__law_is_name
  walk_at "dl_all"
  refine isi_str hv ?_
  cases d with
  | str x =>
    have hx : x.length ≤ sizeLine := hv
    have k : ∀ S', Le S S' → K (.bl (decide (1 ≤ x.length) && decide (x.length ≤ 8) && (signsD x).all letS)) S' := k
    walk_at "dl_all"
    refine b_lens hx ?_
    walk_at "dl_all"
    have hsz : ∀ b : Bool, True := fun _ => trivial
    refine ite_p (fun h => ?_) (fun h => ?_)
    · have h' : 1 ≤ x.length := by omega
      walk_at "dl_all"
      refine ite_np (fun h2 => ?_) (fun h2 => ?_)
      · walk_at "dl_all"
        have := k S .refl
        rw [show decide (x.length ≤ 8) = false from decide_eq_false (by omega)] at this
        simpa using this
      · have h2' : x.length ≤ 8 := by omega
        walk_at "dl_all"
        refine lc_flt (signsD x) (fun d => !letS d) id (by rw [signs_len]; exact hx) (fun S' l => rfl) ?_ ?_ ?_
        · intro d S' Y hd l hY
          obtain ⟨c, rfl⟩ := signs_str hd
          simp only [wipeD, List.set]
          walk_at "dl_all"
          refine k_nins ?_
          walk_at "dl_all"
          have := hY S' .refl
          unfold letS at this
          rw [Bool.not_not] at this
          exact this
        · intro d S' Y hd hp l hY
          simp only [wipeD, List.set]
          walk_at "dl_all"
          exact hY _ .refl
        · intro p S' l hp hS
          walk_at "dl_all"
          intro q hq
          obtain ⟨l', e1, e2⟩ := toPy_signs hS
          obtain ⟨l2, e3, e4⟩ := toPy_signs (S := sup S' q (.lst [])) (look_old hq hS)
          refine k_eq e3 (toPy_nil sup_same) ?_
          have := k (sup S' q (.lst [])) (l.new' hq)
          rw [decide_eq_true h', decide_eq_true h2'] at this
          have ee : PyData.eqv (.list l2) (.list []) = (signsD x).all letS := by
            have e5 : PyData.eqv (.list l2) (.list []) = l2.isEmpty := by cases l2 <;> rfl
            rw [e5, e4]
            rw [Bool.eq_iff_iff, List.isEmpty_iff, List.filter_eq_nil_iff, List.all_eq_true]
            simp
          rw [ee]
          exact this
    · walk_at "dl_all"
      have := k S .refl
      rw [show decide (1 ≤ x.length) = false from decide_eq_false (by omega)] at this
      simpa using this
  | _ =>
    walk_at "dl_all"
    exact k S .refl
end
end LW

set_option Elab.async false
set_option linter.all false
set_option maxRecDepth 100000
set_option maxHeartbeats 1000000
namespace LW
open PySem PySem.Spec PyProof.Rows L2 DL
def partS (d : DL.D) : Bool := match d with
  | .tup [a, b] => (isN a || nameS a) && (numS b || nameS b)
  | _ => false
def fstD (d : DL.D) : DL.D := match d with
  | .tup (a :: _) => a
  | _ => .non
def keysD (xs : List DL.D) : List (Option NestedKey) := xs.map fun d => toNK (fstD d)
def partsS (d : DL.D) : Bool := match d with
  | .tup xs => decide (1 ≤ xs.length) && decide (xs.length ≤ 4) && xs.all partS && decide (keysD xs).Nodup
  | _ => false
def dd (acc : List (DL.D × DL.D)) (ks : List DL.D) : List (DL.D × DL.D) := ks.foldl (fun acc k => putKD acc k (.bl true)) acc
theorem dd_le : ∀ (ks : List DL.D) (acc : List (DL.D × DL.D)), (dd acc ks).length ≤ acc.length + ks.length
  | [], acc => Nat.le_refl _
  | k :: ks, acc => by
    have h1 := dd_le ks (putKD acc k (.bl true))
    have h2 := putKD_len acc k (.bl true)
    show (dd (putKD acc k (.bl true)) ks).length ≤ _
    rw [List.length_cons]; omega
theorem any_keq {acc : List (DL.D × DL.D)} {k : DL.D} : (acc.any fun p => keq p.1 k) = true ↔ toNK k ∈ acc.map fun p => toNK p.1 := by
  rw [List.any_eq_true, List.mem_map]
  exact ⟨fun ⟨p, h1, h2⟩ => ⟨p, h1, of_decide_eq_true h2⟩, fun ⟨p, h1, h2⟩ => ⟨p, h1, decide_eq_true h2⟩⟩
theorem dd_eq : ∀ (ks : List DL.D) (acc : List (DL.D × DL.D)), (acc.map fun p => toNK p.1).Nodup → ((dd acc ks).length = acc.length + ks.length ↔ ((acc.map fun p => toNK p.1) ++ ks.map toNK).Nodup)
  | [], acc, h => by simp [dd, h]
  | k :: ks, acc, h => by
    show (dd (putKD acc k (.bl true)) ks).length = _ ↔ _
    by_cases hk : (acc.any fun p => keq p.1 k) = true
    · have e : (putKD acc k (.bl true)).length = acc.length := by
        unfold putKD; rw [if_pos hk, List.length_map]
      have h1 := dd_le ks (putKD acc k (.bl true))
      have hm := any_keq.mp hk
      constructor
      · intro q
        rw [List.length_cons] at q; omega
      · intro q
        rw [List.map_cons] at q
        have := (List.nodup_append.mp q).2.2 _ hm _ List.mem_cons_self
        exact absurd rfl this
    · have e : putKD acc k (.bl true) = acc ++ [(k, .bl true)] := by unfold putKD; rw [if_neg hk]
      have hn : toNK k ∉ acc.map fun p => toNK p.1 := fun q => hk (any_keq.mpr q)
      have ih := dd_eq ks (acc ++ [(k, .bl true)]) (by
        rw [List.map_append, List.nodup_append]
        refine ⟨h, by simp, ?_⟩
        intro a ha b hb
        simp only [List.map_cons, List.map_nil, List.mem_singleton] at hb
        subst hb
        exact fun z => hn (z ▸ ha))
      rw [e]
      rw [List.map_append] at ih
      simp only [List.length_append, List.length_cons, List.length_nil, List.map_cons, List.map_nil, List.append_assoc, List.cons_append, List.nil_append] at ih ⊢
      rw [← ih]
      omega
theorem dd_snoc {acc : List (DL.D × DL.D)} {ks : List DL.D} {k : DL.D} : dd acc (ks ++ [k]) = putKD (dd acc ks) k (.bl true) := by
  unfold dd; rw [List.foldl_append]; rfl
theorem putKD_lf {acc : List (DL.D × DL.D)} {k d : DL.D} (h : allLf acc = true) (hk : isLf k = true) : allLf (putKD acc k d) = true := by
  unfold putKD allLf at *
  split
  · rw [List.all_eq_true] at h ⊢
    intro p hp
    obtain ⟨q, h1, h2⟩ := List.mem_map.mp hp
    subst h2
    split
    · exact h q h1
    · exact h q h1
  · rw [List.all_append, h]
    simpa using hk
theorem dd_lf : ∀ (ks : List DL.D) (acc : List (DL.D × DL.D)), allLf acc = true → (∀ k ∈ ks, isLf k = true) → allLf (dd acc ks) = true
  | [], acc, h, _ => h
  | k :: ks, acc, h, hk => dd_lf ks _ (putKD_lf h (hk k List.mem_cons_self)) fun k' h' => hk k' (List.mem_cons_of_mem _ h')
section
variable {n : Nat} {S : Sto} {K : DK} {E : DX}
theorem are_different_ok {a : Addr} {ks : List DL.D} (ha : S a = some (.lst ks)) (hl : ks.length ≤ 1000) (hk : ∀ k ∈ ks, isLf k = true) (k : ∀ S', Le S S' → K (.bl (decide (ks.map toNK).Nodup)) S') : mCall pd.prg (n + 1) ("are_different", none) [.ref a] S K E := by
  refine en_are_different ?_
  unfold c_are_different
  walk_at "dl_all"
  refine q_lst ha ?_
  refine dc_at ks (fun j acc => acc = dd [] (ks.take j)) (len_ok (by omega)) rfl (fun S' l => by simp only [itOf, itemsD, look_le l rfl ha]) ?_ ?_ ?_
  · intro i acc e
    subst e
    refine ⟨dd_lf _ _ rfl fun q hq => hk q (List.mem_of_mem_take hq), ?_⟩
    have := dd_le (ks.take i) []
    rw [List.length_take] at this
    simp only [List.length_nil] at this
    omega
  · intro i d acc S' Y Z hd hA l hY hZ
    simp only [wipeD, List.set]
    obtain ⟨hj, hd'⟩ := List.getElem?_eq_some_iff.mp hd
    walk_at "dl_all"
    refine hY _ _ _ .refl (hk d (List.mem_of_getElem? hd)) ?_
    rw [hA, List.take_succ_eq_append_getElem hj, hd', dd_snoc]
  · intro p acc S' hA l hp hS
    rw [List.take_length] at hA
    subst hA
    walk_at "dl_all"
    refine b_lend hS (dd_lf _ _ rfl hk) ?_
    walk_at "dl_all"
    refine b_len (look_le l rfl ha) ?_
    walk_at "dl_all"
    have := dd_eq ks [] (by simp)
    simp only [List.length_nil, Nat.zero_add, List.map_nil, List.nil_append] at this
    have e : decide (((dd [] ks).length : Int) = (ks.length : Int)) = decide (ks.map toNK).Nodup := by
      by_cases q : (ks.map toNK).Nodup
      · rw [decide_eq_true q, decide_eq_true (by rw [this.mpr q])]
      · rw [decide_eq_false q, decide_eq_false (fun z => q (this.mp (by omega)))]
    rw [e]
    exact k S' l
theorem two {xs : List DL.D} (h : xs.length = 2) : ∃ a b, xs = [a, b] := by
  match xs, h with
  | [a, b], _ => exact ⟨a, b, rfl⟩
theorem is_part_ok {d : DL.D} (hv : VW S d) (k : ∀ S', Le S S' → K (.bl (partS d)) S') : mCall pd.prg (n + 4) ("is_part", none) [d] S K E := by
  refine en_is_part ?_
  unfold c_is_part
  walk_at "dl_all"
  refine isi_tup hv ?_
  cases d with
  | tup xs =>
    obtain ⟨h1, h2⟩ := hv.tup
    walk_at "dl_all"
    refine ite_np (fun h => ?_) (fun h => ?_)
    · walk_at "dl_all"
      have e : partS (.tup xs) = false := by
        unfold partS
        split
        · rename_i a b q; cases q; exact absurd rfl h
        · rfl
      rw [← e]
      exact k S .refl
    · have hl2 : xs.length = 2 := by omega
      obtain ⟨a, b, rfl⟩ := two hl2
      have va := h2 a (by simp)
      have vb := h2 b (by simp)
      have k : ∀ S', Le S S' → K (.bl ((isN a || nameS a) && (numS b || nameS b))) S' := k
      walk_at "dl_all"
      have rest : ∀ S1, Le S S1 → (isN a || nameS a) = true → callO (Mn (n + 3)).fi (Mn (n + 3)).orc ("is_number", none) [b] S1 (fun x S1 => (Mn (n + 3)).tru x S1 (fun k S2 => if k = true then K x S2 else mE (Mn (n + 3)) none (.call ("is_name", none) (.cons (.ix (.var 0) (.cst (.int 1))) .nil)) [some (.tup [a, b])] S2 K fun c fs S => E c fs S) fun c fs S => E c fs S) (fun c fs S => E c fs S) := by
        intro S1 l1 ha
        rw [ha] at k
        refine cl_is_number (is_number_ok (vb.le l1) ?_)
        walk_at "dl_all"
        refine ite_any (fun q => ?_) (fun q => ?_)
        · have := k S1 l1
          rw [q] at this ⊢
          exact this
        · walk_at "dl_all"
          refine cl_is_name (is_name_ok (vb.le l1) fun S2 l2 => ?_)
          have := k S2 (l1.trans l2)
          rw [q] at this
          exact this
      cases hn : isN a with
      | true =>
        walk_at "dl_all"
        exact rest S .refl (by rw [hn]; rfl)
      | false =>
        walk_at "dl_all"
        refine cl_is_name (is_name_ok va fun S1 l1 => ?_)
        walk_at "dl_all"
        refine ite_any (fun q => ?_) (fun q => ?_)
        · walk_at "dl_all"
          exact rest S1 l1 (by rw [q]; simp)
        · have := k S1 l1
          rw [hn, q] at this
          rw [q]
          exact this
  | _ =>
    walk_at "dl_all"
    exact k S .refl
theorem part_lf {d : DL.D} (h : partS d = true) : isLf (fstD d) = true ∧ ∃ a b, d = .tup [a, b] ∧ (isN a || nameS a) = true := by
  unfold partS at h
  split at h
  · rename_i a b
    simp only [Bool.and_eq_true] at h
    refine ⟨?_, a, b, rfl, h.1⟩
    show isLf a = true
    cases a with
    | non => rfl
    | str x => rfl
    | _ => simp [isN, nameS] at h
  · cases h
theorem is_parts_ok {d : DL.D} (hv : VW S d) (k : ∀ S', Le S S' → K (.bl (partsS d)) S') : mCall pd.prg (n + 5) ("is_parts", none) [d] S K E := by
  refine en_is_parts ?_
  unfold c_is_parts
  walk_at "dl_all"
  refine isi_tup hv ?_
  cases d with
  | tup xs =>
    obtain ⟨h1, h2⟩ := hv.tup
    have k : ∀ S', Le S S' → K (.bl (decide (1 ≤ xs.length) && decide (xs.length ≤ 4) && xs.all partS && decide (keysD xs).Nodup)) S' := k
    walk_at "dl_all"
    refine ite_p (fun a1 => ?_) (fun a1 => ?_)
    · have a1' : 1 ≤ xs.length := by omega
      walk_at "dl_all"
      refine ite_np (fun a2 => ?_) (fun a2 => ?_)
      · walk_at "dl_all"
        have := k S .refl
        rw [show decide (xs.length ≤ 4) = false from decide_eq_false (by omega)] at this
        simpa using this
      · have a2' : xs.length ≤ 4 := by omega
        walk_at "dl_all"
        refine lc_bool xs partS h1 (fun S' l => rfl) ?_ ?_
        · intro d S' Y hd l hY
          simp only [wipeD, List.set]
          walk_at "dl_all"
          exact cl_is_part (is_part_ok ((h2 d hd).le l) hY)
        · intro p S' l hp hS
          walk_at "dl_all"
          refine b_all' hS ?_
          rw [all_map]
          walk_at "dl_all"
          refine ite_any (fun q => ?_) (fun q => ?_)
          · have qa := List.all_eq_true.mp q
            walk_at "dl_all"
            refine lc_map xs fstD h1 (fun S' l => rfl) ?_ ?_
            · intro d S2 Y hd l2 hY
              simp only [wipeD, List.set]
              obtain ⟨_, a, b, rfl, _⟩ := part_lf (qa d hd)
              walk_at "dl_all"
              exact hY _ .refl
            · intro p2 S2 l2 hp2 hS2
              walk_at "dl_all"
              refine cl_are_different (are_different_ok hS2 (by rw [List.length_map]; omega) (fun d hd => ?_) fun S3 l3 => ?_)
              · obtain ⟨x, hx, rfl⟩ := List.mem_map.mp hd
                exact (part_lf (qa x hx)).1
              · have := k S3 ((l.trans l2).trans l3)
                rw [decide_eq_true a1', decide_eq_true a2', q] at this
                unfold keysD at this
                rw [List.map_map]
                exact this
          · have := k S' l
            rw [q] at this ⊢
            simpa using this
    · walk_at "dl_all"
      have := k S .refl
      rw [show decide (1 ≤ xs.length) = false from decide_eq_false (by omega)] at this
      simpa using this
  | _ =>
    walk_at "dl_all"
    exact k S .refl
def rangeS (lo hi : DL.D) : Bool := numS lo && numS hi && match lo, hi with
  | .int i, .int j => decide (i ≤ j)
  | _, _ => false
theorem num_int {d : DL.D} (h : numS d = true) : ∃ i, d = .int i := by
  cases d with
  | int i => exact ⟨i, rfl⟩
  | _ => cases h
theorem is_range_ok {lo hi : DL.D} (h1 : VW S lo) (h2 : VW S hi) (k : K (.bl (rangeS lo hi)) S) : mCall pd.prg (n + 4) ("is_range", none) [.tup [lo, hi]] S K E := by
  refine en_is_range ?_
  unfold c_is_range
  walk_at "dl_all"
  refine isi_tup (d := .tup [lo, hi]) (vw_tup (show 2 ≤ sizeLine by decide) (by simp [h1, h2])) ?_
  walk_at "dl_all"
  refine cl_is_number (is_number_ok h1 ?_)
  unfold rangeS at k
  cases a1 : numS lo with
  | false =>
    rw [a1] at k
    walk_at "dl_all"
    exact k
  | true =>
    walk_at "dl_all"
    refine cl_is_number (is_number_ok h2 ?_)
    cases a2 : numS hi with
    | false =>
      rw [a1, a2] at k
      walk_at "dl_all"
      exact k
    | true =>
      obtain ⟨i, rfl⟩ := num_int a1
      obtain ⟨j, rfl⟩ := num_int a2
      rw [a1, a2] at k
      walk_at "dl_all"
      exact k
end
end LW

set_option Elab.async false
set_option linter.all false
set_option maxRecDepth 100000
set_option maxHeartbeats 1000000
namespace LW
open PySem PySem.Spec PyProof.Rows L2 DL
theorem le_frs {S T : Sto} {p : Addr} {o : SO} (h : S p = none) (l : Le S T) : Le S (sup T p o) := fun a x i e => look_ne (ne_new h e) (l a x i e)
def pyL : DL.D → PyData
  | .str x => .str x
  | _ => .none
def nsD (d : DL.D) : Bool := match d with
  | .non => true
  | .str _ => true
  | _ => false
theorem toPy_ns {S : Sto} {n : Nat} {d : DL.D} (h : nsD d = true) : toPy S (n + 1) d = some (pyL d) := by
  cases d <;> first | rfl | cases h
theorem toPy_nss {S : Sto} {n : Nat} : ∀ {xs : List DL.D}, (∀ d ∈ xs, nsD d = true) → mapO (toPy S (n + 1)) xs = some (xs.map pyL)
  | [], _ => rfl
  | x :: xs, h => by
    simp only [mapO, toPy_ns (h x List.mem_cons_self), toPy_nss (xs := xs) fun d hd => h d (List.mem_cons_of_mem _ hd), List.map_cons]
theorem eqv_ns {a b : DL.D} (ha : nsD a = true) (hb : nsD b = true) : PyData.eqv (pyL a) (pyL b) = decide (toNK a = toNK b) := by
  cases a with
  | non =>
    cases b with
    | non => rfl
    | str y =>
      symm
      exact decide_eq_false (fun e => by cases e)
    | _ => cases hb
  | str x =>
    cases b with
    | non =>
      symm
      exact decide_eq_false (fun e => by cases e)
    | str y =>
      show decide (x = y) = decide (some (NestedKey.text x) = some (.text y))
      by_cases e : x = y
      · subst e; simp
      · rw [decide_eq_false e, decide_eq_false]
        intro z
        cases z
        exact e rfl
    | _ => cases hb
  | _ => cases ha
theorem k_inls {n : Nat} {S : Sto} {K : DK} {E : DX} {x : DL.D} {a : Addr} {xs : List DL.D} (ha : S a = some (.lst xs)) (hx : nsD x = true) (hs : ∀ d ∈ xs, nsD d = true) (k : K (.bl (decide (toNK x ∈ xs.map toNK))) S) : cmpM (Mn n) .In x (.ref a) S K E := by
  refine .inl ?_
  have e1 : toPy S 64 x = some (pyL x) := toPy_ns hx
  have e2 : toPy S 64 (.ref a) = some (.list (xs.map pyL)) := by
    show (match S a with | some (.lst xs) => (mapO (toPy S 63) xs).map PyData.list | _ => none) = _
    rw [ha]
    simp only [toPy_nss (n := 62) hs]
    rfl
  have e3 : ((xs.map pyL).any fun z => PyData.eqv z (pyL x)) = decide (toNK x ∈ xs.map toNK) := by
    rw [Bool.eq_iff_iff, List.any_eq_true, decide_eq_true_iff]
    constructor
    · rintro ⟨z, hz, q⟩
      obtain ⟨d, hd, rfl⟩ := List.mem_map.mp hz
      rw [eqv_ns (hs d hd) hx] at q
      rw [← of_decide_eq_true q]
      exact List.mem_map_of_mem hd
    · intro h
      obtain ⟨d, hd, e⟩ := List.mem_map.mp h
      exact ⟨pyL d, List.mem_map_of_mem hd, by rw [eqv_ns (hs d hd) hx]; exact decide_eq_true e⟩
  rw [← e3] at k
  cases x with
  | non => unfold inDn; simp only [e1, e2, Bool.false_xor]; exact k
  | str x => unfold inDn; simp only [e1, e2, Bool.false_xor]; exact k
  | _ => cases hx
theorem part_fst {a b : DL.D} (h : (isN a || nameS a) = true) : nsD a = true := by
  cases a <;> first | rfl | (simp [isN, nameS] at h)
theorem keysD_take {xs : List DL.D} {i : Nat} (h : i < xs.length) : keysD (xs.take (i + 1)) = keysD (xs.take i) ++ [toNK (fstD xs[i])] := by
  unfold keysD
  rw [List.take_succ_eq_append_getElem h, List.map_append]
  rfl
def p2S (d : DL.D) : Bool := match d with
  | .tup [a, _] => isN a || nameS a
  | _ => false
section
variable {n : Nat} {S : Sto} {K : DK} {E : DX} {KT : Bool → Sto → Prop}
theorem t1_ok {d : DL.D} {s0 s1 : Option DL.D} (hv : VW S d) (k : ∀ S', Le S S' → KT (!p2S d) S') : mT (Mn (n + 1)) none (.or (.not (.val (.blt "isinstance" (.cons (.var 2) (.cons (.cst (.ty "tuple")) .nil))))) (.or (.cmp .NotEq (.blt "len" (.cons (.var 2) .nil)) (.cst (.int 2))) (.and (.cmp .IsNot (.ix (.var 2) (.cst (.int 0))) (.cst .non)) (.not (.val (.call ("_law_is_name", none) (.cons (.ix (.var 2) (.cst (.int 0))) .nil))))))) [s0, s1, some d] S KT E := by
  walk_at "dl_all"
  refine isi_tup hv ?_
  cases d with
  | tup ys =>
    obtain ⟨v1, v2⟩ := hv.tup
    walk_at "dl_all"
    refine ite_np (fun q => ?_) (fun q => ?_)
    · have e : p2S (.tup ys) = false := by
        unfold p2S
        split
        · rename_i a b z; cases z; exact absurd rfl q
        · rfl
      have := k S .refl
      rw [e] at this
      exact this
    · have hl2 : ys.length = 2 := by omega
      obtain ⟨a, b, rfl⟩ := two hl2
      have va := v2 a (by simp)
      have k : ∀ S', Le S S' → KT (!(isN a || nameS a)) S' := k
      walk_at "dl_all"
      cases h : isN a with
      | true =>
        walk_at "dl_all"
        have := k S .refl
        rw [h] at this
        exact this
      | false =>
        walk_at "dl_all"
        refine cl__law_is_name (law_is_name_ok va fun S1 l1 => ?_)
        walk_at "dl_all"
        have := k S1 l1
        rw [h] at this
        exact this
  | _ =>
    walk_at "dl_all"
    exact k S .refl
theorem t2_ok {a b : DL.D} {s0 : Option DL.D} {p : Addr} {ns : List DL.D} (vb : VW S b) (ha : nsD a = true) (hp : S p = some (.lst ns)) (hs : ∀ d ∈ ns, nsD d = true) (k : ∀ S', Le S S' → KT (!(numS b || nameS b) || decide (toNK a ∈ ns.map toNK)) S') :
    mT (Mn (n + 2)) none (.or (.and (.not (.val (.call ("_law_is_big", none) (.cons (.ix (.var 2) (.cst (.int 1))) .nil)))) (.not (.val (.call ("_law_is_name", none) (.cons (.ix (.var 2) (.cst (.int 1))) .nil))))) (.cmp .In (.ix (.var 2) (.cst (.int 0))) (.var 1))) [s0, some (.ref p), some (.tup [a, b])] S KT E := by
  walk_at "dl_all"
  refine cl__law_is_big (law_is_big_ok vb ?_)
  cases h : numS b with
  | true =>
    walk_at "dl_all"
    refine k_inls hp ha hs ?_
    walk_at "dl_all"
    have := k S .refl
    rw [h] at this
    exact this
  | false =>
    walk_at "dl_all"
    refine cl__law_is_name (law_is_name_ok vb fun S1 l1 => ?_)
    walk_at "dl_all"
    have := k S1 l1
    rw [h] at this
    cases h2 : nameS b with
    | true =>
      rw [h2] at this
      walk_at "dl_all"
      exact k_inls (look_le l1 rfl hp) ha hs (by walk_at "dl_all"; exact this)
    | false =>
      rw [h2] at this
      walk_at "dl_all"
      exact this
theorem law_are_parts_ok {d : DL.D} (hv : VW S d) (k : ∀ S', Le S S' → K (.bl (partsS d)) S') : mCall pd.prg (n + 4) ("_law_are_parts", none) [d] S K E := by
  refine en__law_are_parts ?_
  unfold c__law_are_parts
  walk_at "dl_all"
  refine isi_tup hv ?_
  cases d with
  | tup xs =>
    obtain ⟨h1, h2⟩ := hv.tup
    have k : ∀ S', Le S S' → K (.bl (decide (1 ≤ xs.length) && decide (xs.length ≤ 4) && xs.all partS && decide (keysD xs).Nodup)) S' := k
    walk_at "dl_all"
    refine ite_p (fun a1 => ?_) (fun a1 => ?_)
    · have a1' : 1 ≤ xs.length := by omega
      walk_at "dl_all"
      refine ite_np (fun a2 => ?_) (fun a2 => ?_)
      · walk_at "dl_all"
        have := k S .refl
        rw [show decide (xs.length ≤ 4) = false from decide_eq_false (by omega)] at this
        simpa using this
      · have a2' : xs.length ≤ 4 := by omega
        rw [decide_eq_true a1', decide_eq_true a2'] at k
        simp only [Bool.true_and] at k
        walk_at "dl_all"
        intro p hp
        walk_at "dl_all"
        refine for_at (W := fun i σ S' => (∃ o, σ = [some (.tup xs), some (.ref p), o]) ∧ S' p = some (.lst ((xs.take i).map fstD)) ∧ Le S S' ∧ (xs.take i).all partS = true ∧ (keysD (xs.take i)).Nodup) xs ⟨⟨_, rfl⟩, sup_same, .new hp, rfl, by simp [keysD]⟩ (fun i σ S h => rfl) ?_ ?_
        · rintro i σ S' d N ⟨⟨o, rfl⟩, w1, w2, w3, w4⟩ hd hN
          obtain ⟨hi, rfl⟩ := List.getElem?_eq_some_iff.mp hd
          have hm := List.getElem_mem hi
          have vd := (h2 _ hm).le w2
          have hkn : keysD (xs.take (i + 1)) = keysD (xs.take i) ++ [toNK (fstD xs[i])] := keysD_take hi
          have hbad : (partS xs[i] = false ∨ ¬ (keysD (xs.take (i + 1))).Nodup) → ∀ S'', Le S S'' → K (.bl false) S'' := by
            intro hb S'' l
            have := k S'' l
            rcases hb with hb | hb
            · have e : xs.all partS = false := by
                rw [List.all_eq_false]
                exact ⟨xs[i], hm, by rw [hb]; simp⟩
              rw [e] at this
              exact this
            · have e : decide (keysD xs).Nodup = false := by
                refine decide_eq_false fun q => hb ?_
                unfold keysD at q ⊢
                rw [List.map_take]
                exact q.sublist (List.take_sublist _ _)
              rw [e, Bool.and_false] at this
              exact this
          have hns : ∀ d ∈ (xs.take i).map fstD, nsD d = true := by
            intro d hd
            obtain ⟨x, hx, rfl⟩ := List.mem_map.mp hd
            obtain ⟨_, a, b, rfl, q⟩ := part_lf (List.all_eq_true.mp w3 x hx)
            exact part_fst (b := b) q
          unfold c__law_are_parts_L1
          refine g2 ?_
          refine m_sscons (m_siff (t1_ok vd fun S1 l1 => ?_))
          cases hp2 : p2S xs[i] with
          | false =>
            walk_at "dl_all"
            refine hbad (.inl ?_) _ (w2.trans l1)
            unfold p2S at hp2
            unfold partS
            split
            · rename_i a b z
              rw [z] at hp2
              rw [show (isN a || nameS a) = false from hp2]; rfl
            · rfl
          | true =>
            have hab : ∃ a b, xs[i] = .tup [a, b] ∧ (isN a || nameS a) = true := by
              unfold p2S at hp2
              split at hp2
              · rename_i a b z
                exact ⟨a, b, z, hp2⟩
              · cases hp2
            obtain ⟨a, b, hab, hna⟩ := hab
            have hps : partS xs[i] = (numS b || nameS b) := by
              rw [hab]
              show ((isN a || nameS a) && _) = _
              rw [hna, Bool.true_and]
            have hfs : fstD xs[i] = a := by rw [hab]; rfl
            have vb : VW S1 b := ((by rw [hab] at vd; exact vd : VW S' (.tup [a, b])).tup.2 b (by simp)).le l1
            have hS1 := look_le l1 rfl w1
            refine ite_cf rfl (m_ssnil (m_sscons (m_siff ?_)))
            rw [hab]
            refine t2_ok vb (part_fst (b := b) hna) hS1 hns fun S2 l2 => ?_
            rw [hps, hkn, hfs] at hbad
            have hS2 := look_le l2 rfl hS1
            have hmk : ((xs.take i).map fstD).map toNK = keysD (xs.take i) := by unfold keysD; rw [List.map_map]; rfl
            rw [hmk]
            cases hq : (numS b || nameS b) with
            | false =>
              rw [hq] at hbad
              walk_at "dl_all"
              exact hbad (.inl rfl) _ ((w2.trans l1).trans l2)
            | true =>
              refine ite_any (fun q => ?_) (fun q => ?_)
              · walk_at "dl_all"
                refine hbad (.inr ?_) _ ((w2.trans l1).trans l2)
                have q : toNK a ∈ keysD (xs.take i) := by simpa using q
                intro z
                have := (List.nodup_append.mp z).2.2 _ q _ List.mem_cons_self
                exact this rfl
              · have q : toNK a ∉ keysD (xs.take i) := by simpa using q
                walk_at "dl_all"
                refine mm_lst (P := True) hS2 rfl ?_
                walk_at "dl_all"
                refine l_app hS2 (by rw [List.length_map, List.length_take]; exact Nat.lt_of_lt_of_le (by omega : min i xs.length < 5) (by decide)) ?_
                walk_at "dl_all"
                rw [← hab]
                refine hN _ _ ⟨⟨_, rfl⟩, ?_, le_frs hp ((w2.trans l1).trans l2), ?_, ?_⟩
                · rw [sup_same, List.take_succ_eq_append_getElem hi, List.map_append]
                  simp [hfs]
                · rw [List.take_succ_eq_append_getElem hi, List.all_append, w3]
                  simp [hps, hq]
                · rw [hkn, hfs, List.nodup_append]
                  refine ⟨w4, by simp, ?_⟩
                  intro x hx y hy
                  simp only [List.mem_singleton] at hy
                  subst hy
                  exact fun z => q (z ▸ hx)
        · rintro σ S' ⟨⟨o, rfl⟩, w1, w2, w3, w4⟩
          walk_at "dl_all"
          rw [List.take_length] at w3 w4
          have := k S' w2
          rw [w3, decide_eq_true w4] at this
          exact this
    · walk_at "dl_all"
      have := k S .refl
      rw [show decide (1 ≤ xs.length) = false from decide_eq_false (by omega)] at this
      simpa using this
  | _ =>
    walk_at "dl_all"
    exact k S .refl
end
end LW

set_option Elab.async false
set_option linter.all false
set_option maxRecDepth 100000
namespace LW
open PySem PySem.Spec PyProof.Rows L2 DL
theorem at0 {x : DL.D} {r : List DL.D} : atI (x :: r) 0 = some x := by simp [atI, ixN]
theorem x_tup0 {ow : Own} {S : Sto} {K : DK} {E : DX} {x : DL.D} {r : List DL.D} (k : K x S) : ixX ow (.tup (x :: r)) (.int 0) S K E := x_tup at0 k
end LW

set_option Elab.async false
set_option linter.all false
set_option maxRecDepth 100000
set_option maxHeartbeats 2000000
namespace LW
open PySem PySem.Spec PyProof.Rows L2 DL
/-- a statement, by what is asked of inner bodies -/
def stS (deep : DL.D → Bool) (d : DL.D) : Bool := match d with
  | .tup (.str w :: r) =>
    if r.length = 2 ∧ w = "set" then nameS (r.getD 0 .non) && partsS (r.getD 1 .non)
    else if r.length = 3 ∧ w = "input" then nameS (r.getD 0 .non) && rangeS (r.getD 1 .non) (r.getD 2 .non)
    else if r.length = 2 ∧ w = "either" then deep (r.getD 0 .non) && deep (r.getD 1 .non)
    else if r.length = 2 ∧ w = "loop" then nameS (r.getD 0 .non) && deep (r.getD 1 .non)
    else if r.length = 1 ∧ w = "call" then nameS (r.getD 0 .non)
    else if r.length = 1 ∧ w = "place" then nameS (r.getD 0 .non)
    else if r.length = 2 ∧ w = "read" then nameS (r.getD 0 .non) && nameS (r.getD 1 .non)
    else if r.length = 4 ∧ w = "guard" then nameS (r.getD 0 .non) && (nameS (r.getD 1 .non) && (numS (r.getD 2 .non) && betw 1 99 (r.getD 3 .non)))
    else false
  | _ => false
def deepS : Nat → DL.D → Bool
  | 0, _ => false
  | r + 1, d => match d with
    | .tup xs => xs.all (stS (deepS r))
    | _ => false
theorem one {xs : List DL.D} (h : xs.length = 1) : ∃ a, xs = [a] := by
  match xs, h with
  | [a], _ => exact ⟨a, rfl⟩
theorem three {xs : List DL.D} (h : xs.length = 3) : ∃ a b c, xs = [a, b, c] := by
  match xs, h with
  | [a, b, c], _ => exact ⟨a, b, c, rfl⟩
theorem four {xs : List DL.D} (h : xs.length = 4) : ∃ a b c d, xs = [a, b, c, d] := by
  match xs, h with
  | [a, b, c, d], _ => exact ⟨a, b, c, d, rfl⟩
section
variable {n : Nat} {S : Sto} {K : DK} {E : DX}
/-- and, then what is told -/
theorem and_k {b : Bool} {P : Bool → Prop} (h1 : b = true → P (b && true)) (h : P b) : P b := h
theorem is_statement_ok {d : DL.D} {c : Int} {deep : DL.D → Bool} (hd : ∀ (x : DL.D) (S' : Sto) (K' : DK), VW S' x → (∀ S'', Le S' S'' → K' (.bl (deep x)) S'') → mCall pd.prg (n + 5) ("is_deep", none) [x, .int (c + 1)] S' K' (fun c fs S => E c fs S)) (hv : VW S d) (k : ∀ S', Le S S' → K (.bl (stS deep d)) S') : mCall pd.prg (n + 6) ("is_statement", none) [d, .int c] S K E := by
  refine en_is_statement ?_
  unfold c_is_statement
  walk_at "dl_all"
  refine isi_tup hv ?_
  cases d with
  | tup xs =>
    obtain ⟨h1, h2⟩ := hv.tup
    walk_at "dl_all"
    refine k_eqt0 ?_
    cases xs with
    | nil =>
      walk_at "dl_all"
      exact k S .refl
    | cons x r =>
      walk_at "dl_all"
      have vx := h2 x (by simp)
      refine x_tup0 ?_
      walk_at "dl_all"
      refine isi_str vx ?_
      cases x with
      | str w =>
        have hr : ∀ d ∈ r, VW S d := fun d hd => h2 d (by simp [hd])
        unfold stS at k
        walk_at "dl_all"
        refine mc_seq (ite_p (fun q => ?_) (fun q => ?_))
        · -- set
          replace q : r.length = 2 ∧ w = "set" := q
          simp only [if_pos q] at k
          obtain ⟨a, b, rfl⟩ := two q.1
          have va := hr a (by simp)
          have vb := hr b (by simp)
          have k : ∀ S', Le S S' → K (.bl (nameS a && partsS b)) S' := k
          simp only [setAll, List.set]
          walk_at "dl_all"
          refine cl_is_name (is_name_ok va fun S1 l1 => ?_)
          cases ha : nameS a with
          | false => walk_at "dl_all"; have := k S1 l1; rw [ha] at this; exact this
          | true =>
            walk_at "dl_all"
            refine cl_is_parts (is_parts_ok (vb.le l1) fun S2 l2 => ?_)
            have := k S2 (l1.trans l2)
            rw [ha] at this
            exact this
        replace q : ¬ (r.length = 2 ∧ w = "set") := q
        simp only [if_neg q] at k
        clear q
        refine mc_seq (ite_p (fun q => ?_) (fun q => ?_))
        · -- input
          replace q : r.length = 3 ∧ w = "input" := q
          simp only [if_pos q] at k
          obtain ⟨a, b, c', rfl⟩ := three q.1
          have va := hr a (by simp)
          have vb := hr b (by simp)
          have vc := hr c' (by simp)
          have k : ∀ S', Le S S' → K (.bl (nameS a && rangeS b c')) S' := k
          simp only [setAll, List.set]
          walk_at "dl_all"
          refine cl_is_name (is_name_ok va fun S1 l1 => ?_)
          have k1 := k S1 l1
          cases ha : nameS a with
          | false => walk_at "dl_all"; rw [ha] at k1; exact k1
          | true =>
            walk_at "dl_all"
            refine cl_is_range (is_range_ok (vb.le l1) (vc.le l1) ?_)
            rw [ha] at k1
            exact k1
        replace q : ¬ (r.length = 3 ∧ w = "input") := q
        simp only [if_neg q] at k
        clear q
        refine mc_seq (ite_p (fun q => ?_) (fun q => ?_))
        · -- either
          replace q : r.length = 2 ∧ w = "either" := q
          simp only [if_pos q] at k
          obtain ⟨a, b, rfl⟩ := two q.1
          have va := hr a (by simp)
          have vb := hr b (by simp)
          have k : ∀ S', Le S S' → K (.bl (deep a && deep b)) S' := k
          simp only [setAll, List.set]
          walk_at "dl_all"
          refine cl_is_deep (hd a _ _ va fun S1 l1 => ?_)
          have k1 := k S1 l1
          cases ha : deep a with
          | false => walk_at "dl_all"; rw [ha] at k1; exact k1
          | true =>
            walk_at "dl_all"
            refine cl_is_deep (hd b _ _ (vb.le l1) fun S2 l2 => ?_)
            have := k S2 (l1.trans l2)
            rw [ha] at this
            exact this
        replace q : ¬ (r.length = 2 ∧ w = "either") := q
        simp only [if_neg q] at k
        clear q
        refine mc_seq (ite_p (fun q => ?_) (fun q => ?_))
        · -- loop
          replace q : r.length = 2 ∧ w = "loop" := q
          simp only [if_pos q] at k
          obtain ⟨a, b, rfl⟩ := two q.1
          have va := hr a (by simp)
          have vb := hr b (by simp)
          have k : ∀ S', Le S S' → K (.bl (nameS a && deep b)) S' := k
          simp only [setAll, List.set]
          walk_at "dl_all"
          refine cl_is_name (is_name_ok va fun S1 l1 => ?_)
          have k1 := k S1 l1
          cases ha : nameS a with
          | false => walk_at "dl_all"; rw [ha] at k1; exact k1
          | true =>
            walk_at "dl_all"
            refine cl_is_deep (hd b _ _ (vb.le l1) fun S2 l2 => ?_)
            have := k S2 (l1.trans l2)
            rw [ha] at this
            exact this
        replace q : ¬ (r.length = 2 ∧ w = "loop") := q
        simp only [if_neg q] at k
        clear q
        refine mc_seq (ite_p (fun q => ?_) (fun q => ?_))
        · -- call
          replace q : r.length = 1 ∧ w = "call" := q
          simp only [if_pos q] at k
          obtain ⟨a, rfl⟩ := one q.1
          have va := hr a (by simp)
          simp only [setAll, List.set]
          walk_at "dl_all"
          exact cl_is_name (is_name_ok va k)
        replace q : ¬ (r.length = 1 ∧ w = "call") := q
        simp only [if_neg q] at k
        clear q
        refine mc_seq (ite_p (fun q => ?_) (fun q => ?_))
        · -- place
          replace q : r.length = 1 ∧ w = "place" := q
          simp only [if_pos q] at k
          obtain ⟨a, rfl⟩ := one q.1
          have va := hr a (by simp)
          simp only [setAll, List.set]
          walk_at "dl_all"
          exact cl_is_name (is_name_ok va k)
        replace q : ¬ (r.length = 1 ∧ w = "place") := q
        simp only [if_neg q] at k
        clear q
        refine mc_seq (ite_p (fun q => ?_) (fun q => ?_))
        · -- read
          replace q : r.length = 2 ∧ w = "read" := q
          simp only [if_pos q] at k
          obtain ⟨a, b, rfl⟩ := two q.1
          have va := hr a (by simp)
          have vb := hr b (by simp)
          have k : ∀ S', Le S S' → K (.bl (nameS a && nameS b)) S' := k
          simp only [setAll, List.set]
          walk_at "dl_all"
          refine cl_is_name (is_name_ok va fun S1 l1 => ?_)
          have k1 := k S1 l1
          cases ha : nameS a with
          | false => walk_at "dl_all"; rw [ha] at k1; exact k1
          | true =>
            walk_at "dl_all"
            refine cl_is_name (is_name_ok (vb.le l1) fun S2 l2 => ?_)
            have := k S2 (l1.trans l2)
            rw [ha] at this
            exact this
        replace q : ¬ (r.length = 2 ∧ w = "read") := q
        simp only [if_neg q] at k
        clear q
        refine mc_seq (ite_p (fun q => ?_) (fun q => ?_))
        · -- guard
          replace q : r.length = 4 ∧ w = "guard" := q
          simp only [if_pos q] at k
          obtain ⟨a, b, m, c', rfl⟩ := four q.1
          have va := hr a (by simp)
          have vb := hr b (by simp)
          have vm := hr m (by simp)
          have vc := hr c' (by simp)
          have k : ∀ S', Le S S' → K (.bl (nameS a && (nameS b && (numS m && betw 1 99 c')))) S' := k
          simp only [setAll, List.set]
          walk_at "dl_all"
          refine cl_is_name (is_name_ok va fun S1 l1 => ?_)
          have k1 := k S1 l1
          cases ha : nameS a with
          | false => walk_at "dl_all"; rw [ha] at k1; exact k1
          | true =>
            walk_at "dl_all"
            refine cl_is_name (is_name_ok (vb.le l1) fun S2 l2 => ?_)
            have k2 := k S2 (l1.trans l2)
            rw [ha] at k2
            cases hb : nameS b with
            | false => walk_at "dl_all"; rw [hb] at k2; exact k2
            | true =>
              rw [hb] at k2
              walk_at "dl_all"
              refine cl_is_number (is_number_ok (vm.le (l1.trans l2)) ?_)
              cases hm : numS m with
              | false => walk_at "dl_all"; rw [hm] at k2; exact k2
              | true =>
                rw [hm] at k2
                walk_at "dl_all"
                exact cl_is_between (is_between_ok (vc.le (l1.trans l2)) k2)
        replace q : ¬ (r.length = 4 ∧ w = "guard") := q
        simp only [if_neg q] at k
        walk_at "dl_all"
        exact k S .refl
      | _ =>
        walk_at "dl_all"
        exact k S .refl
  | _ =>
    walk_at "dl_all"
    exact k S .refl
theorem is_deep_ok (r : Nat) : ∀ {d : DL.D} {c : Int} {S : Sto} {K : DK} {E : DX}, c = 5 - (r : Int) → VW S d → (∀ S', Le S S' → K (.bl (deepS r d)) S') → mCall pd.prg (n + 2 * r + 5) ("is_deep", none) [d, .int c] S K E := by
  induction r with
  | zero =>
    intro d c S K E hc hv k
    refine en_is_deep ?_
    unfold c_is_deep
    walk_at "dl_all"
    refine ite_pt (by omega) ?_
    walk_at "dl_all"
    exact k S .refl
  | succ r ih =>
    intro d c S K E hc hv k
    show mCall pd.prg (n + 2 * r + 6 + 1) ("is_deep", none) [d, .int c] S K E
    refine en_is_deep ?_
    unfold c_is_deep
    walk_at "dl_all"
    refine ite_pf (by omega) ?_
    walk_at "dl_all"
    refine isi_tup hv ?_
    cases d with
    | tup xs =>
      obtain ⟨h1, h2⟩ := hv.tup
      walk_at "dl_all"
      refine lc_bool xs (stS (deepS r)) h1 (fun S' l => rfl) ?_ ?_
      · intro d S' Y hd l hY
        simp only [wipeD, List.set]
        walk_at "dl_all"
        exact cl_is_statement (is_statement_ok (n := n + 2 * r) (fun x S'' K' hx hk => ih (by omega) hx hk) ((h2 d hd).le l) hY)
      · intro p S' l hp hS
        walk_at "dl_all"
        refine b_all' hS ?_
        rw [all_map]
        exact k S' l
    | _ =>
      walk_at "dl_all"
      exact k S .refl
end
end LW

set_option Elab.async false
set_option linter.all false
set_option maxRecDepth 100000
set_option maxHeartbeats 2000000
namespace LW
open PySem PySem.Spec PyProof.Rows L2 DL
theorem cut_tl {x : DL.D} {r : List DL.D} : DL.cutD (x :: r) (some 1) none = r := by
  have h1 : HT.sIx (x :: r).length 0 (some 1) = 1 := by
    unfold HT.sIx
    simp
  have h2 : HT.sIx (x :: r).length (x :: r).length none = (x :: r).length := rfl
  unfold DL.cutD
  rw [h1, h2]
  simp
theorem k_in2 {n : Nat} {S : Sto} {K : DK} {E : DX} {w a b : Str} (k : K (.bl (decide (w = a) || decide (w = b))) S) : cmpM (Mn n) .In (.str w) (.tup [.str a, .str b]) S K E := by
  refine .inl ?_
  have e1 : toPy S 64 (.str w) = some (.str w) := rfl
  have e2 : toPy S 64 (.tup [.str a, .str b]) = some (.tuple [.str a, .str b]) := rfl
  unfold inDn
  simp only [e1, e2, Bool.false_xor]
  have e3 : (([.str a, .str b] : List PyData).any fun z => PyData.eqv z (.str w)) = (decide (w = a) || decide (w = b)) := by
    show ((a == w) || ((b == w) || false)) = _
    rw [Bool.or_false]
    have g : ∀ x : Str, (x == w) = decide (w = x) := fun x => by
      by_cases e : w = x
      · subst e; simp
      · rw [decide_eq_false e]
        exact beq_false_of_ne (fun z => e z.symm)
    rw [g, g]
  rw [e3]
  exact k
section
variable {deep : DL.D → Bool} {r : List DL.D}
theorem st_call : stS deep (.tup (.str "call" :: r)) = (decide (r.length = 1) && nameS (r.getD 0 .non)) := by
  have h1 : ("call" : Str) ≠ "set" := by decide
  have h2 : ("call" : Str) ≠ "input" := by decide
  have h3 : ("call" : Str) ≠ "either" := by decide
  have h4 : ("call" : Str) ≠ "loop" := by decide
  have h5 : ("call" : Str) ≠ "place" := by decide
  have h6 : ("call" : Str) ≠ "read" := by decide
  have h7 : ("call" : Str) ≠ "guard" := by decide
  unfold stS
  simp only [h1, h2, h3, h4, h5, h6, h7, and_false, and_true, if_false]
  by_cases h : r.length = 1 <;> simp [h]
theorem st_place : stS deep (.tup (.str "place" :: r)) = (decide (r.length = 1) && nameS (r.getD 0 .non)) := by
  have h1 : ("place" : Str) ≠ "set" := by decide
  have h2 : ("place" : Str) ≠ "input" := by decide
  have h3 : ("place" : Str) ≠ "either" := by decide
  have h4 : ("place" : Str) ≠ "loop" := by decide
  have h5 : ("place" : Str) ≠ "call" := by decide
  have h6 : ("place" : Str) ≠ "read" := by decide
  have h7 : ("place" : Str) ≠ "guard" := by decide
  unfold stS
  simp only [h1, h2, h3, h4, h5, h6, h7, and_false, and_true, if_false]
  by_cases h : r.length = 1 <;> simp [h]
theorem st_read : stS deep (.tup (.str "read" :: r)) = (decide (r.length = 2) && (nameS (r.getD 0 .non) && nameS (r.getD 1 .non))) := by
  have h1 : ("read" : Str) ≠ "set" := by decide
  have h2 : ("read" : Str) ≠ "input" := by decide
  have h3 : ("read" : Str) ≠ "either" := by decide
  have h4 : ("read" : Str) ≠ "loop" := by decide
  have h5 : ("read" : Str) ≠ "call" := by decide
  have h6 : ("read" : Str) ≠ "place" := by decide
  have h7 : ("read" : Str) ≠ "guard" := by decide
  unfold stS
  simp only [h1, h2, h3, h4, h5, h6, h7, and_false, and_true, if_false]
  by_cases h : r.length = 2 <;> simp [h]
theorem st_set : stS deep (.tup (.str "set" :: r)) = (decide (r.length = 2) && (nameS (r.getD 0 .non) && partsS (r.getD 1 .non))) := by
  have h1 : ("set" : Str) ≠ "read" := by decide
  have h2 : ("set" : Str) ≠ "input" := by decide
  have h3 : ("set" : Str) ≠ "either" := by decide
  have h4 : ("set" : Str) ≠ "loop" := by decide
  have h5 : ("set" : Str) ≠ "call" := by decide
  have h6 : ("set" : Str) ≠ "place" := by decide
  have h7 : ("set" : Str) ≠ "guard" := by decide
  unfold stS
  simp only [h1, h2, h3, h4, h5, h6, h7, and_false, and_true, if_false]
  by_cases h : r.length = 2 <;> simp [h]
theorem st_input : stS deep (.tup (.str "input" :: r)) = (decide (r.length = 3) && (nameS (r.getD 0 .non) && rangeS (r.getD 1 .non) (r.getD 2 .non))) := by
  have h1 : ("input" : Str) ≠ "read" := by decide
  have h2 : ("input" : Str) ≠ "set" := by decide
  have h3 : ("input" : Str) ≠ "either" := by decide
  have h4 : ("input" : Str) ≠ "loop" := by decide
  have h5 : ("input" : Str) ≠ "call" := by decide
  have h6 : ("input" : Str) ≠ "place" := by decide
  have h7 : ("input" : Str) ≠ "guard" := by decide
  unfold stS
  simp only [h1, h2, h3, h4, h5, h6, h7, and_false, and_true, if_false]
  by_cases h : r.length = 3 <;> simp [h]
theorem st_guard : stS deep (.tup (.str "guard" :: r)) = (decide (r.length = 4) && (nameS (r.getD 0 .non) && (nameS (r.getD 1 .non) && (numS (r.getD 2 .non) && betw 1 99 (r.getD 3 .non))))) := by
  have h1 : ("guard" : Str) ≠ "read" := by decide
  have h2 : ("guard" : Str) ≠ "set" := by decide
  have h3 : ("guard" : Str) ≠ "either" := by decide
  have h4 : ("guard" : Str) ≠ "loop" := by decide
  have h5 : ("guard" : Str) ≠ "call" := by decide
  have h6 : ("guard" : Str) ≠ "place" := by decide
  have h7 : ("guard" : Str) ≠ "input" := by decide
  unfold stS
  simp only [h1, h2, h3, h4, h5, h6, h7, and_false, and_true, if_false]
  by_cases h : r.length = 4 <;> simp [h]
theorem st_either : stS deep (.tup (.str "either" :: r)) = (decide (r.length = 2) && (deep (r.getD 0 .non) && deep (r.getD 1 .non))) := by
  have h1 : ("either" : Str) ≠ "read" := by decide
  have h2 : ("either" : Str) ≠ "set" := by decide
  have h3 : ("either" : Str) ≠ "guard" := by decide
  have h4 : ("either" : Str) ≠ "loop" := by decide
  have h5 : ("either" : Str) ≠ "call" := by decide
  have h6 : ("either" : Str) ≠ "place" := by decide
  have h7 : ("either" : Str) ≠ "input" := by decide
  unfold stS
  simp only [h1, h2, h3, h4, h5, h6, h7, and_false, and_true, if_false]
  by_cases h : r.length = 2 <;> simp [h]
theorem st_loop : stS deep (.tup (.str "loop" :: r)) = (decide (r.length = 2) && (nameS (r.getD 0 .non) && deep (r.getD 1 .non))) := by
  have h1 : ("loop" : Str) ≠ "read" := by decide
  have h2 : ("loop" : Str) ≠ "set" := by decide
  have h3 : ("loop" : Str) ≠ "guard" := by decide
  have h4 : ("loop" : Str) ≠ "either" := by decide
  have h5 : ("loop" : Str) ≠ "call" := by decide
  have h6 : ("loop" : Str) ≠ "place" := by decide
  have h7 : ("loop" : Str) ≠ "input" := by decide
  unfold stS
  simp only [h1, h2, h3, h4, h5, h6, h7, and_false, and_true, if_false]
  by_cases h : r.length = 2 <;> simp [h]
theorem st_none {w : Str} (h1 : w ≠ "call") (h2 : w ≠ "place") (h3 : w ≠ "read") (h4 : w ≠ "set") (h5 : w ≠ "input") (h6 : w ≠ "guard") (h7 : w ≠ "either") (h8 : w ≠ "loop") : stS deep (.tup (.str w :: r)) = false := by
  unfold stS
  simp only [h1, h2, h3, h4, h5, h6, h7, h8, and_false, if_false]
end
section
variable {n : Nat} {S : Sto} {K : DK} {E : DX}
theorem law_fits_ok {d : DL.D} {c : Int} {w : Str} {r : List DL.D} {deep : DL.D → Bool} (hd : ∀ (x : DL.D) (S' : Sto) (K' : DK) (E' : DX), VW S' x → (∀ S'', Le S' S'' → K' (.bl (deep x)) S'') → mCall pd.prg (n + 5) ("_law_is_inner", none) [x, .int (c + 1)] S' K' E') (e : d = .tup (.str w :: r)) (hv : VW S d) (k : ∀ S', Le S S' → K (.bl (stS deep d)) S') : mCall pd.prg (n + 6) ("_law_fits", none) [d, .int c] S K E := by
  subst e
  have hr : ∀ d ∈ r, VW S d := fun d hd => hv.tup.2 d (by simp [hd])
  refine en__law_fits ?_
  unfold c__law_fits
  walk_at "dl_all"
  refine x_tup0 ?_
  walk_at "dl_all"
  refine sl_tup rfl rfl ?_
  rw [cut_tl]
  walk_at "dl_all"
  refine k_in2 ?_
  walk_at "dl_all"
  refine ite_any (fun q => ?_) (fun q => ?_)
  · walk_at "dl_all"
    refine isi_str (d := .str w) (hv.tup.2 _ (by simp)) ?_
    have q : w = "call" ∨ w = "place" := by simpa using q
    have k : ∀ S', Le S S' → K (.bl (decide (r.length = 1) && nameS (r.getD 0 .non))) S' := by
      rcases q with rfl | rfl
      · rw [st_call] at k; exact k
      · rw [st_place] at k; exact k
    clear q
    walk_at "dl_all"
    refine ite_p (fun q => ?_) (fun q => ?_)
    · have q' : r.length = 1 := by omega
      obtain ⟨a, rfl⟩ := one q'
      walk_at "dl_all"
      exact cl__law_is_name (law_is_name_ok (hr a (by simp)) k)
    · have := k S .refl
      rw [show decide (r.length = 1) = false from decide_eq_false (by omega)] at this
      rw [decide_eq_false q]
      exact this
  · have q : w ≠ "call" ∧ w ≠ "place" := by simpa using q
    obtain ⟨n1, n2⟩ := q
    walk_at "dl_all"
    refine ite_p (fun q => ?_) (fun n3 => ?_)
    · subst q
      rw [st_read] at k
      walk_at "dl_all"
      refine ite_p (fun q => ?_) (fun q => ?_)
      · have q' : r.length = 2 := by omega
        obtain ⟨a, b, rfl⟩ := two q'
        have va := hr a (by simp)
        have vb := hr b (by simp)
        have k : ∀ S', Le S S' → K (.bl (nameS a && nameS b)) S' := k
        walk_at "dl_all"
        refine cl__law_is_name (law_is_name_ok va fun S1 l1 => ?_)
        have k1 := k S1 l1
        cases ha : nameS a with
        | false => walk_at "dl_all"; rw [ha] at k1; exact k1
        | true =>
          walk_at "dl_all"
          refine cl__law_is_name (law_is_name_ok (vb.le l1) fun S2 l2 => ?_)
          have := k S2 (l1.trans l2)
          rw [ha] at this
          exact this
      · have := k S .refl
        rw [show decide (r.length = 2) = false from decide_eq_false (by omega)] at this
        rw [decide_eq_false q]
        exact this
    walk_at "dl_all"
    refine ite_p (fun q => ?_) (fun n4 => ?_)
    · subst q
      rw [st_set] at k
      walk_at "dl_all"
      refine ite_p (fun q => ?_) (fun q => ?_)
      · have q' : r.length = 2 := by omega
        obtain ⟨a, b, rfl⟩ := two q'
        have va := hr a (by simp)
        have vb := hr b (by simp)
        have k : ∀ S', Le S S' → K (.bl (nameS a && partsS b)) S' := k
        walk_at "dl_all"
        refine cl__law_is_name (law_is_name_ok va fun S1 l1 => ?_)
        have k1 := k S1 l1
        cases ha : nameS a with
        | false => walk_at "dl_all"; rw [ha] at k1; exact k1
        | true =>
          walk_at "dl_all"
          refine cl__law_are_parts (law_are_parts_ok (vb.le l1) fun S2 l2 => ?_)
          have := k S2 (l1.trans l2)
          rw [ha] at this
          exact this
      · have := k S .refl
        rw [show decide (r.length = 2) = false from decide_eq_false (by omega)] at this
        rw [decide_eq_false q]
        exact this
    walk_at "dl_all"
    refine ite_p (fun q => ?_) (fun n5 => ?_)
    · subst q
      rw [st_input] at k
      walk_at "dl_all"
      refine ite_np (fun q => ?_) (fun q => ?_)
      · walk_at "dl_all"
        have := k S .refl
        rw [show decide (r.length = 3) = false from decide_eq_false (by omega)] at this
        exact this
      · have q' : r.length = 3 := by omega
        obtain ⟨a, b, c', rfl⟩ := three q'
        have va := hr a (by simp)
        have vb := hr b (by simp)
        have vc := hr c' (by simp)
        have k0 : ∀ S', Le S S' → K (.bl (nameS a && rangeS b c')) S' := k
        clear k
        walk_at "dl_all"
        refine cl__law_is_big (law_is_big_ok vb ?_)
        cases hb : numS b with
        | false =>
          walk_at "dl_all"
          have := k0 S .refl
          unfold rangeS at this
          rw [hb] at this
          simpa using this
        | true =>
          walk_at "dl_all"
          refine cl__law_is_big (law_is_big_ok vc ?_)
          cases hc : numS c' with
          | false =>
            walk_at "dl_all"
            have := k0 S .refl
            unfold rangeS at this
            rw [hb, hc] at this
            simpa using this
          | true =>
            obtain ⟨i, ei⟩ := num_int hb
            obtain ⟨j, ej⟩ := num_int hc
            have er : rangeS b c' = decide (i ≤ j) := by
              unfold rangeS
              rw [hb, hc, ei, ej]
              rfl
            rw [er] at k0
            subst ei ej
            walk_at "dl_all"
            refine cl__law_is_name (law_is_name_ok va fun S1 l1 => ?_)
            have k1 := k0 S1 l1
            cases ha : nameS a with
            | false => walk_at "dl_all"; rw [ha] at k1; exact k1
            | true => walk_at "dl_all"; rw [ha] at k1; exact k1
    walk_at "dl_all"
    refine ite_p (fun q => ?_) (fun n6 => ?_)
    · subst q
      rw [st_guard] at k
      walk_at "dl_all"
      refine ite_np (fun q => ?_) (fun q => ?_)
      · walk_at "dl_all"
        have := k S .refl
        rw [show decide (r.length = 4) = false from decide_eq_false (by omega)] at this
        exact this
      · have q' : r.length = 4 := by omega
        obtain ⟨a, b, m, c', rfl⟩ := four q'
        have va := hr a (by simp)
        have vb := hr b (by simp)
        have vm := hr m (by simp)
        have vc := hr c' (by simp)
        have k : ∀ S', Le S S' → K (.bl (nameS a && (nameS b && (numS m && betw 1 99 c')))) S' := k
        walk_at "dl_all"
        refine cl__law_is_name (law_is_name_ok va fun S1 l1 => ?_)
        have k1 := k S1 l1
        cases ha : nameS a with
        | false => walk_at "dl_all"; rw [ha] at k1; exact k1
        | true =>
          walk_at "dl_all"
          refine cl__law_is_name (law_is_name_ok (vb.le l1) fun S2 l2 => ?_)
          have k2 := k S2 (l1.trans l2)
          rw [ha] at k2
          cases hb : nameS b with
          | false => walk_at "dl_all"; rw [hb] at k2; exact k2
          | true =>
            rw [hb] at k2
            walk_at "dl_all"
            refine cl__law_is_big (law_is_big_ok (vm.le (l1.trans l2)) ?_)
            cases hm : numS m with
            | false => walk_at "dl_all"; rw [hm] at k2; exact k2
            | true =>
              rw [hm] at k2
              walk_at "dl_all"
              exact cl__law_is_int (law_is_int_ok (vc.le (l1.trans l2)) k2)
    walk_at "dl_all"
    refine ite_p (fun q => ?_) (fun n7 => ?_)
    · subst q
      rw [st_either] at k
      walk_at "dl_all"
      refine ite_p (fun q => ?_) (fun q => ?_)
      · have q' : r.length = 2 := by omega
        walk_at "dl_all"
        refine lc_flt r (fun x => !deep x) id (len_ok (by omega)) (fun S' l => rfl) ?_ ?_ ?_
        · intro x S' Y hx l hY
          simp only [wipeD, List.set]
          walk_at "dl_all"
          refine cl__law_is_inner (hd x _ _ _ ((hr x hx).le l) fun S2 l2 => ?_)
          walk_at "dl_all"
          exact hY _ l2
        · intro x S' Y hx hp l hY
          simp only [wipeD, List.set]
          walk_at "dl_all"
          exact hY _ .refl
        · intro p S' l hp hS
          walk_at "dl_all"
          intro q2 hq2
          refine k_eql0 (look_old hq2 hS) sup_same ?_
          obtain ⟨a, b, rfl⟩ := two q'
          have := k (sup S' q2 (.lst [])) (l.new' hq2)
          have e : ((List.filter (fun x => !deep x) [a, b]).map id).isEmpty = (deep a && deep b) := by
            cases ha : deep a <;> cases hb : deep b <;> simp [List.filter, ha, hb]
          rw [e]
          exact this
      · have := k S .refl
        rw [show decide (r.length = 2) = false from decide_eq_false (by omega)] at this
        rw [decide_eq_false q]
        exact this
    walk_at "dl_all"
    refine ite_p (fun q => ?_) (fun n8 => ?_)
    · subst q
      rw [st_loop] at k
      walk_at "dl_all"
      refine ite_p (fun q => ?_) (fun q => ?_)
      · have q' : r.length = 2 := by omega
        obtain ⟨a, b, rfl⟩ := two q'
        have va := hr a (by simp)
        have vb := hr b (by simp)
        have k : ∀ S', Le S S' → K (.bl (nameS a && deep b)) S' := k
        walk_at "dl_all"
        refine cl__law_is_name (law_is_name_ok va fun S1 l1 => ?_)
        have k1 := k S1 l1
        cases ha : nameS a with
        | false => walk_at "dl_all"; rw [ha] at k1; exact k1
        | true =>
          walk_at "dl_all"
          refine cl__law_is_inner (hd b _ _ _ (vb.le l1) fun S2 l2 => ?_)
          have := k S2 (l1.trans l2)
          rw [ha] at this
          exact this
      · have := k S .refl
        rw [show decide (r.length = 2) = false from decide_eq_false (by omega)] at this
        rw [decide_eq_false q]
        exact this
    · rw [st_none n1 n2 n3 n4 n5 n6 n7 n8] at k
      rw [decide_eq_false n8]
      exact k S .refl
end
end LW

set_option Elab.async false
set_option linter.all false
set_option maxRecDepth 100000
set_option maxHeartbeats 2000000
namespace LW
open PySem PySem.Spec PyProof.Rows L2 DL
section
variable {n : Nat} {S : Sto} {K : DK} {E : DX} {KT : Bool → Sto → Prop}
theorem law_is_inner_ok (r : Nat) : ∀ {d : DL.D} {c : Int} {S : Sto} {K : DK} {E : DX}, c = 5 - (r : Int) → VW S d → (∀ S', Le S S' → K (.bl (deepS r d)) S') → mCall pd.prg (n + 2 * r + 5) ("_law_is_inner", none) [d, .int c] S K E := by
  induction r with
  | zero =>
    intro d c S K E hc hv k
    refine en__law_is_inner ?_
    unfold c__law_is_inner
    walk_at "dl_all"
    refine ite_pt (by omega) ?_
    walk_at "dl_all"
    exact k S .refl
  | succ r ih =>
    intro d c S K E hc hv k
    show mCall pd.prg (n + 2 * r + 6 + 1) ("_law_is_inner", none) [d, .int c] S K E
    refine en__law_is_inner ?_
    unfold c__law_is_inner
    walk_at "dl_all"
    refine ite_pf (by omega) ?_
    walk_at "dl_all"
    refine isi_tup hv ?_
    cases d with
    | tup xs =>
      obtain ⟨h1, h2⟩ := hv.tup
      have k : ∀ S', Le S S' → K (.bl (xs.all (stS (deepS r)))) S' := k
      walk_at "dl_all"
      refine for_at (W := fun i σ S' => (∃ o, σ = [some (.tup xs), some (.int c), o]) ∧ Le S S' ∧ (xs.take i).all (stS (deepS r)) = true) xs ⟨⟨_, rfl⟩, .refl, rfl⟩ (fun i σ S h => rfl) ?_ ?_
      · rintro i σ S' d N ⟨⟨o, rfl⟩, w2, w3⟩ hd hN
        obtain ⟨hi, rfl⟩ := List.getElem?_eq_some_iff.mp hd
        have hm := List.getElem_mem hi
        have vd := (h2 _ hm).le w2
        have hbad : stS (deepS r) xs[i] = false → ∀ S'', Le S S'' → K (.bl false) S'' := fun q S'' l => by
          have := k S'' l
          rw [show xs.all (stS (deepS r)) = false from List.all_eq_false.mpr ⟨_, hm, by rw [q]; simp⟩] at this
          exact this
        have hnx : stS (deepS r) xs[i] = true → ∀ S'', Le S S'' → N [some (.tup xs), some (.int c), some xs[i]] S'' := fun q S'' l => by
          refine hN _ _ ⟨⟨_, rfl⟩, l, ?_⟩
          rw [List.take_succ_eq_append_getElem hi, List.all_append, w3]
          simp [q]
        generalize xs[i] = d at *
        clear hd hm
        unfold c__law_is_inner_L1
        walk_at "dl_all"
        refine isi_tup vd ?_
        cases d with
        | tup ys =>
          obtain ⟨v1, v2⟩ := vd.tup
          walk_at "dl_all"
          refine k_eqt0 ?_
          cases ys with
          | nil =>
            walk_at "dl_all"
            exact hbad rfl _ w2
          | cons x ys =>
            walk_at "dl_all"
            refine x_tup0 ?_
            walk_at "dl_all"
            refine isi_str (v2 x (by simp)) ?_
            cases x with
            | str w =>
              walk_at "dl_all"
              refine cl__law_fits (law_fits_ok (n := n + 2 * r) (deep := deepS r) (fun x S'' K' E' hx hk => ih (by omega) hx hk) rfl vd fun S1 l1 => ?_)
              walk_at "dl_all"
              cases q : stS (deepS r) (.tup (.str w :: ys)) with
              | false =>
                walk_at "dl_all"
                exact hbad q _ (w2.trans l1)
              | true =>
                walk_at "dl_all"
                exact hnx q _ (w2.trans l1)
            | _ =>
              walk_at "dl_all"
              exact hbad rfl _ w2
        | _ =>
          walk_at "dl_all"
          exact hbad rfl _ w2
      · rintro σ S' ⟨⟨o, rfl⟩, w2, w3⟩
        walk_at "dl_all"
        rw [List.take_length] at w3
        have := k S' w2
        rw [w3] at this
        exact this
    | _ =>
      walk_at "dl_all"
      exact k S .refl
def innS (cnt : DL.D → Nat) (d : DL.D) : Nat := match d with
  | .tup (.str w :: r) => if w = "either" then cnt (r.getD 0 .non) + cnt (r.getD 1 .non) else if w = "loop" then cnt (r.getD 1 .non) else 0
  | _ => 0
def cntS : Nat → DL.D → Nat
  | 0, _ => 0
  | r + 1, d => match d with
    | .tup xs => (xs.map fun x => 1 + innS (cntS r) x).sum
    | _ => 0
theorem st_shape {deep : DL.D → Bool} {d : DL.D} (h : stS deep d = true) : ∃ w r, d = .tup (.str w :: r) ∧ r ≠ [] ∧ (w = "either" → ∃ a b, r = [a, b] ∧ deep a = true ∧ deep b = true) ∧ (w = "loop" → ∃ a b, r = [a, b] ∧ deep b = true) := by
  unfold stS at h
  split at h
  · rename_i w r
    replace h : stS deep (.tup (.str w :: r)) = true := h
    refine ⟨w, r, rfl, ?_, ?_, ?_⟩
    · rintro rfl
      simp [stS] at h
    · rintro rfl
      rw [st_either] at h
      simp only [Bool.and_eq_true, decide_eq_true_eq] at h
      obtain ⟨h1, h2, h3⟩ := h
      obtain ⟨a, b, rfl⟩ := two h1
      exact ⟨a, b, rfl, h2, h3⟩
    · rintro rfl
      rw [st_loop] at h
      simp only [Bool.and_eq_true, decide_eq_true_eq] at h
      obtain ⟨h1, h2, h3⟩ := h
      obtain ⟨a, b, rfl⟩ := two h1
      exact ⟨a, b, rfl, h3⟩
  · cases h
theorem bodies_in_ok {d : DL.D} {w : Str} {r : List DL.D} (hd : d = .tup (.str w :: r)) (h1 : w = "either" → ∃ a b, r = [a, b]) (h2 : w = "loop" → ∃ a b, r = [a, b])
    (k : K (.tup (if w = "either" then [r.getD 0 .non, r.getD 1 .non] else if w = "loop" then [r.getD 1 .non] else [])) S) : mCall pd.prg (n + 1) ("bodies_in", none) [d] S K E := by
  subst hd
  refine en_bodies_in ?_
  unfold c_bodies_in
  walk_at "dl_all"
  refine x_tup0 ?_
  walk_at "dl_all"
  refine mc_val (ite_p (fun q => ?_) (fun q => ?_))
  · obtain ⟨a, b, rfl⟩ := h1 q
    rw [if_pos q] at k
    walk_at "dl_all"
    exact k
  · rw [if_neg q] at k
    refine mc_val (ite_p (fun q2 => ?_) (fun q2 => ?_))
    · obtain ⟨a, b, rfl⟩ := h2 q2
      rw [if_pos q2] at k
      walk_at "dl_all"
      exact k
    · rw [if_neg q2] at k
      walk_at "dl_all"
      exact k
end
end LW

set_option Elab.async false
set_option linter.all false
set_option maxRecDepth 100000
set_option maxHeartbeats 2000000
namespace LW
open PySem PySem.Spec PyProof.Rows L2 DL
theorem sum_take {f : DL.D → Nat} {xs : List DL.D} {i : Nat} (h : i < xs.length) : ((xs.take (i + 1)).map f).sum = ((xs.take i).map f).sum + f xs[i] := by
  rw [List.take_succ_eq_append_getElem h, List.map_append, List.sum_append]
  simp
theorem sum_take_le {f : DL.D → Nat} : ∀ (xs : List DL.D) (i : Nat), ((xs.take i).map f).sum ≤ (xs.map f).sum
  | [], i => by simp
  | x :: xs, 0 => by simp
  | x :: xs, i + 1 => by
    have := sum_take_le (f := f) xs i
    simp only [List.take_succ_cons, List.map_cons, List.sum_cons]
    omega
/-- a statement's bodies -/
def bodS (d : DL.D) : List DL.D := match d with
  | .tup (.str w :: r) => if w = "either" then [r.getD 0 .non, r.getD 1 .non] else if w = "loop" then [r.getD 1 .non] else []
  | _ => []
theorem inn_bod {cnt : DL.D → Nat} {d : DL.D} : innS cnt d = ((bodS d).map cnt).sum := by
  unfold innS bodS
  cases d with
  | tup xs =>
    cases xs with
    | nil => rfl
    | cons x r =>
      cases x with
      | str w =>
        dsimp only
        by_cases h1 : w = "either"
        · rw [if_pos h1, if_pos h1]; simp
        · rw [if_neg h1, if_neg h1]
          by_cases h2 : w = "loop"
          · rw [if_pos h2, if_pos h2]; simp
          · rw [if_neg h2, if_neg h2]; rfl
      | _ => rfl
  | _ => rfl
theorem bod_deep {deep : DL.D → Bool} {d b : DL.D} (h : stS deep d = true) (hb : b ∈ bodS d) : deep b = true := by
  obtain ⟨w, r, rfl, _, h1, h2⟩ := st_shape h
  unfold bodS at hb
  simp only at hb
  split at hb
  · rename_i e
    obtain ⟨x, y, rfl, q1, q2⟩ := h1 e
    simp at hb
    rcases hb with rfl | rfl
    · exact q1
    · exact q2
  · split at hb
    · rename_i e
      obtain ⟨x, y, rfl, q⟩ := h2 e
      simp at hb
      subst hb
      exact q
    · cases hb
theorem bod_vw {S : Sto} {deep : DL.D → Bool} {d b : DL.D} (h : stS deep d = true) (hv : VW S d) (hb : b ∈ bodS d) : VW S b := by
  obtain ⟨w, r, rfl, _, h1, h2⟩ := st_shape h
  have hr : ∀ d ∈ r, VW S d := fun d hd => hv.tup.2 d (by simp [hd])
  unfold bodS at hb
  simp only at hb
  split at hb
  · rename_i e
    obtain ⟨x, y, rfl, q1, q2⟩ := h1 e
    simp at hb
    rcases hb with rfl | rfl
    · exact hr _ (by simp)
    · exact hr _ (by simp)
  · split at hb
    · rename_i e
      obtain ⟨x, y, rfl, q⟩ := h2 e
      simp at hb
      subst hb
      exact hr _ (by simp)
    · cases hb
theorem bod_len {d : DL.D} : (bodS d).length ≤ 2 := by
  unfold bodS
  split
  · split
    · simp
    · split <;> simp
  · simp
section
variable {n : Nat} {S : Sto} {K : DK} {E : DX}
theorem bodies_ok {d : DL.D} {deep : DL.D → Bool} (h : stS deep d = true) (k : K (.tup (bodS d)) S) : mCall pd.prg (n + 1) ("bodies_in", none) [d] S K E := by
  obtain ⟨w, r, rfl, _, h1, h2⟩ := st_shape h
  exact bodies_in_ok rfl (fun e => let ⟨a, b, q, _⟩ := h1 e; ⟨a, b, q⟩) (fun e => let ⟨a, b, q, _⟩ := h2 e; ⟨a, b, q⟩) k
theorem all_ok (r : Nat) : ∀ {d : DL.D} {S : Sto} {K : DK} {E : DX}, deepS r d = true → VW S d → cntS r d ≤ 100000 → (∀ p ys S', Le S S' → S p = none → S' p = some (.lst ys) → ys.length = cntS r d → K (.ref p) S') → mCall pd.prg (n + r + 2) ("all_statements", none) [d] S K E := by
  induction r with
  | zero => intro d S K E h; cases h
  | succ r ih =>
    intro d S K E hd hv hc k
    show mCall pd.prg (n + r + 2 + 1) _ _ _ _ _
    refine en_all_statements ?_
    unfold c_all_statements
    cases d with
    | tup xs =>
      obtain ⟨h1, h2⟩ := hv.tup
      have hd : xs.all (stS (deepS r)) = true := hd
      have hd := List.all_eq_true.mp hd
      have hc : (xs.map fun x => 1 + innS (cntS r) x).sum ≤ 100000 := hc
      walk_at "dl_all"
      intro p hp
      walk_at "dl_all"
      refine for_at (W := fun i σ S' => (∃ o1 o2 ys, σ = [some (.tup xs), some (.ref p), o1, o2] ∧ S' p = some (.lst ys) ∧ ys.length = ((xs.take i).map fun x => 1 + innS (cntS r) x).sum) ∧ Le S S') xs ⟨⟨_, _, [], rfl, sup_same, rfl⟩, .new hp⟩ (fun i σ S h => rfl) ?_ ?_
      · rintro i σ S' d N ⟨⟨o1, o2, ys, rfl, hS, hl⟩, w2⟩ he hN
        obtain ⟨hi, rfl⟩ := List.getElem?_eq_some_iff.mp he
        have hm := List.getElem_mem hi
        have hst := hd _ hm
        have hvx := h2 _ hm
        have hs1 := sum_take (f := fun x => 1 + innS (cntS r) x) hi
        have hs2 := sum_take_le (f := fun x => 1 + innS (cntS r) x) xs (i + 1)
        rw [inn_bod] at hs1
        generalize xs[i] = d at *
        clear he hm
        unfold c_all_statements_L2
        walk_at "dl_all"
        refine mm_lst (P := True) hS rfl ?_
        walk_at "dl_all"
        refine l_app hS (Nat.lt_of_le_of_lt (by omega : ys.length ≤ 100000) (by decide)) ?_
        walk_at "dl_all"
        refine cl_bodies_in (bodies_ok hst ?_)
        walk_at "dl_all"
        refine for_at (W := fun j σ S2 => (∃ o2 zs, σ = [some (.tup xs), some (.ref p), some d, o2] ∧ S2 p = some (.lst zs) ∧ zs.length = ys.length + 1 + (((bodS d).take j).map (cntS r)).sum) ∧ Le S S2) (bodS d) ⟨⟨_, _, rfl, sup_same, by simp⟩, le_frs hp w2⟩ (fun i σ S h => rfl) ?_ ?_
        · rintro j σ S2 b N2 ⟨⟨o2, zs, rfl, hS2, hl2⟩, l2⟩ hb hN2
          obtain ⟨hj, rfl⟩ := List.getElem?_eq_some_iff.mp hb
          have hbm := List.getElem_mem hj
          have ht1 := sum_take (f := cntS r) hj
          have ht2 := sum_take_le (f := cntS r) (bodS d) (j + 1)
          have hbd := bod_deep hst hbm
          have hbv := bod_vw hst (hvx.le l2) hbm
          unfold c_all_statements_L1
          walk_at "dl_all"
          refine mm_lst (P := True) hS2 rfl ?_
          walk_at "dl_all"
          refine cl_all_statements (ih hbd hbv (by omega) fun q ws S3 l3 hq hS3 hl3 => ?_)
          walk_at "dl_all"
          refine l_ext (look_le l3 rfl hS2) hS3 (Nat.le_trans (by omega : zs.length + ws.length ≤ 100000) (by decide)) ?_
          walk_at "dl_all"
          exact hN2 _ _ ⟨⟨_, _, rfl, sup_same, by rw [List.length_append]; omega⟩, le_frs hp (l2.trans l3)⟩
        · rintro σ S2 ⟨⟨o2, zs, rfl, hS2, hl2⟩, l2⟩
          walk_at "dl_all"
          rw [List.take_length] at hl2
          exact hN _ _ ⟨⟨_, _, _, rfl, hS2, by omega⟩, l2⟩
      · rintro σ S' ⟨⟨o1, o2, ys, rfl, hS, hl⟩, w2⟩
        walk_at "dl_all"
        rw [List.take_length] at hl
        exact k p ys S' w2 hp hS hl
    | _ => cases hd
def bodyS (d : DL.D) : Bool := deepS 4 d && decide (cntS 4 d ≤ 40)
theorem is_body_ok {d : DL.D} (hv : VW S d) (hc : cntS 4 d ≤ 100000) (k : ∀ S', Le S S' → K (.bl (bodyS d)) S') : mCall pd.prg (n + 14) ("is_body", none) [d] S K E := by
  refine en_is_body ?_
  unfold c_is_body
  walk_at "dl_all"
  refine cl_is_deep (is_deep_ok (n := n) 4 (by omega) hv fun S1 l1 => ?_)
  cases h : deepS 4 d with
  | false =>
    walk_at "dl_all"
    have := k S1 l1
    unfold bodyS at this
    rw [h] at this
    exact this
  | true =>
    walk_at "dl_all"
    refine cl_all_statements (all_ok (n := n + 7) 4 h (hv.le l1) hc fun p ys S2 l2 hp hS hl => ?_)
    walk_at "dl_all"
    refine b_len hS ?_
    walk_at "dl_all"
    have := k S2 (l1.trans l2)
    unfold bodyS at this
    rw [h] at this
    have e : decide ((ys.length : Int) ≤ 40) = decide (cntS 4 d ≤ 40) := by
      rw [← hl]
      by_cases q : ys.length ≤ 40
      · rw [decide_eq_true q, decide_eq_true (by omega)]
      · rw [decide_eq_false q, decide_eq_false (by omega)]
    rw [e]
    exact this
theorem many_ok (r : Nat) : ∀ {d : DL.D} {S : Sto} {K : DK} {E : DX}, deepS r d = true → VW S d → (∀ S', Le S S' → K (.int (cntS r d)) S') → mCall pd.prg (n + r + 1) ("_law_many", none) [d] S K E := by
  induction r with
  | zero => intro d S K E h; cases h
  | succ r ih =>
    intro d S K E hd hv k
    show mCall pd.prg (n + r + 1 + 1) _ _ _ _ _
    refine en__law_many ?_
    unfold c__law_many
    cases d with
    | tup xs =>
      obtain ⟨h1, h2⟩ := hv.tup
      have hd : xs.all (stS (deepS r)) = true := hd
      have hd := List.all_eq_true.mp hd
      have k : ∀ S', Le S S' → K (.int ((xs.map fun x => 1 + innS (cntS r) x).sum : Nat)) S' := k
      walk_at "dl_all"
      refine for_at (W := fun i σ S' => (∃ o1, σ = [some (.tup xs), some (.int (((xs.take i).map fun x => 1 + innS (cntS r) x).sum : Nat)), o1]) ∧ Le S S') xs ⟨⟨none, by simp⟩, .refl⟩ (fun i σ S h => rfl) ?_ ?_
      · rintro i σ S' d N ⟨⟨o1, rfl⟩, w2⟩ he hN
        obtain ⟨hi, rfl⟩ := List.getElem?_eq_some_iff.mp he
        have hm := List.getElem_mem hi
        have hst := hd _ hm
        have hvx := h2 _ hm
        have hs1 := sum_take (f := fun x => 1 + innS (cntS r) x) hi
        have hN' : ∀ S'' (m : Int), Le S S'' → m = ((((xs.take i).map fun x => 1 + innS (cntS r) x).sum : Nat) : Int) + 1 + (innS (cntS r) xs[i] : Nat) → N [some (.tup xs), some (.int m), some xs[i]] S'' := fun S'' m l e => by
          have e2 : m = ((((xs.take (i + 1)).map fun x => 1 + innS (cntS r) x).sum : Nat) : Int) := by
            rw [e, hs1]
            omega
          rw [e2]
          exact hN _ _ ⟨⟨some xs[i], rfl⟩, l⟩
        generalize xs[i] = d at *
        clear he hm hs1
        generalize ((xs.take i).map fun x => 1 + innS (cntS r) x).sum = t at *
        obtain ⟨w, rr, rfl, hne, q1, q2⟩ := st_shape hst
        have hr : ∀ d ∈ rr, VW S d := fun d hd => hvx.tup.2 d (by simp [hd])
        unfold c__law_many_L1
        walk_at "dl_all"
        refine x_tup0 ?_
        walk_at "dl_all"
        refine ite_p (fun q => ?_) (fun q => ?_)
        · obtain ⟨a, b, rfl, d1, d2⟩ := q1 q
          subst q
          walk_at "dl_all"
          refine cl__law_many (ih d1 ((hr a (by simp)).le w2) fun S1 l1 => ?_)
          walk_at "dl_all"
          refine cl__law_many (ih d2 ((hr b (by simp)).le (w2.trans l1)) fun S2 l2 => ?_)
          walk_at "dl_all"
          refine hN' _ _ ((w2.trans l1).trans l2) ?_
          show _ = (t : Int) + 1 + ((cntS r a + cntS r b : Nat) : Int)
          omega
        · walk_at "dl_all"
          refine x_tup0 ?_
          walk_at "dl_all"
          refine ite_p (fun q3 => ?_) (fun q3 => ?_)
          · obtain ⟨a, b, rfl, d2⟩ := q2 q3
            subst q3
            walk_at "dl_all"
            refine cl__law_many (ih d2 ((hr b (by simp)).le w2) fun S2 l2 => ?_)
            walk_at "dl_all"
            refine hN' _ _ (w2.trans l2) ?_
            show _ = (t : Int) + 1 + ((cntS r b : Nat) : Int)
            omega
          · walk_at "dl_all"
            refine hN' _ _ w2 ?_
            have e : innS (cntS r) (.tup (.str w :: rr)) = 0 := by
              unfold innS
              simp only [if_neg q, if_neg q3]
            rw [e]
            omega
      · rintro σ S' ⟨⟨o1, rfl⟩, w2⟩
        walk_at "dl_all"
        rw [List.take_length]
        exact k S' w2
    | _ => cases hd
theorem law_is_body_ok {d : DL.D} (hv : VW S d) (k : ∀ S', Le S S' → K (.bl (bodyS d)) S') : mCall pd.prg (n + 14) ("_law_is_body", none) [d] S K E := by
  refine en__law_is_body ?_
  unfold c__law_is_body
  walk_at "dl_all"
  refine cl__law_is_inner (law_is_inner_ok (n := n) 4 (by omega) hv fun S1 l1 => ?_)
  cases h : deepS 4 d with
  | false =>
    walk_at "dl_all"
    have := k S1 l1
    unfold bodyS at this
    rw [h] at this
    exact this
  | true =>
    walk_at "dl_all"
    refine cl__law_many (many_ok (n := n + 8) 4 h (hv.le l1) fun S2 l2 => ?_)
    walk_at "dl_all"
    have := k S2 (l1.trans l2)
    unfold bodyS at this
    rw [h] at this
    have e : decide (((cntS 4 d : Nat) : Int) ≤ 40) = decide (cntS 4 d ≤ 40) := by
      by_cases q : cntS 4 d ≤ 40
      · rw [decide_eq_true q, decide_eq_true (by omega)]
      · rw [decide_eq_false q, decide_eq_false (by omega)]
    rw [e]
    exact this
end
end LW

set_option Elab.async false
set_option linter.all false
set_option maxRecDepth 100000
set_option maxHeartbeats 400000
namespace LW
open PySem PySem.Spec PyProof.Rows L2 DL
section
variable {n : Nat} {S : Sto} {K : DK} {E : DX}
def poolO (x y : Int) : SO := .lst [.int x, .int y]
def okp (x y : Int) : Prop := 0 ≤ x ∧ 0 ≤ y ∧ y < 2147483647
theorem cmul_l {i j : Int} (h1 : -2 ^ 64 < i) (h2 : i < 2 ^ 64) : CMulD i j := .inl (.inl ⟨h1, h2⟩)
theorem cmul_r {i j : Int} (h1 : -2 ^ 64 < j) (h2 : j < 2 ^ 64) : CMulD i j := .inl (.inr ⟨h1, h2⟩)
theorem pool_ok {ns : List Int} {k : Nat} (hk : k < 64) (h : ∀ p x y, okp x y → S p = none → K (.ref p) (sup S p (poolO x y))) : mCall pd.prg (n + 1) ("_law_pool", none) [.rol (ns.map DL.D.int), .int (k : Nat)] S K E := by
  refine en__law_pool ?_
  unfold c__law_pool
  walk_at "dl_all"
  have go : ∀ c : Int, 0 ≤ c → mSs (Mn n) none (.cons (.asg (.op .Mod (.blt "int" (.cons (.op .Mult (.op .Add (.op .Add (.op .Add (.op .Mod (.blt "int" (.cons (.var 2) .nil)) (.cst (.int 2147483629))) (.op .Mult (.op .Mult (.cst (.int 7919)) (.var 1)) (.var 1))) (.op .Mult (.cst (.int 31)) (.var 1))) (.cst (.int 17))) (.cst (.int 48271))) .nil)) (.cst (.int 2147483647))) (.nm 3)) <| .cons (.ret (.lst (.cons (.op .Mult (.var 2) (.blt "int" (.cons (.cmp .GtE (.var 2) (.op .Pow (.cst (.int 10)) (.cst (.int 18)))) .nil))) (.cons (.op .Mod (.blt "int" (.cons (.op .Mult (.var 3) (.var 3)) .nil)) (.cst (.int 2147483629))) .nil)))) <| .nil) ⟨fun _ S' => K .non S', K, fun _ _ => False, fun _ _ => False, fun c fs _ S' => E c fs S'⟩ [some (.rol (ns.map DL.D.int)), some (.int k), some (.int c), none] S := by
    intro c hc
    have h1 := Int.emod_nonneg c (show (2147483629 : Int) ≠ 0 by decide)
    have h2 := Int.emod_lt_of_pos c (show (0 : Int) < 2147483629 by decide)
    walk_at "dl_all"
    refine o_mul (cmul_l (by omega) (by omega)) ?_
    walk_at "dl_all"
    refine o_mul (cmul_r (by omega) (by omega)) ?_
    walk_at "dl_all"
    refine o_mul (cmul_r (by omega) (by omega)) ?_
    walk_at "dl_all"
    refine o_mul (cmul_r (by omega) (by omega)) ?_
    walk_at "dl_all"
    refine o_mul (cmul_r (by split <;> decide) (by split <;> decide)) ?_
    walk_at "dl_all"
    generalize hm : (c % 2147483629 + 7919 * ↑k * ↑k + 31 * ↑k + 17) * 48271 % 2147483647 = m
    have m1 : 0 ≤ m := by rw [← hm]; exact Int.emod_nonneg _ (by decide)
    have m2 : m < 2147483647 := by rw [← hm]; exact Int.emod_lt_of_pos _ (by decide)
    refine o_mul (cmul_l (by omega) (by omega)) ?_
    walk_at "dl_all"
    intro p hp
    refine h p _ _ ⟨?_, Int.emod_nonneg _ (by decide), Int.lt_trans (Int.emod_lt_of_pos _ (by decide)) (by decide)⟩ hp
    split <;> omega
  refine ite_p (fun e => ?_) (fun e => ?_)
  · walk_at "dl_all"
    rw [List.length_map] at e
    have hk' : k < ns.length := by omega
    refine x_rol (d := .int ns[k]) (by simp [atI, ixN, hk']) ?_
    walk_at "dl_one"; walk_at "dl_one"; walk_at "dl_one"; walk_at "dl_one"
    exact go _ (by split <;> omega)
  · walk_at "dl_one"
    exact go 0 (Int.le_refl _)
theorem take_ok {a : Addr} {x y m : Int} (hp : okp x y) (ha : S a = some (poolO x y)) (hm : 0 < m) (hm2 : m.natAbs.log2 < 9000) (h : ∀ r x' y', 0 ≤ r → r < m → okp x' y' → K (.int r) (sup S a (poolO x' y'))) : mCall pd.prg (n + 1) ("_law_take", none) [.ref a, .int m] S K E := by
  obtain ⟨p1, p2, p3⟩ := hp
  refine en__law_take ?_
  unfold c__law_take
  walk_at "dl_all"
  refine x_lst ha rfl ?_
  walk_at "dl_all"
  refine ite_p (fun e => ?_) (fun e => ?_)
  · walk_at "dl_all"
    refine x_lst ha rfl ?_
    walk_at "dl_all"
    refine o_mod hm ?_
    walk_at "dl_all"
    refine x_lst ha rfl ?_
    walk_at "dl_all"
    refine o_div ⟨hm, hm2⟩ ?_
    walk_at "dl_all"
    refine s_lst ha (j := 0) rfl ?_
    walk_at "dl_all"
    exact h _ _ _ (Int.emod_nonneg _ (by omega)) (Int.emod_lt_of_pos _ hm) ⟨Int.ediv_nonneg p1 (by omega), p2, p3⟩
  · walk_at "dl_all"
    refine x_lst ha rfl ?_
    walk_at "dl_all"
    refine o_mul (cmul_r (by omega) (by omega)) ?_
    walk_at "dl_all"
    generalize hy : (y * 48271 + 12345) % 2147483647 = y'
    have m1 : 0 ≤ y' := by rw [← hy]; exact Int.emod_nonneg _ (by decide)
    have m2 : y' < 2147483647 := by rw [← hy]; exact Int.emod_lt_of_pos _ (by decide)
    refine s_lst ha (j := 1) rfl ?_
    walk_at "dl_all"
    refine x_lst sup_same rfl ?_
    walk_at "dl_all"
    refine x_lst sup_same rfl ?_
    walk_at "dl_all"
    refine o_mul (cmul_l (by omega) (by omega)) ?_
    walk_at "dl_all"
    refine o_div ⟨by decide, by decide⟩ ?_
    walk_at "dl_all"
    refine o_mod hm ?_
    exact h _ _ _ (Int.emod_nonneg _ (by omega)) (Int.emod_lt_of_pos _ hm) ⟨p1, m1, m2⟩
end
end LW

set_option Elab.async false
set_option linter.all false
set_option maxRecDepth 100000
set_option maxHeartbeats 1000000
namespace LW
open PySem PySem.Spec PyProof.Rows L2 DL
mutual
def Pu : DL.D → Prop
  | .non => True
  | .bl _ => True
  | .int _ => True
  | .str x => x.length ≤ 100
  | .tup xs => xs.length ≤ 100 ∧ Pus xs
  | _ => False
def Pus : List DL.D → Prop
  | [] => True
  | d :: ds => Pu d ∧ Pus ds
end
theorem pus_iff : ∀ {xs : List DL.D}, Pus xs ↔ ∀ d ∈ xs, Pu d
  | [] => by simp [Pus]
  | x :: xs => by unfold Pus; rw [pus_iff (xs := xs)]; simp
theorem pu_tup {xs : List DL.D} (h : xs.length ≤ 100) (q : ∀ d ∈ xs, Pu d) : Pu (.tup xs) := by
  unfold Pu; exact ⟨h, pus_iff.mpr q⟩
theorem Pu.tup {xs : List DL.D} (h : Pu (.tup xs)) : xs.length ≤ 100 ∧ ∀ d ∈ xs, Pu d := by
  unfold Pu at h; exact ⟨h.1, pus_iff.mp h.2⟩
theorem small {k : Nat} (h : k ≤ 100) : k ≤ sizeLine := Nat.le_trans h (by decide)
mutual
theorem Pu.vw {S : Sto} : ∀ {d : DL.D}, Pu d → VW S d
  | .non, _ => trivial
  | .bl _, _ => trivial
  | .int _, _ => trivial
  | .str x, h => small h
  | .tup xs, h => by
    unfold Pu at h
    unfold VW
    exact ⟨small h.1, Pus.vws h.2⟩
  | .ref _, h => h.elim
  | .rol _, h => h.elim
  | .ty _, h => h.elim
  | .glo _, h => h.elim
theorem Pus.vws {S : Sto} : ∀ {ds : List DL.D}, Pus ds → VWs S ds
  | [], h => trivial
  | d :: ds, h => by
    unfold Pus at h
    unfold VWs
    exact ⟨Pu.vw h.1, Pus.vws h.2⟩
end
def Le2 (a b : Addr) (S S' : Sto) : Prop := ∀ p o, p ≠ a → p ≠ b → isX o = false → S p = some o → S' p = some o
theorem Le2.refl {a b : Addr} {S : Sto} : Le2 a b S S := fun _ _ _ _ _ h => h
theorem Le2.trans {a b : Addr} {S S' S'' : Sto} (h : Le2 a b S S') (h' : Le2 a b S' S'') : Le2 a b S S'' := fun p o h1 h2 i e => h' p o h1 h2 i (h p o h1 h2 i e)
theorem le2 {a b : Addr} {S S' : Sto} (l : Le S S') : Le2 a b S S' := fun p o _ _ i e => l p o i e
theorem Le2.mutA {a b : Addr} {S : Sto} {o : SO} : Le2 a b S (sup S a o) := fun p x h _ _ e => look_ne h e
theorem Le2.mutB {a b : Addr} {S : Sto} {o : SO} : Le2 a b S (sup S b o) := fun p x _ h _ e => look_ne h e
/-- the pool at a, the rest at b, the list at p -/
structure Dr (S0 S : Sto) (a b p : Addr) (ys : List DL.D) : Prop where
  ab : a ≠ b
  ap : p ≠ a
  bp : p ≠ b
  fr : S0 p = none
  pl : ∃ x y, okp x y ∧ S a = some (poolO x y)
  lf : ∃ l : Int, S b = some (.lst [.int l])
  ls : S p = some (.lst ys)
  le : Le2 a b S0 S
theorem Dr.up {S0 S S' : Sto} {a b p : Addr} {ys : List DL.D} (h : Dr S0 S a b p ys) (l : Le S S') : Dr S0 S' a b p ys :=
  ⟨h.ab, h.ap, h.bp, h.fr, let ⟨x, y, o, e⟩ := h.pl; ⟨x, y, o, look_le l rfl e⟩, let ⟨z, e⟩ := h.lf; ⟨z, look_le l rfl e⟩, look_le l rfl h.ls, h.le.trans (le2 l)⟩
theorem Dr.take {S0 S : Sto} {a b p : Addr} {ys : List DL.D} {x y : Int} (h : Dr S0 S a b p ys) (o : okp x y) : Dr S0 (sup S a (poolO x y)) a b p ys :=
  ⟨h.ab, h.ap, h.bp, h.fr, ⟨x, y, o, sup_same⟩, let ⟨z, e⟩ := h.lf; ⟨z, look_ne (Ne.symm h.ab) e⟩, look_ne h.ap h.ls, h.le.trans .mutA⟩
theorem Dr.left {S0 S : Sto} {a b p : Addr} {ys : List DL.D} {l : Int} (h : Dr S0 S a b p ys) : Dr S0 (sup S b (.lst [.int l])) a b p ys :=
  ⟨h.ab, h.ap, h.bp, h.fr, let ⟨x, y, o, e⟩ := h.pl; ⟨x, y, o, look_ne h.ab e⟩, ⟨l, sup_same⟩, look_ne h.bp h.ls, h.le.trans .mutB⟩
theorem Dr.app {S0 S : Sto} {a b p : Addr} {ys zs : List DL.D} (h : Dr S0 S a b p ys) : Dr S0 (sup S p (.lst zs)) a b p zs :=
  ⟨h.ab, h.ap, h.bp, h.fr, let ⟨x, y, o, e⟩ := h.pl; ⟨x, y, o, look_ne (Ne.symm h.ap) e⟩, let ⟨z, e⟩ := h.lf; ⟨z, look_ne (Ne.symm h.bp) e⟩, sup_same, fun q o h1 h2 i e => look_ne (fun z => by rw [z, h.fr] at e; cases e) (h.le q o h1 h2 i e)⟩
/-- through a call that keeps all but the two -/
theorem Dr.call {S0 S S' : Sto} {a b p : Addr} {ys : List DL.D} {x y l : Int} (h : Dr S0 S a b p ys) (q : Le2 a b S S') (o : okp x y) (h1 : S' a = some (poolO x y)) (h2 : S' b = some (.lst [.int l])) : Dr S0 S' a b p ys :=
  ⟨h.ab, h.ap, h.bp, h.fr, ⟨x, y, o, h1⟩, ⟨l, h2⟩, q p _ h.ap h.bp rfl h.ls, h.le.trans q⟩
theorem atI_mem {xs : List DL.D} {i : Int} (h0 : 0 ≤ i) (h1 : i < xs.length) : ∃ d, atI xs i = some d ∧ d ∈ xs := by
  obtain ⟨k, rfl⟩ := Int.eq_ofNat_of_zero_le h0
  have hk : k < xs.length := by omega
  refine ⟨xs[k], ?_, List.getElem_mem hk⟩
  simp [atI, ixN, hk]
/-- how many statements at most -/
def Bd : Nat → Nat
  | 0 => 0
  | r + 1 => 4 * (1 + 2 * Bd r)
def GoodS (r : Nat) (x : DL.D) : Prop := Pu x ∧ ∀ m, innS (cntS m) x ≤ 2 * Bd r
theorem good_cnt {r : Nat} : ∀ {ys : List DL.D}, (∀ x ∈ ys, GoodS r x) → ∀ m, (ys.map fun x => 1 + innS (cntS m) x).sum ≤ ys.length * (1 + 2 * Bd r)
  | [], _, m => by simp
  | y :: ys, h, m => by
    have h1 := (h y (by simp)).2 m
    have h2 := good_cnt (ys := ys) (fun x hx => h x (by simp [hx])) m
    simp only [List.map_cons, List.sum_cons, List.length_cons]
    rw [Nat.add_mul, Nat.one_mul]
    omega
theorem good_tup {r : Nat} {ys : List DL.D} (h : ∀ x ∈ ys, GoodS r x) (hl : ys.length ≤ 4) : Pu (.tup ys) ∧ ∀ m, cntS m (.tup ys) ≤ Bd (r + 1) := by
  refine ⟨pu_tup (by omega) fun d hd => (h d hd).1, fun m => ?_⟩
  cases m with
  | zero => exact Nat.zero_le _
  | succ m =>
    have := good_cnt h m
    show _ ≤ 4 * (1 + 2 * Bd r)
    exact Nat.le_trans this (Nat.mul_le_mul_right _ hl)
theorem inn_other {m : Nat} {w : Str} {r : List DL.D} (h1 : w ≠ "either") (h2 : w ≠ "loop") : innS (cntS m) (.tup (.str w :: r)) = 0 := by
  unfold innS
  simp only [if_neg h1, if_neg h2]
theorem pu_str {x : Str} (h : x.length ≤ 100) : Pu (.str x) := h
theorem pu_int {i : Int} : Pu (.int i) := trivial
theorem mem_cut {xs : List DL.D} {lo hi : Option Int} {d : DL.D} (h : d ∈ DL.cutD xs lo hi) : d ∈ xs := List.mem_of_mem_drop (List.mem_of_mem_take h)
theorem len_cut {xs : List DL.D} {lo hi : Option Int} : (DL.cutD xs lo hi).length ≤ xs.length := by
  unfold DL.cutD
  rw [List.length_take, List.length_drop]
  omega
end LW

set_option Elab.async false
set_option linter.all false
set_option maxRecDepth 100000
set_option maxHeartbeats 2000000
namespace LW
open PySem PySem.Spec PyProof.Rows L2 DL
section
variable {n : Nat} {S : Sto} {K : DK} {E : DX}
/-- the seven plain statements -/
def simpL (w : Str) (ps : List DL.D) : List DL.D := [.tup [.str "set", .str "x", .tup ps], .tup [.str "set", .str w, .tup [.tup [.str w, .int 0]]], .tup [.str "input", .str w, .int (-2), .int 5]] ++ [.tup [.str "call", .str w], .tup [.str "place", .str w], .tup [.str "read", .str w, .str "x"], .tup [.str "guard", .str "g", .str w, .int 0, .int 99]]
theorem simp_good {w : Str} {ps : List DL.D} {r : Nat} (hw : w.length ≤ 100) (hp : Pu (.tup ps)) : ∀ d ∈ simpL w ps, GoodS r d := by
  have pw : Pu (.str w) := hw
  have px : Pu (.str "x") := (by decide : ("x" : Str).length ≤ 100)
  have ph : ∀ y : Str, y ∈ ([("set" : Str), "input", "call", "place", "read", "guard", "g"] : List Str) → Pu (.str y) := fun y hy => (show y.length ≤ 100 from by
    have : ∀ y ∈ ([("set" : Str), "input", "call", "place", "read", "guard", "g"] : List Str), y.length ≤ 100 := by decide
    exact this y hy)
  have go : ∀ (v : Str) (rs : List DL.D), v ∈ ([("set" : Str), "input", "call", "place", "read", "guard", "g"] : List Str) → rs.length ≤ 50 → (∀ d ∈ rs, Pu d) → GoodS r (.tup (.str v :: rs)) := by
    intro v rs hv hl hr
    refine ⟨pu_tup (by rw [List.length_cons]; omega) ?_, fun m => ?_⟩
    · intro d hd
      rcases List.mem_cons.mp hd with rfl | hd
      · exact ph v hv
      · exact hr d hd
    · have hne : ∀ v ∈ ([("set" : Str), "input", "call", "place", "read", "guard", "g"] : List Str), v ≠ "either" ∧ v ≠ "loop" := by decide
      rw [inn_other (hne v hv).1 (hne v hv).2]
      exact Nat.zero_le _
  intro d hd
  simp only [simpL, List.cons_append, List.nil_append, List.mem_cons, List.not_mem_nil, or_false] at hd
  rcases hd with rfl | rfl | rfl | rfl | rfl | rfl | rfl
  · exact go "set" _ (by simp) (by simp) (by simp [px, hp])
  · exact go "set" _ (by simp) (by simp) (by
      intro d hd
      simp only [List.mem_cons, List.not_mem_nil, or_false] at hd
      rcases hd with rfl | rfl
      · exact pw
      · exact pu_tup (by simp) (by
          intro d hd
          simp only [List.mem_cons, List.not_mem_nil, or_false] at hd
          subst hd
          exact pu_tup (by simp) (by
            intro d hd
            simp only [List.mem_cons, List.not_mem_nil, or_false] at hd
            rcases hd with rfl | rfl
            · exact pw
            · exact trivial)))
  · exact go "input" _ (by simp) (by simp) (by
      intro d hd
      simp only [List.mem_cons, List.not_mem_nil, or_false] at hd
      rcases hd with rfl | rfl | rfl
      · exact pw
      · trivial
      · trivial)
  · exact go "call" _ (by simp) (by simp) (by
      intro d hd
      simp only [List.mem_cons, List.not_mem_nil, or_false] at hd
      subst hd; exact pw)
  · exact go "place" _ (by simp) (by simp) (by
      intro d hd
      simp only [List.mem_cons, List.not_mem_nil, or_false] at hd
      subst hd; exact pw)
  · exact go "read" _ (by simp) (by simp) (by
      intro d hd
      simp only [List.mem_cons, List.not_mem_nil, or_false] at hd
      rcases hd with rfl | rfl
      · exact pw
      · exact px)
  · exact go "guard" _ (by simp) (by simp) (by
      intro d hd
      simp only [List.mem_cons, List.not_mem_nil, or_false] at hd
      rcases hd with rfl | rfl | rfl | rfl
      · exact ph "g" (by simp)
      · exact pw
      · trivial
      · trivial)
def DrSp (r m : Nat) : Prop := ∀ {a b : Addr} {c x y l : Int} {S : Sto} {K : DK} {E : DX}, c = 4 - (r : Int) → a ≠ b → okp x y → S a = some (poolO x y) → S b = some (.lst [.int l]) →
    (∀ xs S' x' y' l', Le2 a b S S' → okp x' y' → S' a = some (poolO x' y') → S' b = some (.lst [.int l']) → xs.length ≤ 4 → (∀ d ∈ xs, GoodS r d) → K (.tup xs) S') → mCall pd.prg m ("_law_drawn", none) [.ref a, .ref b, .int c] S K E
theorem m_itei {M : Env1} {cu : Option Cur} {σ : DSt} {t : CT} {i j : Int} (k : mT M cu t σ S (fun b S1 => K (.int (if b = true then i else j)) S1) E) : mE M cu (.ite t (.cst (.int i)) (.cst (.int j))) σ S K E := by
  show mT M cu t σ S (fun c S1 => if c = true then K (.int i) S1 else K (.int j) S1) E
  refine Eq.mp ?_ k
  congr 1
  funext b S1
  cases b <;> rfl
theorem rgD_len {lo : Int} {n : Nat} : (rgD lo n).length = n := by simp [rgD]
theorem drawn_step {r m : Nat} (hr : r ≤ 3) (rec : ∀ r', r = r' + 1 → DrSp r' (m + 1)) : DrSp r (m + 2) := by
  intro a b c x y l S K E hc hab hp ha hb k
  refine en__law_drawn ?_
  unfold c__law_drawn
  walk_at "dl_all"
  intro p hp0
  walk_at "dl_all"
  have fa : p ≠ a := fun e => by rw [e, ha] at hp0; cases hp0
  have fb : p ≠ b := fun e => by rw [e, hb] at hp0; cases hp0
  have D0 : Dr S (sup S p (.lst [])) a b p [] := ⟨hab, fa, fb, hp0, ⟨x, y, hp, look_ne (Ne.symm fa) ha⟩, ⟨l, look_ne (Ne.symm fb) hb⟩, sup_same, fun q o _ _ i e => look_old hp0 e⟩
  refine cl__law_take (take_ok hp (look_ne (Ne.symm fa) ha) (by decide) (by decide) fun t x1 y1 t1 t2 hp1 => ?_)
  have D1 := D0.take hp1
  generalize sup (sup S p (.lst [])) a (poolO x1 y1) = S1 at D1 ⊢
  walk_at "dl_all"
  refine rng1 (by omega) (by omega) ?_
  refine for_at (W := fun i σ S' => (∃ o1 o2 o3 o4 o5 o6 ys, σ = [some (.ref a), some (.ref b), some (.int c), some (.ref p), o1, o2, o3, o4, o5, o6] ∧ Dr S S' a b p ys ∧ ys.length ≤ i ∧ ∀ d ∈ ys, GoodS r d)) (rgD 0 (1 + t).toNat) ⟨_, _, _, _, _, _, [], rfl, D1, Nat.le_refl _, fun d h => nomatch h⟩ (fun i σ S h => rfl) ?_ ?_
  · rintro i σ S2 d N ⟨o1, o2, o3, o4, o5, o6, ys, rfl, D2, hl, hg⟩ hd hN
    obtain ⟨hi, _⟩ := List.getElem?_eq_some_iff.mp hd
    rw [rgD_len] at hi
    have hy : ys.length ≤ 100 := by omega
    -- the turn's end
    have fin : ∀ S' z o1 o2 o3 o4 o5 o6, Dr S S' a b p ys → GoodS r z → N [some (.ref a), some (.ref b), some (.int c), some (.ref p), o1, o2, o3, o4, o5, o6] (sup S' p (.lst (ys ++ [z]))) := by
      intro S' z o1 o2 o3 o4 o5 o6 D' hz
      refine hN _ _ ⟨_, _, _, _, _, _, _, rfl, D'.app, by rw [List.length_append]; simp; omega, fun d hd => ?_⟩
      rcases List.mem_append.mp hd with h | h
      · exact hg d h
      · simp at h; subst h; exact hz
    have out : ∀ S', Dr S S' a b p ys → bltM (Mn (m + 1)) "tuple" [.ref p] S' K fun c fs S => E c fs S := by
      intro S' D'
      obtain ⟨x', y', q1, q2⟩ := D'.pl
      obtain ⟨l', q3⟩ := D'.lf
      refine b_tupl D'.ls ?_
      exact k ys S' x' y' l' D'.le q1 q2 q3 (by omega) hg
    clear hd hN
    obtain ⟨x2, y2, hp2, ha2⟩ := D2.pl
    unfold c__law_drawn_L1
    refine g4 ?_
    refine m_sscons (m_sasg (m_call (m_cons (v0 (m_cons (m_itei ?_))))))
    walk_at "dl_all"
    have hmm : (if decide (c < 4) = true then (9 : Int) else 7) = if r = 0 then 7 else 9 := by
      by_cases h : r = 0
      · rw [if_pos h, if_neg (by simp; omega)]
      · rw [if_neg h, if_pos (by simp; omega)]
    rw [hmm]
    refine cl__law_take (take_ok hp2 ha2 (by split <;> decide) (by split <;> decide) fun kd x3 y3 kd1 kd2 hp3 => ?_)
    have D3 := D2.take hp3
    generalize sup S2 a (poolO x3 y3) = S3 at D3 ⊢
    clear D2 ha2 hp2
    obtain ⟨l3, hb3⟩ := D3.lf
    walk_at "dl_all"
    refine x_lst hb3 rfl ?_
    walk_at "dl_all"
    refine s_lst hb3 (j := 0) rfl ?_
    have D4 := D3.left (l := l3 - 1)
    have hb4 : sup S3 b (.lst [.int (l3 - 1)]) b = some (.lst [.int (l3 - 1)]) := sup_same
    show mSs _ _ _ _ _ (sup S3 b (.lst [.int (l3 - 1)]))
    generalize sup S3 b (.lst [.int (l3 - 1)]) = S4 at D4 hb4 ⊢
    clear D3 hb3
    walk_at "dl_all"
    refine x_lst hb4 rfl ?_
    walk_at "dl_all"
    refine ite_p (fun _ => ?_) (fun _ => ?_)
    · walk_at "dl_all"
      exact out S4 D4
    walk_at "dl_all"
    -- a name
    intro q1 hq1
    have D5 := D4.up (Le.new hq1 (o := .lst [.str "x", .str "abcdefgh", .str "go"]))
    have hq : sup S4 q1 (.lst [.str "x", .str "abcdefgh", .str "go"]) q1 = some (.lst [.str "x", .str "abcdefgh", .str "go"]) := sup_same
    generalize sup S4 q1 (.lst [.str "x", .str "abcdefgh", .str "go"]) = S5 at D5 hq ⊢
    obtain ⟨x5, y5, hp5, ha5⟩ := D5.pl
    walk_at "dl_all"
    refine cl__law_take (take_ok hp5 ha5 (by decide) (by decide) fun k6 x6 y6 k61 k62 hp6 => ?_)
    have D6 := D5.take hp6
    have hq6 : sup S5 a (poolO x6 y6) q1 = some (.lst [.str "x", .str "abcdefgh", .str "go"]) := look_ne (fun e => by
      rw [e] at hq1
      obtain ⟨_, _, _, e9⟩ := D4.pl
      rw [hq1] at e9; cases e9) hq
    generalize sup S5 a (poolO x6 y6) = S6 at D6 hq6 ⊢
    clear D5 ha5 hq
    walk_at "dl_all"
    obtain ⟨nd, hnd, hnm⟩ := atI_mem (xs := [.str "x", .str "abcdefgh", .str "go"]) k61 k62
    refine x_lst hq6 hnd ?_
    obtain ⟨w, rfl, hw⟩ : ∃ w, nd = .str w ∧ w.length ≤ 100 := by
      simp only [List.mem_cons, List.not_mem_nil, or_false] at hnm
      rcases hnm with rfl | rfl | rfl
      · exact ⟨_, rfl, by decide⟩
      · exact ⟨_, rfl, by decide⟩
      · exact ⟨_, rfl, by decide⟩
    obtain ⟨x7, y7, hp7, ha7⟩ := D6.pl
    walk_at "dl_all"
    refine cl__law_take (take_ok hp7 ha7 (by decide) (by decide) fun k8 x8 y8 k81 k82 hp8 => ?_)
    have D8 := D6.take hp8
    generalize sup S6 a (poolO x8 y8) = S8 at D8 ⊢
    clear D6 ha7 hq6
    obtain ⟨x9, y9, hp9, ha9⟩ := D8.pl
    walk_at "dl_all"
    refine cl__law_take (take_ok hp9 ha9 (by decide) (by decide) fun k10 x10 y10 k101 k102 hp10 => ?_)
    have D10 := D8.take hp10
    generalize sup S8 a (poolO x10 y10) = S10 at D10 ⊢
    clear D8 ha9
    walk_at "dl_all"
    refine sl_tup rfl rfl ?_
    walk_at "dl_all"
    generalize (10 : Int) ^ Int.toNat 30 = e30
    have pw : Pu (.str w) := hw
    have hps : Pu (.tup (DL.cutD [.tup [.non, .int (k8 - 4)], .tup [.str w, .str "p"], .tup [.str "y", .int (0 - e30)], .tup [.str "w", .int e30]] none (some (1 + k10)))) := by
      refine pu_tup (Nat.le_trans len_cut (by simp)) fun d hd => ?_
      have hd := mem_cut hd
      simp only [List.mem_cons, List.not_mem_nil, or_false] at hd
      rcases hd with rfl | rfl | rfl | rfl
      · exact pu_tup (by simp) (by
          intro d hd
          simp only [List.mem_cons, List.not_mem_nil, or_false] at hd
          rcases hd with rfl | rfl <;> trivial)
      · exact pu_tup (by simp) (by
          intro d hd
          simp only [List.mem_cons, List.not_mem_nil, or_false] at hd
          rcases hd with rfl | rfl
          · exact pw
          · exact (by decide : ("p" : Str).length ≤ 100))
      · exact pu_tup (by simp) (by
          intro d hd
          simp only [List.mem_cons, List.not_mem_nil, or_false] at hd
          rcases hd with rfl | rfl
          · exact (by decide : ("y" : Str).length ≤ 100)
          · trivial)
      · exact pu_tup (by simp) (by
          intro d hd
          simp only [List.mem_cons, List.not_mem_nil, or_false] at hd
          rcases hd with rfl | rfl
          · exact (by decide : ("w" : Str).length ≤ 100)
          · trivial)
    have hsg := simp_good (r := r) hw hps
    generalize DL.cutD [.tup [.non, .int (k8 - 4)], .tup [.str w, .str "p"], .tup [.str "y", .int (0 - e30)], .tup [.str "w", .int e30]] none (some (1 + k10)) = ps at hsg ⊢
    intro q2 hq2
    have D11 := D10.up (Le.new hq2 (o := .lst [.tup [.str "set", .str "x", .tup ps], .tup [.str "set", .str w, .tup [.tup [.str w, .int 0]]], .tup [.str "input", .str w, .int (-2), .int 5]]))
    walk_at "dl_all"
    intro q3 hq3
    have D12 := D11.up (Le.new hq3 (o := .lst [.tup [.str "call", .str w], .tup [.str "place", .str w], .tup [.str "read", .str w, .str "x"], .tup [.str "guard", .str "g", .str w, .int 0, .int 99]]))
    refine o_addl (look_old hq3 sup_same) sup_same (len_ok (by simp)) ?_
    intro q4 hq4
    have D13 := D12.up (Le.new hq4 (o := .lst (simpL w ps)))
    show mG _ _ _ _ (sup _ q4 (.lst (simpL w ps))) _
    have h8 : sup (sup (sup S10 q2 (.lst [.tup [.str "set", .str "x", .tup ps], .tup [.str "set", .str w, .tup [.tup [.str w, .int 0]]], .tup [.str "input", .str w, .int (-2), .int 5]])) q3 (.lst [.tup [.str "call", .str w], .tup [.str "place", .str w], .tup [.str "read", .str w, .str "x"], .tup [.str "guard", .str "g", .str w, .int 0, .int 99]])) q4 (.lst (simpL w ps)) q4 = some (.lst (simpL w ps)) := sup_same
    generalize sup (sup (sup S10 q2 (.lst [.tup [.str "set", .str "x", .tup ps], .tup [.str "set", .str w, .tup [.tup [.str w, .int 0]]], .tup [.str "input", .str w, .int (-2), .int 5]])) q3 (.lst [.tup [.str "call", .str w], .tup [.str "place", .str w], .tup [.str "read", .str w, .str "x"], .tup [.str "guard", .str "g", .str w, .int 0, .int 99]])) q4 (.lst (simpL w ps)) = S13 at D13 h8 ⊢
    clear D10 D11 D12 hq2 hq3 hq4
    walk_at "dl_all"
    refine ite_p (fun h7 => ?_) (fun h7 => ?_)
    · -- a plain statement
      obtain ⟨z, hz, hzm⟩ := atI_mem (xs := simpL w ps) kd1 (show kd < 7 from h7)
      walk_at "dl_all"
      refine mm_lst (P := True) D13.ls rfl ?_
      walk_at "dl_all"
      refine x_lst h8 hz ?_
      walk_at "dl_all"
      refine l_app D13.ls (Nat.lt_of_le_of_lt hy (by decide)) ?_
      walk_at "dl_all"
      exact fin _ _ _ _ _ _ _ _ D13 (hsg z hzm)
    · have hr0 : r ≠ 0 := fun e => by rw [if_pos e] at kd2; omega
      obtain ⟨r', hr'⟩ := Nat.exists_eq_succ_of_ne_zero hr0
      have hr' : r = r' + 1 := hr'
      have RC : DrSp r' (m + 1) := rec r' hr'
      have hB : Bd r = 4 * (1 + 2 * Bd r') := by rw [hr']; rfl
      walk_at "dl_all"
      refine ite_p (fun h9 => ?_) (fun h9 => ?_)
      · walk_at "dl_all"
        obtain ⟨xa, ya, oa, ea⟩ := D13.pl
        obtain ⟨la, eb⟩ := D13.lf
        refine cl__law_drawn (RC (by omega) hab oa ea eb fun xs S14 x' y' l' le2' ok' ha' hb' hl4 hg4 => ?_)
        have D14 := D13.call le2' ok' ha' hb'
        walk_at "dl_all"
        refine mm_lst (P := True) D14.ls rfl ?_
        walk_at "dl_all"
        refine cl__law_drawn (RC (by omega) hab ok' ha' hb' fun xs2 S15 x'' y'' l'' le2'' ok'' ha'' hb'' hl5 hg5 => ?_)
        have D15 := D14.call le2'' ok'' ha'' hb''
        walk_at "dl_all"
        refine l_app D15.ls (Nat.lt_of_le_of_lt hy (by decide)) ?_
        walk_at "dl_all"
        refine fin _ _ _ _ _ _ _ _ D15 ?_
        obtain ⟨p1, c1⟩ := good_tup hg4 hl4
        obtain ⟨p2, c2⟩ := good_tup hg5 hl5
        refine ⟨pu_tup (by simp) ?_, fun m => ?_⟩
        · intro d hd
          simp only [List.mem_cons, List.not_mem_nil, or_false] at hd
          rcases hd with rfl | rfl | rfl
          · exact (by decide : ("either" : Str).length ≤ 100)
          · exact p1
          · exact p2
        · have h1 := c1 m
          have h2 := c2 m
          have e : innS (cntS m) (.tup [.str "either", .tup xs, .tup xs2]) = cntS m (.tup xs) + cntS m (.tup xs2) := rfl
          rw [e, hr']
          omega
      · walk_at "dl_all"
        refine mm_lst (P := True) D13.ls rfl ?_
        obtain ⟨xa, ya, oa, ea⟩ := D13.pl
        obtain ⟨la, eb⟩ := D13.lf
        walk_at "dl_all"
        refine cl__law_drawn (RC (by omega) hab oa ea eb fun xs S14 x' y' l' le2' ok' ha' hb' hl4 hg4 => ?_)
        have D14 := D13.call le2' ok' ha' hb'
        walk_at "dl_all"
        refine l_app D14.ls (Nat.lt_of_le_of_lt hy (by decide)) ?_
        walk_at "dl_all"
        refine fin _ _ _ _ _ _ _ _ D14 ?_
        obtain ⟨p1, c1⟩ := good_tup hg4 hl4
        refine ⟨pu_tup (by simp) ?_, fun m => ?_⟩
        · intro d hd
          simp only [List.mem_cons, List.not_mem_nil, or_false] at hd
          rcases hd with rfl | rfl | rfl
          · exact (by decide : ("loop" : Str).length ≤ 100)
          · exact pw
          · exact p1
        · have h1 := c1 m
          have e : innS (cntS m) (.tup [.str "loop", .str w, .tup xs]) = cntS m (.tup xs) := rfl
          rw [e, hr']
          omega
  · rintro σ S2 ⟨o1, o2, o3, o4, o5, o6, ys, rfl, D2, hl, hg⟩
    rw [rgD_len] at hl
    obtain ⟨x', y', q1, q2⟩ := D2.pl
    obtain ⟨l', q3⟩ := D2.lf
    walk_at "dl_all"
    refine b_tupl D2.ls ?_
    exact k ys S2 x' y' l' D2.le q1 q2 q3 (by omega) hg
theorem drawn_ok : ∀ (r : Nat), r ≤ 3 → ∀ {m : Nat}, DrSp r (m + r + 2)
  | 0, h, m => drawn_step h fun r' e => by cases e
  | r + 1, h, m => drawn_step (m := m + r + 1) h fun r' e => by
    cases e
    exact drawn_ok r (by omega)
end
end LW

set_option Elab.async false
set_option linter.all false
set_option maxRecDepth 100000
set_option maxHeartbeats 2000000
namespace LW
open PySem PySem.Spec PyProof.Rows L2 DL
mutual
def szD : DL.D → Nat
  | .tup xs => 1 + szDs xs
  | _ => 1
def szDs : List DL.D → Nat
  | [] => 0
  | d :: ds => szD d + szDs ds
end
theorem szD_pos {d : DL.D} : 1 ≤ szD d := by
  cases d <;> simp [szD]
theorem getD_sz {r : List DL.D} (i : Nat) (f : DL.D → Nat) (h0 : f .non = 0) (hf : ∀ d, f d ≤ szD d) : f (r.getD i .non) ≤ szDs (r.drop i) := by
  induction r generalizing i with
  | nil => simp [h0]
  | cons x r ih =>
    cases i with
    | zero =>
      have := hf x
      simp only [List.getD_cons_zero, List.drop_zero, szDs]
      omega
    | succ i => simpa using ih i
theorem szDs_drop {r : List DL.D} (i : Nat) : szDs (r.drop i) ≤ szDs r := by
  induction r generalizing i with
  | nil => simp
  | cons x r ih =>
    cases i with
    | zero => simp
    | succ i =>
      have := ih i
      simp only [List.drop_succ_cons, szDs]
      omega
theorem inn_sz {f : DL.D → Nat} (h0 : f .non = 0) (hf : ∀ d, f d ≤ szD d) (d : DL.D) : 1 + innS f d ≤ szD d := by
  unfold innS
  split
  · rename_i w r
    simp only [szD, szDs]
    split
    · have h1 := getD_sz (r := r) 1 f h0 hf
      cases r with
      | nil => simp [h0]
      | cons x r =>
        have h2 := hf x
        simp only [List.getD_cons_zero, szDs] at h1 ⊢
        simp only [List.drop_succ_cons, List.drop_zero] at h1
        omega
    · split
      · have h1 := getD_sz (r := r) 1 f h0 hf
        have h2 := szDs_drop (r := r) 1
        omega
      · omega
  · exact szD_pos
theorem cnt_sz : ∀ (m : Nat) (d : DL.D), cntS m d ≤ szD d
  | 0, d => Nat.zero_le _
  | m + 1, d => by
    cases d with
    | tup xs =>
      have go : ∀ xs : List DL.D, (xs.map fun x => 1 + innS (cntS m) x).sum ≤ szDs xs := by
        intro xs
        induction xs with
        | nil => simp [szDs]
        | cons x xs ih =>
          have h := inn_sz (f := cntS m) (by cases m <;> rfl) (cnt_sz m) x
          simp only [List.map_cons, List.sum_cons, szDs]
          omega
      have := go xs
      show (xs.map fun x => 1 + innS (cntS m) x).sum ≤ 1 + szDs xs
      omega
    | _ => exact Nat.zero_le _
mutual
def puB : DL.D → Bool
  | .non => true
  | .bl _ => true
  | .int _ => true
  | .str x => decide (x.length ≤ 100)
  | .tup xs => decide (xs.length ≤ 100) && puBs xs
  | _ => false
def puBs : List DL.D → Bool
  | [] => true
  | d :: ds => puB d && puBs ds
end
mutual
theorem pu_of : ∀ {d : DL.D}, puB d = true → Pu d
  | .non, _ => trivial
  | .bl _, _ => trivial
  | .int _, _ => trivial
  | .str x, h => (of_decide_eq_true h : x.length ≤ 100)
  | .tup xs, h => by
    simp only [puB, Bool.and_eq_true, decide_eq_true_eq] at h
    unfold Pu
    exact ⟨h.1, pus_of h.2⟩
  | .ref _, h => by cases h
  | .rol _, h => by cases h
  | .ty _, h => by cases h
  | .glo _, h => by cases h
theorem pus_of : ∀ {ds : List DL.D}, puBs ds = true → Pus ds
  | [], _ => trivial
  | d :: ds, h => by
    simp only [puBs, Bool.and_eq_true] at h
    unfold Pus
    exact ⟨pu_of h.1, pus_of h.2⟩
end
/-- what the law's odd statements are -/
def OkD (S : Sto) (d : DL.D) : Prop := VW S d ∧ szD d ≤ 50
theorem OkD.le {S S' : Sto} {d : DL.D} (l : Le S S') (h : OkD S d) : OkD S' d := ⟨h.1.le l, h.2⟩
theorem ok_pu {S : Sto} {d : DL.D} (h : (puB d && decide (szD d ≤ 50)) = true) : OkD S d := by
  simp only [Bool.and_eq_true, decide_eq_true_eq] at h
  exact ⟨(pu_of h.1).vw, h.2⟩
theorem oks_pu {S : Sto} {ds : List DL.D} (h : (ds.all fun d => puB d && decide (szD d ≤ 50)) = true) : ∀ d ∈ ds, OkD S d := fun d hd => ok_pu (List.all_eq_true.mp h d hd)
structure Od (S0 S : Sto) (p : Addr) (xs : List DL.D) : Prop where
  ls : S p = some (.lst xs)
  le : Le S0 S
  ok : ∀ d ∈ xs, OkD S d
  fr : ∀ o, isX o = false → S0 p ≠ some o
theorem Od.up {S0 S S' : Sto} {p : Addr} {xs : List DL.D} (h : Od S0 S p xs) (l : Le S S') : Od S0 S' p xs := ⟨look_le l rfl h.ls, h.le.trans l, fun d hd => (h.ok d hd).le l, h.fr⟩
theorem fr_of {S S' : Sto} {p : Addr} (l : Le S S') (h : S' p = none) : ∀ o, isX o = false → S p ≠ some o := fun o i e => by
  rw [l p o i e] at h; cases h
/-- values stay values where a list's items change -/
theorem vw_mut {S : Sto} {p : Addr} {xs ys : List DL.D} (h : S p = some (.lst xs)) : ∀ {d : DL.D}, VW S d → VW (sup S p (.lst ys)) d := by
  have go : ∀ (n : Nat) (d : DL.D), szD d ≤ n → VW S d → VW (sup S p (.lst ys)) d := by
    intro n
    induction n with
    | zero => intro d hd; have := szD_pos (d := d); omega
    | succ n ih =>
      intro d hd hv
      cases d with
      | tup zs =>
        obtain ⟨h1, h2⟩ := hv.tup
        refine vw_tup h1 fun z hz => ih z ?_ (h2 z hz)
        have : ∀ zs : List DL.D, z ∈ zs → szD z ≤ szDs zs := by
          intro zs
          induction zs with
          | nil => intro h; cases h
          | cons w zs ih =>
            intro h
            simp only [szDs]
            rcases List.mem_cons.mp h with rfl | h
            · omega
            · have := ih h; omega
        have := this zs hz
        simp only [szD] at hd
        omega
      | ref a =>
        unfold VW at hv ⊢
        by_cases e : a = p
        · subst e; exact .inl ⟨ys, sup_same⟩
        · rcases hv with ⟨xs, h⟩ | ⟨kvs, h⟩
          · exact .inl ⟨xs, look_ne e h⟩
          · exact .inr ⟨kvs, look_ne e h⟩
      | _ => exact hv
  exact fun {d} hv => go (szD d) d (Nat.le_refl _) hv
theorem Od.app {S0 S : Sto} {p : Addr} {xs : List DL.D} {d : DL.D} (h : Od S0 S p xs) (hd : OkD S d) : Od S0 (sup S p (.lst (xs ++ [d]))) p (xs ++ [d]) := by
  refine ⟨sup_same, fun q o i e => look_ne (fun z => h.fr o i (z ▸ e)) (h.le q o i e), fun z hz => ?_, h.fr⟩
  rcases List.mem_append.mp hz with hz | hz
  · exact ⟨vw_mut h.ls (h.ok z hz).1, (h.ok z hz).2⟩
  · simp at hz
    subst hz
    exact ⟨vw_mut h.ls hd.1, hd.2⟩
section
variable {n : Nat} {S : Sto} {K : DK} {E : DX}
theorem od_add {S0 : Sto} {p q : Addr} {xs ys : List DL.D} (D : Od S0 S p xs) (hq : S q = none) (hys : ∀ d ∈ ys, OkD S d) (hl : xs.length + ys.length ≤ 1000) (k : ∀ q' S', Od S0 S' q' (xs ++ ys) → K (.ref q') S') : opM (Mn n) .Add (.ref p) (.ref q) (sup S q (.lst ys)) K E := by
  refine o_addl (look_old hq D.ls) sup_same (len_ok (by omega)) fun q' hq' => k _ _ ?_
  have D' := (D.up (Le.new hq (o := .lst ys))).up (Le.new hq' (o := .lst (xs ++ ys)))
  refine ⟨sup_same, D'.le, fun d hd => ?_, fr_of (D.up (Le.new hq (o := .lst ys))).le hq'⟩
  rcases List.mem_append.mp hd with h | h
  · exact D'.ok d h
  · exact ((hys d h).le (.new hq)).le (.new hq')
theorem log2_lt {p : Int} (h1 : 1 ≤ p) (h2 : p < 2 ^ 64) : p.natAbs.log2 < 9000 := by
  have h0 : p.natAbs ≠ 0 := by omega
  have := (Nat.log2_lt h0 (k := 64)).mpr (by omega)
  omega
theorem odd_ok {a : Addr} {x y : Int} (hp : okp x y) (ha : S a = some (poolO x y)) (k : ∀ d S' x' y', okp x' y' → S' a = some (poolO x' y') → OkD S' d → LeX a S S' → K d S') : mCall pd.prg (n + 2) ("_law_odd", none) [.ref a] S K E := by
  refine en__law_odd ?_
  unfold c__law_odd
  walk_at "dl_all"
  intro p0 hp0
  have D : Od S (sup S p0 (.lst [.tup [.str "set", .str "x", .tup []], .tup [.str "set", .str "x", .tup [.tup [.str "y", .int 1], .tup [.str "y", .int 2]]], .tup [.str "set", .str "x", .tup [.tup [.non, .int 1], .tup [.non, .int 2]]], .tup [.str "set", .str "x"], .tup []])) p0 _ := ⟨sup_same, .new hp0, oks_pu (by decide), fr_of .refl hp0⟩
  generalize sup S p0 _ = S0 at D ⊢
  walk_at "dl_all"
  -- three more
  intro r1 hr1
  replace D := D.up (.new hr1 (o := .lst [.tup [.str "y", .int 1]]))
  have f1 : sup S0 r1 (.lst [.tup [.str "y", .int 1]]) r1 = some (.lst [.tup [.str "y", .int 1]]) := sup_same
  generalize sup S0 r1 _ = S1 at D f1 ⊢
  walk_at "dl_all"
  intro r2 hr2
  replace D := D.up (.new hr2 (o := .lst [.str "y", .int 1]))
  have f2 : sup S1 r2 (.lst [.str "y", .int 1]) r2 = some (.lst [.str "y", .int 1]) := sup_same
  replace f1 := look_old (x := .lst [.str "y", .int 1]) hr2 f1
  generalize sup S1 r2 _ = S2 at D f1 f2 ⊢
  walk_at "dl_all"
  intro q hq
  refine od_add D hq ?_ (by simp) fun p1 S3 D => ?_
  · intro d hd
    simp only [List.mem_cons, List.not_mem_nil, or_false] at hd
    rcases hd with rfl | rfl | rfl
    · exact ok_pu (by decide)
    · exact ⟨vw_tup (small (by simp)) (by
        intro d hd
        simp only [List.mem_cons, List.not_mem_nil, or_false] at hd
        rcases hd with rfl | rfl | rfl
        · exact (pu_of (by decide)).vw
        · exact (pu_of (by decide)).vw
        · unfold VW; exact .inl ⟨_, f1⟩), by simp [szD, szDs]⟩
    · exact ⟨vw_tup (small (by simp)) (by
        intro d hd
        simp only [List.mem_cons, List.not_mem_nil, or_false] at hd
        rcases hd with rfl | rfl | rfl
        · exact (pu_of (by decide)).vw
        · exact (pu_of (by decide)).vw
        · refine vw_tup (small (by simp)) (by
            intro d hd
            simp only [List.mem_cons, List.not_mem_nil, or_false] at hd
            subst hd
            unfold VW; exact .inl ⟨_, f2⟩)), by simp [szD, szDs]⟩
  clear f1 f2 hr1 hr2 hq
  walk_at "dl_all"
  intro q hq
  refine od_add D hq (oks_pu (by decide)) (by simp) fun p1 S4 D => ?_
  clear hq
  walk_at "dl_all"
  intro q hq
  refine od_add D hq (oks_pu (by decide)) (by simp) fun p1 S5 D => ?_
  clear hq
  walk_at "dl_all"
  intro q hq
  refine od_add D hq (oks_pu (by decide)) (by simp) fun p1 S6 D => ?_
  clear hq
  walk_at "dl_all"
  intro q hq
  refine od_add D hq (oks_pu (by decide)) (by simp) fun p1 S7 D => ?_
  clear hq
  walk_at "dl_all"
  refine mm_lst (P := True) D.ls rfl ?_
  walk_at "dl_all"
  refine lc_map (signsD "abcde") (fun d => .tup [d, .int 1]) (len_ok (by decide)) (fun S' l => rfl) ?_ ?_
  · intro d S' Y hd l hY
    simp only [wipeD, List.set]
    walk_at "dl_all"
    exact hY _ .refl
  intro r3 S8 l8 hr3 f3
  replace D := D.up l8
  walk_at "dl_all"
  refine b_tupl f3 ?_
  walk_at "dl_all"
  refine l_app D.ls (Nat.lt_of_le_of_lt (by simp : _ ≤ 30) (by decide)) ?_
  replace D := D.app (d := .tup [.str "set", .str "x", .tup ((signsD "abcde").map fun d => .tup [d, .int 1])]) (ok_pu (by decide))
  generalize sup S8 p1 _ = S9 at D ⊢
  clear f3 hr3
  walk_at "dl_all"
  intro q hq
  refine od_add D hq (oks_pu (by decide)) (by simp) fun p1 S10 D => ?_
  clear hq
  walk_at "dl_all"
  -- either, loop, call
  intro r4 hr4
  replace D := D.up (.new hr4 (o := .lst []))
  have f4 : sup S10 r4 (.lst []) r4 = some (.lst []) := sup_same
  generalize sup S10 r4 _ = S11 at D f4 ⊢
  walk_at "dl_all"
  intro q hq
  refine od_add D hq ?_ (by simp) fun p1 S12 D => ?_
  · intro d hd
    simp only [List.mem_cons, List.not_mem_nil, or_false] at hd
    rcases hd with rfl | rfl
    · exact ok_pu (by decide)
    · exact ⟨vw_tup (small (by simp)) (by
        intro d hd
        simp only [List.mem_cons, List.not_mem_nil, or_false] at hd
        rcases hd with rfl | rfl | rfl
        · exact (pu_of (by decide)).vw
        · exact (pu_of (by decide)).vw
        · unfold VW; exact .inl ⟨_, f4⟩), by simp [szD, szDs]⟩
  clear f4 hr4 hq
  walk_at "dl_all"
  intro q hq
  refine od_add D hq (oks_pu (by decide)) (by simp) fun p1 S13 D => ?_
  clear hq
  walk_at "dl_all"
  intro r5 hr5
  replace D := D.up (.new hr5 (o := .lst [.str "set"]))
  have f5 : sup S13 r5 (.lst [.str "set"]) r5 = some (.lst [.str "set"]) := sup_same
  generalize sup S13 r5 _ = S14 at D f5 ⊢
  walk_at "dl_all"
  intro q hq
  refine od_add D hq ?_ (by simp) fun p1 S15 D => ?_
  · intro d hd
    simp only [List.mem_cons, List.not_mem_nil, or_false] at hd
    rcases hd with rfl | rfl | rfl | rfl | rfl | rfl
    · exact ok_pu (by decide)
    · exact ok_pu (by decide)
    · exact ok_pu (by decide)
    · exact ok_pu (by decide)
    · exact ok_pu (by decide)
    · exact ⟨vw_tup (small (by simp)) (by
        intro d hd
        simp only [List.mem_cons, List.not_mem_nil, or_false] at hd
        rcases hd with rfl | rfl | rfl
        · unfold VW; exact .inl ⟨_, f5⟩
        · trivial
        · trivial), by simp [szD, szDs]⟩
  clear f5 hr5 hq
  walk_at "dl_all"
  intro q hq
  refine od_add D hq (oks_pu (by decide)) (by simp) fun p1 S16 D => ?_
  clear hq
  walk_at "dl_all"
  intro r6 hr6
  replace D := D.up (.new hr6 (o := .lst [.str "place", .str "a"]))
  have f6 : sup S16 r6 (.lst [.str "place", .str "a"]) r6 = some (.lst [.str "place", .str "a"]) := sup_same
  generalize sup S16 r6 _ = S17 at D f6 ⊢
  walk_at "dl_all"
  refine m_dic fun r7 hr7 => ?_
  replace D := D.up (.new hr7 (o := .dic []))
  replace f6 := look_old (x := .dic []) hr7 f6
  have f7 : sup S17 r7 (.dic []) r7 = some (.dic []) := sup_same
  generalize sup S17 r7 _ = S18 at D f6 f7 ⊢
  walk_at "dl_all"
  intro q hq
  refine od_add D hq ?_ (by simp) fun p1 S19 D => ?_
  · intro d hd
    simp only [List.mem_cons, List.not_mem_nil, or_false] at hd
    rcases hd with rfl | rfl | rfl | rfl | rfl
    · exact ⟨by unfold VW; exact .inl ⟨_, f6⟩, by simp [szD]⟩
    · exact ok_pu (by decide)
    · exact ok_pu (by decide)
    · exact ok_pu (by decide)
    · exact ⟨vw_tup (small (by simp)) (by
        intro d hd
        simp only [List.mem_cons, List.not_mem_nil, or_false] at hd
        rcases hd with rfl | rfl
        · unfold VW; exact .inr ⟨_, f7⟩
        · trivial), by simp [szD, szDs]⟩
  clear f6 f7 hr6 hr7 hq
  walk_at "dl_all"
  have ha2 := look_le D.le rfl ha
  refine b_len D.ls ?_
  generalize hxs : (_ : List DL.D) ++ _ = xs at D
  walk_at "dl_all"
  have hx : 1 ≤ xs.length ∧ xs.length ≤ 1000 := by
    rw [← hxs]
    simp
  refine cl__law_take (take_ok hp ha2 (by omega) (log2_lt (by omega) (by omega)) fun t x' y' t1 t2 hp' => ?_)
  walk_at "dl_all"
  have hpa : p1 ≠ a := fun e => D.fr _ rfl (e ▸ ha)
  obtain ⟨d, hd, hm⟩ := atI_mem t1 t2
  refine x_lst (look_ne hpa D.ls) hd ?_
  exact k d _ x' y' hp' sup_same ⟨vw_mut ha2 (D.ok d hm).1, (D.ok d hm).2⟩ ((D.le.x).trans .mut)
theorem repr_b {b : Bool} {S : Sto} {K : DK} {E : DX} {M : Env1} (k : K (.str (PyData.bool b).shown) S) : bltM M "repr" [.bl b] S K E := by
  refine b_repr (p := .bool b) rfl (by cases b <;> rfl) ?_ k
  cases b <;> exact (by decide +kernel)
def deepT : DL.D := .tup [.str "loop", .str "l", .tup [.tup [.str "either", .tup [.tup [.str "loop", .str "m", .tup [.tup [.str "place", .str "p"]]]], .tup []]]]
def rowsT (k : Nat) : DL.D := .tup ((List.replicate k [DL.D.tup [.str "place", .str "p"]]).flatten ++ [deepT])
theorem rows_ok : ∀ i, i < 5 → bodyS (rowsT (34 + i)) = decide (i < 3) ∧ puB (rowsT (34 + i)) = true ∧ szD (rowsT (34 + i)) ≤ 1000 := by
  intro i hi
  match i, hi with
  | 0, _ => decide +kernel
  | 1, _ => decide +kernel
  | 2, _ => decide +kernel
  | 3, _ => decide +kernel
  | 4, _ => decide +kernel
theorem known_ok (k : ∀ S', Le S S' → K (.bl true) S') : mCall pd.prg (n + 16) ("_law_known_right", none) [] S K E := by
  refine en__law_known_right ?_
  unfold c__law_known_right
  walk_at "dl_all"
  refine rng2 (by decide) (by decide) (by decide) (by decide) ?_
  refine for_at (W := fun i σ S' => (∃ o1 o2, σ = [some deepT, o1, o2, none]) ∧ Le S S') (rgD 38 5) ⟨⟨_, _, rfl⟩, .refl⟩ (fun i σ S h => rfl) ?_ ?_
  · rintro i σ S' d N ⟨⟨o1, o2, rfl⟩, w2⟩ hd hN
    obtain ⟨hi, hdi⟩ := List.getElem?_eq_some_iff.mp hd
    rw [rgD_len] at hi
    have hdi : d = .int (38 + i) := by rw [← hdi]; simp [rgD]
    subst hdi
    unfold c__law_known_right_L1
    walk_at "dl_all"
    refine o_mult (by simp) (by omega) (by omega) (by simp) ?_
    walk_at "dl_all"
    have hk : (38 + (i : Int) - 4).toNat = 34 + i := by omega
    rw [hk]
    refine o_addt (len_ok (by simp; omega)) ?_
    walk_at "dl_all"
    obtain ⟨b1, b2, b3⟩ := rows_ok i hi
    refine cl_is_body (is_body_ok (n := n + 1) (d := rowsT (34 + i)) (pu_of b2).vw (Nat.le_trans (cnt_sz _ _) (by omega)) fun S1 l1 => ?_)
    rw [b1]
    walk_at "dl_all"
    refine repr_b ?_
    walk_at "dl_all"
    refine repr_b ?_
    have e : decide ((38 : Int) + i ≤ 40) = decide (i < 3) := by
      by_cases h : i < 3
      · rw [decide_eq_true h, decide_eq_true (by omega)]
      · rw [decide_eq_false h, decide_eq_false (by omega)]
    rw [e]
    walk_at "dl_all"
    refine ite_cf (by simp) ?_
    walk_at "dl_all"
    exact hN _ _ ⟨⟨_, _, rfl⟩, w2.trans l1⟩
  · rintro σ S' ⟨⟨o1, o2, rfl⟩, w2⟩
    walk_at "dl_all"
    have f1 : bodyS (.tup [deepT]) = true ∧ puB (.tup [deepT]) = true ∧ szD (.tup [deepT]) ≤ 1000 := by decide +kernel
    have f2 : bodyS (.tup [.tup [.str "loop", .str "k", .tup [deepT]]]) = false ∧ puB (.tup [.tup [.str "loop", .str "k", .tup [deepT]]]) = true ∧ szD (.tup [.tup [.str "loop", .str "k", .tup [deepT]]]) ≤ 1000 := by decide +kernel
    have f3 : bodyS (.tup []) = true ∧ puB (.tup []) = true ∧ szD (.tup []) ≤ 1000 := by decide +kernel
    refine cl_is_body (is_body_ok (n := n + 1) (pu_of f1.2.1).vw (Nat.le_trans (cnt_sz _ _) (by have := f1.2.2; omega)) fun S1 l1 => ?_)
    rw [f1.1]
    walk_at "dl_all"
    refine cl_is_body (is_body_ok (n := n + 1) (pu_of f2.2.1).vw (Nat.le_trans (cnt_sz _ _) (by have := f2.2.2; omega)) fun S2 l2 => ?_)
    rw [f2.1]
    walk_at "dl_all"
    refine cl_is_body (is_body_ok (n := n + 1) (pu_of f3.2.1).vw (Nat.le_trans (cnt_sz _ _) (by have := f3.2.2; omega)) fun S3 l3 => ?_)
    rw [f3.1]
    walk_at "dl_all"
    exact k _ (((w2.trans l1).trans l2).trans l3)
end
end LW

set_option Elab.async false
set_option linter.all false
set_option maxRecDepth 100000
set_option maxHeartbeats 2000000
namespace LW
open PySem PySem.Spec PyProof.Rows L2 DL
theorem cnt_app {m : Nat} {xs ys : List DL.D} : cntS m (.tup (xs ++ ys)) ≤ cntS m (.tup xs) + cntS m (.tup ys) := by
  cases m with
  | zero => exact Nat.zero_le _
  | succ m =>
    show ((xs ++ ys).map fun x => 1 + innS (cntS m) x).sum ≤ _
    rw [List.map_append, List.sum_append]
    exact Nat.le_refl _
theorem cnt_sub {m : Nat} {xs ys : List DL.D} (h : xs.Sublist ys) : cntS m (.tup xs) ≤ cntS m (.tup ys) := by
  cases m with
  | zero => exact Nat.zero_le _
  | succ m =>
    show (xs.map fun x => 1 + innS (cntS m) x).sum ≤ (ys.map fun x => 1 + innS (cntS m) x).sum
    induction h with
    | slnil => exact Nat.le_refl _
    | cons a _ ih => simp only [List.map_cons, List.sum_cons]; omega
    | cons_cons a _ ih => simp only [List.map_cons, List.sum_cons]; omega
theorem cut_sub {xs : List DL.D} {lo hi : Option Int} : (DL.cutD xs lo hi).Sublist xs := (List.take_sublist _ _).trans (List.drop_sublist _ _)
theorem cnt_one {m : Nat} {d : DL.D} (h : szD d ≤ 50) : cntS m (.tup [d]) ≤ 60 := by
  have := cnt_sz m (.tup [d])
  simp only [szD, szDs] at this
  omega
section
variable {n : Nat} {S : Sto} {K : DK} {E : DX}
/-- the values that are asked -/
def AskD (S : Sto) (d : DL.D) : Prop := VW S d ∧ cntS 4 d ≤ 100000
theorem AskD.le {S S' : Sto} {d : DL.D} (l : Le S S') (h : AskD S d) : AskD S' d := ⟨h.1.le l, h.2⟩
abbrev askL (xs : List DL.D) (odd : DL.D) (at_ : Int) (q : Addr) : List DL.D := [DL.D.tup xs, .ref q, .tup (DL.cutD xs none (some at_) ++ [odd] ++ DL.cutD xs (some at_) none), .tup (xs ++ [.tup [.str "loop", .str "l", .tup [odd]]]), .tup [.tup [.str "either", .tup [], .tup xs]]]
theorem asks {S : Sto} {xs : List DL.D} {odd : DL.D} {at_ : Int} {q : Addr} (hp : Pu (.tup xs)) (hc : ∀ m, cntS m (.tup xs) ≤ 2340) (hl : xs.length ≤ 4) (ho : OkD S odd) (hq : S q = some (.lst xs)) :
    ∀ d ∈ askL xs odd at_ q, AskD S d := by
  have vx : ∀ d ∈ xs, VW S d := fun d hd => (hp.tup.2 d hd).vw
  intro d hd
  simp only [askL, List.mem_cons, List.not_mem_nil, or_false] at hd
  rcases hd with rfl | rfl | rfl | rfl | rfl
  · exact ⟨hp.vw, Nat.le_trans (hc 4) (by decide)⟩
  · exact ⟨by unfold VW; exact .inl ⟨_, hq⟩, Nat.zero_le _⟩
  · refine ⟨vw_tup (small ?_) ?_, ?_⟩
    · have h1 := len_cut (xs := xs) (lo := none) (hi := some at_)
      have h2 := len_cut (xs := xs) (lo := some at_) (hi := none)
      simp only [List.length_append, List.length_cons, List.length_nil]
      omega
    · intro d hd
      simp only [List.mem_append, List.mem_cons, List.not_mem_nil, or_false] at hd
      rcases hd with (hd | rfl) | hd
      · exact vx d (mem_cut hd)
      · exact ho.1
      · exact vx d (mem_cut hd)
    · have h1 := cnt_app (m := 4) (xs := DL.cutD xs none (some at_) ++ [odd]) (ys := DL.cutD xs (some at_) none)
      have h2 := cnt_app (m := 4) (xs := DL.cutD xs none (some at_)) (ys := [odd])
      have h3 := cnt_sub (m := 4) (cut_sub (xs := xs) (lo := none) (hi := some at_))
      have h4 := cnt_sub (m := 4) (cut_sub (xs := xs) (lo := some at_) (hi := none))
      have h5 := cnt_one (m := 4) ho.2
      have h6 := hc 4
      omega
  · refine ⟨vw_tup (small ?_) ?_, ?_⟩
    · simp only [List.length_append, List.length_cons, List.length_nil]
      omega
    · intro d hd
      simp only [List.mem_append, List.mem_cons, List.not_mem_nil, or_false] at hd
      rcases hd with hd | rfl
      · exact vx d hd
      · refine vw_tup (small (by simp)) ?_
        intro d hd
        simp only [List.mem_cons, List.not_mem_nil, or_false] at hd
        rcases hd with rfl | rfl | rfl
        · exact (pu_of (by decide)).vw
        · exact (pu_of (by decide)).vw
        · refine vw_tup (small (by simp)) ?_
          intro d hd
          simp only [List.mem_cons, List.not_mem_nil, or_false] at hd
          subst hd
          exact ho.1
    · have h1 := cnt_app (m := 4) (xs := xs) (ys := [.tup [.str "loop", .str "l", .tup [odd]]])
      have h2 := cnt_sz 4 (.tup [.tup [.str "loop", .str "l", .tup [odd]]])
      have h3 := ho.2
      have h4 := hc 4
      simp only [szD, szDs] at h2
      omega
  · refine ⟨vw_tup (small (by simp)) ?_, ?_⟩
    · intro d hd
      simp only [List.mem_cons, List.not_mem_nil, or_false] at hd
      subst hd
      refine vw_tup (small (by simp)) ?_
      intro d hd
      simp only [List.mem_cons, List.not_mem_nil, or_false] at hd
      rcases hd with rfl | rfl | rfl
      · exact (pu_of (by decide)).vw
      · exact (pu_of (by decide)).vw
      · exact hp.vw
    · have h4 := hc 3
      have e : cntS 4 (.tup [.tup [.str "either", .tup [], .tup xs]]) = 1 + (cntS 3 (.tup []) + cntS 3 (.tup xs)) := rfl
      have e2 : cntS 3 (.tup []) = 0 := rfl
      rw [e, e2]
      omega
/-- one value asked -/
theorem l2_ok {d : DL.D} {s0 s2 s3 s4 s5 s6 s7 s8 : Option DL.D} {N bk : DSt → Sto → Prop} {ex : DXs} (h : AskD S d) (k : ∀ S', Le S S' → N [s0, some d, s2, s3, s4, s5, s6, s7, s8] S') :
    mSs (Mn (n + 15)) none c_law_L2 ⟨N, K, bk, N, ex⟩ [s0, some d, s2, s3, s4, s5, s6, s7, s8] S := by
  unfold c_law_L2
  walk_at "dl_all"
  refine cl_is_body (is_body_ok (n := n + 1) h.1 h.2 fun S1 l1 => ?_)
  walk_at "dl_all"
  refine repr_b ?_
  walk_at "dl_all"
  refine cl__law_is_body (law_is_body_ok (n := n + 1) (h.1.le l1) fun S2 l2 => ?_)
  walk_at "dl_all"
  refine repr_b ?_
  walk_at "dl_all"
  refine ite_cf (by simp) ?_
  walk_at "dl_all"
  exact k _ (l1.trans l2)
theorem l3_ok {s0 s1 s2 s5 s6 s7 s8 d4 : Option DL.D} {a : Addr} {x y : Int} {N bk : DSt → Sto → Prop} {ex : DXs} (hp : okp x y) (ha : S a = some (poolO x y))
    (k : ∀ S' t1 t5 t6 t7 t8 x' y', okp x' y' → S' a = some (poolO x' y') → N [s0, t1, s2, some (.ref a), d4, t5, t6, t7, t8] S') :
    mSs (Mn (n + 15)) none c_law_L3 ⟨N, K, bk, N, ex⟩ [s0, s1, s2, some (.ref a), d4, s5, s6, s7, s8] S := by
  unfold c_law_L3
  walk_at "dl_all"
  refine cl__law_take (take_ok hp ha (by decide) (by decide) fun t x1 y1 t1 t2 hp1 => ?_)
  walk_at "dl_all"
  intro b hb
  walk_at "dl_all"
  have hab : a ≠ b := fun e => by rw [← e, sup_same] at hb; cases hb
  refine cl__law_drawn (drawn_ok 3 (by omega) (m := n + 10) (by omega) hab hp1 (look_old hb sup_same) sup_same fun xs S2 x2 y2 l2 _ hp2 ha2 _ hl hg => ?_)
  obtain ⟨pu, hc⟩ := good_tup hg hl
  replace hc : ∀ m, cntS m (.tup xs) ≤ 2340 := hc
  walk_at "dl_all"
  refine cl__law_take (take_ok hp2 ha2 (by omega) (log2_lt (by omega) (by omega)) fun at_ x3 y3 _ _ hp3 => ?_)
  walk_at "dl_all"
  refine cl__law_odd (odd_ok hp3 sup_same fun odd S4 x4 y4 hp4 ha4 ho _ => ?_)
  walk_at "dl_all"
  refine b_list (xs := xs) rfl ?_
  intro q hq
  walk_at "dl_all"
  refine sl_tup rfl rfl ?_
  walk_at "dl_all"
  have lc1 := len_cut (xs := xs) (lo := none) (hi := some at_)
  have lc2 := len_cut (xs := xs) (lo := some at_) (hi := none)
  refine o_addt (small (by rw [List.length_singleton]; omega)) ?_
  walk_at "dl_all"
  refine sl_tup rfl rfl ?_
  refine o_addt (small (by rw [List.length_append, List.length_singleton]; omega)) ?_
  walk_at "dl_all"
  refine o_addt (small (by rw [List.length_singleton]; omega)) ?_
  walk_at "dl_all"
  have ha5 := look_old (x := .lst xs) hq ha4
  have ask := asks (at_ := at_) pu hc hl (ho.le (.new hq (o := .lst xs))) sup_same
  generalize sup S4 q (.lst xs) = S5 at ha5 ask ⊢
  intro p hpn
  refine q_lst sup_same ?_
  refine for_at (W := fun i σ S' => (∃ o1, σ = [s0, o1, s2, some (.ref a), d4, some (.tup xs), some (.int at_), some odd, some (.tup [.tup [.str "loop", .str "l", .tup [odd]]])]) ∧ Le (sup S5 p (.lst (askL xs odd at_ q))) S') (askL xs odd at_ q) ⟨⟨_, rfl⟩, .refl⟩ (fun i σ S h => by simp only [itOf, itemsD, look_le h.2 rfl sup_same]) ?_ ?_
  · rintro i σ S' d N2 ⟨⟨o1, rfl⟩, w⟩ hd hN
    refine g1 ?_
    refine l2_ok (n := n) (((ask d (List.mem_of_getElem? hd)).le (.new hpn)).le w) fun S'' l => ?_
    exact hN _ _ ⟨⟨_, rfl⟩, w.trans l⟩
  · rintro σ S' ⟨⟨o1, rfl⟩, w⟩
    walk_at "dl_all"
    exact k _ _ _ _ _ _ _ _ hp4 (look_le w rfl (look_old hpn ha5))
theorem l4_ok {s1 s3 s4 s5 s6 s7 s8 : Option DL.D} {ns : List Int} {j : Nat} {N bk : DSt → Sto → Prop} {ex : DXs} (hj : j < 64) (k : ∀ S' t1 t3 t4 t5 t6 t7 t8, N [some (.rol (ns.map DL.D.int)), t1, some (.int (j : Nat)), t3, t4, t5, t6, t7, t8] S') :
    mSs (Mn (n + 15)) none c_law_L4 ⟨N, K, bk, N, ex⟩ [some (.rol (ns.map DL.D.int)), s1, some (.int (j : Nat)), s3, s4, s5, s6, s7, s8] S := by
  unfold c_law_L4
  walk_at "dl_all"
  refine cl__law_pool (pool_ok hj fun p x y hp hpn => ?_)
  walk_at "dl_all"
  refine rng1 (by decide) (by decide) ?_
  refine for_at (W := fun i σ S' => ∃ t1 t4 t5 t6 t7 t8 x y, σ = [some (.rol (ns.map DL.D.int)), t1, some (.int (j : Nat)), some (.ref p), t4, t5, t6, t7, t8] ∧ okp x y ∧ S' p = some (poolO x y)) _ ⟨_, _, _, _, _, _, x, y, rfl, hp, sup_same⟩ (fun i σ S h => rfl) ?_ ?_
  · rintro i σ S' d N2 ⟨t1, t4, t5, t6, t7, t8, x, y, rfl, hp, ha⟩ hd hN
    refine g4 ?_
    refine l3_ok (n := n) hp ha fun S'' t1 t5 t6 t7 t8 x' y' hp' ha' => ?_
    exact hN _ _ ⟨_, _, _, _, _, _, _, _, rfl, hp', ha'⟩
  · rintro σ S' ⟨t1, t4, t5, t6, t7, t8, x, y, rfl, hp, ha⟩
    exact k _ _ _ _ _ _ _ _
theorem law_ok {ns : List Int} (hl : ns.length ≤ 63) : mCall pd.prg 20 ("law", none) [.rol (ns.map DL.D.int)] (fun _ => none) (fun d _ => d = .bl true) (fun _ _ _ => False) := by
  refine en_law ?_
  unfold c_law
  walk_at "dl_all"
  intro p1 hp1
  walk_at "dl_all"
  refine m_dic fun p2 hp2 => ?_
  walk_at "dl_all"
  intro p3 hp3
  walk_at "dl_all"
  intro p4 hp4
  walk_at "dl_all"
  intro p5 hp5
  refine q_lst sup_same ?_
  have f1 : sup (sup (sup (sup (fun _ => none) p1 (.lst [])) p2 (.dic [])) p3 (.lst [.str "place", .str "a"])) p4 (.lst [.tup [.str "place", .str "a"]]) p1 = some (.lst []) := look_old hp4 (look_old hp3 (look_old hp2 sup_same))
  have f2 : sup (sup (sup (sup (fun _ => none) p1 (.lst [])) p2 (.dic [])) p3 (.lst [.str "place", .str "a"])) p4 (.lst [.tup [.str "place", .str "a"]]) p2 = some (.dic []) := look_old hp4 (look_old hp3 sup_same)
  have f3 : sup (sup (sup (sup (fun _ => none) p1 (.lst [])) p2 (.dic [])) p3 (.lst [.str "place", .str "a"])) p4 (.lst [.tup [.str "place", .str "a"]]) p3 = some (.lst [.str "place", .str "a"]) := look_old hp4 sup_same
  have f4 : sup (sup (sup (sup (fun _ => none) p1 (.lst [])) p2 (.dic [])) p3 (.lst [.str "place", .str "a"])) p4 (.lst [.tup [.str "place", .str "a"]]) p4 = some (.lst [.tup [.str "place", .str "a"]]) := sup_same
  generalize sup (sup (sup (sup (fun _ => none) p1 (.lst [])) p2 (.dic [])) p3 (.lst [.str "place", .str "a"])) p4 (.lst [.tup [.str "place", .str "a"]]) = S0 at *
  have ask : ∀ d ∈ [DL.D.non, .int 5, .ref p1, .str "", .ref p2, .ref p3, .tup [.non], .tup [.str "place", .str "a"], .ref p4], AskD S0 d ∧ bodyS d = false := by
    intro d hd
    simp only [List.mem_cons, List.not_mem_nil, or_false] at hd
    rcases hd with rfl | rfl | rfl | rfl | rfl | rfl | rfl | rfl | rfl
    · exact ⟨⟨trivial, by decide⟩, rfl⟩
    · exact ⟨⟨trivial, by decide⟩, rfl⟩
    · exact ⟨⟨by unfold VW; exact .inl ⟨_, f1⟩, Nat.zero_le _⟩, rfl⟩
    · exact ⟨⟨(pu_of (by decide)).vw, by decide⟩, rfl⟩
    · exact ⟨⟨by unfold VW; exact .inr ⟨_, f2⟩, Nat.zero_le _⟩, rfl⟩
    · exact ⟨⟨by unfold VW; exact .inl ⟨_, f3⟩, Nat.zero_le _⟩, rfl⟩
    · exact ⟨⟨(pu_of (by decide)).vw, by decide⟩, rfl⟩
    · exact ⟨⟨(pu_of (by decide)).vw, by decide⟩, rfl⟩
    · exact ⟨⟨by unfold VW; exact .inl ⟨_, f4⟩, Nat.zero_le _⟩, rfl⟩
  refine for_at (W := fun i σ S' => (∃ o1, σ = [some (.rol (ns.map DL.D.int)), o1, none, none, none, none, none, none, none]) ∧ Le (sup S0 p5 (.lst [DL.D.non, .int 5, .ref p1, .str "", .ref p2, .ref p3, .tup [.non], .tup [.str "place", .str "a"], .ref p4])) S') [DL.D.non, .int 5, .ref p1, .str "", .ref p2, .ref p3, .tup [.non], .tup [.str "place", .str "a"], .ref p4] ⟨⟨_, rfl⟩, .refl⟩ (fun i σ S h => by simp only [itOf, itemsD, look_le h.2 rfl sup_same]) ?_ ?_
  · rintro i σ S' d N2 ⟨⟨o1, rfl⟩, w⟩ hd hN
    obtain ⟨a1, a2⟩ := ask d (List.mem_of_getElem? hd)
    have a3 := (a1.le (.new hp5)).le w
    unfold c_law_L1
    walk_at "dl_all"
    refine cl_is_body (is_body_ok (n := 5) a3.1 a3.2 fun S1 l1 => ?_)
    rw [a2]
    walk_at "dl_all"
    exact hN _ _ ⟨⟨_, rfl⟩, w.trans l1⟩
  · rintro σ S' ⟨⟨o1, rfl⟩, w⟩
    walk_at "dl_all"
    have hkk : 1 ≤ (if (if ((ns.map DL.D.int).length : Int) < 16 then ((ns.map DL.D.int).length : Int) else 16) > 1 then if ((ns.map DL.D.int).length : Int) < 16 then ((ns.map DL.D.int).length : Int) else 16 else 1) ∧ (if (if ((ns.map DL.D.int).length : Int) < 16 then ((ns.map DL.D.int).length : Int) else 16) > 1 then if ((ns.map DL.D.int).length : Int) < 16 then ((ns.map DL.D.int).length : Int) else 16 else 1) ≤ 16 := by
      split <;> split <;> omega
    generalize (if (if ((ns.map DL.D.int).length : Int) < 16 then ((ns.map DL.D.int).length : Int) else 16) > 1 then if ((ns.map DL.D.int).length : Int) < 16 then ((ns.map DL.D.int).length : Int) else 16 else 1) = kk at hkk ⊢
    refine rng1 (by omega) (by omega) ?_
    refine for_at (W := fun i σ S' => ∃ t1 t2 t3 t4 t5 t6 t7 t8, σ = [some (.rol (ns.map DL.D.int)), t1, t2, t3, t4, t5, t6, t7, t8]) _ ⟨_, _, _, _, _, _, _, _, rfl⟩ (fun i σ S h => rfl) ?_ ?_
    · rintro i σ S' d N2 ⟨t1, t2, t3, t4, t5, t6, t7, t8, rfl⟩ hd hN
      obtain ⟨hi, hdi⟩ := List.getElem?_eq_some_iff.mp hd
      rw [rgD_len] at hi
      have hdi : d = .int (i : Nat) := by rw [← hdi]; simp [rgD]
      subst hdi
      refine g2 ?_
      refine l4_ok (n := 4) (by omega) fun S'' t1 t3 t4 t5 t6 t7 t8 => ?_
      exact hN _ _ ⟨_, _, _, _, _, _, _, _, rfl⟩
    · rintro σ S' ⟨t1, t2, t3, t4, t5, t6, t7, t8, rfl⟩
      walk_at "dl_all"
      exact cl__law_known_right (known_ok (n := 3) fun S'' l => rfl)
end
end LW

set_option Elab.async false
set_option linter.all false
set_option maxRecDepth 100000
set_option maxHeartbeats 0
open PySem PySem.W PySem.Calls PyProof.Rows
theorem PySem.Challenge.cw_safeupto_k01_bodies_recognized_holds : PySem.Challenge.rw_safeupto_k01_bodies_recognized.Holds :=
  LW.join fun _ h _ => LW.law_ok h

