import PyProof.Rows.All
import Wide.All
import OpenK.AllK
import Wide.FinOn
import HandS.Base
import HandS.Call
import HandS.List
import HandS.Exc
import HandS.Wide
import HandS.Comp
import HandS.SlotsOwn
import KE.KDictKeyed
import KE.KDictCopyH
import HandS.Flow
import KE.KExcSuper
import KE.DataEq
import HandS.TupAny
import HandS.Deep
import HandS.Text
import HandS.IsInst
import HandS.ExcOwn
import HandS.SortInts
import HandS.TupSets
import HandS.Defaults
import HandS.Property
import KE.KCallOwn
import PyProof.Rows.Range3
import HandS.TryMany
import HandS.Iter
import HandS.RaiseMore
import HandS.EndBits
import HandS.HeadEnd
import HandS.Head2
import HandS.HeadHook2
import HandS.Head0
import HandS.Head1
import PySem.Challenge.RW_safeupto_k39_formulas_told
set_option Elab.async false
set_option linter.all false
set_option maxRecDepth 100000
set_option maxHeartbeats 4000000
namespace DL
open PySem PySem.Spec PyProof.Rows L2

/-- a value: tuples are trees, lists, dicts and instances stand at addresses -/
inductive D where
  | non | bl (b : Bool) | int (i : Int) | str (x : Str) | tup (xs : List D) | rol (xs : List D) | ref (a : Addr) | ty (n : String) | glo (x : Str)

/-- what stands at an address of the store -/
inductive SO where
  | lst (xs : List D) | ins (c : Str) (fs : List (Str × D)) | slo (c : Str) (vs : List (Option D))
  /-- a dict, its pairs in their order -/
  | dic (kvs : List (D × D))
  /-- a caught exception's fields -/
  | exd (fs : List (Str × D))
abbrev Sto := Addr → Option SO
abbrev DSt := List (Option D)
abbrev VSt := L2.St
def sup (S : Sto) (a : Addr) (o : SO) : Sto := fun b => if b = a then some o else S b
theorem sup_same {S : Sto} {a : Addr} {o : SO} : sup S a o a = some o := if_pos rfl
theorem sup_ne {S : Sto} {a b : Addr} {o : SO} (h : b ≠ a) : sup S a o b = S b := if_neg h

/-- the written part, the module's names -/
structure GP where
  K : PySem.W.Frag
  mg : Str → Option Value
  w : World
abbrev gp (X : Cx) : GP := ⟨X.K, X.mg, X.w⟩

/-- a list that is only read: the script -/
def SqR (K : PySem.W.Frag) (H : Hp) (a : Addr) (xs : List V) : Prop :=
  (∃ o, H a = some (.frz o (.lst xs))) ∨
    ∃ (o : Obj) (its : Array Value) (n : Nat), K.lookup a = some o ∧ o.cls = .type "list" ∧ o.dict = none ∧ o.data = .seq its n ∧ its.size ≤ sizeLine ∧ Vals xs its.toList
theorem SqR.sql {K : PySem.W.Frag} {H : Hp} {a : Addr} {xs : List V} (h : SqR K H a xs) : SqL K H a xs := by
  rcases h with h | h
  · exact .inl (.inr h)
  · exact .inr h
mutual
def DRel (g : GP) (H : Hp) : D → V → Prop
  | .non, v => v = .non
  | .bl b, v => v = .bl b
  | .int i, v => v = .int i
  | .str x, v => v = .str x
  | .ref a, v => v = .ref a
  | .ty n, v => v = .ty n
  | .glo x, v => ∃ a, g.mg x = some (.ref a) ∧ v = .ref a
  | .tup ds, v => ∃ a vs, v = .ref a ∧ SqT g.K H a vs ∧ DRels g H ds vs
  | .rol ds, v => ∃ a vs, v = .ref a ∧ SqR g.K H a vs ∧ DRels g H ds vs
def DRels (g : GP) (H : Hp) : List D → List V → Prop
  | [], vs => vs = []
  | d :: ds, vs => ∃ v r, vs = v :: r ∧ DRel g H d v ∧ DRels g H ds r
end
/-- tuples stay -/
structure Ext (K : PySem.W.Frag) (H H' : Hp) : Prop where
  t : ∀ a vs, SqT K H a vs → SqT K H' a vs
  l : ∀ a vs, SqR K H a vs → SqR K H' a vs
theorem Ext.refl {K : PySem.W.Frag} {H : Hp} : Ext K H H := ⟨fun _ _ h => h, fun _ _ h => h⟩
theorem Ext.trans {K : PySem.W.Frag} {H H1 H2 : Hp} (a : Ext K H H1) (b : Ext K H1 H2) : Ext K H H2 := ⟨fun p vs h => b.t p vs (a.t p vs h), fun p vs h => b.l p vs (a.l p vs h)⟩
/-- a store at an address that holds no tuple -/
def NoTup : Option HO → Prop
  | some (.tup _) => False
  | some (.frz _ (.tup _)) => False
  | some (.frz _ (.lst _)) => False
  | _ => True
theorem Ext.upd {K : PySem.W.Frag} {H : Hp} {p : Addr} {o : HO} (h : NoTup (H p)) : Ext K H (upd H p o) := by
  refine ⟨fun a vs q => ?_, fun a vs q => ?_⟩
  · rcases q with q | q
    · have ne : a ≠ p := by
        rintro rfl
        rcases q with q | ⟨o', q⟩
        · rw [q] at h; exact h
        · rw [q] at h; exact h
      refine .inl ?_
      rcases q with q | ⟨o', q⟩
      · exact .inl (by rw [upd_ne ne]; exact q)
      · exact .inr ⟨o', by rw [upd_ne ne]; exact q⟩
    · exact .inr q
  · rcases q with ⟨o', q⟩ | q
    · have ne : a ≠ p := by
        rintro rfl
        rw [q] at h; exact h
      exact .inl ⟨o', by rw [upd_ne ne]; exact q⟩
    · exact .inr q
theorem Ext.new {K : PySem.W.Frag} {H : Hp} {p : Addr} {o : HO} (h : H p = none) : Ext K H (L2.upd H p o) := Ext.upd (by rw [h]; trivial)
theorem Ext.mut {K : PySem.W.Frag} {H : Hp} {p : Addr} {o : HO} (h : Mut (H p)) : Ext K H (L2.upd H p o) := Ext.upd (by
  cases e : H p with
  | none => trivial
  | some q => rw [e] at h; cases q <;> first | trivial | exact h.elim)
mutual
theorem DRel.ext {g : GP} {H H' : Hp} (x : Ext g.K H H') : ∀ (d : D) {v : V}, DRel g H d v → DRel g H' d v
  | .non, _, h => h
  | .bl _, _, h => h
  | .int _, _, h => h
  | .str _, _, h => h
  | .ref _, _, h => h
  | .ty _, _, h => h
  | .glo _, _, h => h
  | .tup ds, v, h => by
    unfold DRel at h ⊢
    obtain ⟨a, vs, e, q, r⟩ := h
    exact ⟨a, vs, e, x.t a vs q, DRels.ext x ds r⟩
  | .rol ds, v, h => by
    unfold DRel at h ⊢
    obtain ⟨a, vs, e, q, r⟩ := h
    exact ⟨a, vs, e, x.l a vs q, DRels.ext x ds r⟩
theorem DRels.ext {g : GP} {H H' : Hp} (x : Ext g.K H H') : ∀ (ds : List D) {vs : List V}, DRels g H ds vs → DRels g H' ds vs
  | [], _, h => h
  | d :: ds, vs, h => by
    unfold DRels at h ⊢
    obtain ⟨v, r, e, h1, h2⟩ := h
    exact ⟨v, r, e, DRel.ext x d h1, DRels.ext x ds h2⟩
end
theorem DRels.length {g : GP} {H : Hp} : ∀ {ds : List D} {vs : List V}, DRels g H ds vs → ds.length = vs.length
  | [], vs, h => by unfold DRels at h; rw [h]; rfl
  | d :: ds, vs, h => by
    unfold DRels at h
    obtain ⟨v, r, e, _, h2⟩ := h
    rw [e, List.length_cons, List.length_cons, DRels.length h2]
theorem DRels.get {g : GP} {H : Hp} : ∀ {ds : List D} {vs : List V} {i : Nat} {d : D}, DRels g H ds vs → ds[i]? = some d → ∃ v, vs[i]? = some v ∧ DRel g H d v
  | [], vs, i, d, h, e => by simp at e
  | d :: ds, vs, 0, d', h, e => by
    unfold DRels at h
    obtain ⟨v, r, e1, h1, h2⟩ := h
    simp at e; subst e
    exact ⟨v, by rw [e1]; rfl, h1⟩
  | d :: ds, vs, i + 1, d', h, e => by
    unfold DRels at h
    obtain ⟨v, r, e1, h1, h2⟩ := h
    obtain ⟨u, q, w⟩ := DRels.get (i := i) h2 (by simpa using e)
    exact ⟨u, by rw [e1]; simpa using q, w⟩
theorem DRels.back {g : GP} {H : Hp} {ds : List D} {vs : List V} {i : Nat} {v : V} (h : DRels g H ds vs) (e : vs[i]? = some v) : ∃ d, ds[i]? = some d ∧ DRel g H d v := by
  have hl := h.length
  have hi : i < vs.length := (List.getElem?_eq_some_iff.mp e).1
  obtain ⟨d, hd⟩ : ∃ d, ds[i]? = some d := ⟨ds[i]'(by omega), by simp⟩
  obtain ⟨u, q, w⟩ := h.get hd
  rw [e] at q; cases q
  exact ⟨d, hd, w⟩
theorem DRels.append {g : GP} {H : Hp} : ∀ {ds es : List D} {vs us : List V}, DRels g H ds vs → DRels g H es us → DRels g H (ds ++ es) (vs ++ us)
  | [], _, vs, _, h, k => by unfold DRels at h; rw [h]; exact k
  | d :: ds, es, vs, us, h, k => by
    unfold DRels at h
    obtain ⟨v, r, e, h1, h2⟩ := h
    rw [e]
    show DRels g H (d :: (ds ++ es)) (v :: (r ++ us))
    unfold DRels
    exact ⟨v, r ++ us, rfl, h1, DRels.append h2 k⟩
theorem DRels.set {g : GP} {H : Hp} {d : D} {v : V} (r : DRel g H d v) : ∀ {ds : List D} {vs : List V} (i : Nat), DRels g H ds vs → DRels g H (ds.set i d) (vs.set i v)
  | [], vs, i, h => by unfold DRels at h; rw [h]; simp [DRels]
  | e :: ds, vs, 0, h => by
    unfold DRels at h
    obtain ⟨u, q, e1, h1, h2⟩ := h
    rw [e1]
    show DRels g H (d :: ds) (v :: q)
    unfold DRels
    exact ⟨v, q, rfl, r, h2⟩
  | e :: ds, vs, i + 1, h => by
    unfold DRels at h
    obtain ⟨u, q, e1, h1, h2⟩ := h
    rw [e1]
    show DRels g H (e :: ds.set i d) (u :: q.set i v)
    unfold DRels
    exact ⟨u, _, rfl, h1, DRels.set r i h2⟩
theorem DRels.take {g : GP} {H : Hp} : ∀ {ds : List D} {vs : List V} (i : Nat), DRels g H ds vs → DRels g H (ds.take i) (vs.take i)
  | _, _, 0, h => by simp [DRels]
  | [], vs, i + 1, h => by unfold DRels at h; rw [h]; simp [DRels]
  | e :: ds, vs, i + 1, h => by
    unfold DRels at h
    obtain ⟨u, q, e1, h1, h2⟩ := h
    rw [e1]
    show DRels g H (e :: ds.take i) (u :: q.take i)
    unfold DRels
    exact ⟨u, _, rfl, h1, DRels.take i h2⟩
theorem DRels.drop {g : GP} {H : Hp} : ∀ {ds : List D} {vs : List V} (i : Nat), DRels g H ds vs → DRels g H (ds.drop i) (vs.drop i)
  | _, _, 0, h => h
  | [], vs, i + 1, h => by unfold DRels at h; rw [h]; simp [DRels]
  | e :: ds, vs, i + 1, h => by
    unfold DRels at h
    obtain ⟨u, q, e1, h1, h2⟩ := h
    rw [e1]
    exact DRels.drop i h2
theorem DRels.cons {g : GP} {H : Hp} {d : D} {v : V} {ds : List D} {vs : List V} (h1 : DRel g H d v) (h2 : DRels g H ds vs) : DRels g H (d :: ds) (v :: vs) := by
  unfold DRels; exact ⟨v, vs, rfl, h1, h2⟩
theorem DRels.nil {g : GP} {H : Hp} : DRels g H [] [] := by unfold DRels; rfl
theorem DRels.one {g : GP} {H : Hp} {d : D} {v : V} (h : DRel g H d v) : DRels g H [d] [v] := .cons h .nil
/-- fields -/
def FRel (g : GP) (H : Hp) : List (Str × D) → List (Str × V) → Prop
  | [], vs => vs = []
  | d :: ds, vs => ∃ v r, vs = (d.1, v) :: r ∧ DRel g H d.2 v ∧ FRel g H ds r
theorem FRel.ext {g : GP} {H H' : Hp} (x : Ext g.K H H') : ∀ {ds : List (Str × D)} {vs : List (Str × V)}, FRel g H ds vs → FRel g H' ds vs
  | [], _, h => h
  | d :: ds, vs, h => let ⟨v, r, e, h1, h2⟩ := h; ⟨v, r, e, h1.ext x, FRel.ext x h2⟩
theorem FRel.length {g : GP} {H : Hp} : ∀ {ds : List (Str × D)} {vs : List (Str × V)}, FRel g H ds vs → ds.length = vs.length
  | [], vs, h => by rw [show vs = [] from h]; rfl
  | d :: ds, vs, h => by
    obtain ⟨v, r, e, _, h2⟩ := h
    rw [e, List.length_cons, List.length_cons, FRel.length h2]
theorem FRel.look {g : GP} {H : Hp} {f : Str} {d : D} : ∀ {ds : List (Str × D)} {vs : List (Str × V)}, FRel g H ds vs → ds.lookup f = some d → ∃ v, vs.lookup f = some v ∧ DRel g H d v
  | [], vs, h, e => by simp at e
  | (f', d') :: ds, vs, h, e => by
    obtain ⟨v, r, e1, h1, h2⟩ := h
    subst e1
    rw [List.lookup_cons] at e ⊢
    cases q : f == f' with
    | true => rw [q] at e; cases e; exact ⟨v, rfl, h1⟩
    | false => rw [q] at e; exact FRel.look h2 e
theorem FRel.none {g : GP} {H : Hp} {f : Str} : ∀ {ds : List (Str × D)} {vs : List (Str × V)}, FRel g H ds vs → ds.lookup f = none → vs.lookup f = none
  | [], vs, h, e => by rw [show vs = [] from h]; rfl
  | (f', d') :: ds, vs, h, e => by
    obtain ⟨v, r, e1, h1, h2⟩ := h
    subst e1
    rw [List.lookup_cons] at e ⊢
    cases q : f == f' with
    | true => rw [q] at e; cases e
    | false => rw [q] at e; exact FRel.none h2 e
/-- fields stored -/
def putD (f : Str) (d : D) : List (Str × D) → List (Str × D)
  | [] => [(f, d)]
  | (g, x) :: r => if g = f then (g, d) :: r else (g, x) :: putD f d r
theorem putF_eq : ∀ (f : Str) (v : V) (l : List (Str × V)), putF f v l = match l with | [] => [(f, v)] | (g, x) :: r => if g = f then (g, v) :: r else (g, x) :: putF f v r := by
  intro f v l; cases l <;> rfl
theorem FRel.put {g : GP} {H : Hp} {f : Str} {d : D} {v : V} (r : DRel g H d v) : ∀ {ds : List (Str × D)} {vs : List (Str × V)}, FRel g H ds vs → FRel g H (putD f d ds) (putF f v vs)
  | [], vs, h => by rw [show vs = [] from h]; exact ⟨v, [], rfl, r, rfl⟩
  | (f', d') :: ds, vs, h => by
    obtain ⟨u, q, e1, h1, h2⟩ := h
    subst e1
    rw [putF_eq]
    unfold putD
    by_cases e : f' = f
    · simp only [e, if_true]
      exact ⟨v, q, rfl, r, h2⟩
    · simp only [e, if_false]
      exact ⟨u, _, rfl, h1, FRel.put r h2⟩
/-- slots -/
def ORelS (g : GP) (H : Hp) : List (Option D) → List (Option V) → Prop
  | [], vs => vs = []
  | d :: ds, vs => ∃ v r, vs = v :: r ∧ (match d, v with | some d, some v => DRel g H d v | none, none => True | _, _ => False) ∧ ORelS g H ds r
theorem ORelS.ext {g : GP} {H H' : Hp} (x : Ext g.K H H') : ∀ {ds : List (Option D)} {vs : List (Option V)}, ORelS g H ds vs → ORelS g H' ds vs
  | [], _, h => h
  | d :: ds, vs, h => by
    obtain ⟨v, r, e, h1, h2⟩ := h
    refine ⟨v, r, e, ?_, ORelS.ext x h2⟩
    cases d <;> cases v <;> first | trivial | exact h1 | exact DRel.ext x _ h1
/-- an instance with slots, just made or written -/
def SlQ (H : Hp) (a C dx : Addr) (vs : List (Option V)) : Prop := dx ≠ a ∧ ((H a = some (.ins C dx []) ∧ vs = [] ∧ H dx = some (.own a)) ∨ (H a = some (SlX.SlO a C dx vs) ∧ H dx = some (.xd [])))
theorem SlQ.slt {H : Hp} {a C dx : Addr} {vs : List (Option V)} (h : SlQ H a C dx vs) : SlX.Slt H a C dx vs := by
  rcases h.2 with ⟨h1, h2, _⟩ | h
  · exact .inl ⟨h1, h2⟩
  · exact .inr h
mutual
def toNK : D → Option NestedKey
  | .non => some .none
  | .bl b => some (.num (if b = true then 1 else 0))
  | .int i => some (.num i)
  | .str x => some (.text x)
  | .tup ds => (toNKs ds).map .tup
  | _ => none
def toNKs : List D → Option (List NestedKey)
  | [] => some []
  | d :: ds => match toNK d, toNKs ds with
    | some k, some ks => some (k :: ks)
    | _, _ => none
end
/-- a dict's entries -/
def DicRel (g : GP) (H : Hp) : List (D × D) → List DictEntry → Prop
  | [], es => es = []
  | p :: r, es => ∃ e es', es = e :: es' ∧ (∃ kv, DRel g H p.1 kv ∧ RelV kv e.key) ∧ (∃ vv, DRel g H p.2 vv ∧ RelV vv e.val) ∧ (∃ nk, toNK p.1 = some nk ∧ e.hash = nk.hash g.w) ∧ DicRel g H r es'
theorem DicRel.ext {g : GP} {H H' : Hp} (x : Ext g.K H H') : ∀ {kvs : List (D × D)} {es : List DictEntry}, DicRel g H kvs es → DicRel g H' kvs es
  | [], _, h => h
  | p :: r, _, h => by
    obtain ⟨e, es', e1, ⟨kv, k1, k2⟩, ⟨vv, v1, v2⟩, hh, h⟩ := h
    exact ⟨e, es', e1, ⟨kv, DRel.ext x _ k1, k2⟩, ⟨vv, DRel.ext x _ v1, v2⟩, hh, DicRel.ext x h⟩
/-- the dict's object -/
def DicP (a : Addr) (es : Array DictEntry) (ep : Nat) (h : Heap) : Prop := (a == sysModules) = false ∧ es.size ≤ sizeLine ∧ ∃ o, h.get? a = some o ∧ o.ExactDict ∧ o.data = .dict es ep
def DicO (a : Addr) (es : Array DictEntry) (ep : Nat) : HO := .ext (DicP a es ep)
/-- what stands at an address -/
def ORel (g : GP) (H : Hp) (a : Addr) : SO → Prop
  | .lst ds => ∃ vs, H a = some (.lst vs) ∧ DRels g H ds vs
  | .ins c fs => ∃ C dx vs, g.mg c = some (.ref C) ∧ H a = some (.ins C dx vs) ∧ H dx = some (.own a) ∧ FRel g H fs vs
  | .slo c ds => ∃ C dx vs, g.mg c = some (.ref C) ∧ SlQ H a C dx vs ∧ ORelS g H ds vs
  | .dic kvs => ∃ es ep, H a = some (DicO a es ep) ∧ DicRel g H kvs es.toList ∧ (kvs.map fun p => toNK p.1).Nodup
  | .exd fs => ∃ vs, H a = some (.xd vs) ∧ FRel g H fs vs
/-- the store is held -/
def Sim (g : GP) (H : Hp) (S : Sto) : Prop := ∀ a o, S a = some o → ORel g H a o
theorem Sim.fresh {g : GP} {H : Hp} {S : Sto} {p : Addr} (h : Sim g H S) (n : H p = none) : S p = none := by
  cases e : S p with
  | none => rfl
  | some o =>
    have q := h p o e
    cases o with
    | lst ds => obtain ⟨vs, q, _⟩ := q; rw [n] at q; cases q
    | ins c fs => obtain ⟨C, dx, vs, _, q, _⟩ := q; rw [n] at q; cases q
    | slo c ds => obtain ⟨C, dx, vs, _, ⟨_, q⟩, _⟩ := q; rcases q with ⟨q, _⟩ | ⟨q, _⟩ <;> rw [n] at q <;> cases q
    | dic kvs => obtain ⟨es, ep, q, _⟩ := q; rw [n] at q; cases q
    | exd fs => obtain ⟨vs, q, _⟩ := q; rw [n] at q; cases q
end DL

set_option Elab.async false
set_option linter.all false
set_option maxRecDepth 100000
set_option maxHeartbeats 4000000
namespace DL
open PySem PySem.Spec PyProof.Rows L2

/-- what is wanted of an exception: its class's name, its fields -/
abbrev DX := Str → List (Str × D) → Sto → Prop
/-- .. with the slots -/
abbrev DXs := Str → List (Str × D) → DSt → Sto → Prop
abbrev DK := D → Sto → Prop
abbrev DE := DSt → Sto → DK → DX → Prop
abbrev DT := DSt → Sto → (Bool → Sto → Prop) → DX → Prop
abbrev DA := DSt → Sto → (List D → Sto → Prop) → DX → Prop

/-- the slots -/
structure SRel (g : GP) (H : Hp) (σD : DSt) (σ : VSt) : Prop where
  len : σD.length = σ.length
  at_ : ∀ (i : Nat) d, σD[i]? = some (some d) → ∃ v, σ[i]? = some (some v) ∧ DRel g H d v
theorem SRel.ext {g : GP} {H H' : Hp} {σD : DSt} {σ : VSt} (h : SRel g H σD σ) (x : Ext g.K H H') : SRel g H' σD σ := ⟨h.len, fun i d e => let ⟨v, a, b⟩ := h.at_ i d e; ⟨v, a, DRel.ext x d b⟩⟩
theorem SRel.set {g : GP} {H : Hp} {σD : DSt} {σ : VSt} (h : SRel g H σD σ) {i : Nat} {d : D} {v : V} (r : DRel g H d v) : SRel g H (σD.set i (some d)) (σ.set i (some v)) := by
  refine ⟨by simpa using h.len, fun j e q => ?_⟩
  by_cases hj : j = i
  · subst hj
    by_cases hl : j < σD.length
    · rw [List.getElem?_set_self hl] at q
      cases q
      exact ⟨v, List.getElem?_set_self (by rw [← h.len]; exact hl), r⟩
    · rw [List.getElem?_eq_none (by simpa using hl)] at q; cases q
  · rw [List.getElem?_set_ne (Ne.symm hj)] at q
    obtain ⟨u, a, b⟩ := h.at_ j e q
    exact ⟨u, by rw [List.getElem?_set_ne (Ne.symm hj)]; exact a, b⟩
theorem SRel.unset {g : GP} {H : Hp} {σD : DSt} {σ : VSt} (h : SRel g H σD σ) {i : Nat} {o : Option V} : SRel g H (σD.set i none) (σ.set i o) := by
  refine ⟨by simpa using h.len, fun j e q => ?_⟩
  by_cases hj : j = i
  · subst hj
    by_cases hl : j < σD.length
    · rw [List.getElem?_set_self hl] at q; cases q
    · rw [List.getElem?_eq_none (by simpa using hl)] at q; cases q
  · rw [List.getElem?_set_ne (Ne.symm hj)] at q
    obtain ⟨u, a, b⟩ := h.at_ j e q
    exact ⟨u, by rw [List.getElem?_set_ne (Ne.symm hj)]; exact a, b⟩

def XRel (g : GP) (H : Hp) (d : Option Addr) (fs : List (Str × D)) : Prop :=
  match d with
  | none => fs = []
  | some dd => ∃ vs, H dd = some (.xd vs) ∧ FRel g H fs vs
/-- an exception as the hand layer wishes it -/
def lX (X : Cx) (H₀ : Hp) (ex : DXs) : WX := fun cls d σ H => ∃ c C fs σD S, cls = .ref C ∧ X.mg c = some (.ref C) ∧ XRel (gp X) H d fs ∧ SRel (gp X) H σD σ ∧ Sim (gp X) H S ∧ Ext X.K H₀ H ∧ ex c fs σD S

/-- further on -/
theorem _root_.L2.Takes.up {X : Cx} {H H1 : Hp} {ex : DXs} (tk : Takes X (lX X H ex)) (x : Ext X.K H H1) : Takes X (lX X H1 ex) := tk.imp fun _ _ _ _ ⟨c, C, fs, σD, S, e1, e2, e3, e4, e5, e6, e7⟩ => ⟨c, C, fs, σD, S, e1, e2, e3, e4, e5, x.trans e6, e7⟩
/-- where we stand -/
structure Sit (X : Cx) (pins : List (Addr × Obj)) (σ : VSt) (H : Hp) (s : Shared) (σD : DSt) (S : Sto) : Prop where
  I : Inv X pins σ H s
  r : SRel (gp X) H σD σ
  m : Sim (gp X) H S
def EQ (X : Cx) (pins : List (Addr × Obj)) (σ : VSt) (H₀ : Hp) (Kt : DK) (u : Value) (s' : Shared) : Prop :=
  ∃ v H' d S', Inv X pins σ H' s' ∧ RelV v u ∧ Ext X.K H₀ H' ∧ DRel (gp X) H' d v ∧ Sim (gp X) H' S' ∧ Kt d S'
def TQ (X : Cx) (pins : List (Addr × Obj)) (σ : VSt) (H₀ : Hp) (Kt : Bool → Sto → Prop) (b : Bool) (s' : Shared) : Prop :=
  ∃ H' S', Inv X pins σ H' s' ∧ Ext X.K H₀ H' ∧ Sim (gp X) H' S' ∧ Kt b S'
def AQ (X : Cx) (pins : List (Addr × Obj)) (σ : VSt) (H₀ : Hp) (Kt : List D → Sto → Prop) (us : List Value) (s' : Shared) : Prop :=
  ∃ vs H' ds S', Inv X pins σ H' s' ∧ Vals vs us ∧ Ext X.K H₀ H' ∧ DRels (gp X) H' ds vs ∧ Sim (gp X) H' S' ∧ Kt ds S'

/-- an expression, a test, an argument list -/
def QE (X : Cx) (e : Expr) (t : DE) : Prop := ∀ (pins : List (Addr × Obj)) (s : Shared) (σ : VSt) (H : Hp) (σD : DSt) (S : Sto) (ex : DXs) (Kt : DK), Takes X (lX X H ex) → Sit X pins σ H s σD S →
  t σD S Kt (fun c fs S => ex c fs σD S) → wpAny (model X.prog X.w) X.A (eval e X.env) (EQ X pins σ H Kt) X.xe s
def QT (X : Cx) (e : Expr) (t : DT) : Prop := ∀ (pins : List (Addr × Obj)) (s : Shared) (σ : VSt) (H : Hp) (σD : DSt) (S : Sto) (ex : DXs) (Kt : Bool → Sto → Prop), Takes X (lX X H ex) → Sit X pins σ H s σD S →
  t σD S Kt (fun c fs S => ex c fs σD S) → wpAny (model X.prog X.w) X.A (isTrue e X.env (eval e X.env)) (TQ X pins σ H Kt) X.xe s
def QW (X : Cx) (e : Expr) (t : DT) : Prop := ∀ (whole : Sem Value) (pins : List (Addr × Obj)) (s : Shared) (σ : VSt) (H : Hp) (σD : DSt) (S : Sto) (ex : DXs) (Kt : Bool → Sto → Prop), Takes X (lX X H ex) → Sit X pins σ H s σD S →
  t σD S Kt (fun c fs S => ex c fs σD S) → wpAny (model X.prog X.w) X.A (isTrue e X.env whole) (TQ X pins σ H Kt) X.xe s
def QA (X : Cx) (es : List Expr) (t : DA) : Prop := ∀ (pos : Pos) (pins : List (Addr × Obj)) (s : Shared) (σ : VSt) (H : Hp) (σD : DSt) (S : Sto) (ex : DXs) (Kt : List D → Sto → Prop), Takes X (lX X H ex) → Sit X pins σ H s σD S →
  t σD S Kt (fun c fs S => ex c fs σD S) → wpAny (model X.prog X.w) X.A (spliced (backTo pos (starEach es X.env))) (AQ X pins σ H Kt) X.xe s
theorem QW.qt {X : Cx} {e : Expr} {t : DT} (h : QW X e t) : QT X e t := h _

section
variable {X : Cx} {pins : List (Addr × Obj)} {σ : VSt} {H : Hp} {s : Shared} {σD : DSt} {S : Sto} {ex : DXs}
theorem Sit.on (T : Sit X pins σ H s σD S) {H' : Hp} {s' : Shared} {S' : Sto} (I : Inv X pins σ H' s') (x : Ext X.K H H') (m : Sim (gp X) H' S') : Sit X pins σ H' s' σD S' := ⟨I, T.r.ext x, m⟩
/-- from a rule of the hand layer -/
theorem thnE {e : Expr} {t : TE} (h : PE X e t) {Kt : DK} (I : Inv X pins σ H s) (q : t σ H fun v H' => ∃ d S', Ext X.K H H' ∧ DRel (gp X) H' d v ∧ Sim (gp X) H' S' ∧ Kt d S') :
    wpAny (model X.prog X.w) X.A (eval e X.env) (EQ X pins σ H Kt) X.xe s :=
  thn (h.run pins s σ H _ I q) fun u s1 ⟨v, H', I', r, d, S', x, dr, m, k⟩ => ⟨v, H', d, S', I', r, x, dr, m, k⟩
/-- one step further -/
theorem EQ.up {H1 : Hp} {Kt : DK} {u : Value} {s' : Shared} (x : Ext X.K H H1) (h : EQ X pins σ H1 Kt u s') : EQ X pins σ H Kt u s' :=
  let ⟨v, H', d, S', I, r, x', dr, m, k⟩ := h; ⟨v, H', d, S', I, r, x.trans x', dr, m, k⟩
theorem TQ.up {H1 : Hp} {Kt : Bool → Sto → Prop} {b : Bool} {s' : Shared} (x : Ext X.K H H1) (h : TQ X pins σ H1 Kt b s') : TQ X pins σ H Kt b s' :=
  let ⟨H', S', I, x', m, k⟩ := h; ⟨H', S', I, x.trans x', m, k⟩
theorem AQ.up {H1 : Hp} {Kt : List D → Sto → Prop} {us : List Value} {s' : Shared} (x : Ext X.K H H1) (h : AQ X pins σ H1 Kt us s') : AQ X pins σ H Kt us s' :=
  let ⟨vs, H', ds, S', I, r, x', dr, m, k⟩ := h; ⟨vs, H', ds, S', I, r, x.trans x', dr, m, k⟩
/-- two expressions in a row -/
theorem dbin {a b : Expr} {ta tb : DE} (ha : QE X a ta) (hb : QE X b tb) (tk : Takes X (lX X H ex)) (T : Sit X pins σ H s σD S) {R : D → D → Sto → Prop}
    (h : ta σD S (fun x S1 => tb σD S1 (fun y S2 => R x y S2) (fun c fs S => ex c fs σD S)) (fun c fs S => ex c fs σD S))
    {α : Type} {Q : α → Shared → Prop} {f : Value → Value → Sem α}
    (hf : ∀ v u s2 xv yv x y H2 S2, Sit X pins σ H2 s2 σD S2 → Ext X.K H H2 → RelV xv v → RelV yv u → DRel (gp X) H2 x xv → DRel (gp X) H2 y yv → R x y S2 → wpAny (model X.prog X.w) X.A (f v u) Q X.xe s2) :
    wpAny (model X.prog X.w) X.A (eval a X.env) (fun v s₁ => wpAny (model X.prog X.w) X.A (eval b X.env) (fun u s₂ => wpAny (model X.prog X.w) X.A (f v u) Q X.xe s₂) X.xe s₁) X.xe s := by
  refine thn (ha pins s σ H σD S ex _ tk T h) fun v s1 ⟨xv, H1, x, S1, I1, r1, x1, d1, m1, q1⟩ => ?_
  refine thn (hb pins s1 σ H1 σD S1 ex _ (tk.up x1) (T.on I1 x1 m1) q1) fun u s2 ⟨yv, H2, y, S2, I2, r2, x2, d2, m2, q2⟩ => ?_
  exact hf v u s2 xv yv x y H2 S2 (T.on I2 (x1.trans x2) m2) (x1.trans x2) r1 r2 (DRel.ext x2 _ d1) d2 q2
end

section
variable {g : GP} {H : Hp} {S : Sto} {p : Addr}
/-- no instance's dict -/
def NoDict : Option HO → Prop
  | some (.own _) => False
  | some (.xd _) => False
  | _ => True
theorem ORel.upd {ho : HO} (nt : NoTup (H p)) (no : NoDict (H p)) : ∀ {a : Addr} {o : SO}, a ≠ p → ORel g H a o → ORel g (upd H p ho) a o := fun {a o} ne h => by
  have x : Ext g.K H (L2.upd H p ho) := Ext.upd nt
  have nd : ∀ {b : Addr} {x : Addr}, H b = some (.own x) → b ≠ p := fun {b x} e z => by
    rw [← z, e] at no; exact no
  have nx : ∀ {b : Addr} {x : List (Str × V)}, H b = some (.xd x) → b ≠ p := fun {b x} e z => by
    rw [← z, e] at no; exact no
  cases o with
  | lst ds =>
    obtain ⟨vs, e, r⟩ := h
    exact ⟨vs, by rw [upd_ne ne]; exact e, DRels.ext x ds r⟩
  | ins c fs =>
    obtain ⟨C, dx, vs, e1, e2, e3, r⟩ := h
    exact ⟨C, dx, vs, e1, by rw [upd_ne ne]; exact e2, by rw [upd_ne (nd e3)]; exact e3, r.ext x⟩
  | slo c ds =>
    obtain ⟨C, dx, vs, e1, ⟨e0, e2⟩, r⟩ := h
    refine ⟨C, dx, vs, e1, ⟨e0, ?_⟩, r.ext x⟩
    rcases e2 with ⟨h1, h2, h3⟩ | ⟨h1, h2⟩
    · exact .inl ⟨by rw [upd_ne ne]; exact h1, h2, by rw [upd_ne (nd h3)]; exact h3⟩
    · exact .inr ⟨by rw [upd_ne ne]; exact h1, by rw [upd_ne (nx h2)]; exact h2⟩
  | dic kvs =>
    obtain ⟨es, ep, h1, h2, h3⟩ := h
    exact ⟨es, ep, by rw [upd_ne ne]; exact h1, h2.ext x, h3⟩
  | exd fs =>
    obtain ⟨vs, h1, h2⟩ := h
    exact ⟨vs, by rw [upd_ne ne]; exact h1, h2.ext x⟩
theorem Sim.put {ho : HO} {o : SO} (m : Sim g H S) (nt : NoTup (H p)) (no : NoDict (H p)) (h : ORel g (L2.upd H p ho) p o) : Sim g (L2.upd H p ho) (sup S p o) := fun a o' e => by
  by_cases ha : a = p
  · subst ha; rw [sup_same] at e; cases e; exact h
  · rw [sup_ne ha] at e; exact ORel.upd nt no ha (m a o' e)
/-- a new object -/
theorem Sim.new {ho : HO} {o : SO} (m : Sim g H S) (n : H p = none) (h : ORel g (L2.upd H p ho) p o) : Sim g (L2.upd H p ho) (sup S p o) :=
  m.put (by rw [n]; trivial) (by rw [n]; trivial) h
/-- a new object that is no part of the store -/
theorem Sim.hid {ho : HO} (m : Sim g H S) (n : H p = none) : Sim g (L2.upd H p ho) S := fun a o' e => by
  have ha : a ≠ p := by
    rintro rfl
    rw [m.fresh n] at e; cases e
  exact ORel.upd (by rw [n]; trivial) (by rw [n]; trivial) ha (m a o' e)
theorem Sim.newL {ds : List D} {vs : List V} (m : Sim g H S) (n : H p = none) (r : DRels g H ds vs) : Sim g (L2.upd H p (.lst vs)) (sup S p (.lst ds)) :=
  m.new n ⟨vs, upd_same, DRels.ext (Ext.new n) ds r⟩
theorem Sim.setL {ds ds' : List D} {vs' : List V} (m : Sim g H S) (e : S p = some (.lst ds)) (r : DRels g H ds' vs') : Sim g (L2.upd H p (.lst vs')) (sup S p (.lst ds')) := by
  obtain ⟨vs, e1, _⟩ := m p _ e
  have x : Ext g.K H (L2.upd H p (.lst vs')) := Ext.mut (by rw [e1]; trivial)
  exact m.put (by rw [e1]; trivial) (by rw [e1]; trivial) ⟨vs', upd_same, DRels.ext x ds' r⟩
theorem Sim.ext_setL {ds : List D} {vs' : List V} (m : Sim g H S) (e : S p = some (.lst ds)) : Ext g.K H (L2.upd H p (.lst vs')) := by
  obtain ⟨vs, e1, _⟩ := m p _ e
  exact Ext.mut (by rw [e1]; trivial)
theorem sit_tup {ds : List D} {vs : List V} (n : H p = none) (r : DRels g H ds vs) : DRel g (L2.upd H p (.tup vs)) (.tup ds) (.ref p) := by
  unfold DRel
  exact ⟨p, vs, rfl, .inl (.inl upd_same), DRels.ext (Ext.new n) ds r⟩
end

section
variable {X : Cx}
def dC (d : D) : DE := fun _ S K _ => K d S
def dV (i : Nat) : DE := fun σ S K _ => ∃ d, σ[i]? = some (some d) ∧ K d S
theorem qe_var {i : Nat} {x : Str} {pos : Pos} (hN : X.N[i]? = some x) (hv : Vis X.env.scope x) (hd : (x == ("__debug__" : Str)) = false) (hcd : (x == ("__classdict__" : Str)) = false) : QE X (.Name x pos) (dV i) := fun pins s σ H σD S ex Kt tk T h => by
  obtain ⟨d, e, h⟩ := h
  obtain ⟨v, ev, r⟩ := T.r.at_ i d e
  exact thnE (pe_var hN hv hd hcd) T.I ⟨v, ev, d, S, .refl, r, T.m, h⟩
theorem qe_int {i : Int} {j : Nat} {pos : Pos} : QE X (.Constant (.int i) j pos) (dC (.int i)) := fun pins s σ H σD S ex Kt tk T h =>
  thnE pe_int T.I ⟨.int i, S, .refl, by simp [DRel], T.m, h⟩
theorem qe_bl {b : Bool} {j : Nat} {pos : Pos} : QE X (.Constant (.bool b) j pos) (dC (.bl b)) := fun pins s σ H σD S ex Kt tk T h =>
  thnE pe_bl T.I ⟨.bl b, S, .refl, by simp [DRel], T.m, h⟩
theorem qe_non {j : Nat} {pos : Pos} : QE X (.Constant .none j pos) (dC .non) := fun pins s σ H σD S ex Kt tk T h =>
  thnE pe_non T.I ⟨.non, S, .refl, by simp [DRel], T.m, h⟩
theorem qe_str {x : Str} {j : Nat} {pos : Pos} : QE X (.Constant (.str x) j pos) (dC (.str x)) := fun pins s σ H σD S ex Kt tk T h =>
  thnE pe_str T.I ⟨.str x, S, .refl, by simp [DRel], T.m, h⟩
/-- a module's int, text, def, class as a value -/
theorem qe_glob {x : Str} {v : V} {u : Value} {d : D} {pos : Pos} (hg : Gl X x) (hm : X.mg x = some u) (r : RelV v u) (hd : (x == ("__debug__" : Str)) = false) (dr : ∀ H, DRel (gp X) H d v) : QE X (.Name x pos) (dC d) := fun pins s σ H σD S ex Kt tk T h =>
  thnE (pe_glob hg hm r hd) T.I ⟨d, S, .refl, dr H, T.m, h⟩

def dNil : DA := fun _ S K _ => K [] S
def dCons (ta : DE) (tr : DA) : DA := fun σ S K E => ta σ S (fun x S1 => tr σ S1 (fun xs S2 => K (x :: xs) S2) E) E
variable {e : Expr} {es : List Expr} {te : DE} {t : DA} {pos : Pos}
theorem qa_nil : QA X [] dNil := fun pos pins s σ H σD S ex Kt tk T h => Calls.spliced_nil ⟨[], H, [], S, T.I, .nil, .refl, .nil, T.m, h⟩
theorem qa_cons (ha : QE X e te) (hr : QA X es t) (hs : starEach (e :: es) X.env = (false, eval e X.env) :: starEach es X.env) : QA X (e :: es) (dCons te t) := fun pos pins s σ H σD S ex Kt tk T h => by
  rw [hs]
  show wpAny _ _ (spliced ((false, eval e X.env) :: backTo pos (starEach es X.env))) _ _ s
  refine Calls.spliced_cons (thn (ha pins s σ H σD S ex _ tk T h) fun u s1 ⟨v, H1, x, S1, I1, r1, x1, d1, m1, q1⟩ => ?_)
  exact thn (hr pos pins s1 σ H1 σD S1 ex _ (tk.up x1) (T.on I1 x1 m1) q1) fun us s2 ⟨vs, H2, ds, S2, I2, r2, x2, d2, m2, q2⟩ => ⟨v :: vs, H2, x :: ds, S2, I2, .cons r1 r2, x1.trans x2, .cons (DRel.ext x2 _ d1) d2, m2, q2⟩
def dTup (t : DA) : DE := fun σ S K E => t σ S (fun xs S1 => xs.length ≤ sizeLine ∧ K (.tup xs) S1) E
def dLst (t : DA) : DE := fun σ S K E => t σ S (fun xs S1 => xs.length ≤ sizeLine ∧ ∀ p, S1 p = none → K (.ref p) (sup S1 p (.lst xs))) E
theorem qe_tup {k : Nat} (h : QA X es t) : QE X (.Tuple es k pos) (dTup t) := fun pins s σ H σD S ex Kt tk T hq => by
  refine wpAny_Tuple_spliced (thn (h pos pins s σ H σD S ex _ tk T hq) fun us s1 ⟨xs, H1, ds, S1, I1, r, x1, dr, m1, z, q⟩ => ⟨by rw [← r.length, ← dr.length]; exact z, ?_⟩)
  have hf : H1 s1.heap.objs.size = none := I1.hok.fresh (Nat.le_refl _)
  refine ⟨.ref s1.heap.objs.size, L2.upd H1 s1.heap.objs.size (.tup xs), .tup ds, S1, I1.laid (t' := s1.toks) (fun b u e => Heap.get?_push_of_some _ e) (Nat.le_refl _) ?_, rfl, x1.trans (Ext.new hf), sit_tup hf dr, m1.hid hf, q⟩
  exact ⟨by rw [← dr.length]; exact z, us, r, ⟨_, Heap.get?_push_size _ rfl, rfl, _, rfl⟩⟩
theorem qe_lst (h : QA X es t) : QE X (.List es pos) (dLst t) := fun pins s σ H σD S ex Kt tk T hq => by
  refine wpAny_List_spliced (thn (h pos pins s σ H σD S ex _ tk T hq) fun us s1 ⟨xs, H1, ds, S1, I1, r, x1, dr, m1, z, q⟩ => ⟨by rw [← r.length, ← dr.length]; exact z, ?_⟩)
  have hf : H1 s1.heap.objs.size = none := I1.hok.fresh (Nat.le_refl _)
  refine ⟨.ref s1.heap.objs.size, L2.upd H1 s1.heap.objs.size (.lst xs), .ref s1.heap.objs.size, _, I1.laid (t' := s1.toks) (fun b u e => Heap.get?_push_of_some _ e) (Nat.le_refl _) ?_, rfl, x1.trans (Ext.new hf), by simp [DRel], m1.newL hf dr, q _ (m1.fresh hf)⟩
  exact ⟨by rw [← dr.length]; exact z, us, 0, r, Heap.get?_push_size _ rfl⟩
end

abbrev DR2 := D → D → Sto → DK → DX → Prop
def OpD (X : Cx) (f : Value → Value → Sem Value) (r : DR2) : Prop := ∀ (pins : List (Addr × Obj)) (s : Shared) (σ : VSt) (H : Hp) (σD : DSt) (S : Sto) (ex : DXs) (Kt : DK) (x y : D) (xv yv : V) (v u : Value), Takes X (lX X H ex) → Sit X pins σ H s σD S →
  DRel (gp X) H x xv → DRel (gp X) H y yv → RelV xv v → RelV yv u → r x y S Kt (fun c fs S => ex c fs σD S) → wpAny (model X.prog X.w) X.A (f v u) (EQ X pins σ H Kt) X.xe s
section
variable {X : Cx} {a b c : Expr} {ta tb tc : DE} {pos : Pos} {r r' : DR2}
/-- from the hand layer's operator -/
theorem OpD.of {f : Value → Value → Sem Value} {r0 : R2} (ho : OpR X f r0) (h : ∀ (H : Hp) (S : Sto) (Kt : DK) (E : DX) (x y : D) (xv yv : V), Sim (gp X) H S → DRel (gp X) H x xv → DRel (gp X) H y yv → r x y S Kt E →
    r0 xv yv H fun v H' => ∃ d S', Ext X.K H H' ∧ DRel (gp X) H' d v ∧ Sim (gp X) H' S' ∧ Kt d S') : OpD X f r := fun pins s σ H σD S ex Kt x y xv yv v u tk T dx dy rx ry q =>
  thn (ho pins s σ H xv yv v u _ T.I rx ry (h H S Kt _ x y xv yv T.m dx dy q)) fun u s1 ⟨v, H', I', r, d, S', x, dr, m, k⟩ => ⟨v, H', d, S', I', r, x, dr, m, k⟩
def dOp (r : DR2) (ta tb : DE) : DE := fun σ S K E => ta σ S (fun x S1 => tb σ S1 (fun y S2 => r x y S2 K E) E) E
theorem qe_op {op : Operator} (ho : OpD X (binaryOp op) r) (ha : QE X a ta) (hb : QE X b tb) : QE X (.BinOp a op b pos) (dOp r ta tb) := fun pins s σ H σD S ex Kt tk T h =>
  wpAny_BinOp (dbin ha hb tk T h fun v u s2 xv yv x y H2 S2 T2 x2 r1 r2 d1 d2 q => thn (ho pins s2 σ H2 σD S2 ex Kt x y xv yv v u (tk.up x2) T2 d1 d2 r1 r2 q) fun _ _ z => z.up x2)
theorem qe_cmp {op : CmpOp} (ho : OpD X (compareOp op) r) (ha : QE X a ta) (hb : QE X b tb) (hm : behindInMarks op b = false) : QE X (.Compare a [op] [b] pos) (dOp r ta tb) := fun pins s σ H σD S ex Kt tk T h =>
  wpAny_Compare1 (dbin ha hb tk T h fun v u s2 xv yv x y H2 S2 T2 x2 r1 r2 d1 d2 q => thn (ho pins s2 σ H2 σD S2 ex Kt x y xv yv v u (tk.up x2) T2 d1 d2 r1 r2 q) fun _ _ z => z.up x2) hm
/-- a value that is a bool, as a test -/
def kB (K : Bool → Sto → Prop) : DK := fun d S => ∃ k, d = .bl k ∧ K k S
theorem truthyB {pins : List (Addr × Obj)} {σ : VSt} {H : Hp} {s : Shared} {K : Bool → Sto → Prop} {u : Value} (h : EQ X pins σ H (kB K) u s) : wpAny (model X.prog X.w) X.A (truthy u) (TQ X pins σ H K) X.xe s := by
  obtain ⟨v, H', d, S', I, r, x, dr, m, k, e, q⟩ := h
  subst e
  have dr' : v = .bl k := by simpa [DRel] using dr
  subst dr'
  cases r
  exact wpAny_truthy_bool ⟨H', S', I, x, m, q⟩
def dTst (t : DE) : DT := fun σ S K E => t σ S (kB K) E
theorem qt_cmp {op : CmpOp} (ho : OpD X (compareOp op) r) (ha : QE X a ta) (hb : QE X b tb) (hm : behindInMarks op b = false) : QT X (.Compare a [op] [b] pos) (dTst (dOp r ta tb)) := fun pins s σ H σD S ex Kt tk T h => by
  refine wpAny_isTrue_Compare1 (thn (ha pins s σ H σD S ex _ tk T h) fun v s1 ⟨xv, H1, x, S1, I1, r1, x1, d1, m1, q1⟩ => ?_) hm
  refine thn (hb pins s1 σ H1 σD S1 ex _ (tk.up x1) (T.on I1 x1 m1) q1) fun u s2 ⟨yv, H2, y, S2, I2, r2, x2, d2, m2, q2⟩ => ?_
  refine thn (ho pins s2 σ H2 σD S2 ex _ x y xv yv v u (tk.up (x1.trans x2)) (T.on I2 (x1.trans x2) m2) (DRel.ext x2 _ d1) d2 r1 r2 q2) fun c s3 z => ?_
  exact thn (truthyB z) fun _ _ w => w.up (x1.trans x2)
def dChain (r r' : DR2) (ta tb tc : DE) : DE := fun σ S K E => ta σ S (fun x S1 => tb σ S1 (fun y S2 => r x y S2 (fun z S3 => ∃ k, z = .bl k ∧ (if k = true then tc σ S3 (fun w S4 => r' y w S4 K E) E else K (.bl false) S3)) E) E) E
theorem qe_chain {op op' : CmpOp} (ho : OpD X (compareOp op) r) (ho' : OpD X (compareOp op') r') (ha : QE X a ta) (hb : QE X b tb) (hc : QE X c tc) (hm : lastMarks [op, op'] [b, c] = false) : QE X (.Compare a [op, op'] [b, c] pos) (dChain r r' ta tb tc) := fun pins s σ H σD S ex Kt tk T h => by
  refine Compare_chain (thn (ha pins s σ H σD S ex _ tk T h) fun v s1 ⟨xv, H1, x, S1, I1, r1, x1, d1, m1, q1⟩ => chain_link (thn (hb pins s1 σ H1 σD S1 ex _ (tk.up x1) (T.on I1 x1 m1) q1) fun u s2 ⟨yv, H2, y, S2, I2, r2, x2, d2, m2, q2⟩ =>
    thn (ho pins s2 σ H2 σD S2 ex _ x y xv yv v u (tk.up (x1.trans x2)) (T.on I2 (x1.trans x2) m2) (DRel.ext x2 _ d1) d2 r1 r2 q2) fun c s3 ⟨zv, H3, z, S3, I3, r3, x3, d3, m3, k, e, q3⟩ => ?_)) hm
  subst e
  have d3' : zv = .bl k := by simpa [DRel] using d3
  subst d3'
  cases r3
  refine wpAny_truthy_bool ?_
  cases k with
  | false => exact ite_ff ⟨.bl false, H3, .bl false, S3, I3, rfl, x1.trans (x2.trans x3), by simp [DRel], m3, q3⟩
  | true => exact ite_tt (chain_last (thn (hc pins s3 σ H3 σD S3 ex _ (tk.up (x1.trans (x2.trans x3))) (T.on I3 (x1.trans (x2.trans x3)) m3) q3) fun w' s4 ⟨wv, H4, w, S4, I4, r4, x4, d4, m4, q4⟩ =>
      thn (ho' pins s4 σ H4 σD S4 ex Kt y w yv wv u w' (tk.up (x1.trans (x2.trans (x3.trans x4)))) (T.on I4 (x1.trans (x2.trans (x3.trans x4))) m4) (DRel.ext (x3.trans x4) _ d2) d4 r2 r4 q4) fun _ _ z => z.up (x1.trans (x2.trans (x3.trans x4)))))
theorem qt_chain {op op' : CmpOp} (ho : OpD X (compareOp op) r) (ho' : OpD X (compareOp op') r') (ha : QE X a ta) (hb : QE X b tb) (hc : QE X c tc) (hm : lastMarks [op, op'] [b, c] = false) : QT X (.Compare a [op, op'] [b, c] pos) (dTst (dChain r r' ta tb tc)) := fun pins s σ H σD S ex Kt tk T h => by
  refine isTrue_chain (thn (ha pins s σ H σD S ex _ tk T h) fun v s1 ⟨xv, H1, x, S1, I1, r1, x1, d1, m1, q1⟩ => test_link (thn (hb pins s1 σ H1 σD S1 ex _ (tk.up x1) (T.on I1 x1 m1) q1) fun u s2 ⟨yv, H2, y, S2, I2, r2, x2, d2, m2, q2⟩ =>
    thn (ho pins s2 σ H2 σD S2 ex _ x y xv yv v u (tk.up (x1.trans x2)) (T.on I2 (x1.trans x2) m2) (DRel.ext x2 _ d1) d2 r1 r2 q2) fun c s3 ⟨zv, H3, z, S3, I3, r3, x3, d3, m3, k, e, q3⟩ => ?_)) hm
  subst e
  have d3' : zv = .bl k := by simpa [DRel] using d3
  subst d3'
  cases r3
  refine wpAny_truthy_bool ?_
  cases k with
  | false =>
    obtain ⟨k', e', q'⟩ := q3
    cases e'
    exact ite_ff ⟨H3, S3, I3, x1.trans (x2.trans x3), m3, q'⟩
  | true => exact ite_tt (test_last (thn (hc pins s3 σ H3 σD S3 ex _ (tk.up (x1.trans (x2.trans x3))) (T.on I3 (x1.trans (x2.trans x3)) m3) q3) fun w' s4 ⟨wv, H4, w, S4, I4, r4, x4, d4, m4, q4⟩ =>
      thn (ho' pins s4 σ H4 σD S4 ex _ y w yv wv u w' (tk.up (x1.trans (x2.trans (x3.trans x4)))) (T.on I4 (x1.trans (x2.trans (x3.trans x4))) m4) (DRel.ext (x3.trans x4) _ d2) d4 r2 r4 q4) fun c s5 z => thn (truthyB z) fun _ _ w => w.up (x1.trans (x2.trans (x3.trans x4)))))
end
end DL

set_option Elab.async false
set_option linter.all false
set_option maxRecDepth 100000
set_option maxHeartbeats 4000000
namespace PySem
namespace ExW
open PySem.W PySem.Calls PyProof.Rows PySem.HandSPX

def iA (f : Str) (p1 p2 : Pos) : Arguments := { posonlyargs := [], args := [{ arg := "self", annotation := none, pos := p1 }, { arg := f, annotation := none, pos := p2 }], vararg := none, kwonlyargs := [], kw_defaults := [], kwarg := none, defaults := [] }
def iB (f msg : Str) (n : Nat) (p1 p2 p3 p4 p5 p6 q1 q2 q3 q4 : Pos) : List Stmt :=
  [.Expr (.Call (.Attribute (.Call (.Name "super" p1) [] [] p2) "__init__" p3) [.Constant (.str msg) n p4] [] p5) p6, .Assign [.Attribute (.Name "self" q1) f q2] (.Name f q3) q4]
def iS (f : Str) : Scope := { kind := .function, names := [("self", .local), (f, .local), ("__class__", .free), ("super", .globalImplicit)], isGenerator := false, isCoroutine := false, more := [] }
/-- what the written part says of the class at C and of its __init__, at fI; f: the field -/
structure ExT (prog : Program) (K : Frag) (mg : Str → Option Value) (cn f : Str) (C fI : Addr) : Prop where
  gC : mg cn = some (.ref C)
  cls : ∃ nm q N bs bm sn sub ab col dd k0 k1 k2 k3 k5, K.lookup C = some (excClassObj nm q C N bs bm true sn sub ab col dd k0 k1 k2 k3 k5 "ValueError.__new__") ∧ refsVE bm = true
  sa : findIn K (.ref C) "__setattr__" = some (some (.builtin "object.__setattr__"))
  ga : findIn K (.ref C) "__getattribute__" = some (some (.builtin "BaseException.__getattribute__"))
  gg : findIn K (.ref C) "__getattr__" = some none
  noN : findIn K (.ref C) f = some none
  iC : findIn K (.ref C) "__init__" = some (some (.ref fI))
  tC : typeIn K (.ref fI) = some (.type "function")
  kC : keepIn K (.ref C) = true
  exC : subIn K (.ref C) (.type "BaseException") = some true
  tyC : typeIn K (.ref C) = some (.type "type")
  hdC : hasDictIn K C = true
  te : exmOne K (.ref C) (.ref C) = some true
  own : mroIn K C (.ref C) = some true
  ve : subIn K (.ref C) (.type "ValueError") = some true
  ns : nsIn K mainGlobals "super" = some none
  op : nsIn K cStatics "thirdparty.any" = some none
  sup : ks_superIn K C C "__init__" = some (some (.builtin "ValueError.__init__"))
  top : (prog.main.scope.names.lookup ("super" : Str)).isSome = false
  fs : f = "value" ∨ f = "line" ∨ f = "limit"
  fn : ∃ (oc : Value) (od : Option Addr) (doc pm : Value) (an : Option Addr) (cda : Addr) (ct : Value) (osl : Array (Option Value)) (cc : Addr) (qual msg : Str) (n : Nat) (a1 a2 p1 p2 p3 p4 p5 p6 q1 q2 q3 q4 : Pos)
      (ccl : Value) (cdd : Option Addr) (vs : Array Value) (ccs : Array (Option Value)) (file : Str) (tf : Tok) (cl : Value) (cld : Option Addr) (csl : Array (Option Value)),
    K.lookup fI = some ⟨oc, od, .func (ksFn "__init__" qual (iA f a1 a2) (iB f msg n p1 p2 p3 p4 p5 p6 q1 q2 q3 q4) (iS f) .none .none doc pm an (.ref cda) ct cc), osl⟩ ∧ codeIn K (.ref cda) qual = true ∧
    K.lookup cda = some ⟨ccl, cdd, .fields vs, ccs⟩ ∧ vs[2]? = some (.str file tf) ∧ ((prog.main.file : Str) == file) = true ∧ K.lookup cc = some ⟨cl, cld, .cell (some (.ref C)), csl⟩ ∧ (p3.endLine == p5.line) = true
section
variable {prog : Program} {w : World} {M : Model} {A : Around} {E : Value → Shared → Prop} {R : Result → Shared → Prop} {s : Shared} {K : Frag} {mg : Str → Option Value} {C fI : Addr} {cn f : Str}
/-- the bound ValueError.__init__ called with one text -/
theorem mw_call {u e t0 : Addr} {rest : List Value} {nm q : Str} {N : Addr} {bs bm : List Value} {sn : List Str} {sub : List Value} {ab : Bool} {col : Option Bool} {dd : Option Addr} {k0 k1 k2 k3 k5 : Option Value} {Q : Value → Shared → Prop}
    {h : Heap} {g : Array GenState} {d : Drawn} {t : Nat} {os : OsState}
    (hC : h.get? C = some (excClassObj nm q C N bs bm true sn sub ab col dd k0 k1 k2 k3 k5 "ValueError.__new__")) (he : h.get? e = some (excO C t0)) (hu : h.get? u = some (kxs_mw "ValueError.__init__" e)) (hrest : rest.length ≤ sizeLine)
    (hq : ∀ h' t1, (∀ b o, b ≠ e → h.get? b = some o → h'.get? b = some o) → h'.get? e = some (excO C t1) → Q .none ⟨h', g, d, t, os⟩) : wpAny (model prog w) A (call (.ref u) rest) Q E ⟨h, g, d, t, os⟩ := by
  refine wpAny_call (codeAny_of_tree ?_)
  show wpAny _ A.in1 (callAny (.ref u) ⟨rest, []⟩) _ _ _
  simp only [callAny]
  refine wpAny_bind (wpAny_load hu ?_)
  simp only [kxs_mw, show (Value.type "method-wrapper" == Value.type "method" || Value.type "method-wrapper" == Value.type "builtin_function_or_method" || Value.type "method-wrapper" == Value.type "method-wrapper") = true by decide, if_true]
  refine KFB.if_so (by decide) ?_
  refine wpAny_bind (check_bound_init F.excBase_ValueError.toExcCallFacts hC he rfl ?_)
  refine wpAny_bind (wpAny_pure (wpAny_pure ?_))
  refine ⟨plainId_quiet F.excBase_ValueError.init.plain _, codeAny_builtin F.excBase_ValueError.initEntry ?_⟩
  exact exc_init_tree (cls := .ref C) (t0 := t0) (dv := none) (c2 := .none) (c3 := .none) (b4 := .bool false) he hrest fun h' k e' _ => hq h' _ k e'
theorem one_size (v : Value) : [v].length ≤ sizeLine := by
  rw [sizeLine_eq]
  exact (by decide : 1 ≤ 16777216)
/-- what __init__ leaves of a fresh exception at x -/
structure InitEnd (h h' : Heap) (x C dx t1 : Addr) (f : Str) (v : Value) : Prop where
  keep : ∀ b o, b ≠ x → h.get? b = some o → h'.get? b = some o
  obj : h'.get? x = some { cls := .ref C, dict := some dx, data := .fields #[.ref t1, .none, .none, .none, .bool false, .none] }
  dbig : h.objs.size ≤ dx
  dne : dx ≠ x
  ns : h'.Ns1 dx (fun y => if y = f then some v else none)
/-- a made exception -/
structure OwnMade (h h' : Heap) (e C d : Addr) (f : Str) (v : Value) : Prop where
  keep : ∀ b o, h.get? b = some o → h'.get? b = some o
  new : h.objs.size ≤ e
  obj : ∃ oe vs, h'.get? e = some oe ∧ oe.cls = .ref C ∧ oe.dict = some d ∧ oe.data = .fields vs ∧ vs[1]? = some .none
  dbig : h.objs.size ≤ d
  dne : d ≠ e
  ns : h'.Ns1 d (fun y => if y = f then some v else none)
theorem ldX {M : Model} {s : Shared} {env : Env} {m : Str → Option Value} {x : Str} {pos : Pos} {v : Value} {Q : Value → Shared → Prop} {A : Around} {E : Value → Shared → Prop} (hn : s.heap.Ns env.locals m) (hv : m x = some v) (h : Q v s)
    (hk : env.scope.kind = .function) (hl : env.kindOf x = some .local) (hd : (x == ("__debug__" : Str)) = false) :
    wpAny M A (eval (.Name x pos) env) Q E s := wpAny_Name (wpAny_loadName_local hk hl hn hv h) hd
theorem ex_init (T : ExT prog K mg cn f C fI) {x t0 : Addr} {v : Value} {mb : Str → Option Value} (X : K.In s.heap) (hlim : s.heap.NoLimit) (hg : s.heap.Ns mainGlobals mg) (hb : s.heap.Ns builtinsNs mb) (hbs : mb "super" = bootBuiltins "super")
    (hx : s.heap.get? x = some (excO C t0)) (hnx : K.lookup x = none) (hxg : x ≠ mainGlobals) (hxb : x ≠ builtinsNs) (hroom : A.depth < recursionLimit)
    (hq : ∀ h' tk dx t1, InitEnd s.heap h' x C dx t1 f v → R (.ok (.ret .none)) { s with heap := h', toks := tk }) :
    codeAny (model prog w) A (.call (.ref fI) ⟨[.ref x, v], []⟩) R s := by
  obtain ⟨oc, od, doc, pm, an, cda, ct, osl, cc, qual, msg, n, a1, a2, p1, p2, p3, p4, p5, p6, q1, q2, q3, q4, ccl, cdd, vs, ccs, file, tf, cl, cld, csl, ho, hcd, hcode, hvs, hfile, hcell, hl⟩ := T.fn
  obtain ⟨nm, q, N, bs, bm, sn, sub, ab, col, dd, k0, k1, k2, k3, k5, hC, hbm⟩ := T.cls
  have hcl : clsIn K C = some { name := nm, bases := bs, mro := .ref C :: bm, ns := N, qualname := q, hasDict := true, slotNames := sn, subclasses := sub, abstract := ab, collection := col, hasDel := false } := by unfold clsIn; rw [hC] <;> rfl
  have fself : ((f : Str) == ("self" : Str)) = false := by rcases T.fs with e | e | e <;> (subst e; decide +kernel)
  have selff : (("self" : Str) == f) = false := by rcases T.fs with e | e | e <;> (subst e; decide +kernel)
  have fdeb : (f == ("__debug__" : Str)) = false := by rcases T.fs with e | e | e <;> (subst e; decide +kernel)
  have lf : (iS f).names.lookup f = some .local := by
    show List.lookup f [(("self" : Str), NameKind.local), (f, .local), ("__class__", .free), ("super", .globalImplicit)] = _
    rw [List.lookup_cons, fself, List.lookup_cons, beq_self_eq_true]
  have ls : (iS f).names.lookup (PySem.Str.ofString "self") = some NameKind.local := rfl
  have bind : bindArgs (ksFn "__init__" qual (iA f a1 a2) (iB f msg n p1 p2 p3 p4 p5 p6 q1 q2 q3 q4) (iS f) .none .none doc pm an (.ref cda) ct cc) ⟨[.ref x, v], []⟩ = pure ([("self", .ref x), (f, v)] : List (Str × Value)) := by rcases T.fs with e | e | e <;> (subst e; rfl)
  refine ks_codeAny_call_defAt (fd := ksFn "__init__" qual (iA f a1 a2) (iB f msg n p1 p2 p3 p4 p5 p6 q1 q2 q3 q4) (iS f) .none .none doc pm an (.ref cda) ct cc) (body := iB f msg n p1 p2 p3 p4 p5 p6 q1 q2 q3 q4) (binds := ([("self", .ref x), (f, v)] : List (Str × Value)))
    hroom (X _ _ ho) rfl hlim (codeRec_of X hcd) rfl (BindsTo.of_eq bind) (fun y hy => ?_) (fun y hy => ?_) (fun h₁ hns hk => ?_) rfl rfl rfl
  · have hy' : y ∈ [(PySem.Str.ofString "self", NameKind.local), (f, .local), (PySem.Str.ofString "__class__", .free), (PySem.Str.ofString "super", .globalImplicit)] := hy
    simp only [List.mem_cons, List.not_mem_nil, or_false] at hy'
    rcases hy' with rfl | rfl | rfl | rfl <;> intro z <;> cases z
  · simp only [List.mem_cons, List.not_mem_nil, or_false] at hy
    rcases hy with rfl | rfl
    · exact ls
    · exact lf
  obtain ⟨hp, g, dr, tk, os⟩ := s
  have X₁ : K.In h₁ := X.keeps hk
  have hx₁ := hk _ _ hx
  have hxL : x ≠ hp.objs.size := Nat.ne_of_lt (Heap.lt_size hx)
  have mself : List.lookup (PySem.Str.ofString "self") (List.reverse [(PySem.Str.ofString "self", Value.ref x), (f, v)]) = some (.ref x) := by
    show List.lookup (PySem.Str.ofString "self") [(f, v), (PySem.Str.ofString "self", Value.ref x)] = _
    rw [List.lookup_cons, selff, List.lookup_cons, beq_self_eq_true]
  have mf : List.lookup f (List.reverse [(PySem.Str.ofString "self", Value.ref x), (f, v)]) = some v := by
    show List.lookup f [(f, v), (PySem.Str.ofString "self", Value.ref x)] = _
    rw [List.lookup_cons, beq_self_eq_true]
  show wpAt (model prog w) (A.deeper (ksEnv qual (iS f) hp.objs.size fI (.ref cda) cc)) (.func _ (ksEnv qual (iS f) hp.objs.size fI (.ref cda) cc)) (execs (iB f msg n p1 p2 p3 p4 p5 p6 q1 q2 q3 q4) (ksEnv qual (iS f) hp.objs.size fI (.ref cda) cc)) _ _ _
  refine ks_wpAt_execs_cons (ks_wpAt_Expr_any (ks_wpAt_MethodCall (pl := do return (← importBound (.Call (.Name "super" p1) [] [] p2) (ksEnv qual (iS f) hp.objs.size fI (.ref cda) cc)).getD true) (ks_wpAt_super_base (env := ksEnv qual (iS f) hp.objs.size fI (.ref cda) cc) (ar := { arg := "self", annotation := none, pos := a1 }) ?k1 ?k2 (by decide +kernel) rfl (X₁ _ _ ho) rfl rfl rfl (X₁ _ _ hcode) rfl hvs hfile T.top ?_) ?he))
  case he =>
    show (do
      let ov ← attributeBase (.Call (.Name "super" p1) [] [] p2) "__init__" (ksEnv qual (iS f) hp.objs.size fI (.ref cda) cc) (eval (.Call (.Name "super" p1) [] [] p2) (ksEnv qual (iS f) hp.objs.size fI (.ref cda) cc))
      standAt p3.atName
      methodCall (.Call (.Name "super" p1) [] [] p2) "__init__" p3 p5 (ksEnv qual (iS f) hp.objs.size fI (.ref cda) cc) ov 1 (backTo p5 (starEach [.Constant (.str msg) n p4] (ksEnv qual (iS f) hp.objs.size fI (.ref cda) cc))) []) = _
    unfold methodCall methodCallPos
    rw [hl]
    rfl
  case k1 =>
    show (iS f).names.lookup (PySem.Str.ofString "super") = some NameKind.globalImplicit
    rcases T.fs with e | e | e <;> (subst e; decide +kernel)
  case k2 =>
    show (iS f).names.lookup (PySem.Str.ofString "__class__") = some NameKind.free
    rcases T.fs with e | e | e <;> (subst e; decide +kernel)
  have hks : (ksEnv qual (iS f) hp.objs.size fI (.ref cda) cc).kindOf "super" = some .globalImplicit := by
    show (iS f).names.lookup (PySem.Str.ofString "super") = some NameKind.globalImplicit
    rcases T.fs with e | e | e <;> (subst e; decide +kernel)
  have hkc : (ksEnv qual (iS f) hp.objs.size fI (.ref cda) cc).kindOf "__class__" = some .free := by
    show (iS f).names.lookup (PySem.Str.ofString "__class__") = some NameKind.free
    rcases T.fs with e | e | e <;> (subst e; decide +kernel)
  have hC1 : h₁.get? C = _ := X₁ _ _ hC
  have hxC : x ≠ C := fun z => by rw [z, show List.lookup C K = _ from hC] at hnx; cases hnx
  have ix : InstAt h₁ x (excO C t0) C none := ⟨hx₁, rfl, rfl, trivial⟩
  refine ks_loadName_global rfl hks (loadGlobal_builtin (env := ksEnv qual (iS f) hp.objs.size fI (.ref cda) cc) (hg.keeps hk) (mg_none_of X hg T.ns) (hb.keeps hk) (hbs.trans (by decide +kernel)) ⟨rfl, ?_⟩)
  refine wpAny_loadName_free rfl hkc rfl ⟨_, X₁ _ _ hcell, rfl⟩ ?_
  refine wpAny_loadName_local rfl (show (ksEnv qual (iS f) hp.objs.size fI (.ref cda) cc).kindOf "self" = some .local from ls) hns mself ?_
  refine ks_wpAny_isType_cls hC1 rfl ⟨rfl, ?_⟩
  refine ks_wpAny_call_super hC1 rfl hx₁ rfl (fun c e => by cases e) (looks_mroIn X₁ T.own) (fun h2 e2 k2 => ?_)
  have X₂ : K.In h2 := X₁.keeps k2
  have hx2 := k2 _ _ hx₁
  -- getMethod
  have hI2 : Looks (model prog w) h2 (isInstance (.ref x) (.type "ValueError")) true := (InstAt.type (M := model prog w) (show InstAt h2 x (excO C t0) C none from ⟨hx2, rfl, rfl, trivial⟩)).andThen (looks_subIn X₂ T.ve)
  have hsup := T.sup
  unfold ks_superIn at hsup
  rw [hcl] at hsup
  refine kxs_getMethod kxs_ValueError e2 (looks_opaque X₂ T.op) (l₀ := .ref C :: bm) ?_ rfl X₂ hsup hI2 hxC (by decide +kernel) ?_
  · exact fun A Q E s k q => wpAny_bind ((looks_clsIn X₂ hcl) A _ E s k (wpAny_pure q))
  -- the text, the call
  refine kxs_callWith (i := "ValueError.__init__") (x := x) rfl ?_
  refine evalArgs_plain (Calls.spliced_cons (Calls.Constant_str (k := n) (pos := p4) (Calls.spliced_nil ?_)))
  have hput : (h2.push (kxs_mw "ValueError.__init__" x)).get? h2.objs.size = some (kxs_mw "ValueError.__init__" x) := Heap.get?_push_at rfl rfl
  have k3 : ∀ b o, h2.get? b = some o → (h2.push (kxs_mw "ValueError.__init__" x)).get? b = some o := fun b o e => Heap.get?_push_of_some _ e
  refine ⟨hput, ?_⟩
  show wpAny _ _ (call (.ref h2.objs.size) [Value.str msg _]) _ _ _
  refine mw_call (k3 _ _ (X₂ _ _ hC)) (k3 _ _ hx2) hput (one_size _) fun h4 t1 k4 hx4 => ?_
  have big : ∀ b o, h₁.get? b = some o → b ≠ x → h4.get? b = some o := fun b o e ne => k4 b o ne (k3 b o (k2 b o e))
  have X₄ : K.In h4 := fun b o e => k4 b o (fun z => by rw [z, hnx] at e; cases e) (k3 b o (k2 b o (X₁ b o e)))
  have hn4 : h4.Ns hp.objs.size (fun y => List.lookup y (List.reverse ([(PySem.Str.ofString "self", Value.ref x), (f, v)] : List (Str × Value)))) := by
    obtain ⟨oL, es, ep, hL, r⟩ := hns
    exact ⟨oL, es, ep, big _ _ hL (Ne.symm hxL), r⟩
  -- self.f = f
  refine wpAt_of_wpAny (wpAny_execs_cons (plainObj_wpAny_Assign_Attribute ?_))
  refine ldX (env := ksEnv qual (iS f) hp.objs.size fI (.ref cda) cc) (v := v) hn4 mf (ldX (env := ksEnv qual (iS f) hp.objs.size fI (.ref cda) cc) (v := .ref x) hn4 mself ?_ rfl ls (by decide +kernel)) rfl lf fdeb
  refine set_plain X₄ (ox := excO C t1) (od := none) ⟨hx4, rfl, rfl, trivial⟩ T.sa ?_
  refine exc_osa X₄ hx4 hcl (show refsVE (.ref C :: bm) = true from hbm) rfl T.noN (fun h5 tk5 dx k5 dn dne hx5 hn5 => ?_)
  show wpAny _ _ (execs _ _) _ _ _
  have z1 : hp.objs.size < h₁.objs.size := hns.lt
  have z2 : hp.objs.size < h4.objs.size := hn4.lt
  exact wpAny_execs_nil (hq h5 tk5 dx t1 ⟨fun b o hb e => k5 b o hb (big b o (hk b o e) hb), hx5, Nat.le_of_lt (Nat.lt_of_lt_of_le z2 dn), dne, hn5⟩)
theorem ex_made (T : ExT prog K mg cn f C fI) {v : Value} {mb : Str → Option Value} (X : K.In s.heap) (hlim : s.heap.NoLimit) (hg : s.heap.Ns mainGlobals mg) (hb : s.heap.Ns builtinsNs mb) (hbs : mb "super" = bootBuiltins "super") (hroom : A.depth + 1 < recursionLimit)
    (hq : ∀ h' tk e d, OwnMade s.heap h' e C d f v → R (.ok (.ret (.ref e))) { s with heap := h', toks := tk }) :
    codeAny (model prog w) A (.call (.ref C) ⟨[v], []⟩) R s := by
  obtain ⟨nm, q, N, bs, bm, sn, sub, ab, col, dd, k0, k1, k2, k3, k5, hC, hbm⟩ := T.cls
  obtain ⟨hp, g, dr, tk, os⟩ := s
  have k : ∀ b o, hp.get? b = some o → ((hp.push (kdv_tup [v])).push (excO C hp.objs.size)).get? b = some o := fun b o e => Heap.get?_push_of_some _ (Heap.get?_push_of_some _ e)
  have hget : ((hp.push (kdv_tup [v])).push (excO C hp.objs.size)).get? (hp.objs.size + 1) = some (excO C hp.objs.size) := by heap_get
  have hnx : K.lookup (hp.objs.size + 1) = none := by
    cases e : K.lookup (hp.objs.size + 1) with
    | none => rfl
    | some o =>
      have z : hp.get? (hp.objs.size + 1) = some o := X _ _ e
      exact absurd (Nat.lt_of_succ_lt (Heap.lt_size z)) (Nat.lt_irrefl _)
  have hxg : hp.objs.size + 1 ≠ mainGlobals := fun z => by
    have y := hg.lt
    rw [← z] at y
    exact absurd (Nat.lt_of_succ_lt y) (Nat.lt_irrefl _)
  have hxb : hp.objs.size + 1 ≠ builtinsNs := fun z => by
    have y := hb.lt
    rw [← z] at y
    exact absurd (Nat.lt_of_succ_lt y) (Nat.lt_irrefl _)
  refine call_own F.excBase_ValueError (fun X => refsVE_contains X bm hbm) (X _ _ hC) (looks_findIn X T.iC) (fun self => bind_fn X self T.tC) (one_size v) ?_
  refine ex_init (s := ⟨(hp.push (kdv_tup [v])).push (excO C hp.objs.size), g, dr, tk, os⟩) T (X.keeps k) (hlim.keeps k) (hg.keeps k) (hb.keeps k) hbs hget hnx hxg hxb ?_ fun h' tk' dx t1 ⟨k', hx, dn, dne, hns⟩ => ?_
  · show A.depth + 1 < recursionLimit
    exact hroom
  · have old : ∀ b o, hp.get? b = some o → h'.get? b = some o := fun b o e => k' b o (Nat.ne_of_lt (Nat.lt_succ_of_lt (Heap.lt_size e))) (k b o e)
    have z : hp.objs.size + 1 + 1 ≤ dx := by
      first
        | (simpa only [Heap.size_push] using dn)
        | exact dn
        | (have q := dn; rw [Heap.size_push, Heap.size_push] at q; exact q)
    exact ⟨rfl, hq h' tk' (hp.objs.size + 1) dx ⟨old, Nat.le_succ _, ⟨_, _, hx, rfl, rfl, rfl, rfl⟩, Nat.le_trans (Nat.le_trans (Nat.le_succ _) (Nat.le_succ _)) z, dne, hns⟩⟩
end
end ExW
end PySem

set_option Elab.async false
set_option linter.all false
set_option maxRecDepth 100000
set_option maxHeartbeats 4000000
namespace DL
open PySem PySem.Spec PyProof.Rows L2

def mapO {α β : Type} (f : α → Option β) : List α → Option (List β)
  | [] => some []
  | x :: xs => match f x, mapO f xs with
    | some y, some ys => some (y :: ys)
    | _, _ => none
theorem mapO_cons {α β : Type} {f : α → Option β} {x : α} {xs : List α} {l : List β} (h : mapO f (x :: xs) = some l) : ∃ y ys, f x = some y ∧ mapO f xs = some ys ∧ l = y :: ys := by
  unfold mapO at h
  cases e : f x with
  | none => rw [e] at h; cases h
  | some y =>
    rw [e] at h
    cases e2 : mapO f xs with
    | none => rw [e2] at h; cases h
    | some ys => rw [e2] at h; cases h; exact ⟨y, ys, rfl, rfl, rfl⟩
/-- a value as data: lists are looked up -/
def toPy (S : Sto) : Nat → D → Option PyData
  | 0, _ => none
  | n + 1, .tup xs => (mapO (toPy S n) xs).map .tuple
  | n + 1, .rol xs => (mapO (toPy S n) xs).map .list
  | n + 1, .ref a => match S a with
    | some (.lst xs) => (mapO (toPy S n) xs).map .list
    | _ => none
  | _ + 1, .non => some .none
  | _ + 1, .bl b => some (.bool b)
  | _ + 1, .int i => some (.int i)
  | _ + 1, .str x => some (.str x)
  | _ + 1, .ty _ => none
  | _ + 1, .glo _ => none
section
variable {g : GP} {H : Hp} {S : Sto}
theorem mapO_dp {f : D → Option PyData} (hf : ∀ d p v, f d = some p → DRel g H d v → Dp g.K H v p) : ∀ {xs : List D} {l : List PyData} {vs : List V}, mapO f xs = some l → DRels g H xs vs → DpAll g.K H vs l
  | [], l, vs, e, r => by
    cases e
    unfold DRels at r; rw [r]; exact .nil
  | x :: xs, l, vs, e, r => by
    obtain ⟨y, ys, e1, e2, rfl⟩ := mapO_cons e
    unfold DRels at r
    obtain ⟨v, q, rfl, r1, r2⟩ := r
    exact .cons (hf x y v e1 r1) (mapO_dp hf e2 r2)
theorem toPy_dp (m : Sim g H S) : ∀ (n : Nat) (d : D) (p : PyData) (v : V), toPy S n d = some p → DRel g H d v → Dp g.K H v p
  | 0, d, p, v, e, r => by cases e
  | n + 1, .tup xs, p, v, e, r => by
    unfold toPy at e
    obtain ⟨l, e1, rfl⟩ := Option.map_eq_some_iff.mp e
    unfold DRel at r
    obtain ⟨a, vs, rfl, q, r⟩ := r
    exact .tup q (mapO_dp (toPy_dp m n) e1 r)
  | n + 1, .rol xs, p, v, e, r => by
    unfold toPy at e
    obtain ⟨l, e1, rfl⟩ := Option.map_eq_some_iff.mp e
    unfold DRel at r
    obtain ⟨a, vs, rfl, q, r⟩ := r
    exact .lst q.sql (mapO_dp (toPy_dp m n) e1 r)
  | n + 1, .ref a, p, v, e, r => by
    unfold toPy at e
    unfold DRel at r
    subst r
    cases q : S a with
    | none => rw [q] at e; cases e
    | some o =>
      rw [q] at e
      cases o with
      | lst xs =>
        obtain ⟨l, e1, rfl⟩ := Option.map_eq_some_iff.mp e
        obtain ⟨vs, h1, h2⟩ := m a _ q
        exact .lst (SqL.of h1) (mapO_dp (toPy_dp m n) e1 h2)
      | ins _ _ => cases e
      | slo _ _ => cases e
      | dic _ => cases e
      | exd _ => cases e
  | n + 1, .non, p, v, e, r => by cases e; unfold DRel at r; rw [r]; exact .non
  | n + 1, .bl b, p, v, e, r => by cases e; unfold DRel at r; rw [r]; exact .bl b
  | n + 1, .int b, p, v, e, r => by cases e; unfold DRel at r; rw [r]; exact .int b
  | n + 1, .str b, p, v, e, r => by cases e; unfold DRel at r; rw [r]; exact .str b
  | n + 1, .ty _, p, v, e, r => by cases e
  | n + 1, .glo _, p, v, e, r => by cases e
theorem mapO_plain {f : D → Option PyData} {n : Nat} (hf : ∀ d p, f d = some p → p.plain = true ∧ p.depth ≤ n) : ∀ {xs : List D} {l : List PyData}, mapO f xs = some l → PyData.plainAll l = true ∧ PyData.depthAll l ≤ n
  | [], l, e => by cases e; exact ⟨rfl, by simp [PyData.depthAll]⟩
  | x :: xs, l, e => by
    obtain ⟨y, ys, e1, e2, rfl⟩ := mapO_cons e
    obtain ⟨a, b⟩ := hf x y e1
    obtain ⟨c, d⟩ := mapO_plain hf e2
    refine ⟨?_, ?_⟩
    · simp only [PyData.plainAll, a, c, Bool.and_self]
    · simp only [PyData.depthAll]; omega
theorem toPy_plain : ∀ (n : Nat) (d : D) (p : PyData), toPy S n d = some p → p.plain = true ∧ p.depth ≤ n
  | 0, d, p, e => by cases e
  | n + 1, .tup xs, p, e => by
    unfold toPy at e
    obtain ⟨l, e1, rfl⟩ := Option.map_eq_some_iff.mp e
    obtain ⟨a, b⟩ := mapO_plain (toPy_plain n) e1
    exact ⟨by simp only [PyData.plain]; exact a, by simp only [PyData.depth]; omega⟩
  | n + 1, .rol xs, p, e => by
    unfold toPy at e
    obtain ⟨l, e1, rfl⟩ := Option.map_eq_some_iff.mp e
    obtain ⟨a, b⟩ := mapO_plain (toPy_plain n) e1
    exact ⟨by simp only [PyData.plain]; exact a, by simp only [PyData.depth]; omega⟩
  | n + 1, .ref a, p, e => by
    unfold toPy at e
    cases q : S a with
    | none => rw [q] at e; cases e
    | some o =>
      rw [q] at e
      cases o with
      | lst xs =>
        obtain ⟨l, e1, rfl⟩ := Option.map_eq_some_iff.mp e
        obtain ⟨a, b⟩ := mapO_plain (toPy_plain n) e1
        exact ⟨by simp only [PyData.plain]; exact a, by simp only [PyData.depth]; omega⟩
      | ins _ _ => cases e
      | slo _ _ => cases e
      | dic _ => cases e
      | exd _ => cases e
  | n + 1, .non, p, e => by cases e; exact ⟨rfl, by simp [PyData.depth]⟩
  | n + 1, .bl b, p, e => by cases e; exact ⟨rfl, by simp [PyData.depth]⟩
  | n + 1, .int b, p, e => by cases e; exact ⟨rfl, by simp [PyData.depth]⟩
  | n + 1, .str b, p, e => by cases e; exact ⟨rfl, by simp [PyData.depth]⟩
  | n + 1, .ty _, p, e => by cases e
  | n + 1, .glo _, p, e => by cases e
end

section
variable {X : Cx} {pins : List (Addr × Obj)} {σ : VSt} {H : Hp} {s : Shared} {σD : DSt} {S : Sto} {ex : DXs} {Kt : DK} {x y : D} {xv yv : V} {v u : Value}
/-- what is wanted of the hand layer's rule -/
abbrev PQ (X : Cx) (H : Hp) (Kt : DK) : VK := fun v H' => ∃ d S', Ext X.K H H' ∧ DRel (gp X) H' d v ∧ Sim (gp X) H' S' ∧ Kt d S'
theorem go2 {f : Value → Value → Sem Value} {r0 : R2} (ho : OpR X f r0) (T : Sit X pins σ H s σD S) (rx : RelV xv v) (ry : RelV yv u) (q : r0 xv yv H (PQ X H Kt)) : wpAny (model X.prog X.w) X.A (f v u) (EQ X pins σ H Kt) X.xe s :=
  thn (ho pins s σ H xv yv v u _ T.I rx ry q) fun u s1 ⟨v, H', I', r, d, S', x, dr, m, k⟩ => ⟨v, H', d, S', I', r, x, dr, m, k⟩
theorem PQ.same {d : D} {v : V} (m : Sim (gp X) H S) (dr : DRel (gp X) H d v) (k : Kt d S) : PQ X H Kt v H := ⟨d, S, .refl, dr, m, k⟩
theorem PQ.int {i : Int} (m : Sim (gp X) H S) (k : Kt (.int i) S) : PQ X H Kt (.int i) H := ⟨.int i, S, .refl, by simp [DRel], m, k⟩
theorem PQ.bl {i : Bool} (m : Sim (gp X) H S) (k : Kt (.bl i) S) : PQ X H Kt (.bl i) H := ⟨.bl i, S, .refl, by simp [DRel], m, k⟩
theorem PQ.str {i : Str} (m : Sim (gp X) H S) (k : Kt (.str i) S) : PQ X H Kt (.str i) H := ⟨.str i, S, .refl, by simp [DRel], m, k⟩
theorem PQ.newL {ds : List D} {vs : List V} {p : Addr} (m : Sim (gp X) H S) (n : H p = none) (r : DRels (gp X) H ds vs) (k : Kt (.ref p) (sup S p (.lst ds))) : PQ X H Kt (.ref p) (L2.upd H p (.lst vs)) :=
  ⟨.ref p, _, Ext.new n, by simp [DRel], m.newL n r, k⟩
theorem PQ.newT {ds : List D} {vs : List V} {p : Addr} (m : Sim (gp X) H S) (n : H p = none) (r : DRels (gp X) H ds vs) (k : Kt (.tup ds) S) : PQ X H Kt (.ref p) (L2.upd H p (.tup vs)) :=
  ⟨.tup ds, _, Ext.new n, sit_tup n r, m.hid n, k⟩

/-- an operator of an instance's own class -/
abbrev Own := Str → D → D → Sto → DK → DX → Prop
def isIns : Option SO → Bool
  | some (.ins _ _) => true
  | some (.slo _ _) => true
  | _ => false
def ownR (ow : Own) (nm : Str) : DR2 := fun x y S K E => ∃ a, x = .ref a ∧ isIns (S a) = true ∧ ow nm x y S K E

def addD (ow : Own) : DR2 := fun x y S K E => match x, y with
  | .int i, .int j => K (.int (i + j)) S
  | .str a, .str b => a.length + b.length ≤ sizeLine ∧ K (.str (a ++ b)) S
  | .tup a, .tup b => a.length + b.length ≤ sizeLine ∧ K (.tup (a ++ b)) S
  | .ref a, y => match S a, y with
    | some (.lst xs), .ref b => (match S b with
      | some (.lst ys) => xs.length + ys.length ≤ sizeLine ∧ ∀ p, S p = none → K (.ref p) (sup S p (.lst (xs ++ ys)))
      | _ => False)
    | some (.lst _), _ => False
    | some (.ins _ _), y => ow "__add__" (.ref a) y S K E
    | some (.slo _ _), y => ow "__add__" (.ref a) y S K E
    | _, _ => False
  | _, _ => False
theorem opD_add {ow : Own} (hw : OpD X (binaryOp .Add) (ownR ow "__add__")) : OpD X (binaryOp .Add) (addD ow) := by
  intro pins s σ H σD S ex Kt x y xv yv v u tk T dx dy rx ry q
  cases x with
  | int i => cases y with
    | int j =>
      unfold DRel at dx dy
      exact go2 op_add T rx ry ⟨i, j, dx, dy, PQ.int T.m q⟩
    | _ => exact (show False from q).elim
  | str i => cases y with
    | str j =>
      unfold DRel at dx dy
      exact go2 op_add_str T rx ry ⟨i, j, dx, dy, q.1, PQ.str T.m q.2⟩
    | _ => exact (show False from q).elim
  | tup i => cases y with
    | tup j =>
      have dx0 := dx
      have dy0 := dy
      unfold DRel at dx dy
      obtain ⟨a, vs, e1, h1, r1⟩ := dx
      obtain ⟨b, us, e2, h2, r2⟩ := dy
      subst e1 e2
      have l1 := r1.length
      have l2 := r2.length
      refine go2 op_catA T rx ry ⟨a, b, vs, us, rfl, rfl, h1, h2, by rw [← l1, ← l2]; exact q.1, fun e => ?_, fun _ e => ?_, fun _ _ p hp => PQ.newT T.m hp (r1.append r2) q.2⟩
      · have : i = [] := List.length_eq_zero_iff.mp (by rw [l1, e]; rfl)
        subst this
        exact PQ.same T.m dy0 q.2
      · have : j = [] := List.length_eq_zero_iff.mp (by rw [l2, e]; rfl)
        subst this
        refine PQ.same T.m dx0 ?_
        have q2 := q.2
        rw [List.append_nil] at q2
        exact q2
    | _ => exact (show False from q).elim
  | ref a =>
    cases e : S a with
    | none => simp only [addD, e] at q
    | some o =>
      cases o with
      | lst xs =>
        cases y with
        | ref b =>
          cases e2 : S b with
          | none => simp only [addD, e, e2] at q
          | some o2 =>
            cases o2 with
            | lst ys =>
              simp only [addD, e, e2] at q
              unfold DRel at dx dy
              obtain ⟨vs, h1, r1⟩ := T.m a _ e
              obtain ⟨us, h2, r2⟩ := T.m b _ e2
              have l1 := r1.length
              have l2 := r2.length
              exact go2 op_cat T rx ry ⟨a, b, vs, us, dx, dy, h1, h2, by rw [← l1, ← l2]; exact q.1, fun p hp => PQ.newL T.m hp (r1.append r2) (q.2 p (T.m.fresh hp))⟩
            | ins _ _ => simp only [addD, e, e2] at q
            | slo _ _ => simp only [addD, e, e2] at q
            | dic _ => simp only [addD, e, e2] at q
            | exd _ => simp only [addD, e, e2] at q
        | _ => simp only [addD, e] at q
      | ins c fs => exact hw pins s σ H σD S ex Kt _ y xv yv v u tk T dx dy rx ry ⟨a, rfl, by rw [e]; rfl, by simpa only [addD, e] using q⟩
      | slo c fs => exact hw pins s σ H σD S ex Kt _ y xv yv v u tk T dx dy rx ry ⟨a, rfl, by rw [e]; rfl, by simpa only [addD, e] using q⟩
      | dic _ => simp only [addD, e] at q
      | exd _ => simp only [addD, e] at q
  | _ => exact (show False from q).elim
def intD (C : Int → Int → Prop) (f : Int → Int → D) : DR2 := fun x y S K E => match x, y with
  | .int i, .int j => C i j ∧ K (f i j) S
  | _, _ => False
theorem opD_int {f : Value → Value → Sem Value} {C C0 : Int → Int → Prop} {fd : Int → Int → D} {fv : Int → Int → V} (ho : OpR X f (rI C0 fv)) (hc : ∀ i j, C i j → C0 i j) (hf : ∀ H i j, C i j → DRel (gp X) H (fd i j) (fv i j)) : OpD X f (intD C fd) := by
  intro pins s σ H σD S ex Kt x y xv yv v u tk T dx dy rx ry q
  cases x with
  | int i => cases y with
    | int j =>
      unfold DRel at dx dy
      exact go2 ho T rx ry ⟨i, j, dx, dy, hc _ _ q.1, PQ.same T.m (hf H i j q.1) q.2⟩
    | _ => exact (show False from q).elim
  | _ => exact (show False from q).elim
theorem rI_of0 {f : Value → Value → Sem Value} {fv : Int → Int → V} (h : OpR X f (rI0 fv)) : OpR X f (rI (fun _ _ => True) fv) := fun pins s σ H x y v u Q I rx ry ⟨i, j, a, b, _, q⟩ => h pins s σ H x y v u Q I rx ry ⟨i, j, a, b, q⟩
def subD : DR2 := intD (fun _ _ => True) fun i j => .int (i - j)
theorem opD_sub : OpD X (binaryOp .Sub) subD := opD_int (rI_of0 op_sub) (fun _ _ h => h) fun _ _ _ _ => by simp [DRel]
/-- what a product asks: one factor is small, or both are not very great -/
def CMulD (i j : Int) : Prop := CMul i j ∨ CMulW i j
theorem op_mulD : OpR X (binaryOp .Mult) (rI CMulD fun i j => .int (i * j)) := fun pins s σ H x y v u Q I rx ry ⟨i, j, a, b, c, q⟩ => by
  rcases c with c | c
  · exact op_mul pins s σ H x y v u Q I rx ry ⟨i, j, a, b, c, q⟩
  · exact op_mulW pins s σ H x y v u Q I rx ry ⟨i, j, a, b, c, q⟩
def mulD : DR2 := fun x y S K E => match x, y with
  | .int i, .int j => CMulD i j ∧ K (.int (i * j)) S
  | .ref a, .int k => (match S a with
    | some (.lst xs) => (-(2 ^ 63) ≤ k ∧ k < 2 ^ 63 ∧ xs.length * k.toNat ≤ sizeLine) ∧ ∀ p, S p = none → K (.ref p) (sup S p (.lst ((List.replicate k.toNat xs).flatten)))
    | _ => False)
  | _, _ => False
theorem DRels.rep {g : GP} {H : Hp} {ds : List D} {vs : List V} (r : DRels g H ds vs) : ∀ n, DRels g H (List.replicate n ds).flatten (List.replicate n vs).flatten
  | 0 => by simp [DRels]
  | n + 1 => by
    rw [List.replicate_succ, List.replicate_succ, List.flatten_cons, List.flatten_cons]
    exact r.append (DRels.rep r n)
def divD : DR2 := intD CDivW fun i j => .int (i / j)
theorem opD_div : OpD X (binaryOp .FloorDiv) divD := opD_int op_fdivW (fun _ _ h => h) fun _ _ _ _ => by simp [DRel]
def modD : DR2 := intD (fun _ j => 0 < j) fun i j => .int (i % j)
theorem opD_mod : OpD X (binaryOp .Mod) modD := opD_int op_mod (fun _ _ h => h) fun _ _ _ _ => by simp [DRel]
def powD : DR2 := intD CPow fun i j => .int (i ^ j.toNat)
theorem opD_pow : OpD X (binaryOp .Pow) powD := opD_int op_pow (fun _ _ h => h) fun _ _ _ _ => by simp [DRel]
end
end DL

set_option Elab.async false
set_option linter.all false
set_option maxRecDepth 100000
set_option maxHeartbeats 4000000
namespace DL
open PySem PySem.Spec PyProof.Rows L2
section
variable {X : Cx} {pins : List (Addr × Obj)} {σ : VSt} {H : Hp} {s : Shared} {σD : DSt} {S : Sto} {ex : DXs} {Kt : DK} {x y : D} {xv yv : V} {v u : Value}
theorem opD_mul : OpD X (binaryOp .Mult) mulD := by
  intro pins s σ H σD S ex Kt x y xv yv v u tk T dx dy rx ry q
  cases x with
  | int i => cases y with
    | int j =>
      unfold DRel at dx dy
      exact go2 op_mulD T rx ry ⟨i, j, dx, dy, q.1, PQ.int T.m q.2⟩
    | _ => exact (show False from q).elim
  | ref a => cases y with
    | int k =>
      cases e : S a with
      | none => simp only [mulD, e] at q
      | some o => cases o with
        | lst xs =>
          simp only [mulD, e] at q
          unfold DRel at dx dy
          obtain ⟨vs, h1, r1⟩ := T.m a _ e
          have l1 := r1.length
          exact go2 op_rep T rx ry ⟨a, k, vs, dx, dy, h1, q.1.1, q.1.2.1, by rw [← l1]; exact q.1.2.2, fun p hp => PQ.newL T.m hp (r1.rep _) (q.2 p (T.m.fresh hp))⟩
        | ins _ _ => simp only [mulD, e] at q
        | slo _ _ => simp only [mulD, e] at q
        | dic _ => simp only [mulD, e] at q
        | exd _ => simp only [mulD, e] at q
    | _ => exact (show False from q).elim
  | _ => exact (show False from q).elim
/-- == of two values: data, else an own __eq__ of the left one -/
def eqDn (neg : Bool) (ow : Own) : DR2 := fun x y S K E => match toPy S 64 x, toPy S 64 y with
  | some p, some q => K (.bl (neg ^^ PyData.eqv p q)) S
  | _, _ => ownR ow (if neg then "__ne__" else "__eq__") x y S K E
theorem reads_of (T : Sit X pins σ H s σD S) (dx : DRel (gp X) H x xv) (rx : RelV xv v) {p : PyData} (e : toPy S 64 x = some p) : ∃ as, Reads s.heap v p as :=
  Dp.reads T.I p xv v (toPy_dp T.m 64 x p xv e dx) rx
theorem opD_eq {ow : Own} (hu : X.A.units + 64 < cLine) (hw : OpD X (compareOp .Eq) (ownR ow "__eq__")) : OpD X (compareOp .Eq) (eqDn false ow) := by
  intro pins s σ H σD S ex Kt x y xv yv v u tk T dx dy rx ry q
  cases e1 : toPy S 64 x with
  | none => exact hw pins s σ H σD S ex Kt x y xv yv v u tk T dx dy rx ry (by simpa only [eqDn, e1, if_true, if_false, Bool.false_eq_true] using q)
  | some p => cases e2 : toPy S 64 y with
    | none => exact hw pins s σ H σD S ex Kt x y xv yv v u tk T dx dy rx ry (by simpa only [eqDn, e1, e2, if_true, if_false, Bool.false_eq_true] using q)
    | some p' =>
      obtain ⟨as, r1⟩ := reads_of T dx rx e1
      obtain ⟨bs, r2⟩ := reads_of T dy ry e2
      obtain ⟨a1, a2⟩ := toPy_plain 64 x p e1
      obtain ⟨b1, b2⟩ := toPy_plain 64 y p' e2
      simp only [eqDn, e1, e2, Bool.false_xor] at q
      exact SeqAt.eq_plain r1 r2 a1 b1 (by omega) ⟨.bl _, H, .bl _, S, T.I, rfl, .refl, by simp [DRel], T.m, q⟩
theorem opD_ne {ow : Own} (hu : X.A.units + 64 < cLine) (hw : OpD X (compareOp .NotEq) (ownR ow "__ne__")) : OpD X (compareOp .NotEq) (eqDn true ow) := by
  intro pins s σ H σD S ex Kt x y xv yv v u tk T dx dy rx ry q
  cases e1 : toPy S 64 x with
  | none => exact hw pins s σ H σD S ex Kt x y xv yv v u tk T dx dy rx ry (by simpa only [eqDn, e1, if_true, if_false, Bool.false_eq_true] using q)
  | some p => cases e2 : toPy S 64 y with
    | none => exact hw pins s σ H σD S ex Kt x y xv yv v u tk T dx dy rx ry (by simpa only [eqDn, e1, e2, if_true, if_false, Bool.false_eq_true] using q)
    | some p' =>
      obtain ⟨as, r1⟩ := reads_of T dx rx e1
      obtain ⟨bs, r2⟩ := reads_of T dy ry e2
      obtain ⟨a1, a2⟩ := toPy_plain 64 x p e1
      obtain ⟨b1, b2⟩ := toPy_plain 64 y p' e2
      simp only [eqDn, e1, e2, Bool.true_xor] at q
      exact SeqAt.ne_plain r1 r2 a1 b1 (by omega) ⟨.bl _, H, .bl _, S, T.I, rfl, .refl, by simp [DRel], T.m, q⟩
def cmpD (ci : Int → Int → Bool) (cs : Str → Str → Bool) : DR2 := fun x y S K E => match x, y with
  | .int i, .int j => K (.bl (ci i j)) S
  | .str i, .str j => K (.bl (cs i j)) S
  | _, _ => False
theorem opD_cmp {f : Value → Value → Sem Value} {ci : Int → Int → Bool} {cs : Str → Str → Bool} (hi : OpR X f (rI0 fun i j => .bl (ci i j))) (hs : OpR X f (fun x y H Q => ∃ i j, x = .str i ∧ y = .str j ∧ Q (.bl (cs i j)) H)) : OpD X f (cmpD ci cs) := by
  intro pins s σ H σD S ex Kt x y xv yv v u tk T dx dy rx ry q
  cases x with
  | int i => cases y with
    | int j =>
      unfold DRel at dx dy
      exact go2 hi T rx ry ⟨i, j, dx, dy, PQ.bl T.m q⟩
    | _ => exact (show False from q).elim
  | str i => cases y with
    | str j =>
      unfold DRel at dx dy
      exact go2 hs T rx ry ⟨i, j, dx, dy, PQ.bl T.m q⟩
    | _ => exact (show False from q).elim
  | _ => exact (show False from q).elim
def ltD : DR2 := cmpD (fun i j => decide (i < j)) fun i j => decide (i.cps.toList < j.cps.toList)
def leD : DR2 := cmpD (fun i j => decide (i ≤ j)) fun i j => !decide (j.cps.toList < i.cps.toList)
def gtD : DR2 := cmpD (fun i j => decide (j < i)) fun i j => decide (j.cps.toList < i.cps.toList)
def geD : DR2 := cmpD (fun i j => decide (j ≤ i)) fun i j => !decide (i.cps.toList < j.cps.toList)
theorem opD_lt : OpD X (compareOp .Lt) ltD := opD_cmp op_lt op_lt_str
def isN : D → Bool
  | .non => true
  | _ => false
def isD : DR2 := fun x y S K E => y = .non ∧ K (.bl (isN x)) S
def isnD : DR2 := fun x y S K E => y = .non ∧ K (.bl (!isN x)) S
theorem isN_rel {g : GP} {H : Hp} {d : D} {v : V} (h : DRel g H d v) : isN d = decide (v = .non) := by
  cases d with
  | tup xs => unfold DRel at h; obtain ⟨a, vs, e, _⟩ := h; subst e; rfl
  | rol xs => unfold DRel at h; obtain ⟨a, vs, e, _⟩ := h; subst e; rfl
  | glo xs => unfold DRel at h; obtain ⟨a, _, e⟩ := h; subst e; rfl
  | _ => unfold DRel at h; subst h; rfl
theorem opD_is : OpD X (compareOp .Is) isD := by
  intro pins s σ H σD S ex Kt x y xv yv v u tk T dx dy rx ry ⟨e, q⟩
  subst e
  have e2 := isN_rel dx
  unfold DRel at dy
  exact go2 op_isN T rx ry ⟨dy, PQ.bl T.m (by rw [← e2]; exact q)⟩
theorem opD_isn : OpD X (compareOp .IsNot) isnD := by
  intro pins s σ H σD S ex Kt x y xv yv v u tk T dx dy rx ry ⟨e, q⟩
  subst e
  have e2 := isN_rel dx
  unfold DRel at dy
  exact go2 op_notN T rx ry ⟨dy, PQ.bl T.m (by rw [← e2]; exact q)⟩
/-- the items of a list or tuple -/
def seqOf (S : Sto) : D → Option (List D)
  | .tup xs => some xs
  | .rol xs => some xs
  | .ref a => match S a with
    | some (.lst xs) => some xs
    | _ => none
  | _ => none
/-- x in y: texts, lists and tuples of data, an own __contains__ -/
def inDn (neg : Bool) (ow : Own) : DR2 := fun x y S K E => match x, y with
  | .str a, .str b => K (.bl (neg ^^ !(Builtin.Str.occurrences b a 0 b.length 1).isEmpty)) S
  | x, y => match toPy S 64 x, toPy S 64 y with
    | some p, some (.list l) => K (.bl (neg ^^ l.any fun z => PyData.eqv z p)) S
    | some p, some (.tuple l) => K (.bl (neg ^^ l.any fun z => PyData.eqv z p)) S
    | _, _ => ∃ a, y = .ref a ∧ isIns (S a) = true ∧ ow (if neg then "not in" else "__contains__") x y S K E
theorem plainL {l : List PyData} {n : Nat} (h : (PyData.list l).plain = true ∧ (PyData.list l).depth ≤ n) : PyData.plainAll l = true ∧ PyData.depthAll l ≤ n := by
  obtain ⟨a, b⟩ := h
  simp only [PyData.plain, PyData.depth] at a b
  exact ⟨a, by omega⟩
theorem plainT {l : List PyData} {n : Nat} (h : (PyData.tuple l).plain = true ∧ (PyData.tuple l).depth ≤ n) : PyData.plainAll l = true ∧ PyData.depthAll l ≤ n := by
  obtain ⟨a, b⟩ := h
  simp only [PyData.plain, PyData.depth] at a b
  exact ⟨a, by omega⟩
theorem opD_in {ow : Own} (hu : X.A.units + 65 < cLine) (hw : OpD X (compareOp .In) (fun x y S K E => ∃ a, y = .ref a ∧ isIns (S a) = true ∧ ow "__contains__" x y S K E)) : OpD X (compareOp .In) (inDn false ow) := by
  intro pins s σ H σD S ex Kt x y xv yv v u tk T dx dy rx ry q
  by_cases hs : ∃ a b, x = .str a ∧ y = .str b
  · obtain ⟨a, b, rfl, rfl⟩ := hs
    unfold DRel at dx dy
    simp only [inDn, Bool.false_xor] at q
    exact go2 op_in_str T rx ry ⟨a, b, dx, dy, PQ.bl T.m q⟩
  · have q' : (match toPy S 64 x, toPy S 64 y with
      | some p, some (.list l) => Kt (.bl (l.any fun z => PyData.eqv z p)) S
      | some p, some (.tuple l) => Kt (.bl (l.any fun z => PyData.eqv z p)) S
      | _, _ => ∃ a, y = .ref a ∧ isIns (S a) = true ∧ ow "__contains__" x y S Kt (fun c fs S => ex c fs σD S)) := by
      cases x <;> first
        | (simpa only [inDn, Bool.false_xor, if_false, Bool.false_eq_true] using q)
        | (cases y <;> first
            | (exact absurd ⟨_, _, rfl, rfl⟩ hs)
            | (simpa only [inDn, Bool.false_xor, if_false, Bool.false_eq_true] using q))
    clear q
    cases e1 : toPy S 64 x with
    | none => exact hw pins s σ H σD S ex Kt x y xv yv v u tk T dx dy rx ry (by rw [e1] at q'; exact q')
    | some p => cases e2 : toPy S 64 y with
      | none => exact hw pins s σ H σD S ex Kt x y xv yv v u tk T dx dy rx ry (by rw [e1, e2] at q'; exact q')
      | some p' =>
        rw [e1, e2] at q'
        obtain ⟨as, r1⟩ := reads_of T dx rx e1
        obtain ⟨bs, r2⟩ := reads_of T dy ry e2
        obtain ⟨a1, a2⟩ := toPy_plain 64 x p e1
        have b := toPy_plain 64 y p' e2
        cases p' with
        | list l => exact SeqAt.in_list_data r2 r1 (plainL b).1 a1 (by omega) ⟨.bl _, H, .bl _, S, T.I, rfl, .refl, by simp [DRel], T.m, q'⟩
        | tuple l => exact SeqAt.in_tuple_data r2 r1 (plainT b).1 a1 (by omega) ⟨.bl _, H, .bl _, S, T.I, rfl, .refl, by simp [DRel], T.m, q'⟩
        | _ => exact hw pins s σ H σD S ex Kt x y xv yv v u tk T dx dy rx ry q'
theorem opD_nin {ow : Own} (hu : X.A.units + 65 < cLine) (hw : OpD X (compareOp .NotIn) (fun x y S K E => ∃ a, y = .ref a ∧ isIns (S a) = true ∧ ow "not in" x y S K E)) : OpD X (compareOp .NotIn) (inDn true ow) := by
  intro pins s σ H σD S ex Kt x y xv yv v u tk T dx dy rx ry q
  by_cases hs : ∃ a b, x = .str a ∧ y = .str b
  · obtain ⟨a, b, rfl, rfl⟩ := hs
    unfold DRel at dx dy
    simp only [inDn, Bool.true_xor] at q
    exact go2 op_notin_str T rx ry ⟨a, b, dx, dy, PQ.bl T.m q⟩
  · have q' : (match toPy S 64 x, toPy S 64 y with
      | some p, some (.list l) => Kt (.bl (!(l.any fun z => PyData.eqv z p))) S
      | some p, some (.tuple l) => Kt (.bl (!(l.any fun z => PyData.eqv z p))) S
      | _, _ => ∃ a, y = .ref a ∧ isIns (S a) = true ∧ ow "not in" x y S Kt (fun c fs S => ex c fs σD S)) := by
      cases x <;> first
        | (simpa only [inDn, Bool.true_xor, if_true] using q)
        | (cases y <;> first
            | (exact absurd ⟨_, _, rfl, rfl⟩ hs)
            | (simpa only [inDn, Bool.true_xor, if_true] using q))
    clear q
    cases e1 : toPy S 64 x with
    | none => exact hw pins s σ H σD S ex Kt x y xv yv v u tk T dx dy rx ry (by rw [e1] at q'; exact q')
    | some p => cases e2 : toPy S 64 y with
      | none => exact hw pins s σ H σD S ex Kt x y xv yv v u tk T dx dy rx ry (by rw [e1, e2] at q'; exact q')
      | some p' =>
        rw [e1, e2] at q'
        obtain ⟨as, r1⟩ := reads_of T dx rx e1
        obtain ⟨bs, r2⟩ := reads_of T dy ry e2
        obtain ⟨a1, a2⟩ := toPy_plain 64 x p e1
        have b := toPy_plain 64 y p' e2
        cases p' with
        | list l => exact SeqAt.notIn_list_data r2 r1 (plainL b).1 a1 (by omega) ⟨.bl _, H, .bl _, S, T.I, rfl, .refl, by simp [DRel], T.m, q'⟩
        | tuple l => exact SeqAt.notIn_tuple_data r2 r1 (plainT b).1 a1 (by omega) ⟨.bl _, H, .bl _, S, T.I, rfl, .refl, by simp [DRel], T.m, q'⟩
        | _ => exact hw pins s σ H σD S ex Kt x y xv yv v u tk T dx dy rx ry q'

abbrev OwnT := D → Sto → (Bool → Sto → Prop) → DX → Prop
def truD (ow : OwnT) : D → Sto → (Bool → Sto → Prop) → DX → Prop := fun x S K E => match x with
  | .non => K false S
  | .bl b => K b S
  | .int i => K (i != 0) S
  | .str x => x.length ≤ sizeLine ∧ K ((x.length : Int) != 0) S
  | .tup xs => K (!xs.isEmpty) S
  | .rol xs => K (!xs.isEmpty) S
  | .ref a => match S a with
    | some (.lst xs) => K (!xs.isEmpty) S
    | some (.ins _ _) => ow (.ref a) S K E
    | some (.slo _ _) => ow (.ref a) S K E
    | _ => False
  | _ => False
def TruD (X : Cx) (r : D → Sto → (Bool → Sto → Prop) → DX → Prop) : Prop := ∀ (pins : List (Addr × Obj)) (s : Shared) (σ : VSt) (H : Hp) (σD : DSt) (S : Sto) (ex : DXs) (Kt : Bool → Sto → Prop) (x : D) (xv : V) (v : Value), Takes X (lX X H ex) → Sit X pins σ H s σD S →
  DRel (gp X) H x xv → RelV xv v → r x S Kt (fun c fs S => ex c fs σD S) → wpAny (model X.prog X.w) X.A (truthy v) (TQ X pins σ H Kt) X.xe s
theorem goT {Kt : Bool → Sto → Prop} (T : Sit X pins σ H s σD S) (rx : RelV xv v) {k : Bool} (h : TruV X.K xv H k) (q : Kt k S) : wpAny (model X.prog X.w) X.A (truthy v) (TQ X pins σ H Kt) X.xe s :=
  thn (tru_ok pins s σ H xv v (fun c H' => c = k ∧ H' = H) T.I rx ⟨k, h, rfl, rfl⟩) fun c s1 ⟨H', I', e1, e2⟩ => by
    subst e1 e2
    exact ⟨H', S, I', .refl, T.m, q⟩
theorem isEmptyD {g : GP} {H : Hp} {ds : List D} {vs : List V} (r : DRels g H ds vs) : (!ds.isEmpty) = !vs.isEmpty := by
  have l := r.length
  cases ds with
  | nil => cases vs with
    | nil => rfl
    | cons _ _ => cases l
  | cons _ _ => cases vs with
    | nil => cases l
    | cons _ _ => rfl
theorem truD_ok {ow : OwnT} (hw : TruD X (fun x S K E => ∃ a, x = .ref a ∧ isIns (S a) = true ∧ ow x S K E)) : TruD X (truD ow) := by
  intro pins s σ H σD S ex Kt x xv v tk T dx rx q
  cases x with
  | non => unfold DRel at dx; subst dx; exact goT T rx rfl q
  | bl b => unfold DRel at dx; subst dx; exact goT T rx rfl q
  | int b => unfold DRel at dx; subst dx; exact goT T rx rfl q
  | str b => unfold DRel at dx; subst dx; exact goT T rx ⟨q.1, rfl⟩ q.2
  | tup xs =>
    unfold DRel at dx
    obtain ⟨a, vs, e, h, r⟩ := dx
    subst e
    exact goT T rx (.inr (.inl ⟨vs, h, isEmptyD r⟩)) q
  | rol xs =>
    unfold DRel at dx
    obtain ⟨a, vs, e, h, r⟩ := dx
    subst e
    exact goT T rx (.inl ⟨vs, h.sql, isEmptyD r⟩) q
  | ref a =>
    cases e : S a with
    | none => simp only [truD, e] at q
    | some o => cases o with
      | lst xs =>
        simp only [truD, e] at q
        unfold DRel at dx
        subst dx
        obtain ⟨vs, h1, r1⟩ := T.m a _ e
        exact goT T rx (.inl ⟨vs, SqL.of h1, isEmptyD r1⟩) q
      | ins _ _ => exact hw pins s σ H σD S ex Kt _ xv v tk T dx rx ⟨a, rfl, by rw [e]; rfl, by simpa only [truD, e] using q⟩
      | slo _ _ => exact hw pins s σ H σD S ex Kt _ xv v tk T dx rx ⟨a, rfl, by rw [e]; rfl, by simpa only [truD, e] using q⟩
      | dic _ => simp only [truD, e] at q
      | exd _ => simp only [truD, e] at q
  | _ => exact (show False from q).elim

variable {a b e : Expr} {ta tb te : DE} {rest : List Expr} {pos : Pos} {r : D → Sto → (Bool → Sto → Prop) → DX → Prop}
def dOr (r : D → Sto → (Bool → Sto → Prop) → DX → Prop) (ta tb : DE) : DE := fun σ S K E => ta σ S (fun x S1 => r x S1 (fun k S2 => if k = true then K x S2 else tb σ S2 K E) E) E
def dAnd (r : D → Sto → (Bool → Sto → Prop) → DX → Prop) (ta tb : DE) : DE := fun σ S K E => ta σ S (fun x S1 => r x S1 (fun k S2 => if k = true then tb σ S2 K E else K x S2) E) E
def dNot (r : D → Sto → (Bool → Sto → Prop) → DX → Prop) (ta : DE) : DE := fun σ S K E => ta σ S (fun x S1 => r x S1 (fun k S2 => K (.bl (!k)) S2) E) E
theorem qe_one {op : BoolOp} (h : QE X a ta) : QE X (.BoolOp op [a] pos) ta := fun pins s σ H σD S ex Kt tk T q => BoolOp_one (h pins s σ H σD S ex Kt tk T q)
theorem qe_or (hr : TruD X r) (ha : QE X a ta) (hb : QE X (.BoolOp .Or (b :: rest) pos) tb) : QE X (.BoolOp .Or (a :: b :: rest) pos) (dOr r ta tb) := fun pins s σ H σD S ex Kt tk T h => by
  refine BoolOp_or (thn (ha pins s σ H σD S ex _ tk T h) fun v s1 ⟨xv, H1, x, S1, I1, r1, x1, d1, m1, q1⟩ => ?_)
  refine thn (hr pins s1 σ H1 σD S1 ex _ x xv v (tk.up x1) (T.on I1 x1 m1) d1 r1 q1) fun k s2 ⟨H2, S2, I2, x2, m2, q2⟩ => ?_
  cases k with
  | true => exact ⟨xv, H2, x, S2, I2, r1, x1.trans x2, DRel.ext x2 _ d1, m2, by simpa using q2⟩
  | false => exact thn (hb pins s2 σ H2 σD S2 ex Kt (tk.up (x1.trans x2)) (T.on I2 (x1.trans x2) m2) (by simpa using q2)) fun _ _ z => z.up (x1.trans x2)
theorem qe_and (hr : TruD X r) (ha : QE X a ta) (hb : QE X (.BoolOp .And (b :: rest) pos) tb) : QE X (.BoolOp .And (a :: b :: rest) pos) (dAnd r ta tb) := fun pins s σ H σD S ex Kt tk T h => by
  refine BoolOp_and (thn (ha pins s σ H σD S ex _ tk T h) fun v s1 ⟨xv, H1, x, S1, I1, r1, x1, d1, m1, q1⟩ => ?_)
  refine thn (hr pins s1 σ H1 σD S1 ex _ x xv v (tk.up x1) (T.on I1 x1 m1) d1 r1 q1) fun k s2 ⟨H2, S2, I2, x2, m2, q2⟩ => ?_
  cases k with
  | false => exact ⟨xv, H2, x, S2, I2, r1, x1.trans x2, DRel.ext x2 _ d1, m2, by simpa using q2⟩
  | true => exact thn (hb pins s2 σ H2 σD S2 ex Kt (tk.up (x1.trans x2)) (T.on I2 (x1.trans x2) m2) (by simpa using q2)) fun _ _ z => z.up (x1.trans x2)
theorem qe_not (hr : TruD X r) (ha : QE X a ta) : QE X (.UnaryOp .Not a pos) (dNot r ta) := fun pins s σ H σD S ex Kt tk T h => by
  refine UnaryOp_ (thn (ha pins s σ H σD S ex _ tk T h) fun v s1 ⟨xv, H1, x, S1, I1, r1, x1, d1, m1, q1⟩ => ?_)
  refine not_of (thn (hr pins s1 σ H1 σD S1 ex _ x xv v (tk.up x1) (T.on I1 x1 m1) d1 r1 q1) fun k s2 ⟨H2, S2, I2, x2, m2, q2⟩ => ?_)
  exact ⟨.bl (!k), H2, .bl (!k), S2, I2, rfl, x1.trans x2, by simp [DRel], m2, q2⟩
def dNeg (ta : DE) : DE := fun σ S K E => ta σ S (fun x S1 => match x with
  | .int i => K (.int (-i)) S1
  | _ => False) E
theorem qe_neg (ha : QE X a ta) : QE X (.UnaryOp .USub a pos) (dNeg ta) := fun pins s σ H σD S ex Kt tk T h => by
  refine UnaryOp_ (thn (ha pins s σ H σD S ex _ tk T h) fun v s1 ⟨xv, H1, x, S1, I1, r1, x1, d1, m1, q1⟩ => ?_)
  cases x with
  | int i =>
    unfold DRel at d1
    subst d1
    refine thn (un_neg pins s1 σ H1 _ v (fun z H' => z = .int (-i) ∧ H' = H1) I1 r1 ⟨i, rfl, rfl, rfl⟩) fun u s2 ⟨z, H2, I2, r2, e1, e2⟩ => ?_
    subst e1 e2
    exact ⟨.int (-i), H2, .int (-i), S1, I2, r2, x1, by simp [DRel], m1, q1⟩
  | _ => exact (show False from q1).elim
def dIf (t : DT) (ta tb : DE) : DE := fun σ S K E => t σ S (fun c S1 => if c = true then ta σ S1 K E else tb σ S1 K E) E
theorem qe_if {c : Expr} {t : DT} (hc : QT X c t) (ha : QE X a ta) (hb : QE X b tb) : QE X (.IfExp c a b pos) (dIf t ta tb) := fun pins s σ H σD S ex Kt tk T h => by
  refine wpAny_IfExp (thn (hc pins s σ H σD S ex _ tk T h) fun d s1 ⟨H1, S1, I1, x1, m1, q1⟩ => ?_)
  cases d with
  | true => exact thn (ha pins s1 σ H1 σD S1 ex Kt (tk.up x1) (T.on I1 x1 m1) (by simpa using q1)) fun _ _ z => z.up x1
  | false => exact thn (hb pins s1 σ H1 σD S1 ex Kt (tk.up x1) (T.on I1 x1 m1) (by simpa using q1)) fun _ _ z => z.up x1
/-- a test by its value's truth -/
def dTru (r : D → Sto → (Bool → Sto → Prop) → DX → Prop) (te : DE) : DT := fun σ S K E => te σ S (fun x S1 => r x S1 K E) E
theorem qt_tru (hr : TruD X r) (h : QE X e te) (he : ∀ whole, isTrue e X.env whole = (do let v ← whole; standAt e.pos; holding [v] (truthy v))) : QT X e (dTru r te) := fun pins s σ H σD S ex Kt tk T q => by
  refine isTrue_plain (thn (h pins s σ H σD S ex _ tk T q) fun v s1 ⟨xv, H1, x, S1, I1, r1, x1, d1, m1, q1⟩ => ?_) (he _)
  exact thn (hr pins s1 σ H1 σD S1 ex Kt x xv v (tk.up x1) (T.on I1 x1 m1) d1 r1 q1) fun _ _ z => z.up x1
def dtAnd (t u : DT) : DT := fun σ S K E => t σ S (fun c S1 => if c = true then u σ S1 K E else K false S1) E
def dtOr (t u : DT) : DT := fun σ S K E => t σ S (fun c S1 => if c = true then K true S1 else u σ S1 K E) E
def dtNot (t : DT) : DT := fun σ S K E => t σ S (fun c S1 => K (!c) S1) E
variable {t t' : DT}
theorem qw_and1 (ha : QT X a t) : QW X (.BoolOp .And [a] pos) t := fun wh pins s σ H σD S ex Kt tk T h => by
  refine isTrue_and (thn (ha pins s σ H σD S ex Kt tk T h) fun c s1 e => ?_)
  cases c with
  | true => exact isTrue_and_nil e
  | false => exact e
theorem qw_or1 (ha : QT X a t) : QW X (.BoolOp .Or [a] pos) t := fun wh pins s σ H σD S ex Kt tk T h => by
  refine isTrue_or (thn (ha pins s σ H σD S ex Kt tk T h) fun c s1 e => ?_)
  cases c with
  | false => exact isTrue_or_nil e
  | true => exact e
theorem qw_and (ha : QT X a t) (hb : QW X (.BoolOp .And (b :: rest) pos) t') : QW X (.BoolOp .And (a :: b :: rest) pos) (dtAnd t t') := fun wh pins s σ H σD S ex Kt tk T h => by
  refine isTrue_and (thn (ha pins s σ H σD S ex _ tk T h) fun c s1 ⟨H1, S1, I1, x1, m1, q1⟩ => ?_)
  cases c with
  | true => exact thn (hb wh pins s1 σ H1 σD S1 ex Kt (tk.up x1) (T.on I1 x1 m1) (by simpa using q1)) fun _ _ z => z.up x1
  | false => exact ⟨H1, S1, I1, x1, m1, by simpa using q1⟩
theorem qw_or (ha : QT X a t) (hb : QW X (.BoolOp .Or (b :: rest) pos) t') : QW X (.BoolOp .Or (a :: b :: rest) pos) (dtOr t t') := fun wh pins s σ H σD S ex Kt tk T h => by
  refine isTrue_or (thn (ha pins s σ H σD S ex _ tk T h) fun c s1 ⟨H1, S1, I1, x1, m1, q1⟩ => ?_)
  cases c with
  | false => exact thn (hb wh pins s1 σ H1 σD S1 ex Kt (tk.up x1) (T.on I1 x1 m1) (by simpa using q1)) fun _ _ z => z.up x1
  | true => exact ⟨H1, S1, I1, x1, m1, by simpa using q1⟩
theorem qt_not (ha : QT X a t) : QT X (.UnaryOp .Not a pos) (dtNot t) := fun pins s σ H σD S ex Kt tk T h =>
  isTrue_not (ha pins s σ H σD S ex (fun c S1 => Kt (!c) S1) tk T h)
/-- a if t else b, as a test -/
def dtIf (t u w : DT) : DT := fun σ S K E => t σ S (fun c S1 => if c = true then u σ S1 K E else w σ S1 K E) E

def ixD2 (ow : Own) : DR2 := fun x y S K E => match seqOf S x, y with
  | some xs, .int i => ∃ d, atI xs i = some d ∧ K d S
  | _, y => ownR ow "__getitem__" x y S K E
def ixD (ow : Own) : DR2 := fun x y S K E => match x, y with
  | .str z, .int i => z.length ≤ sizeLine ∧ ∃ c, atI z.cps.toList i = some c ∧ K (.str ⟨#[c]⟩) S
  | x, y => ixD2 ow x y S K E
theorem atI_rel {g : GP} {H : Hp} {ds : List D} {vs : List V} {i : Int} {d : D} (r : DRels g H ds vs) (h : atI ds i = some d) : ∃ v, atI vs i = some v ∧ DRel g H d v := by
  unfold atI at h ⊢
  rw [← r.length]
  cases e : ixN ds.length i with
  | none => rw [e] at h; cases h
  | some j =>
    rw [e] at h
    exact r.get h
theorem seqOf_rel (m : Sim (gp X) H S) (dx : DRel (gp X) H x xv) {xs : List D} (e : seqOf S x = some xs) : ∃ a vs, xv = .ref a ∧ (SqL X.K H a vs ∨ SqT X.K H a vs) ∧ DRels (gp X) H xs vs := by
  cases x with
  | tup ys =>
    cases e
    unfold DRel at dx
    obtain ⟨a, vs, e, h, r⟩ := dx
    exact ⟨a, vs, e, .inr h, r⟩
  | rol ys =>
    cases e
    unfold DRel at dx
    obtain ⟨a, vs, e, h, r⟩ := dx
    exact ⟨a, vs, e, .inl h.sql, r⟩
  | ref a =>
    cases q : S a with
    | none => simp only [seqOf, q] at e; cases e
    | some o => cases o with
      | lst ys =>
        simp only [seqOf, q] at e
        cases e
        obtain ⟨vs, h1, r1⟩ := m a _ q
        unfold DRel at dx
        exact ⟨a, vs, dx, .inl (SqL.of h1), r1⟩
      | ins _ _ => simp only [seqOf, q] at e; cases e
      | slo _ _ => simp only [seqOf, q] at e; cases e
      | dic _ => simp only [seqOf, q] at e; cases e
      | exd _ => simp only [seqOf, q] at e; cases e
  | _ => cases e
def IxD (X : Cx) (r : DR2) : Prop := ∀ (value slice : Expr) (pins : List (Addr × Obj)) (s : Shared) (σ : VSt) (H : Hp) (σD : DSt) (S : Sto) (ex : DXs) (Kt : DK) (x y : D) (xv yv : V) (v u : Value), Takes X (lX X H ex) → Sit X pins σ H s σD S →
  DRel (gp X) H x xv → DRel (gp X) H y yv → RelV xv v → RelV yv u → r x y S Kt (fun c fs S => ex c fs σD S) → subscripted slice false v u = operate [v, u] (getItem v u) → wpAny (model X.prog X.w) X.A (subscriptTail value slice v u) (EQ X pins σ H Kt) X.xe s
theorem goI {r0 : R2} {value slice : Expr} (ho : IxR X r0) (T : Sit X pins σ H s σD S) (rx : RelV xv v) (ry : RelV yv u) (hs : subscripted slice false v u = operate [v, u] (getItem v u)) (q : r0 xv yv H (PQ X H Kt)) : wpAny (model X.prog X.w) X.A (subscriptTail value slice v u) (EQ X pins σ H Kt) X.xe s :=
  thn (ho value slice pins s σ H xv yv v u _ T.I rx ry q hs) fun u s1 ⟨v, H', I', r, d, S', x, dr, m, k⟩ => ⟨v, H', d, S', I', r, x, dr, m, k⟩
theorem ixD_ok {ow : Own} (hw : IxD X (ownR ow "__getitem__")) : IxD X (ixD ow) := by
  intro value slice pins s σ H σD S ex Kt x y xv yv v u tk T dx dy rx ry q hs
  by_cases hz : ∃ z i, x = .str z ∧ y = .int i
  · obtain ⟨z, i, rfl, rfl⟩ := hz
    unfold DRel at dx dy
    obtain ⟨h1, c, h2, h3⟩ := q
    exact goI ix_str T rx ry hs ⟨z, i, c, dx, dy, h1, h2, PQ.str T.m h3⟩
  · have q' : ixD2 ow x y S Kt (fun c fs S => ex c fs σD S) := by
      cases x <;> first
        | exact q
        | (cases y <;> first
            | (exact absurd ⟨_, _, rfl, rfl⟩ hz)
            | exact q)
    clear q
    cases e : seqOf S x with
    | none => exact hw value slice pins s σ H σD S ex Kt x y xv yv v u tk T dx dy rx ry (by simp only [ixD2, e] at q'; exact q') hs
    | some xs => cases y with
      | int i =>
        simp only [ixD2, e] at q'
        obtain ⟨d, h1, h2⟩ := q'
        obtain ⟨a, vs, e1, h, r⟩ := seqOf_rel T.m dx e
        subst e1
        unfold DRel at dy
        obtain ⟨w, h3, h4⟩ := atI_rel r h1
        rcases h with h | h
        · exact goI ix_list T rx ry hs ⟨a, vs, i, w, rfl, dy, h, h3, PQ.same T.m h4 h2⟩
        · exact goI ix_tup T rx ry hs ⟨a, vs, i, w, rfl, dy, h, h3, PQ.same T.m h4 h2⟩
      | _ => exact hw value slice pins s σ H σD S ex Kt x _ xv yv v u tk T dx dy rx ry (by simp only [ixD2, e] at q'; exact q') hs
theorem qe_ix {r : DR2} (hr : IxD X r) (ha : QE X a ta) (hb : QE X b tb) (hs : PlainIx b) : QE X (.Subscript a b pos) (dOp r ta tb) := fun pins s σ H σD S ex Kt tk T h =>
  Subscript_ (dbin ha hb tk T h fun v u s2 xv yv x y H2 S2 T2 x2 r1 r2 d1 d2 q => thn (hr a b pins s2 σ H2 σD S2 ex Kt x y xv yv v u (tk.up x2) T2 d1 d2 r1 r2 q (hs _ _)) fun _ _ z => z.up x2)
end
end DL

set_option Elab.async false
set_option linter.all false
set_option maxRecDepth 100000
set_option maxHeartbeats 4000000
namespace DL
open PySem PySem.Spec PyProof.Rows L2
section
variable {prog : Program} {w : World} {A : Around} {E : Value → Shared → Prop} {s : Shared}
theorem draw_lst {it l : Addr} {items : Array Value} (hne : l ≠ it) : ∀ (n i : Nat) (s : Shared) (Q : List Value → Shared → Prop), s.heap.IsListIter it l i → s.heap.IsList l items → i + n ≤ items.size →
    (∀ h', h'.IsListIter it l (i + n) → Heap.SameBut it s.heap h' → Q ((items.toList.drop i).take n) { s with heap := h' }) → wpAny (model prog w) A (draw (.ref it) n) Q E s
  | 0, i, s, Q, hit, _, _, hQ => by
    show wpAny _ _ (pure []) Q E s
    exact wpAny_pure (by simpa using hQ s.heap hit (Heap.SameBut.refl ..))
  | n + 1, i, s, Q, hit, hl, hle, hQ => by
    have lt : i < items.size := by omega
    show wpAny _ _ (pyNext (.ref it) >>= _) Q E s
    refine wpAny_bind (wpAny_pyNext_list_item hit hl (x := items[i]) (by simp [lt]) fun g1 it1 s1 => ?_)
    refine wpAny_bind (wpAny_holding (draw_lst hne n (i + 1) _ _ it1 (hl.extBut s1.extBut hne) (by omega) fun g2 it2 s2 => wpAny_pure ?_))
    have e1 : items.toList.drop i = items[i] :: items.toList.drop (i + 1) := by
      rw [List.drop_eq_getElem_cons (by simpa using lt)]; simp
    have q := hQ g2 (by rw [show i + (n + 1) = i + 1 + n by omega]; exact it2) (s1.trans s2)
    rw [e1, List.take_succ_cons] at q
    exact q
theorem unpack_items_lst {l : Addr} {items : Array Value} {Q : List Value → Shared → Prop} (hh : A.handled = none) (hl : s.heap.IsList l items)
    (hQ : ∀ h', Heap.ExtBut s.heap.objs.size s.heap h' → Q items.toList { s with heap := h' }) : wpAny (model prog w) A (unpackItems (.ref l) items.size none) Q E s := by
  have lt : l ≠ s.heap.objs.size := by obtain ⟨o, ho, _⟩ := hl; exact Nat.ne_of_lt (Heap.lt_size ho)
  unfold unpackItems
  refine wpAny_bind ?_
  · unfold notIterableAtAll
    refine wpAny_bind (wpAny_specialOf hl.typeIs slot_list_iter.lookup ?_)
    refine wpAny_pure ?_
    simp only [Bool.false_eq_true, if_false]
    refine wpAny_bind (wpAny_holding (wpAny_pyIter_list hl ?_))
    refine wpAny_bind (wpAny_holding (draw_lst lt items.size 0 _ _ ⟨_, Heap.get?_push_size _ rfl, rfl, rfl⟩ (hl.push _) (by omega) fun g1 it1 s1 => ?_))
    have e1 : List.take items.size (List.drop 0 items.toList) = items.toList := by
      rw [List.drop_zero, List.take_of_length_le]; simp
    rw [e1, if_neg (by simp)]
    have l1 : Heap.IsList g1 l items := (hl.push _).extBut s1.extBut lt
    refine wpAny_bind (wpAny_holding (wpAny_pyNext_list_end hh it1 l1 (by simp) fun g2 x2 => ?_))
    simp only [Option.isSome_none, Bool.false_eq_true, if_false]
    refine wpAny_pure (hQ g2 fun b o hb e => x2 b o hb (s1.extBut b o hb (Heap.get?_push_of_some _ e)))
theorem assign_tup_lst {env : Env} {elts : List Expr} {x1} {pos : Pos} {l : Addr} {items : Array Value} {Q : Unit → Shared → Prop} (hh : A.handled = none) (hl : s.heap.IsList l items)
    (hn : (assignEach elts env).length = items.size) (hstar : (assignEach elts env).findIdx? (·.1) = none)
    (h : ∀ h', Heap.ExtBut s.heap.objs.size s.heap h' → wpAny (model prog w) A (assignInOrder ((assignEach elts env).map (·.2)) items.toList) Q E { s with heap := h' }) :
    wpAny (model prog w) A (assign (.Tuple elts x1 pos) env (.ref l)) Q E s := by
  rw [assign_Tuple]
  refine wpAny_bind (wpAny_standAt ?_)
  unfold unpack
  rw [hn, hstar]
  exact wpAny_bind (wpAny_holding (unpack_items_lst hh hl h))
/-- o.f = v, as a target -/
theorem assign_att {env : Env} {o : Expr} {f : Str} {pos : Pos} {v : Value} {Q : Unit → Shared → Prop}
    (h : wpAny (model prog w) A (eval o env) (fun ov s2 => wpAny (model prog w) A (setAttr ov f v) (fun _ => Q ()) E s2) E s) : wpAny (model prog w) A (assign (.Attribute o f pos) env v) Q E s := fun Γ p hΓ => by
  simp only [assign_Attribute, Sem.wp_bind', Sem.wp_holding, Sem.wp_cmd_standAt, Sem.wp_release, Sem.wp_pure']
  exact Sem.wp_mono _ Γ _ (fun ov _ s2 h2 => h2 Γ _ hΓ) (fun _ _ _ h' => h') _ _ (h Γ _ hΓ)
end
end DL

set_option Elab.async false
set_option linter.all false
set_option maxRecDepth 100000
set_option maxHeartbeats 4000000
namespace DL
open PySem PySem.Spec PyProof.Rows L2

/-- what is wanted behind a statement -/
structure DKs where
  nx : DSt → Sto → Prop
  rt : DK
  bk : DSt → Sto → Prop
  ct : DSt → Sto → Prop
  ex : DXs
abbrev DS := DKs → DSt → Sto → Prop
def GQ (X : Cx) (pins : List (Addr × Obj)) (H₀ : Hp) (P : DSt → Sto → Prop) (s' : Shared) : Prop := ∃ σ' H' σD' S', Sit X pins σ' H' s' σD' S' ∧ Ext X.K H₀ H' ∧ P σD' S'
def SQ (X : Cx) (pins : List (Addr × Obj)) (H₀ : Hp) (D : DKs) (f : Flow) (s' : Shared) : Prop :=
  match f with
  | .next => GQ X pins H₀ D.nx s'
  | .brk => GQ X pins H₀ D.bk s'
  | .cont => GQ X pins H₀ D.ct s'
  | .ret u => ∃ v σ' H' d S', Inv X pins σ' H' s' ∧ RelV v u ∧ Ext X.K H₀ H' ∧ DRel (gp X) H' d v ∧ Sim (gp X) H' S' ∧ D.rt d S'
def QS (X : Cx) (st : Stmt) (t : DS) : Prop := ∀ (pins : List (Addr × Obj)) (s : Shared) (σ : VSt) (H : Hp) (σD : DSt) (S : Sto) (D : DKs), Takes X (lX X H D.ex) → Sit X pins σ H s σD S → t D σD S → wpAny (model X.prog X.w) X.A (exec st X.env) (SQ X pins H D) X.xe s
def QSs (X : Cx) (st : List Stmt) (t : DS) : Prop := ∀ (pins : List (Addr × Obj)) (s : Shared) (σ : VSt) (H : Hp) (σD : DSt) (S : Sto) (D : DKs), Takes X (lX X H D.ex) → Sit X pins σ H s σD S → t D σD S → wpAny (model X.prog X.w) X.A (execs st X.env) (SQ X pins H D) X.xe s
section
variable {X : Cx} {pins : List (Addr × Obj)} {σ : VSt} {H H1 : Hp} {s : Shared} {σD : DSt} {S : Sto} {D : DKs}
theorem GQ.up {P : DSt → Sto → Prop} {s' : Shared} (x : Ext X.K H H1) (h : GQ X pins H1 P s') : GQ X pins H P s' := let ⟨σ', H', σD', S', T, x', p⟩ := h; ⟨σ', H', σD', S', T, x.trans x', p⟩
theorem SQ.up {f : Flow} {s' : Shared} (x : Ext X.K H H1) (h : SQ X pins H1 D f s') : SQ X pins H D f s' := by
  cases f with
  | next => exact GQ.up x h
  | brk => exact GQ.up x h
  | cont => exact GQ.up x h
  | ret u => obtain ⟨v, σ', H', d, S', I, r, x', dr, m, k⟩ := h; exact ⟨v, σ', H', d, S', I, r, x.trans x', dr, m, k⟩
/-- the wish about exceptions of an expression within a statement -/
abbrev eX (D : DKs) (σ : DSt) : DX := fun c fs S => D.ex c fs σ S
end
section
variable {X : Cx} {st : Stmt} {rest : List Stmt} {t u : DS} {e : Expr} {te : DE} {pos : Pos}
def sNext : DS := fun D σ S => D.nx σ S
def sSeq (t u : DS) : DS := fun D σ S => t { D with nx := u D } σ S
theorem qss_nil : QSs X [] sNext := fun pins s σ H σD S D tk T h => wpAny_execs_nil ⟨σ, H, σD, S, T, .refl, h⟩
theorem qss_cons (h1 : QS X st t) (h2 : QSs X rest u) : QSs X (st :: rest) (sSeq t u) := fun pins s σ H σD S D tk T h => by
  refine wpAny_execs_cons (thn (h1 pins s σ H σD S { D with nx := u D } tk T h) fun f s1 q => ?_)
  cases f with
  | next =>
    obtain ⟨σ', H', σD', S', T', x', q⟩ := q
    exact thn (h2 pins s1 σ' H' σD' S' D (tk.up x') T' q) fun _ _ z => z.up x'
  | ret v => exact q
  | brk => exact q
  | cont => exact q
def sBreak : DS := fun D σ S => D.bk σ S
def sCont : DS := fun D σ S => D.ct σ S
theorem qs_pass : QS X (.Pass pos) sNext := fun pins s σ H σD S D tk T h => wpAny_Pass ⟨σ, H, σD, S, T, .refl, h⟩
theorem qs_break : QS X (.Break pos) sBreak := fun pins s σ H σD S D tk T h => wpAny_Break ⟨σ, H, σD, S, T, .refl, h⟩
theorem qs_continue : QS X (.Continue pos) sCont := fun pins s σ H σD S D tk T h => wpAny_Continue ⟨σ, H, σD, S, T, .refl, h⟩
def sExpr (te : DE) : DS := fun D σ S => te σ S (fun _ S1 => D.nx σ S1) (eX D σ)
theorem qs_expr (he : QE X e te) (hs : swapsWith e none pos.line X.env = pure false) : QS X (.Expr e pos) (sExpr te) := fun pins s σ H σD S D tk T h =>
  wpAny_Expr_any (thn (he pins s σ H σD S D.ex _ tk T h) fun v s1 ⟨xv, H1, x, S1, I1, r1, x1, d1, m1, q1⟩ => ⟨σ, H1, σD, S1, T.on I1 x1 m1, x1, q1⟩) T.I.quiet hs
def sRet (te : DE) : DS := fun D σ S => te σ S D.rt (eX D σ)
theorem qs_ret (he : QE X e te) : QS X (.Return (some e) pos) (sRet te) := fun pins s σ H σD S D tk T h =>
  wpAny_Return_some (thn (he pins s σ H σD S D.ex _ tk T h) fun v s1 ⟨xv, H1, x, S1, I1, r1, x1, d1, m1, q1⟩ => ⟨xv, σ, H1, x, S1, I1, r1, x1, d1, m1, q1⟩)
def sRetN : DS := fun D σ S => D.rt .non S
theorem qs_retN : QS X (.Return none pos) sRetN := fun pins s σ H σD S D tk T h => wpAny_Return_none ⟨.non, σ, H, .non, S, T.I, rfl, .refl, by simp [DRel], T.m, h⟩
def sIf (c : DT) (t u : DS) : DS := fun D σ S => c σ S (fun b S1 => if b = true then t D σ S1 else u D σ S1) (eX D σ)
theorem qs_if {c : Expr} {a b : List Stmt} {tc : DT} (hc : QT X c tc) (ha : QSs X a t) (hb : QSs X b u) : QS X (.If c a b pos) (sIf tc t u) := fun pins s σ H σD S D tk T h => by
  refine wpAny_If (thn (hc pins s σ H σD S D.ex _ tk T h) fun d s1 ⟨H1, S1, I1, x1, m1, q1⟩ => ?_)
  cases d with
  | true => exact thn (ha pins s1 σ H1 σD S1 D (tk.up x1) (T.on I1 x1 m1) (by simpa using q1)) fun _ _ z => z.up x1
  | false => exact thn (hb pins s1 σ H1 σD S1 D (tk.up x1) (T.on I1 x1 m1) (by simpa using q1)) fun _ _ z => z.up x1
end

abbrev DG := D → DSt → Sto → (DSt → Sto → Prop) → Prop
abbrev DGs := List D → DSt → Sto → (DSt → Sto → Prop) → Prop
/-- .. a target's slots are among vs -/
def GQw (X : Cx) (pins : List (Addr × Obj)) (vs : List Nat) (σ : VSt) (H₀ : Hp) (P : DSt → Sto → Prop) (s' : Shared) : Prop := ∃ σ' H' σD' S', Sit X pins σ' H' s' σD' S' ∧ Ext X.K H₀ H' ∧ wipe σ' vs = wipe σ vs ∧ P σD' S'
def QG (X : Cx) (vs : List Nat) (target : Expr) (g : DG) : Prop := ∀ (pins : List (Addr × Obj)) (s : Shared) (σ : VSt) (H : Hp) (σD : DSt) (S : Sto) (d : D) (v : V) (u : Value) (P : DSt → Sto → Prop), Sit X pins σ H s σD S → DRel (gp X) H d v → RelV v u → g d σD S P →
  wpAny (model X.prog X.w) X.A (assign target X.env u) (fun _ s' => GQw X pins vs σ H P s') X.xe s
def QGs (X : Cx) (vs : List Nat) (ts : List Expr) (g : DGs) : Prop := ∀ (pins : List (Addr × Obj)) (s : Shared) (σ : VSt) (H : Hp) (σD : DSt) (S : Sto) (ds : List D) (ws : List V) (us : List Value) (P : DSt → Sto → Prop), Sit X pins σ H s σD S → DRels (gp X) H ds ws → Vals ws us → g ds σD S P →
  wpAny (model X.prog X.w) X.A (assignInOrder ((assignEach ts X.env).map (·.2)) us) (fun _ s' => GQw X pins vs σ H P s') X.xe s
theorem GQw.gq {X : Cx} {pins : List (Addr × Obj)} {vs : List Nat} {σ : VSt} {H H₀ : Hp} {P : DSt → Sto → Prop} {s' : Shared} (x : Ext X.K H₀ H) (h : GQw X pins vs σ H P s') : GQ X pins H₀ P s' := let ⟨σ', H', σD', S', T, x', _, p⟩ := h; ⟨σ', H', σD', S', T, x.trans x', p⟩
theorem wipe_set {σ : VSt} {i : Nat} {o : Option V} : ∀ {vs : List Nat}, i ∈ vs → wipe (σ.set i o) vs = wipe σ vs
  | [], h => by cases h
  | w :: vs, h => by
    unfold wipe
    by_cases hi : i ∈ vs
    · rw [wipe_set hi]
    · have e : i = w := by
        rcases List.mem_cons.mp h with e | e
        · exact e
        · exact absurd e hi
      subst e
      clear h
      have go : ∀ {vs : List Nat}, i ∉ vs → (wipe (σ.set i o) vs).set i none = (wipe σ vs).set i none := by
        intro vs
        induction vs with
        | nil => intro _; unfold wipe; simp
        | cons w vs ih =>
          intro hn
          simp only [List.mem_cons, not_or] at hn
          unfold wipe
          rw [List.set_comm _ _ (Ne.symm hn.1), List.set_comm _ _ (Ne.symm hn.1), ih hn.2]
      exact go hi
section
variable {X : Cx} {pos : Pos}
def gNm (i : Nat) : DG := fun d σ S P => P (σ.set i (some d)) S
theorem qg_name {i : Nat} {x : Str} (hN : X.N.Nodup) (hi : X.N[i]? = some x) (hx : Loc X.env.scope x) (hf : X.fn x = true ∨ X.env.scope.names.lookup x = some .local) {vs : List Nat} (hv : i ∈ vs) : QG X vs (.Name x pos) (gNm i) := fun pins s σ H σD S d v u P T dr r h =>
  wpAny_assign_Name (store_ok T.I hN hi hx r (fun s' I' => ⟨_, H, _, S, ⟨I', T.r.set dr, T.m⟩, .refl, wipe_set hv, h⟩) hf)
def gN : DGs := fun ds σ S P => ds = [] ∧ P σ S
def gC (g : DG) (u : DGs) : DGs := fun ds σ S P => ∃ d r, ds = d :: r ∧ g d σ S (fun σ1 S1 => u r σ1 S1 P)
theorem qgs_nil {vs : List Nat} : QGs X vs [] gN := fun pins s σ H σD S ds ws us P T dr r h => by
  obtain ⟨e, h⟩ := h
  subst e
  unfold DRels at dr
  subst dr
  cases r
  exact assignInOrder_nil ⟨σ, H, σD, S, T, .refl, rfl, h⟩
theorem qgs_cons {vs : List Nat} {e : Expr} {es : List Expr} {g : DG} {u : DGs} (h1 : QG X vs e g) (h2 : QGs X vs es u)
    (hs : (assignEach (e :: es) X.env).map (·.2) = assign e X.env :: (assignEach es X.env).map (·.2)) : QGs X vs (e :: es) (gC g u) := fun pins s σ H σD S ds ws us P T dr r h => by
  obtain ⟨d, rr, e1, h⟩ := h
  subst e1
  unfold DRels at dr
  obtain ⟨v, vr, e2, d1, d2⟩ := dr
  subst e2
  cases r with
  | cons r1 r2 =>
    rw [hs]
    refine assignInOrder_cons (thn (h1 pins s σ H σD S d v _ _ T d1 r1 h) fun _ s1 ⟨σ1, H1, σD1, S1, T1, x1, w1, q1⟩ => ?_)
    exact thn (h2 pins s1 σ1 H1 σD1 S1 rr vr _ P T1 (DRels.ext x1 _ d2) r2 q1) fun _ s2 ⟨σ2, H2, σD2, S2, T2, x2, w2, q2⟩ => ⟨σ2, H2, σD2, S2, T2, x1.trans x2, w2.trans w1, q2⟩
def gTp (n : Nat) (u : DGs) : DG := fun d σ S P => ∃ xs, seqOf S d = some xs ∧ xs.length = n ∧ u xs σ S P
theorem qg_tup {vs : List Nat} {es : List Expr} {k : Nat} {u : DGs} {n : Nat} (hc : X.calm = true) (h : QGs X vs es u)
    (hn : (assignEach es X.env).length = n) (hst : (assignEach es X.env).findIdx? (·.1) = none) : QG X vs (.Tuple es k pos) (gTp n u) := fun pins s σ H σD S d v u' P T dr r ⟨xs, e, hl, hw⟩ => by
  have tup : ∀ {a : Addr} {ws : List V}, SqT X.K H a ws → DRels (gp X) H xs ws → wpAny (model X.prog X.w) X.A (assign (.Tuple es k pos) X.env (.ref a)) (fun _ s' => GQw X pins vs σ H P s') X.xe s := fun {a ws} hq dr => by
    obtain ⟨its, rv, ht, hz⟩ := T.I.tuple hq
    have l2 := dr.length
    refine assign_Tuple_tuple (T.I.ok.hd hc) ht (by simp [hn, ← hl, l2, rv.length]) hst fun h' hx => ?_
    have I1 : Inv X pins σ H { s with heap := h' } := T.I.kept (t' := s.toks) fun b o e => hx b o (Nat.ne_of_lt (Heap.lt_size e)) e
    exact h pins _ σ H σD S xs ws _ P ⟨I1, T.r, T.m⟩ dr (by simpa using rv) hw
  have lst : ∀ {a : Addr} {ws : List V}, SqL X.K H a ws → DRels (gp X) H xs ws → wpAny (model X.prog X.w) X.A (assign (.Tuple es k pos) X.env (.ref a)) (fun _ s' => GQw X pins vs σ H P s') X.xe s := fun {a ws} hq dr => by
    obtain ⟨its, rv, p, hz⟩ := T.I.list hq
    have l2 := dr.length
    refine assign_tup_lst (T.I.ok.hd hc) p.isList (by simp [hn, ← hl, l2, rv.length]) hst fun h' hx => ?_
    have I1 : Inv X pins σ H { s with heap := h' } := T.I.kept (t' := s.toks) fun b o e => hx b o (Nat.ne_of_lt (Heap.lt_size e)) e
    exact h pins _ σ H σD S xs ws _ P ⟨I1, T.r, T.m⟩ dr (by simpa using rv) hw
  cases d with
  | tup ys =>
    cases e
    unfold DRel at dr
    obtain ⟨a, ws, rfl, hq, dr⟩ := dr
    cases r
    exact tup hq dr
  | rol ys =>
    cases e
    unfold DRel at dr
    obtain ⟨a, ws, rfl, hq, dr⟩ := dr
    cases r
    exact lst hq.sql dr
  | ref a =>
    unfold DRel at dr
    subst dr
    cases r
    cases q : S a with
    | none => simp only [seqOf, q] at e; cases e
    | some o =>
      cases o with
      | lst ys =>
        simp only [seqOf, q] at e
        cases e
        obtain ⟨ws, h1, h2⟩ := T.m a _ q
        exact lst (SqL.of h1) h2
      | _ => simp only [seqOf, q] at e; cases e
  | _ => cases e
/-- o[i] = d: a list's item; a dict's -/
abbrev DSet := D → D → D → Sto → (Sto → Prop) → Prop
def SetD (X : Cx) (t : DSet) : Prop := ∀ (pins : List (Addr × Obj)) (s : Shared) (σ : VSt) (H : Hp) (σD : DSt) (S : Sto) (o i d : D) (ov iv vv : V) (ou iu vu : Value) (P : Sto → Prop), Sit X pins σ H s σD S → DRel (gp X) H o ov → DRel (gp X) H i iv → DRel (gp X) H d vv → RelV ov ou → RelV iv iu → RelV vv vu → t o i d S P →
  wpAny (model X.prog X.w) X.A (setItem ou iu vu) (fun _ s' => ∃ H' S', Inv X pins σ H' s' ∧ Ext X.K H H' ∧ Sim (gp X) H' S' ∧ P S') X.xe s
def setD : DSet := fun o i d S P => match o, i with
  | .ref a, .int k => (match S a with
    | some (.lst xs) => ∃ j, ixN xs.length k = some j ∧ P (sup S a (.lst (xs.set j d)))
    | _ => False)
  | _, _ => False
theorem setD_ok : SetD X setD := by
  intro pins s σ H σD S o i d ov iv vv ou iu vu P T d1 d2 d3 r1 r2 r3 h
  cases o with
  | ref a => cases i with
    | int k =>
      cases e : S a with
      | none => simp only [setD, e] at h
      | some q => cases q with
        | lst xs =>
          simp only [setD, e] at h
          obtain ⟨j, hj, h⟩ := h
          unfold DRel at d1 d2
          obtain ⟨vs, h1, h2⟩ := T.m a _ e
          have l := h2.length
          refine thn (set_list pins s σ H ov iv vv ou iu vu (fun H' => H' = L2.upd H a (.lst (vs.set j vv))) T.I r1 r2 r3 ⟨a, vs, k, j, d1, d2, h1, by rw [← l]; exact hj, rfl⟩) fun _ s1 ⟨H', I', e'⟩ => ?_
          subst e'
          exact ⟨_, _, I', T.m.ext_setL e, T.m.setL e (h2.set d3 j), h⟩
        | ins _ _ => simp only [setD, e] at h
        | slo _ _ => simp only [setD, e] at h
        | dic _ => simp only [setD, e] at h
        | exd _ => simp only [setD, e] at h
    | _ => exact (show False from h).elim
  | _ => exact (show False from h).elim
/- statements that store -/
variable {tg e o i : Expr} {te to ti : DE} {g : DG} {t : DSet}
def sAsg (te : DE) (g : DG) : DS := fun D σ S => te σ S (fun x S1 => g x σ S1 D.nx) (eX D σ)
theorem qs_asg {vs : List Nat} (he : QE X e te) (hg : QG X vs tg g) (hs : swapsWithSole [tg] e pos.line X.env = pure false) (hw : swappedStores [tg] e X.env = pure none)
    (h1 : (assignEach [tg] X.env).map (·.2) = [assign tg X.env]) : QS X (.Assign [tg] e pos) (sAsg te g) := fun pins s σ H σD S D tk T h => by
  refine wpAny_Assign_stores (thn (he pins s σ H σD S D.ex _ tk T h) fun v s1 ⟨xv, H1, x, S1, I1, r1, x1, d1, m1, q1⟩ => ?_) hs hw
  rw [h1]
  exact thn (hg pins s1 σ H1 σD S1 x xv v _ (T.on I1 x1 m1) d1 r1 q1) fun _ s2 z => z.gq x1
/-- o[i] = e -/
def sSub (te to ti : DE) (t : DSet) : DS := fun D σ S => te σ S (fun x S1 => to σ S1 (fun o S2 => ti σ S2 (fun i S3 => t o i x S3 fun S4 => D.nx σ S4) (eX D σ)) (eX D σ)) (eX D σ)
theorem qs_sub (he : QE X e te) (ho : QE X o to) (hi : QE X i ti) (ht : SetD X t) {p : Pos} (hs : swapsWithSole [.Subscript o i p] e pos.line X.env = pure false) (hw : swappedStores [.Subscript o i p] e X.env = pure none)
    (h1 : (assignEach [.Subscript o i p] X.env).map (·.2) = [assign (.Subscript o i p) X.env])
    (ha : ∀ v, assign (.Subscript o i p) X.env v = (do
      let ov ← holding [v] (eval o X.env)
      let iv ← holding [v, ov] (eval i X.env)
      standAt p
      holding [v, ov, iv] (setItem ov iv v)
      release [v, ov, iv] [])) : QS X (.Assign [.Subscript o i p] e pos) (sSub te to ti t) := fun pins s σ H σD S D tk T h => by
  refine wpAny_Assign_stores (thn (he pins s σ H σD S D.ex _ tk T h) fun v s1 ⟨xv, H1, x, S1, I1, r1, x1, d1, m1, q1⟩ => ?_) hs hw
  rw [h1]
  show wpAny _ _ (assign (.Subscript o i p) X.env v) _ _ _
  rw [ha]
  refine wpAny_bind (wpAny_holding (thn (ho pins s1 σ H1 σD S1 D.ex _ (tk.up x1) (T.on I1 x1 m1) q1) fun ov s2 ⟨yv, H2, y, S2, I2, r2, x2, d2, m2, q2⟩ => ?_))
  refine wpAny_bind (wpAny_holding (thn (hi pins s2 σ H2 σD S2 D.ex _ (tk.up (x1.trans x2)) (T.on I2 (x1.trans x2) m2) q2) fun iv s3 ⟨zv, H3, z, S3, I3, r3, x3, d3, m3, q3⟩ => ?_))
  refine wpAny_bind (wpAny_standAt (wpAny_bind (wpAny_holding (thn (ht pins s3 σ H3 σD S3 y z x yv zv xv ov iv v _ (T.on I3 (x1.trans (x2.trans x3)) m3) (DRel.ext x3 _ d2) d3 (DRel.ext (x2.trans x3) _ d1) r2 r3 r1 q3) fun _ s4 ⟨H4, S4, I4, x4, m4, q4⟩ => ?_))))
  exact wpAny_release ⟨σ, H4, σD, S4, T.on I4 (x1.trans (x2.trans (x3.trans x4))) m4, x1.trans (x2.trans (x3.trans x4)), q4⟩
/-- name = e, on its own (a comprehension is another) -/
theorem qs_set {i : Nat} {x : Str} {pos' : Pos} (hN : X.N.Nodup) (hi : X.N[i]? = some x) (hx : Loc X.env.scope x) (he : QE X e te) (hs : swapsWith e (some (.Name x pos')) pos.line X.env = pure false) (hf : X.fn x = true ∨ X.env.scope.names.lookup x = some .local) :
    QS X (.Assign [.Name x pos'] e pos) (sAsg te (gNm i)) := fun pins s σ H σD S D tk T h =>
  wpAny_Assign_Name (thn (he pins s σ H σD S D.ex _ tk T h) fun v s1 ⟨xv, H1, y, S1, I1, r1, x1, d1, m1, q1⟩ =>
    store_ok I1 hN hi hx r1 (fun s2 I2 => ⟨_, H1, _, S1, ⟨I2, (T.r.ext x1).set d1, m1⟩, x1, q1⟩) hf) hs
/-- a, b = x, y -/
def sPar (i j : Nat) (ta : DA) : DS := fun D σ S => ta σ S (fun vs S1 => ∃ v w, vs = [v, w] ∧ D.nx ((σ.set i (some v)).set j (some w)) S1) (eX D σ)
theorem qs_par {i j : Nat} {x y : Str} {a b : Expr} {ta : DA} {px py pt : Pos} {kt k2 : Nat} {pt2 : Pos} (hc : X.calm = true) (hN : X.N.Nodup) (hi : X.N[i]? = some x) (hj : X.N[j]? = some y) (hij : i ≠ j)
    (hx : X.env.scope.names.lookup x = some .local) (hy : X.env.scope.names.lookup y = some .local) (ha : QA X [a, b] ta)
    (hw : swappedStores [.Tuple [.Name x px, .Name y py] kt pt] (.Tuple [a, b] k2 pt2) X.env = pure (some [x, y]))
    (hs : swapsWithSole [.Tuple [.Name x px, .Name y py] kt pt] (.Tuple [a, b] k2 pt2) pos.line X.env = pure false) :
    QS X (.Assign [.Tuple [.Name x px, .Name y py] kt pt] (.Tuple [a, b] k2 pt2) pos) (sPar i j ta) := fun pins s σ H σD S D tk T h => by
  rw [exec_Assign_arm]
  refine wpAny_bind (wpAny_standAt ?_)
  rw [hs]
  refine wpAny_bind (wpAny_pure ?_)
  rw [if_neg (by decide)]
  refine wpAny_bind (Tuple_ (thn (ha _ pins s σ H σD S D.ex _ tk T h) fun us s1 ⟨vs, H1, ds, S1, I1, r1, x1, d1, m1, q1⟩ => ?_))
  obtain ⟨v, w, e1, q1⟩ := q1
  subst e1
  unfold DRels at d1
  obtain ⟨vv, r', e2, dv, d1⟩ := d1
  unfold DRels at d1
  obtain ⟨wv, r'', e3, dw, d1⟩ := d1
  unfold DRels at d1
  subst d1 e3 e2
  obtain ⟨u1, u2, rfl, rv, rw'⟩ : ∃ u1 u2, us = [u1, u2] ∧ RelV vv u1 ∧ RelV wv u2 := by
    cases r1 with
    | cons p q =>
      cases q with
      | cons p' q' =>
        cases q'
        exact ⟨_, _, rfl, p, p'⟩
  refine wpAny_newObj_type ?_ (by show 2 ≤ sizeLine; decide)
  have I2 : Inv X pins σ H1 { s1 with heap := s1.heap.push { cls := .type "tuple", data := .seq [u1, u2].toArray } } := I1.kept (t' := s1.toks) fun b o e => Heap.get?_push_of_some _ e
  rw [hw]
  refine wpAny_bind (wpAny_pure ?_)
  show wpAny (model X.prog X.w) X.A (do rule "assign.swapped-stores"; let items ← unpackItems (.ref s1.heap.objs.size) 2 none; assignInOrder [fun v => bindName X.env y v, fun v => bindName X.env x v] items.reverse; pure Flow.next) _ _ _
  refine wpAny_bind (wpAny_rule (wpAny_bind (unpackItems_tuple (items := #[u1, u2]) (T.I.ok.hd hc) (IsTup.new s1.heap _) fun h' hx' => ?_)))
  have I3 := I2.kept (h' := h') (t' := s1.toks) fun b o e => hx' b o (Nat.ne_of_lt (Heap.lt_size e)) e
  show wpAny _ _ (assignInOrder [fun v => bindName X.env y v, fun v => bindName X.env x v] [u2, u1] >>= fun _ => pure Flow.next) _ _ _
  refine wpAny_bind (assignInOrder_cons (wpAny_bindName (store_ok I3 hN hj (.inl hy) rw' (fun s2 I4 => ?_) (.inr hy))))
  refine assignInOrder_cons (wpAny_bindName (store_ok I4 hN hi (.inl hx) rv (fun s3 I5 => assignInOrder_nil (wpAny_pure ?_)) (.inr hx)))
  rw [List.set_comm _ _ (Ne.symm hij)] at I5
  exact ⟨_, H1, _, S1, ⟨I5, ((T.r.ext x1).set dv).set dw, m1⟩, x1, q1⟩
/-- name op= e -/
def InpD (X : Cx) (op : Operator) (r : DR2) : Prop := OpD X (inplaceOp op) r
def sAug (i : Nat) (te : DE) (r : DR2) : DS := fun D σ S => ∃ x, σ[i]? = some (some x) ∧ te σ S (fun y S1 => r x y S1 (fun z S2 => D.nx (σ.set i (some z)) S2) (eX D σ)) (eX D σ)
theorem qs_aug {i : Nat} {x : Str} {op : Operator} {r : DR2} {pos' : Pos} (hN : X.N.Nodup) (hi : X.N[i]? = some x) (hx : Loc X.env.scope x) (he : QE X e te) (ho : OpD X (inplaceOp op) r) (hf : X.fn x = true ∨ X.env.scope.names.lookup x = some .local) :
    QS X (.AugAssign (.Name x pos') op e pos) (sAug i te r) := fun pins s σ H σD S D tk T h => by
  obtain ⟨d, ed, h⟩ := h
  obtain ⟨v, e1, dv⟩ := T.r.at_ i d ed
  obtain ⟨m, hn, hl⟩ := T.I.loc
  have vis : Vis X.env.scope x := by rcases hx with k | k; exact .inl k; exact .inr (.inl k)
  obtain ⟨u, r', l⟩ := hl i x v hi e1 vis
  refine wpAny_AugAssign_Name ?_
  have go : wpAny (model X.prog X.w) X.A (eval e X.env) (fun w s₂ => wpAny (model X.prog X.w) X.A (inplaceOp op u w) (fun r s₃ => wpAny (model X.prog X.w) X.A (storeName X.env x r) (fun _ => SQ X pins H D .next) X.xe s₃) X.xe s₂) X.xe s := by
    refine thn (he pins s σ H σD S D.ex _ tk T h) fun w s1 ⟨yv, H1, y, S1, I1, r1, x1, d1, m1, q1⟩ => ?_
    refine thn (ho pins s1 σ H1 σD S1 D.ex _ d y v yv u w (tk.up x1) (T.on I1 x1 m1) (DRel.ext x1 _ dv) d1 r' r1 q1) fun z s2 ⟨zv, H2, zd, S2, I2, r2, x2, d2, m2, q2⟩ => ?_
    exact store_ok I2 hN hi hx r2 (fun s3 I3 => ⟨_, H2, _, S2, ⟨I3, (T.r.ext (x1.trans x2)).set d2, m2⟩, x1.trans x2, q2⟩) hf
  rcases l with ⟨hk, hm⟩ | ⟨hk, c, hc, hcell⟩
  · exact wpAny_loadName_local T.I.ok.kind hk hn hm go
  · rcases hk with hk | hk
    · exact wpAny_loadName_cell T.I.ok.kind hk hc hcell go
    · rcases hx with k | k
      · have : X.env.scope.names.lookup x = some .free := hk
        rw [k] at this; cases this
      · have : X.env.scope.names.lookup x = some .free := hk
        rw [k] at this; cases this
end
end DL

set_option Elab.async false
set_option linter.all false
set_option maxRecDepth 100000
set_option maxHeartbeats 4000000
namespace DL
open PySem PySem.Spec PyProof.Rows L2

def noSt : Expr → Bool
  | .Starred .. => false
  | _ => true
theorem star_cons {e : Expr} {es : List Expr} {env : Env} (h : noSt e = true) : starEach (e :: es) env = (false, eval e env) :: starEach es env := by
  cases e <;> first | rfl | (simp [noSt] at h)
theorem star_plain {env : Env} {pos : Pos} : ∀ {es : List Expr}, es.all noSt = true → (backTo pos (starEach es env)).any (·.1) = false
  | [], _ => rfl
  | e :: es, h => by
    simp only [List.all_cons, Bool.and_eq_true] at h
    rw [star_cons h.1]
    show (false || (backTo pos (starEach es env)).any (·.1)) = false
    rw [star_plain h.2]; rfl

abbrev DB := List D → Sto → DK → DX → Prop
def CallD (X : Cx) (f : Value) (r : DB) : Prop := ∀ (pins : List (Addr × Obj)) (s : Shared) (σ : VSt) (H : Hp) (σD : DSt) (S : Sto) (ex : DXs) (Kt : DK) (ds : List D) (vs : List V) (us : List Value), Takes X (lX X H ex) → Sit X pins σ H s σD S → DRels (gp X) H ds vs → Vals vs us →
  r ds S Kt (fun c fs S => ex c fs σD S) → wpAny (model X.prog X.w) X.A (call f us) (EQ X pins σ H Kt) X.xe s
section
variable {X : Cx}
theorem CallD.of {f : Value} {r0 : List V → Hp → VK → Prop} {r : DB} (ho : CallR X f r0) (h : ∀ (H : Hp) (S : Sto) (Kt : DK) (E : DX) (ds : List D) (vs : List V), Sim (gp X) H S → DRels (gp X) H ds vs → r ds S Kt E →
    r0 vs H fun v H' => ∃ d S', Ext X.K H H' ∧ DRel (gp X) H' d v ∧ Sim (gp X) H' S' ∧ Kt d S') : CallD X f r := fun pins s σ H σD S ex Kt ds vs us tk T dr rv q =>
  thn (ho pins s σ H vs us _ T.I rv (h H S Kt _ ds vs T.m dr q)) fun u s1 ⟨v, H', I', r, d, S', x, dr, m, k⟩ => ⟨v, H', d, S', I', r, x, dr, m, k⟩
theorem CallD.imp {f : Value} {r r' : DB} (h : CallD X f r) (hi : ∀ ds S K E, r' ds S K E → r ds S K E) : CallD X f r' := fun pins s σ H σD S ex Kt ds vs us tk T dr rv q => h pins s σ H σD S ex Kt ds vs us tk T dr rv (hi _ _ _ _ q)
theorem CallD.or {f : Value} {r r' : DB} (h : CallD X f r) (h' : CallD X f r') : CallD X f (fun ds S K E => r ds S K E ∨ r' ds S K E) := fun pins s σ H σD S ex Kt ds vs us tk T dr rv q => by
  rcases q with q | q
  · exact h pins s σ H σD S ex Kt ds vs us tk T dr rv q
  · exact h' pins s σ H σD S ex Kt ds vs us tk T dr rv q
def dCall (r : DB) (t : DA) : DE := fun σ S K E => t σ S (fun ds S1 => r ds S1 K E) E
variable {x : Str} {e : Expr} {es : List Expr} {t : DA} {r : DB} {p pos : Pos} {id : String}
theorem qe_callB (hc : CallD X (.builtin id) r) (hg : Gl X x) (hm : X.mg x = none) (hv : bootBuiltins x = some (.builtin id)) (ha : QA X (e :: es) t) (hst : (e :: es).all noSt = true) (hn : x ≠ "__name__") (hdb : (x == ("__debug__" : Str)) = false) :
    QE X (.Call (.Name x p) (e :: es) [] pos) (dCall r t) := fun pins s σ H σD S ex Kt tk T h => by
  simp only [List.all_cons, Bool.and_eq_true] at hst
  refine wpAny_Call_Name_kw (ld_blt T.I hg hm hv ?_ hn hdb)
  exact PyProof.Rows.callWith_builtin1 (thn (ha pos pins s σ H σD S ex _ tk T h) fun us s1 ⟨vs, H1, ds, S1, I1, r1, x1, d1, m1, q1⟩ =>
    thn (hc pins s1 σ H1 σD S1 ex Kt ds vs us (tk.up x1) (T.on I1 x1 m1) d1 r1 q1) fun _ _ z => z.up x1) (star_cons hst.1) (star_plain hst.2)
theorem qe_callTy (hc : CallD X (.type id) r) (hg : Gl X x) (hm : X.mg x = none) (hv : bootBuiltins x = some (.type id)) (ha : QA X (e :: es) t) (hst : (e :: es).all noSt = true) (hn : x ≠ "__name__") (hdb : (x == ("__debug__" : Str)) = false) :
    QE X (.Call (.Name x p) (e :: es) [] pos) (dCall r t) := fun pins s σ H σD S ex Kt tk T h => by
  simp only [List.all_cons, Bool.and_eq_true] at hst
  refine wpAny_Call_Name_kw (ld_blt T.I hg hm hv ?_ hn hdb)
  exact PyProof.Rows.callWith_type1 (thn (ha pos pins s σ H σD S ex _ tk T h) fun us s1 ⟨vs, H1, ds, S1, I1, r1, x1, d1, m1, q1⟩ =>
    thn (hc pins s1 σ H1 σD S1 ex Kt ds vs us (tk.up x1) (T.on I1 x1 m1) d1 r1 q1) fun _ _ z => z.up x1) (star_cons hst.1) (star_plain hst.2)
end

section
variable {X : Cx}
theorem drels1 {g : GP} {H : Hp} {d : D} {vs : List V} (h : DRels g H [d] vs) : ∃ v, vs = [v] ∧ DRel g H d v := by
  unfold DRels at h
  obtain ⟨v, r, e, h1, h2⟩ := h
  unfold DRels at h2
  exact ⟨v, by rw [e, h2], h1⟩
theorem drels2 {g : GP} {H : Hp} {d d' : D} {vs : List V} (h : DRels g H [d, d'] vs) : ∃ v w, vs = [v, w] ∧ DRel g H d v ∧ DRel g H d' w := by
  unfold DRels at h
  obtain ⟨v, r, e, h1, h2⟩ := h
  obtain ⟨w, e2, h3⟩ := drels1 h2
  exact ⟨v, w, by rw [e, e2], h1, h3⟩
theorem drels3 {g : GP} {H : Hp} {d d' d'' : D} {vs : List V} (h : DRels g H [d, d', d''] vs) : ∃ v w z, vs = [v, w, z] ∧ DRel g H d v ∧ DRel g H d' w ∧ DRel g H d'' z := by
  unfold DRels at h
  obtain ⟨v, r, e, h1, h2⟩ := h
  obtain ⟨w, z, e2, h3, h4⟩ := drels2 h2
  exact ⟨v, w, z, by rw [e, e2], h1, h3, h4⟩
def absD : DB := fun ds S K _ => ∃ i, ds = [.int i] ∧ K (.int (if i < 0 then -i else i)) S
theorem cd_abs : CallD X (.builtin "abs") absD := .of call_abs fun H S Kt E ds vs m dr ⟨i, e, k⟩ => by
  subst e
  obtain ⟨v, rfl, h⟩ := drels1 dr
  unfold DRel at h; subst h
  exact ⟨i, rfl, _, S, .refl, by simp [DRel], m, k⟩
def int1D : DB := fun ds S K _ => (∃ i, ds = [.int i] ∧ K (.int i) S) ∨ ∃ b : Bool, ds = [.bl b] ∧ K (.int (if b then 1 else 0)) S
theorem cd_int : CallD X (.type "int") int1D := .of call_int1 fun H S Kt E ds vs m dr h => by
  rcases h with ⟨i, e, k⟩ | ⟨b, e, k⟩
  · subst e
    obtain ⟨v, rfl, h⟩ := drels1 dr
    unfold DRel at h; subst h
    exact .inl ⟨i, rfl, _, S, .refl, by simp [DRel], m, k⟩
  · subst e
    obtain ⟨v, rfl, h⟩ := drels1 dr
    unfold DRel at h; subst h
    exact .inr ⟨b, rfl, _, S, .refl, by simp [DRel], m, k⟩
def bool1D : DB := fun ds S K _ => (∃ i : Int, ds = [.int i] ∧ K (.bl (i != 0)) S) ∨ ∃ b : Bool, ds = [.bl b] ∧ K (.bl b) S
theorem cd_bool : CallD X (.type "bool") bool1D := .of call_bool1 fun H S Kt E ds vs m dr h => by
  rcases h with ⟨i, e, k⟩ | ⟨b, e, k⟩
  · subst e
    obtain ⟨v, rfl, h⟩ := drels1 dr
    unfold DRel at h; subst h
    exact .inl ⟨i, rfl, _, S, .refl, by simp [DRel], m, k⟩
  · subst e
    obtain ⟨v, rfl, h⟩ := drels1 dr
    unfold DRel at h; subst h
    exact .inr ⟨b, rfl, _, S, .refl, by simp [DRel], m, k⟩
def max2D : DB := fun ds S K _ => ∃ i j, ds = [.int i, .int j] ∧ K (.int (if j > i then j else i)) S
def min2D : DB := fun ds S K _ => ∃ i j, ds = [.int i, .int j] ∧ K (.int (if j < i then j else i)) S
theorem cd_max2 (hc : X.calm = true) : CallD X (.builtin "max") max2D := .of (call_max2 hc) fun H S Kt E ds vs m dr ⟨i, j, e, k⟩ => by
  subst e
  obtain ⟨v, w, rfl, h1, h2⟩ := drels2 dr
  unfold DRel at h1 h2; subst h1 h2
  exact ⟨i, j, rfl, _, S, .refl, by simp [DRel], m, k⟩
theorem cd_min2 (hc : X.calm = true) : CallD X (.builtin "min") min2D := .of (call_min2 hc) fun H S Kt E ds vs m dr ⟨i, j, e, k⟩ => by
  subst e
  obtain ⟨v, w, rfl, h1, h2⟩ := drels2 dr
  unfold DRel at h1 h2; subst h1 h2
  exact ⟨i, j, rfl, _, S, .refl, by simp [DRel], m, k⟩
/-- the items of a list, of a tuple -/
def itemsD (S : Sto) : D → Option (List D)
  | .tup xs => some xs
  | .rol xs => some xs
  | .ref a => match S a with
    | some (.lst xs) => some xs
    | _ => none
  | _ => none
/-- .. of a list alone -/
def litemsD (S : Sto) : D → Option (List D)
  | .rol xs => some xs
  | .ref a => match S a with
    | some (.lst xs) => some xs
    | _ => none
  | _ => none
theorem litems_sql {g : GP} {H : Hp} {S : Sto} {d : D} {v : V} {xs : List D} (m : Sim g H S) (r : DRel g H d v) (h : litemsD S d = some xs) : ∃ a vs, v = .ref a ∧ SqL g.K H a vs ∧ DRels g H xs vs := by
  cases d with
  | rol ys =>
    cases h
    unfold DRel at r
    obtain ⟨a, vs, e, q, dr⟩ := r
    exact ⟨a, vs, e, q.sql, dr⟩
  | ref a =>
    simp only [litemsD] at h
    cases e : S a with
    | none => rw [e] at h; cases h
    | some o =>
      rw [e] at h
      cases o with
      | lst ys =>
        cases h
        unfold DRel at r
        obtain ⟨vs, h1, h2⟩ := m a _ e
        exact ⟨a, vs, r, .inl (.inl h1), h2⟩
      | ins _ _ => cases h
      | slo _ _ => cases h
      | dic _ => cases h
      | exd _ => cases h
  | _ => cases h
theorem items_sq {g : GP} {H : Hp} {S : Sto} {d : D} {v : V} {xs : List D} (m : Sim g H S) (r : DRel g H d v) (h : itemsD S d = some xs) : ∃ a vs, v = .ref a ∧ (SqL g.K H a vs ∨ SqT g.K H a vs) ∧ DRels g H xs vs := by
  cases d with
  | tup ys =>
    cases h
    unfold DRel at r
    obtain ⟨a, vs, e, q, dr⟩ := r
    exact ⟨a, vs, e, .inr q, dr⟩
  | rol ys =>
    obtain ⟨a, vs, e, q, dr⟩ := litems_sql m r (xs := xs) h
    exact ⟨a, vs, e, .inl q, dr⟩
  | ref a =>
    obtain ⟨a, vs, e, q, dr⟩ := litems_sql m r (xs := xs) h
    exact ⟨a, vs, e, .inl q, dr⟩
  | _ => cases h
def lenD : DB := fun ds S K _ => ∃ d, ds = [d] ∧ ((∃ xs, itemsD S d = some xs ∧ K (.int xs.length) S) ∨ ∃ x, d = .str x ∧ x.length ≤ sizeLine ∧ K (.int x.length) S)
theorem cd_len : CallD X (.builtin "len") lenD := .of call_len fun H S Kt E ds vs m dr ⟨d, e, h⟩ => by
  subst e
  obtain ⟨v, rfl, hd⟩ := drels1 dr
  rcases h with ⟨xs, hx, k⟩ | ⟨x, rfl, hz, k⟩
  · obtain ⟨a, ws, rfl, q, dr2⟩ := items_sq m hd hx
    refine ⟨_, ws.length, rfl, ?_, .int xs.length, S, .refl, by rw [dr2.length]; simp [DRel], m, k⟩
    rcases q with q | q
    · exact .inl ⟨ws, q, rfl⟩
    · exact .inr ⟨ws, q, rfl⟩
  · unfold DRel at hd; subst hd
    exact ⟨_, x.length, rfl, ⟨hz, rfl⟩, _, S, .refl, by simp [DRel], m, k⟩
def listD : DB := fun ds S K _ => ∃ d xs, ds = [d] ∧ itemsD S d = some xs ∧ ∀ p, S p = none → K (.ref p) (sup S p (.lst xs))
theorem cd_list : CallD X (.type "list") listD := .of call_list_of fun H S Kt E ds vs m dr ⟨d, xs, e, hx, k⟩ => by
  subst e
  obtain ⟨v, rfl, hd⟩ := drels1 dr
  obtain ⟨a, ws, rfl, q, dr2⟩ := items_sq m hd hx
  exact ⟨a, ws, rfl, q, fun l hl => ⟨.ref l, _, Ext.new hl, by simp [DRel], m.newL hl dr2, k l (m.fresh hl)⟩⟩
def tupleD : DB := fun ds S K _ => ∃ d xs, ds = [d] ∧ itemsD S d = some xs ∧ K (.tup xs) S
theorem cd_tuple : CallD X (.type "tuple") tupleD := .of call_tuple_of fun H S Kt E ds vs m dr ⟨d, xs, e, hx, k⟩ => by
  subst e
  obtain ⟨v, rfl, hd⟩ := drels1 dr
  obtain ⟨a, ws, rfl, q, dr2⟩ := items_sq m hd hx
  refine ⟨a, ws, rfl, ?_⟩
  rcases q with q | q
  · exact .inl ⟨q, fun l hl => ⟨.tup xs, S, Ext.new hl, sit_tup hl dr2, m.hid hl, k⟩⟩
  · exact .inr ⟨q, .tup xs, S, .refl, by unfold DRel; exact ⟨a, ws, rfl, q, dr2⟩, m, k⟩
theorem drels_ints {g : GP} {H : Hp} : ∀ {ns : List Int} {vs : List V}, DRels g H (ns.map D.int) vs → vs = ns.map V.int
  | [], vs, h => by simpa [DRels] using h
  | n :: ns, vs, h => by
    rw [List.map_cons] at h
    unfold DRels at h
    obtain ⟨v, r, e, h1, h2⟩ := h
    rw [e, drels_ints h2, show v = .int n by simpa [DRel] using h1]; rfl
theorem drels_bls {g : GP} {H : Hp} : ∀ {ns : List Bool} {vs : List V}, DRels g H (ns.map D.bl) vs → vs = ns.map V.bl
  | [], vs, h => by simpa [DRels] using h
  | n :: ns, vs, h => by
    rw [List.map_cons] at h
    unfold DRels at h
    obtain ⟨v, r, e, h1, h2⟩ := h
    rw [e, drels_bls h2, show v = .bl n by simpa [DRel] using h1]; rfl
def sumD : DB := fun ds S K _ => ∃ (d : D) (ns : List Int), ds = [d] ∧ litemsD S d = some (ns.map D.int) ∧ K (.int ns.sum) S
theorem cd_sum (hc : X.calm = true) : CallD X (.builtin "sum") sumD := .of (cr_sum hc) fun H S Kt E ds vs m dr ⟨d, ns, e, hx, k⟩ => by
  subst e
  obtain ⟨v, rfl, hd⟩ := drels1 dr
  obtain ⟨a, ws, rfl, q, dr2⟩ := litems_sql m hd hx
  have := drels_ints dr2; subst this
  exact ⟨a, ns, rfl, q, _, S, .refl, by simp [DRel], m, k⟩
def maxlD : DB := fun ds S K _ => ∃ (d : D) (ns : List Int), ds = [d] ∧ litemsD S d = some (ns.map D.int) ∧ 0 < ns.length ∧ ∀ m, m ∈ ns → (∀ y, y ∈ ns → y ≤ m) → K (.int m) S
theorem cd_maxl (hc : X.calm = true) : CallD X (.builtin "max") maxlD := .of (cr_max hc) fun H S Kt E ds vs m dr ⟨d, ns, e, hx, h0, k⟩ => by
  subst e
  obtain ⟨v, rfl, hd⟩ := drels1 dr
  obtain ⟨a, ws, rfl, q, dr2⟩ := litems_sql m hd hx
  have := drels_ints dr2; subst this
  exact ⟨a, ns, rfl, q, h0, fun i h1 h2 => ⟨_, S, .refl, by simp [DRel], m, k i h1 h2⟩⟩
def minlD : DB := fun ds S K _ => ∃ (d : D) (ns : List Int), ds = [d] ∧ litemsD S d = some (ns.map D.int) ∧ 0 < ns.length ∧ ∀ m, m ∈ ns → (∀ y, y ∈ ns → m ≤ y) → K (.int m) S
theorem cd_minl (hc : X.calm = true) : CallD X (.builtin "min") minlD := .of (cr_min hc) fun H S Kt E ds vs m dr ⟨d, ns, e, hx, h0, k⟩ => by
  subst e
  obtain ⟨v, rfl, hd⟩ := drels1 dr
  obtain ⟨a, ws, rfl, q, dr2⟩ := litems_sql m hd hx
  have := drels_ints dr2; subst this
  exact ⟨a, ns, rfl, q, h0, fun i h1 h2 => ⟨_, S, .refl, by simp [DRel], m, k i h1 h2⟩⟩
def allD : DB := fun ds S K _ => ∃ (d : D) (bs : List Bool), ds = [d] ∧ litemsD S d = some (bs.map D.bl) ∧ K (.bl (bs.all id)) S
theorem cd_all (hc : X.calm = true) : CallD X (.builtin "all") allD := .of (cr_all hc) fun H S Kt E ds vs m dr ⟨d, ns, e, hx, k⟩ => by
  subst e
  obtain ⟨v, rfl, hd⟩ := drels1 dr
  obtain ⟨a, ws, rfl, q, dr2⟩ := litems_sql m hd hx
  have := drels_bls dr2; subst this
  exact ⟨a, ns, rfl, q, _, S, .refl, by simp [DRel], m, k⟩
def anyD : DB := fun ds S K _ => ∃ (d : D) (bs : List Bool), ds = [d] ∧ litemsD S d = some (bs.map D.bl) ∧ K (.bl (bs.any id)) S
theorem cd_any (hc : X.calm = true) : CallD X (.builtin "any") anyD := .of (cr_any hc) fun H S Kt E ds vs m dr ⟨d, ns, e, hx, k⟩ => by
  subst e
  obtain ⟨v, rfl, hd⟩ := drels1 dr
  obtain ⟨a, ws, rfl, q, dr2⟩ := litems_sql m hd hx
  have := drels_bls dr2; subst this
  exact ⟨a, ns, rfl, q, _, S, .refl, by simp [DRel], m, k⟩
end
end DL

set_option Elab.async false
set_option linter.all false
set_option maxRecDepth 100000
set_option maxHeartbeats 4000000
namespace DL
open PySem PySem.Spec PyProof.Rows L2 SrtO
/-- the order of tuples of ints -/
def lexI : List Int → List Int → Bool
  | x :: xs, y :: ys => if x = y then lexI xs ys else decide (x < y)
  | _, _ => false
theorem lexI_asym : ∀ {x y : List Int}, lexI x y = true → lexI y x = false
  | [], _, h => by simp [lexI] at h
  | _ :: _, [], h => by simp [lexI] at h
  | a :: x, b :: y, h => by
    unfold lexI at h ⊢
    by_cases e : a = b
    · rw [if_pos e] at h
      rw [if_pos e.symm]
      exact lexI_asym h
    · rw [if_neg e] at h
      rw [if_neg (Ne.symm e)]
      have := of_decide_eq_true h
      exact decide_eq_false (by omega)
theorem lexI_tr : ∀ {x y z : List Int}, x.length = y.length → y.length = z.length → lexI y x = false → lexI z y = false → lexI z x = false
  | [], _, [], _, _, _, _ => by simp [lexI]
  | [], _, _ :: _, _, _, _, _ => by simp [lexI]
  | _ :: _, _, [], _, _, _, _ => by simp [lexI]
  | _ :: _, [], _ :: _, h, _, _, _ => by simp at h
  | a :: x, b :: y, c :: z, h1, h2, p, q => by
    unfold lexI at p q ⊢
    by_cases e1 : b = a
    · rw [if_pos e1] at p
      subst e1
      by_cases e2 : c = b
      · rw [if_pos e2] at q ⊢
        exact lexI_tr (by simpa using h1) (by simpa using h2) p q
      · rw [if_neg e2] at q ⊢
        exact q
    · rw [if_neg e1] at p
      have p' := of_decide_eq_false p
      by_cases e2 : c = b
      · subst e2
        rw [if_neg e1]
        exact decide_eq_false p'
      · rw [if_neg e2] at q
        have q' := of_decide_eq_false q
        rw [if_neg (by omega)]
        exact decide_eq_false (by omega)
theorem lexI_anti : ∀ {x y : List Int}, x.length = y.length → lexI x y = false → lexI y x = false → x = y
  | [], [], _, _, _ => rfl
  | [], _ :: _, h, _, _ => by simp at h
  | _ :: _, [], h, _, _ => by simp at h
  | a :: x, b :: y, h, p, q => by
    unfold lexI at p q
    by_cases e : a = b
    · subst e
      rw [if_pos rfl] at p q
      rw [lexI_anti (by simpa using h) p q]
    · rw [if_neg e] at p
      rw [if_neg (Ne.symm e)] at q
      have p' := of_decide_eq_false p
      have q' := of_decide_eq_false q
      omega
/-- two arrangements of the same tuples, both in order, are one -/
theorem sorted_uniq {d : Nat} : ∀ {xs ys : List (List Int)}, xs.Perm ys → (∀ x ∈ xs, x.length = d) → xs.Pairwise (fun x y => lexI y x = false) → ys.Pairwise (fun x y => lexI y x = false) → xs = ys
  | [], ys, p, _, _, _ => by rw [List.nil_perm.mp p]
  | x :: xs, [], p, _, _, _ => absurd p.length_eq (by simp)
  | x :: xs, y :: ys, p, hd, hx, hy => by
    have ex : x = y := by
      rcases List.mem_cons.mp (p.mem_iff.mp (List.mem_cons_self (a := x) (l := xs))) with e | m1
      · exact e
      · rcases List.mem_cons.mp (p.mem_iff.mpr (List.mem_cons_self (a := y) (l := ys))) with e | m2
        · exact e.symm
        · have a := (List.pairwise_cons.mp hx).1 y m2
          have b := (List.pairwise_cons.mp hy).1 x m1
          exact lexI_anti ((hd x List.mem_cons_self).trans (hd y (List.mem_cons_of_mem _ m2)).symm) b a
    subst ex
    rw [sorted_uniq ((List.perm_cons x).mp p) (fun z hz => hd z (List.mem_cons_of_mem _ hz)) (List.pairwise_cons.mp hx).2 (List.pairwise_cons.mp hy).2]
section
variable {prog : Program} {w : World} {A : Around} {s : Shared}
theorem lex_at {us vs : List Value} {ns ms : List Int} : ∀ (i : Nat), IntsAre us ns → IntsAre vs ms → us.length = vs.length → PySem.W.KatLex prog w A true false (fun r s' => s' = s ∧ r = lexI ns ms) (us.zip vs) i s := by
  intro i h1
  induction h1 generalizing vs ms i with
  | nil => intro h2 hl; cases h2 with
    | nil => exact PySem.W.kat_nil ⟨rfl, rfl⟩
    | cons _ _ _ => simp at hl
  | cons n t h1 ih =>
    intro h2 hl
    cases h2 with
    | nil => simp at hl
    | cons m u h2 =>
      show PySem.W.KatLex prog w A true false _ ((_, _) :: _) i s
      refine PySem.W.kat_cons (SeqAt.EqAt.int_int _ _ _ _ prog w _ _ ?_)
      refine PySem.W.kat_go (fun e => ?_) (fun e => ?_)
      · have e' : n = m := by simpa using e
        have q := ih (i + 1) h2 (by simpa using hl)
        unfold lexI
        rw [if_pos e']
        exact PySem.W.kat_yes q
      · have e' : ¬ n = m := by simpa using e
        unfold lexI
        rw [if_neg e']
        refine PySem.W.kat_no ?_
        cases hb : (true && i == 0) with
        | true => exact oneLt_int ⟨rfl, rfl⟩
        | false => exact PySem.W.kat_one _ _ (PyProof.Rows.lt_int (show s = s ∧ _ from ⟨rfl, rfl⟩))
theorem tup_cmp {vs : List Value} {k : Value → List Int} {d : Nat} (hp : ∀ v ∈ vs, TS.TupInts s.heap v (k v) ∧ (k v).length = d) : Cmp prog w A s (tuples' true) (fun p => p.1 ∈ vs) (lt2 fun v u => lexI (k v) (k u)) := by
  intro p q hm hm'
  obtain ⟨⟨a, xs, e, ⟨o, ho, hc, n, hd⟩, i1⟩, l1⟩ := hp _ hm
  obtain ⟨⟨a', xs', e', ⟨o', ho', hc', n', hd'⟩, i2⟩, l2⟩ := hp _ hm'
  show wpAny (model prog w) A (keyLt' (tuples' true) p.1 q.1) (fun r s' => s' = s ∧ r = lexI (k p.1) (k q.1)) (fun _ _ => False) s
  generalize k p.1 = kp at *
  generalize k q.1 = kq at *
  rw [e, e']
  have s1 : xs.toList.length = d := by rw [i1.length]; exact l1
  have s2 : xs'.toList.length = d := by rw [i2.length]; exact l2
  have sz : decide (xs.size < xs'.size) = false := by
    rw [← Array.length_toList, ← Array.length_toList, s1, s2]
    exact decide_eq_false (Nat.lt_irrefl _)
  refine PySem.W.kat_lt ho hd ho' hd' ?_
  rw [sz]
  exact lex_at 0 i1 i2 (s1.trans s2.symm)
theorem firsts_i {h : Heap} {d : Nat} (hd : 1 ≤ d) : ∀ {vs : List Value}, (∀ v ∈ vs, ∃ ns, TS.TupInts h v ns ∧ ns.length = d) → ∃ fs : List Value, PySem.W.KatTups h vs fs ∧ fs.length = vs.length ∧ ∀ f ∈ fs, ∃ x t, f = Value.int x t
  | [], _ => ⟨[], PySem.W.KatTups.nil, rfl, fun _ hm => by simp at hm⟩
  | v :: vs, hp => by
    obtain ⟨fs, h1, h2, h3⟩ := firsts_i hd (vs := vs) fun u hm => hp u (List.mem_cons_of_mem _ hm)
    obtain ⟨ns, ⟨a, xs, e, ⟨o, ho, hc, n, hdt⟩, i1⟩, l1⟩ := hp v List.mem_cons_self
    subst e
    cases hx : xs.toList with
    | nil =>
      rw [hx] at i1
      cases i1
      simp at l1
      omega
    | cons f r =>
      rw [hx] at i1
      cases i1 with
      | cons x t q =>
        have e0 : xs[0]? = some (Value.int x t) := by rw [← Array.getElem?_toList, hx]; rfl
        refine ⟨.int x t :: fs, PySem.W.KatTups.cons ho hc hdt e0 h1, by rw [List.length_cons, List.length_cons, h2], fun g hm => ?_⟩
        rcases List.mem_cons.mp hm with rfl | hm
        · exact ⟨x, t, rfl⟩
        · exact h3 g hm
theorem tups_sortable {a : Addr} {vs : List Value} {k : Value → List Int} {d : Nat} (hd : 1 ≤ d) (h0 : 0 < vs.length) (hp : ∀ v ∈ vs, TS.TupInts s.heap v (k v) ∧ (k v).length = d) (ha : ∀ o, s.heap.get? a = some o → o.cls ≠ .type "tuple") : SortableO prog w A s a vs fun v u => lexI (k v) (k u) := by
  intro h' keep
  have hp' : ∀ v ∈ vs, TS.TupInts h' v (k v) ∧ (k v).length = d := fun v hm => ⟨(hp v hm).1.keeps fun b o e c => keep b o (fun z => by subst z; exact ha o e c) e, (hp v hm).2⟩
  obtain ⟨fs, h1, h2, h3⟩ := firsts_i hd fun v hm => ⟨_, hp' v hm⟩
  refine ⟨tuples' true, fun Q E hq => ?_, tup_cmp hp'⟩
  refine PySem.W.kat_kind (T := .type "int") h1 (by omega) (fun f hm => ?_) (by rfl) ?_
  · obtain ⟨x, t, rfl⟩ := h3 f hm
    exact PySem.W.Looks.now
  · have e : (Value.type "int" != Value.type "tuple") = true := by decide +kernel
    rw [e]
    exact hq
end
section
variable {X : Cx}
abbrev tupI (ns : List Int) : D := .tup (ns.map D.int)
/-- lexicographic, cut to one length so that it is a strict weak order -/
theorem swo_tup {k : Value → List Int} {d : Nat} (hk : ∀ v, (k v).length = d) : Swo fun v u => lexI (k v) (k u) := ⟨fun x y h => lexI_asym h, fun x y z h1 h2 => lexI_tr ((hk x).trans (hk y).symm) ((hk y).trans (hk z).symm) h1 h2⟩
def sortedD : DB := fun ds S K _ => ∃ (a : Addr) (nss : List (List Int)) (d : Nat), ds = [.ref a] ∧ S a = some (.lst (nss.map tupI)) ∧ 1 ≤ d ∧ (∀ ns ∈ nss, ns.length = d) ∧
  ∀ (mss : List (List Int)) (p : Addr), mss.Perm nss → mss.Pairwise (fun x y => lexI y x = false) → S p = none → K (.ref p) (sup S p (.lst (mss.map tupI)))
theorem tups_rel {g : GP} {H : Hp} : ∀ {nss : List (List Int)} {vs : List V}, DRels g H (nss.map tupI) vs → ∀ v ∈ vs, ∃ ns ∈ nss, ∃ t, v = .ref t ∧ SqT g.K H t (ns.map V.int)
  | [], vs, h, v, hv => by
    have : vs = [] := by simpa [DRels] using h
    subst this; cases hv
  | n :: nss, vs, h, v, hv => by
    rw [List.map_cons] at h
    unfold DRels at h
    obtain ⟨u, r, e, h1, h2⟩ := h
    subst e
    rcases List.mem_cons.mp hv with e | hv
    · subst e
      unfold DRel at h1
      obtain ⟨t, ws, e1, q, dr⟩ := h1
      rw [drels_ints dr] at q
      exact ⟨n, List.mem_cons_self, t, e1, q⟩
    · obtain ⟨ns, m, r⟩ := tups_rel h2 v hv
      exact ⟨ns, List.mem_cons_of_mem _ m, r⟩
theorem tups_map {g : GP} {H : Hp} {k : V → List Int} : ∀ {vs : List V}, (∀ v ∈ vs, ∃ t, v = .ref t ∧ SqT g.K H t ((k v).map V.int)) → DRels g H ((vs.map k).map tupI) vs
  | [], _ => .nil
  | v :: vs, h => by
    obtain ⟨t, e, q⟩ := h v List.mem_cons_self
    refine .cons ?_ (tups_map fun u hu => h u (List.mem_cons_of_mem _ hu))
    unfold DRel
    exact ⟨t, _, e, q, ints_rel _⟩
where
  ints_rel {g : GP} {H : Hp} : ∀ ns : List Int, DRels g H (ns.map D.int) (ns.map V.int)
    | [] => .nil
    | n :: ns => .cons (by simp [DRel]) (ints_rel ns)
def toV : Value → V
  | .ref a => .ref a
  | _ => .non
theorem toV_refs : ∀ {xs : List V} {us : List Value}, Vals xs us → (∀ x ∈ xs, ∃ a, x = V.ref a) → ∀ u ∈ us, ∃ a, u = Value.ref a ∧ V.ref a ∈ xs
  | _, _, .nil, _, u, hu => by cases hu
  | x :: xs, _ :: us, .cons r t, h, u, hu => by
    obtain ⟨a, e⟩ := h x List.mem_cons_self
    subst e
    cases r
    rcases List.mem_cons.mp hu with e | hu
    · exact ⟨a, e, List.mem_cons_self⟩
    · obtain ⟨b, e, m⟩ := toV_refs t (fun y hy => h y (List.mem_cons_of_mem _ hy)) u hu
      exact ⟨b, e, List.mem_cons_of_mem _ m⟩
theorem toV_vals : ∀ {us : List Value}, (∀ u ∈ us, ∃ a, u = Value.ref a) → Vals (us.map toV) us
  | [], _ => .nil
  | u :: us, h => by
    obtain ⟨a, e⟩ := h u List.mem_cons_self
    subst e
    exact .cons (show RelV (.ref a) (.ref a) from rfl) (toV_vals fun y hy => h y (List.mem_cons_of_mem _ hy))
theorem vals_keys {K : PySem.W.Frag} {H : Hp} {h : Heap} {f : V → List Int} {k : Value → List Int} : ∀ {xs : List V} {us : List Value}, Vals xs us → (∀ x ∈ xs, ∃ a, x = V.ref a ∧ k (.ref a) = f (.ref a)) → us.map k = xs.map f
  | _, _, .nil, _ => rfl
  | x :: xs, _ :: us, .cons r t, hh => by
    obtain ⟨a, e, q⟩ := hh x List.mem_cons_self
    subst e
    cases r
    rw [List.map_cons, List.map_cons, q, vals_keys (K := K) (H := H) (h := h) t fun y hy => hh y (List.mem_cons_of_mem _ hy)]
/-- the ints of the tuples, one by one -/
theorem tups_keys {g : GP} {H : Hp} {k : Value → List Int} : ∀ {nss : List (List Int)} {vs : List V} {us : List Value}, DRels g H (nss.map tupI) vs → Vals vs us → (∀ (t : Addr) (ns : List Int), SqT g.K H t (ns.map V.int) → k (.ref t) = ns) → us.map k = nss
  | [], vs, us, h, r, _ => by
    have : vs = [] := by simpa [DRels] using h
    subst this; cases r; rfl
  | n :: nss, vs, us, h, r, hk => by
    rw [List.map_cons] at h
    unfold DRels at h
    obtain ⟨v, vr, e, h1, h2⟩ := h
    subst e
    unfold DRel at h1
    obtain ⟨t, ws, e1, q, dr⟩ := h1
    subst e1
    rw [drels_ints dr] at q
    cases r with
    | cons r1 r2 =>
      cases r1
      rw [List.map_cons, hk t n q, tups_keys h2 r2 hk]
theorem cd_sorted : CallD X (.builtin "sorted") sortedD := fun pins s σ H σD S ex Kt ds vs us tk T dr rv ⟨a, nss, d, e, ha, hd, hl, q⟩ => by
  subst e
  obtain ⟨v, rfl, d1⟩ := drels1 dr
  unfold DRel at d1; subst d1
  rw [Vals.ref1 rv]
  obtain ⟨ws, h1, h2⟩ := T.m a _ ha
  obtain ⟨its, rv', hls, hz⟩ := T.I.list (SqL.of h1)
  have tl := tups_rel h2
  let k : Value → List Int := fun v => TS.intsOf s.heap v
  have kt : ∀ (t : Addr) (ns : List Int), SqT X.K H t (ns.map V.int) → TS.TupInts s.heap (.ref t) ns := fun t ns q => tupI_raw T.I q
  have keys : its.map k = nss := tups_keys h2 rv' fun t ns q => (kt t ns q).ints
  -- keys of one length everywhere
  let k' : Value → List Int := fun v => if (k v).length = d then k v else List.replicate d 0
  have kl : ∀ v, (k' v).length = d := fun v => by
    show (if (k v).length = d then k v else List.replicate d 0).length = d
    by_cases h : (k v).length = d
    · rw [if_pos h]; exact h
    · rw [if_neg h, List.length_replicate]
  have ok : ∀ v ∈ its, TS.TupInts s.heap v (k' v) ∧ ∃ t, v = .ref t ∧ SqT X.K H t ((k' v).map V.int) ∧ k' v = k v := fun v hv => by
    obtain ⟨t, rfl, mt⟩ := toV_refs rv' (fun x hx => let ⟨ns, _, t, e, _⟩ := tl x hx; ⟨t, e⟩) v hv
    obtain ⟨ns, mn, t', e, q⟩ := tl _ mt
    cases e
    have e1 : k (.ref t) = ns := (kt t ns q).ints
    have e2 : k' (.ref t) = ns := by
      show (if (k (.ref t)).length = d then k (.ref t) else List.replicate d 0) = ns
      rw [e1, if_pos (hl ns mn)]
    rw [e2, e1]
    exact ⟨kt t ns q, t, rfl, q, rfl⟩
  have hz' : its.length ≤ sizeLine := by rw [← rv'.length]; exact hz
  refine SrtO.sorted_ord (ltv := fun v u => lexI (k' v) (k' u)) (swo_tup kl) hls.isList hz' (fun h2 h₁ a' ha' kk => ?_) fun out hs hb => ?_
  · refine tups_sortable (s := { s with heap := h₁ }) hd (by omega) (fun v hm => ⟨(ok v hm).1.keeps fun b o e _ => (kk b o e).2, kl v⟩) fun o e => ?_
    have e' : some o = some (seqObj "list" its.toArray 0) := e.symm.trans ha'
    cases e'
    intro c
    exact absurd (Value.type.inj c) (by decide)
  · obtain ⟨ep, he'⟩ := PyProof.Rows.sortedAll_at s.heap its out.toArray
    have mem : ∀ v ∈ out, v ∈ its := fun v hv => hb.perm.mem_iff.mp hv
    have hout : ∀ v ∈ out, ∃ t, v = Value.ref t := fun v hv => let ⟨t, e, _⟩ := (ok v (mem v hv)).2; ⟨t, e⟩
    have hf : H (s.heap.objs.size + 1) = none := T.I.hok.fresh (Nat.le_succ _)
    have pm : (out.map k').Perm nss := by
      have e : its.map k' = its.map k := List.map_congr_left fun v hv => let ⟨_, _, _, e⟩ := (ok v hv).2; e
      rw [← keys, ← e]
      exact hb.perm.map k'
    have dr' : DRels (gp X) H ((out.map k').map tupI) (out.map toV) := by
      have : ∀ {l : List Value}, (∀ v ∈ l, v ∈ its) → DRels (gp X) H ((l.map k').map tupI) (l.map toV) := by
        intro l
        induction l with
        | nil => intro _; exact .nil
        | cons v l ih =>
          intro hm
          obtain ⟨t, e, q, _⟩ := (ok v (hm v List.mem_cons_self)).2
          refine .cons ?_ (ih fun u hu => hm u (List.mem_cons_of_mem _ hu))
          unfold DRel
          subst e
          exact ⟨t, _, rfl, q, tups_map.ints_rel _⟩
      exact this mem
    refine ⟨.ref _, upd H (s.heap.objs.size + 1) (.lst (out.map toV)), .ref _, _, T.I.laid (t' := s.toks) (fun _ _ => PyProof.Rows.sortedAll_old) (Nat.le_succ _) ⟨?_, out, ep, toV_vals hout, he'⟩, rfl, Ext.new hf, by simp [DRel], T.m.newL hf dr', q _ _ pm ?_ (T.m.fresh hf)⟩
    · rw [List.length_map, hb.perm.length_eq]; exact hz'
    · exact List.pairwise_map.mpr hs
end
end DL

set_option Elab.async false
set_option linter.all false
set_option maxRecDepth 100000
set_option maxHeartbeats 4000000
namespace DL
open PySem PySem.Spec PyProof.Rows L2

/-- room, and no repr around -/
structure RoomG (k : Nat) (A : Around) : Prop extends Room k A where
  gd : A.guards = some []
theorem RoomG.mono {j k : Nat} {A : Around} (r : RoomG k A) (h : j ≤ k) : RoomG j A := ⟨r.toRoom.mono h, r.gd⟩
theorem RoomG.deeper {k : Nat} {A : Around} (r : RoomG (k + 1) A) (env : Env) : RoomG k (A.deeper env) := ⟨r.toRoom.deeper env, r.gd⟩
theorem RoomG.in1 {k : Nat} {A : Around} (r : RoomG (k + 1) A) : RoomG k A.in1 := ⟨r.toRoom.in1, r.gd⟩
theorem make_guards {A : Around} {C : Addr} {us : List Value} {kw : List (Str × Value)} : (A.under (.builtin "type.__call__" ⟨.ref C :: us, kw⟩)).guards = pushGuards [] A.guards := by
  first | rfl | simp [Around.under, Code.guards, Code.isGuard, guardIds]
theorem RoomG.make {k : Nat} {A : Around} (r : RoomG (k + 1) A) (C : Addr) (us : List Value) (kw : List (Str × Value)) : RoomG k (A.under (.builtin "type.__call__" ⟨.ref C :: us, kw⟩)) :=
  ⟨r.toRoom.make C us kw, by rw [make_guards, r.gd]; rfl⟩
structure FnG (P : Program) (w : World) (K : PySem.W.Frag) (mg : Str → Option Value) (base : Heap) (CX : CXT) (k : Nat) (f : Addr) (fd : FuncData) (ps : List Str) (sp : Sp) : Prop where
  len : ∀ vs H Q E, sp vs H Q E → vs.length = ps.length
  run : ∀ (A : Around) (outer : List Env) (s : Shared) (H : Hp) (args : Args) (us : List Value) (vs : List V) (Q : VK) (E : XK), RoomG k A → Env0 P w K mg base A outer s H → BindsTo s fd args (ps.zip us) → Vals vs us → sp vs H Q E →
    codeAny (model P w) A (.call (.ref f) args) (CR CX outer P w H s Q E) s
theorem FnG.mono {P : Program} {w : World} {K : PySem.W.Frag} {mg : Str → Option Value} {base : Heap} {CX : CXT} {j k : Nat} {f : Addr} {fd : FuncData} {ps : List Str} {sp : Sp} (F : FnG P w K mg base CX j f fd ps sp) (h : j ≤ k) : FnG P w K mg base CX k f fd ps sp :=
  ⟨F.len, fun A outer s H args us vs Q E hr => F.run A outer s H args us vs Q E (hr.mono h)⟩
/-- a def's body keeps its promise -/
theorem fnG_of {CX : CXT} {P : Program} {w : World} {K : PySem.W.Frag} {mg : Str → Option Value} {base : Heap} {k : Nat} {x qual : Str} {params : Arguments} {body : List Stmt} {scope : Scope} {dvs : List V} {kws : List (Str × V)} {f : Addr} {fd : FuncData} {N ps : List Str} {sp : Sp}
    (FD : FunD K x qual params body scope dvs kws f fd) (Sc : FnScope N ps scope) (len : ∀ vs H Q E, sp vs H Q E → vs.length = ps.length)
    (hbody : ∀ (cdv : Value) (A : Around) (outer : List Env) (s s1 : Shared) (H : Hp) (vs : List V) (Q : VK) (E : XK), RoomG k (A.deeper (envOfC qual scope s.heap.objs.size f cdv)) → Inv (cxOf CX P w K mg base N qual scope f cdv A outer s H E) [] (start N vs) H s1 → sp vs H Q E →
      wpAny (model P w) (A.deeper (envOfC qual scope s.heap.objs.size f cdv)) (execs body (envOfC qual scope s.heap.objs.size f cdv)) (SP (cxOf CX P w K mg base N qual scope f cdv A outer s H E) [] { nx := fun _ H' => Q .non H', rt := Q }) (cxOf CX P w K mg base N qual scope f cdv A outer s H E).xe s1) :
    FnG P w K mg base CX (k + 1) f fd ps sp := by
  obtain ⟨oc, od, dV, kV, doc, pm, an, cdv, ct, osl, rfl, lk, hcd, _, _⟩ := FD.ex
  refine ⟨len, fun A outer s H args us vs Q E hr e0 hb r hsp => ?_⟩
  have hl := len _ _ _ _ hsp
  have keep : ∀ b o, base.get? b = some o → s.heap.get? b = some o := fun b o e => (e0.bs b o e).1
  have KX := e0.mod.kin.keeps keep
  have lim := e0.mod.nolimit.keeps keep
  have kinds : ∀ y ∈ ps.zip us, scope.names.lookup y.1 = some .local ∨ (scope.names.lookup y.1 = some .cell ∧ ((cellsFrom (s.heap.objs.size + 1) scope.names []).lookup y.1).isSome = true) := by
    rintro ⟨n, v⟩ hy
    refine (Sc.par n (List.of_mem_zip hy).1).imp id fun q => ⟨q, PySem.W.cellsFrom_some _ _ _ (.inl q)⟩
  refine codeAny_call_function hr.depth (KX _ _ lk) rfl Sc.co Sc.gen rfl (PySem.W.codeRec_of KX hcd) (hb _ _ _ _ (wpAny_newFunctionEnv_cells Sc.kind kinds fun env he s1 x => ?_))
  subst he
  refine ⟨lim.keeps x.toInCall.keep, codeAny_func ?_⟩
  have I : Inv (cxOf CX P w K mg base N qual scope f cdv A outer s H E) [] (start N vs) H s1 := inv_start Sc hr.hd e0 hl r x
  refine wpAny_mono (hbody cdv A outer s s1 H vs Q E (hr.deeper _) I hsp) (fun fl s' hs => ?_) fun e s' hs => hs
  have fin : ∀ {σ' : VSt} {H' : Hp} {v : V} {u : Value}, Inv (cxOf CX P w K mg base N qual scope f cdv A outer s H E) [] σ' H' s' → RelV v u → Q v H' → CE outer P w H s Q u s' := fun {σ' H' v u} J rv q => ⟨v, H', J.os, J.bare, J.base, J.hok, rv, q⟩
  match fl, hs with
  | .ret u, hs => exact let ⟨v, σ', H', J, rv, q⟩ := hs; fin J rv q
  | .next, hs => exact let ⟨σ', H', J, q⟩ := hs; fin (v := V.non) (u := Value.none) J rfl q
  | .brk, hs => exact let ⟨_, _, _, q⟩ := hs; False.elim q
  | .cont, hs => exact let ⟨_, _, _, q⟩ := hs; False.elim q
end DL

set_option Elab.async false
set_option linter.all false
set_option maxRecDepth 100000
set_option maxHeartbeats 4000000
namespace DL
open PySem PySem.Spec PyProof.Rows L2

def SO.cn : SO → Option Str
  | .lst _ => none
  | .ins c _ => some c
  | .slo c _ => some c
  | .dic _ => none
  | .exd _ => none
/-- its own attributes do not have the name -/
def SO.bare (o : SO) (m : Str) : Prop :=
  match o with
  | .ins _ fs => fs.lookup m = none
  | _ => True
section
variable {X : Cx} {pins : List (Addr × Obj)} {σ : VSt} {H : Hp} {s : Shared} {σD : DSt} {S : Sto} {a : Addr} {o : SO} {c : Str}
theorem inst_pl (T : Sit X pins σ H s σD S) (e : S a = some o) (hc : o.cn = some c) : ∃ C ox od, X.mg c = some (.ref C) ∧ PySem.W.InstAt s.heap a ox C (some od) ∧ (∀ m, o.bare m → PySem.W.lookIn m od = some none) ∧ ox.data = .plain := by
  have q := T.m a o e
  cases o with
  | lst _ => cases hc
  | dic _ => cases hc
  | exd _ => cases hc
  | ins c' fs =>
    cases hc
    obtain ⟨C, dx, vs, e1, e2, e3, r⟩ := q
    obtain ⟨mA, O, rf, _, _, _⟩ := ins_get T.I.hok e2
    obtain ⟨od, J, hl⟩ := O.look
    refine ⟨C, _, od, e1, J, fun m hm => ?_, rfl⟩
    have z := rf m
    rw [r.none hm] at z
    rw [hl m]
    exact congrArg some (RelO.none_of z)
  | slo c' ds =>
    cases hc
    obtain ⟨C, dx, vs, e1, e2, r⟩ := q
    obtain ⟨sl, od, _, J, hl⟩ := SlX.slt_inst T.I e2.slt
    exact ⟨C, _, od, e1, J, fun m _ => hl m, rfl⟩
theorem inst_at (T : Sit X pins σ H s σD S) (e : S a = some o) (hc : o.cn = some c) : ∃ C ox od, X.mg c = some (.ref C) ∧ PySem.W.InstAt s.heap a ox C (some od) ∧ ∀ m, o.bare m → PySem.W.lookIn m od = some none := by
  obtain ⟨C, ox, od, h1, h2, h3, _⟩ := inst_pl T e hc
  exact ⟨C, ox, od, h1, h2, h3⟩
end

section
variable {g : GP} {H : Hp} {S : Sto} {a : Addr}
theorem Sim.setF {c f : Str} {fs : List (Str × D)} {C dx : Addr} {vs : List (Str × V)} {d : D} {v : V} (m : Sim g H S) (e : S a = some (.ins c fs)) (e1 : g.mg c = some (.ref C)) (e2 : H a = some (.ins C dx vs)) (e3 : H dx = some (.own a)) (r : FRel g H fs vs) (dr : DRel g H d v) :
    Ext g.K H (L2.upd H a (.ins C dx (putF f v vs))) ∧ Sim g (L2.upd H a (.ins C dx (putF f v vs))) (sup S a (.ins c (putD f d fs))) := by
  have x : Ext g.K H (L2.upd H a (.ins C dx (putF f v vs))) := Ext.mut (by rw [e2]; trivial)
  have ne : dx ≠ a := fun z => by rw [z, e2] at e3; cases e3
  exact ⟨x, m.put (by rw [e2]; trivial) (by rw [e2]; trivial) ⟨C, dx, _, e1, upd_same, by rw [upd_ne ne]; exact e3, (r.put dr).ext x⟩⟩
theorem ORelS.put {d : D} {v : V} (dr : DRel g H d v) : ∀ {ds : List (Option D)} {vs : List (Option V)} (i : Nat), ORelS g H ds vs → ORelS g H ((ds ++ List.replicate (i + 1 - ds.length) none).set i (some d)) (SlX.putS i v vs) := by
  have app : ∀ {ds : List (Option D)} {vs : List (Option V)} (n : Nat), ORelS g H ds vs → ORelS g H (ds ++ List.replicate n none) (vs ++ List.replicate n none) := by
    intro ds
    induction ds with
    | nil =>
      intro vs n h
      rw [show vs = [] from h]
      show ORelS g H (List.replicate n none) (List.replicate n none)
      induction n with
      | zero => rfl
      | succ n ih => exact ⟨none, _, rfl, trivial, ih⟩
    | cons d ds ih =>
      intro vs n h
      obtain ⟨v, r, e, h1, h2⟩ := h
      subst e
      exact ⟨v, _, rfl, h1, ih n h2⟩
  have st : ∀ {ds : List (Option D)} {vs : List (Option V)} (i : Nat), ORelS g H ds vs → ORelS g H (ds.set i (some d)) (vs.set i (some v)) := by
    intro ds
    induction ds with
    | nil => intro vs i h; rw [show vs = [] from h]; rfl
    | cons x ds ih =>
      intro vs i h
      obtain ⟨w, r, e, h1, h2⟩ := h
      subst e
      cases i with
      | zero => exact ⟨some v, r, rfl, dr, h2⟩
      | succ i => exact ⟨w, _, rfl, h1, ih i h2⟩
  have len : ∀ {ds : List (Option D)} {vs : List (Option V)}, ORelS g H ds vs → ds.length = vs.length := by
    intro ds
    induction ds with
    | nil => intro vs h; rw [show vs = [] from h]; rfl
    | cons x ds ih =>
      intro vs h
      obtain ⟨w, r, e, _, h2⟩ := h
      rw [e, List.length_cons, List.length_cons, ih h2]
  intro ds vs i h
  unfold SlX.putS
  rw [← len h]
  exact st i (app _ h)
theorem Sim.setS {c : Str} {ds : List (Option D)} {C dx : Addr} {vs : List (Option V)} {d : D} {v : V} {i : Nat} (m : Sim g H S) (e : S a = some (.slo c ds)) (e1 : g.mg c = some (.ref C)) (e2 : SlQ H a C dx vs) (r : ORelS g H ds vs) (dr : DRel g H d v) :
    Ext g.K H (SlX.slH H a C dx (SlX.putS i v vs)) ∧ Sim g (SlX.slH H a C dx (SlX.putS i v vs)) (sup S a (.slo c ((ds ++ List.replicate (i + 1 - ds.length) none).set i (some d)))) := by
  obtain ⟨ne, h⟩ := e2
  -- the dict
  have k1 : Ext g.K H (L2.upd H dx (.xd [])) ∧ ∀ b o, b ≠ a → S b = some o → ORel g (L2.upd H dx (.xd [])) b o := by
    rcases h with ⟨h1, _, h3⟩ | ⟨h1, h3⟩
    · have x : Ext g.K H (L2.upd H dx (.xd [])) := Ext.upd (by rw [h3]; trivial)
      refine ⟨x, fun b o nb hb => ?_⟩
      have q := m b o hb
      have nd : ∀ {y : Addr} {u : HO}, H y = some u → (∀ z, u = .own z → z ≠ a) → y ≠ dx := fun {y u} e n z => by
        rw [z, h3] at e
        cases e
        exact n a rfl rfl
      cases o with
      | lst ds => obtain ⟨vs, e, r⟩ := q; exact ⟨vs, by rw [upd_ne (nd e (fun z w => by cases w))]; exact e, DRels.ext x ds r⟩
      | ins c fs =>
        obtain ⟨C, dy, vs, q1, q2, q3, r⟩ := q
        exact ⟨C, dy, vs, q1, by rw [upd_ne (nd q2 (fun z w => by cases w))]; exact q2, by rw [upd_ne (nd q3 (fun z w => by cases w; exact nb))]; exact q3, r.ext x⟩
      | slo c ds =>
        obtain ⟨C, dy, vs, q1, ⟨q0, q2⟩, r⟩ := q
        refine ⟨C, dy, vs, q1, ⟨q0, ?_⟩, r.ext x⟩
        rcases q2 with ⟨p1, p2, p3⟩ | ⟨p1, p2⟩
        · exact .inl ⟨by rw [upd_ne (nd p1 (fun z w => by cases w))]; exact p1, p2, by rw [upd_ne (nd p3 (fun z w => by cases w; exact nb))]; exact p3⟩
        · exact .inr ⟨by rw [upd_ne (nd p1 (fun z w => by unfold SlX.SlO at w; cases w))]; exact p1, by rw [upd_ne (nd p2 (fun z w => by cases w))]; exact p2⟩
      | dic kvs => obtain ⟨es, ep, q1, q2, q3⟩ := q; exact ⟨es, ep, by rw [upd_ne (nd q1 (fun z w => by unfold DicO at w; cases w))]; exact q1, q2.ext x, q3⟩
      | exd fs => obtain ⟨vs, q1, q2⟩ := q; exact ⟨vs, by rw [upd_ne (nd q1 (fun z w => by cases w))]; exact q1, q2.ext x⟩
    · have hu : L2.upd H dx (.xd []) = H := by
        funext b
        by_cases hb : b = dx
        · rw [hb, upd_same, h3]
        · rw [upd_ne hb]
      rw [hu]
      exact ⟨.refl, fun b o _ hb => m b o hb⟩
  obtain ⟨x1, k1⟩ := k1
  have ha : NoTup ((L2.upd H dx (.xd [])) a) ∧ NoDict ((L2.upd H dx (.xd [])) a) := by
    rw [upd_ne (Ne.symm ne)]
    rcases h with ⟨h1, _⟩ | ⟨h1, _⟩ <;> rw [h1] <;> exact ⟨trivial, trivial⟩
  have x2 : Ext g.K (L2.upd H dx (.xd [])) (SlX.slH H a C dx (SlX.putS i v vs)) := Ext.upd ha.1
  have x := x1.trans x2
  refine ⟨x, fun b o e' => ?_⟩
  by_cases hb : b = a
  · subst hb
    rw [sup_same] at e'
    cases e'
    refine ⟨C, dx, _, e1, ⟨ne, .inr ⟨by unfold SlX.slH; exact upd_same, by unfold SlX.slH; rw [upd_ne ne]; exact upd_same⟩⟩, (ORelS.put dr i r).ext x⟩
  · rw [sup_ne hb] at e'
    exact ORel.upd ha.1 ha.2 hb (k1 b o hb e')
/-- an instance without attributes -/
theorem Sim.made {c : Str} {C x dx : Addr} (m : Sim g H S) (e1 : g.mg c = some (.ref C)) (hx : H x = none) (hd : H dx = none) (ne : dx ≠ x) :
    Ext g.K H (L2.upd (L2.upd H dx (.own x)) x (.ins C dx [])) ∧ Sim g (L2.upd (L2.upd H dx (.own x)) x (.ins C dx [])) (sup S x (.ins c [])) ∧ Sim g (L2.upd (L2.upd H dx (.own x)) x (.ins C dx [])) (sup S x (.slo c [])) := by
  have m1 : Sim g (L2.upd H dx (.own x)) S := m.hid hd
  have x1 : Ext g.K H (L2.upd H dx (.own x)) := Ext.new hd
  have hx1 : (L2.upd H dx (.own x)) x = none := by rw [upd_ne (Ne.symm ne)]; exact hx
  refine ⟨x1.trans (Ext.new hx1), m1.new hx1 ⟨C, dx, [], e1, upd_same, by rw [upd_ne ne]; exact upd_same, rfl⟩, m1.new hx1 ⟨C, dx, [], e1, ⟨ne, .inl ⟨upd_same, rfl, by rw [upd_ne ne]; exact upd_same⟩⟩, rfl⟩⟩
end

/-- a promise: cal by the bound arguments -/
def spD (g : GP) (n : Nat) (cal : DB) : Sp := fun vs H Q E => vs.length = n ∧ ∃ (ds : List D) (S : Sto) (Kt : DK) (Ex : DX), DRels g H ds vs ∧ Sim g H S ∧ cal ds S Kt Ex ∧ (∀ v H' d S', Ext g.K H H' → DRel g H' d v → Sim g H' S' → Kt d S' → Q v H') ∧
  ∀ c C fs dd H' S', g.mg c = some (.ref C) → XRel g H' dd fs → Sim g H' S' → Ext g.K H H' → Ex c fs S' → E (.ref C) dd H'
abbrev CXp (X : Cx) : CXT := L2.CX X.prog X.w
theorem Sit.ext0 {X : Cx} {pins : List (Addr × Obj)} {σ : VSt} {H : Hp} {s : Shared} {σD : DSt} {S : Sto} (T : Sit X pins σ H s σD S) : Ext X.K X.H_0 H := by
  refine ⟨fun a vs q => ?_, fun a vs q => ?_⟩
  · rcases q with (q | ⟨o, q⟩) | q
    · exact .inl (.inl (T.I.base.tups a vs q))
    · exact .inl (.inr ⟨o, T.I.base.frzs a o _ q⟩)
    · exact .inr q
  · rcases q with ⟨o, q⟩ | q
    · exact .inl ⟨o, T.I.base.frzs a o _ q⟩
    · exact .inr q
/-- what is wished of a callee's exceptions -/
theorem wish {X : Cx} {ex : DXs} {pins : List (Addr × Obj)} {σ : VSt} {H : Hp} {s : Shared} {σD : DSt} {S : Sto} (T : Sit X pins σ H s σD S) {c : Str} {C : Addr} {fs : List (Str × D)} {dd : Option Addr} {H' : Hp} {S' : Sto} (hc : X.mg c = some (.ref C)) (xr : XRel (gp X) H' dd fs) (m : Sim (gp X) H' S') (x : Ext X.K H H') (h : ex c fs σD S') :
    lX X H ex (.ref C) dd σ H' := ⟨c, C, fs, σD, S', rfl, hc, xr, T.r.ext x, m, x, h⟩
section
variable {X : Cx} {k : Nat} {f : Addr} {fd : FuncData} {ps : List Str} {cal : DB} {dd : List D} {dvs : List V} {ds : List Value}
/-- f(..), f a def: the given arguments, then dd the defaults -/
theorem cd_own (F : FnG X.prog X.w X.K X.mg X.base (CXp X) k f fd ps (spD (gp X) ps.length cal)) (hr : RoomG k X.A) (hb : Binds X.K fd ps ds) (hd : Vals dvs ds) (hdd : ∀ H, DRels (gp X) H dd dvs) :
    CallD X (.ref f) (fun xs S K E => (xs ++ dd).length = ps.length ∧ cal (xs ++ dd) S K E) := fun pins s σ H σD S ex Kt xs vs us tk T dr rv ⟨hl, q⟩ => by
  have dr2 := dr.append (hdd H)
  have l := dr2.length
  have r2 : Vals (vs ++ dvs) (us ++ ds) := rv.append hd
  have hl2 : (us ++ ds).length = ps.length := by rw [← r2.length, ← l]; exact hl
  have hsp : spD (gp X) ps.length cal (vs ++ dvs) H (fun v H' => ∃ d S', Ext X.K H H' ∧ DRel (gp X) H' d v ∧ Sim (gp X) H' S' ∧ Kt d S') (WE (lX X H ex) σ) :=
    ⟨by rw [← l]; exact hl, xs ++ dd, S, Kt, _, dr2, T.m, q, fun v H' d S' x dr m k => ⟨d, S', x, dr, m, k⟩, fun c C fs dd' H' S' hc xr m x h => wish T hc xr m x h⟩
  refine wpAny_call (codeAny_mono (F.run X.A X.stack s H ⟨us, []⟩ (us ++ ds) (vs ++ dvs) _ (WE (lX X H ex) σ) hr T.I.env0 (hb s us T.I.kIn hl2) r2 hsp) fun r s' hq => ?_)
  cases r with
  | error e => exact passAt tk σ pins H s e s' T.I hq
  | ok fl =>
    cases fl with
    | ret u =>
      obtain ⟨v, H', I', rv', d, S', x, dr', m', k'⟩ := T.I.after hq
      exact ⟨v, H', d, S', I', rv', x, dr', m', k'⟩
    | next => exact False.elim hq
    | brk => exact False.elim hq
    | cont => exact False.elim hq
/-- .. with keywords -/
def CallKD (X : Cx) (f : Value) (ks : List Str) (r : DB) : Prop := ∀ (pins : List (Addr × Obj)) (s : Shared) (σ : VSt) (H : Hp) (σD : DSt) (S : Sto) (ex : DXs) (Kt : DK) (ds es : List D) (vs zs : List V) (us ws : List Value), Takes X (lX X H ex) → Sit X pins σ H s σD S → DRels (gp X) H ds vs → DRels (gp X) H es zs → Vals vs us → Vals zs ws →
  es.length = ks.length → r (ds ++ es) S Kt (fun c fs S => ex c fs σD S) → wpAny (model X.prog X.w) X.A (call f us (ks.zip ws)) (EQ X pins σ H Kt) X.xe s
/-- f(e, ..): by name -/
theorem qe_callF {x : Str} {e : Expr} {es : List Expr} {t : DA} {r : DB} {p pos : Pos} (hc : CallD X (.ref f) r) (hg : Gl X x) (hm : X.mg x = some (.ref f)) (hk : PySem.W.keepIn X.K (.ref f) = true) (ha : QA X (e :: es) t) (hst : (e :: es).all noSt = true) (hdb : (x == ("__debug__" : Str)) = false) :
    QE X (.Call (.Name x p) (e :: es) [] pos) (dCall r t) := fun pins s σ H σD S ex Kt tk T h => by
  simp only [List.all_cons, Bool.and_eq_true] at hst
  refine wpAny_Call_Name_kw (ld_glob T.I hg hm ?_ hdb)
  refine PySem.W.callWith_K (h₀ := X.base) T.I.ok.mod.kin hk (thn (ha pos pins s σ H σD S ex _ tk T h) fun us s1 ⟨vs, H1, ds, S1, I1, r1, x1, d1, m1, q1⟩ => ⟨I1.kIn, ?_⟩) (star_cons hst.1) (star_plain hst.2)
  exact thn (hc pins s1 σ H1 σD S1 ex Kt ds vs us (tk.up x1) (T.on I1 x1 m1) d1 r1 q1) fun _ _ z => z.up x1
theorem qe_callF0 {x : Str} {r : DB} {p pos : Pos} (hc : CallD X (.ref f) r) (hg : Gl X x) (hm : X.mg x = some (.ref f)) (hk : PySem.W.keepIn X.K (.ref f) = true) (hdb : (x == ("__debug__" : Str)) = false) :
    QE X (.Call (.Name x p) [] [] pos) (dCall r dNil) := fun pins s σ H σD S ex Kt tk T h => by
  refine wpAny_Call_Name_kw (ld_glob T.I hg hm ?_ hdb)
  exact PySem.W.callWith_K0 T.I.kIn hk (hc pins s σ H σD S ex Kt [] [] [] tk T .nil .nil h)
/-- C(..), a class with an own __init__ -/
def mkD (slo : Bool) (c : Str) (cal : DB) : DB := fun xs S K E => ∀ x, S x = none → cal (.ref x :: xs) (sup S x (if slo then .slo c [] else .ins c [])) (fun v S' => v = .non ∧ K (.ref x) S') E
theorem cd_make {C : Addr} {c : Str} {slo : Bool} (hc : X.mg c = some (.ref C)) (M : Mk X.K C f) (F : FnG X.prog X.w X.K X.mg X.base (CXp X) k f fd ps (spD (gp X) ps.length cal)) (hr : RoomG (k + 1) X.A) (hb : Binds X.K fd ps ds) (hd : Vals dvs ds) (hdd : ∀ H, DRels (gp X) H dd dvs) :
    CallD X (.ref C) (mkD slo c (fun xs S K E => (xs ++ dd).length = ps.length ∧ cal (xs ++ dd) S K E)) := fun pins s σ H σD S ex Kt xs vs us tk T dr rv q => by
  have fx : H (s.heap.objs.size + 1) = none := T.I.hok.fresh (Nat.le_succ _)
  have fd' : H s.heap.objs.size = none := T.I.hok.fresh (Nat.le_refl _)
  have ne : s.heap.objs.size ≠ s.heap.objs.size + 1 := Nat.ne_of_lt (Nat.lt_succ_self _)
  obtain ⟨hl, hq⟩ := q (s.heap.objs.size + 1) (T.m.fresh fx)
  obtain ⟨x0, ma, mb⟩ := T.m.made hc fx fd' ne
  have m0 : Sim (gp X) (upd (upd H s.heap.objs.size (.own (s.heap.objs.size + 1))) (s.heap.objs.size + 1) (.ins C s.heap.objs.size [])) (sup S (s.heap.objs.size + 1) (if slo then .slo c [] else .ins c [])) := by
    cases slo
    · exact ma
    · exact mb
  have I2 := Inv.made (C := C) T.I
  have dr1 : DRels (gp X) (upd (upd H s.heap.objs.size (.own (s.heap.objs.size + 1))) (s.heap.objs.size + 1) (.ins C s.heap.objs.size [])) (.ref (s.heap.objs.size + 1) :: xs ++ dd) (.ref (s.heap.objs.size + 1) :: vs ++ dvs) :=
    DRels.append (.cons (by simp [DRel]) (DRels.ext x0 xs dr)) (hdd _)
  have l := dr1.length
  have r2 : Vals (V.ref (s.heap.objs.size + 1) :: vs ++ dvs) (Value.ref (s.heap.objs.size + 1) :: us ++ ds) := .cons rfl (rv.append hd)
  have hl2 : (Value.ref (s.heap.objs.size + 1) :: us ++ ds).length = ps.length := by rw [← r2.length, ← l]; exact hl
  have T2 : Sit X pins σ (upd (upd H s.heap.objs.size (.own (s.heap.objs.size + 1))) (s.heap.objs.size + 1) (.ins C s.heap.objs.size [])) _ σD (sup S (s.heap.objs.size + 1) (if slo then .slo c [] else .ins c [])) := ⟨I2, T.r.ext x0, m0⟩
  have hsp : spD (gp X) ps.length cal (V.ref (s.heap.objs.size + 1) :: vs ++ dvs) (upd (upd H s.heap.objs.size (.own (s.heap.objs.size + 1))) (s.heap.objs.size + 1) (.ins C s.heap.objs.size []))
      (fun v H' => v = .non ∧ ∃ S', Ext X.K (upd (upd H s.heap.objs.size (.own (s.heap.objs.size + 1))) (s.heap.objs.size + 1) (.ins C s.heap.objs.size [])) H' ∧ Sim (gp X) H' S' ∧ Kt (.ref (s.heap.objs.size + 1)) S') (WE (lX X H ex) σ) :=
    ⟨by rw [← l]; exact hl, _, _, _, _, dr1, m0, hq, fun v H' d S' x dr m ⟨k1, k2⟩ => ⟨by subst k1; simpa [DRel] using dr, S', x, m, k2⟩, fun c C fs dd' H' S' hc xr m x h => wish T hc xr m (x0.trans x) h⟩
  refine wpAny_call (make_map (f := f) T.I.kIn M.makes M.init (beq_iff_eq.mp M.fn) (codeAny_mono (F.run _ X.stack _ _ ⟨Value.ref (s.heap.objs.size + 1) :: us, []⟩ (Value.ref (s.heap.objs.size + 1) :: us ++ ds) _ _ (WE (lX X H ex) σ) (hr.make C us [])
    (I2.env0.make C us []) (hb _ (Value.ref (s.heap.objs.size + 1) :: us) I2.kIn hl2) r2 hsp) fun r s' hq' => ?_))
  cases r with
  | error e => exact passAt tk σ pins _ _ e s' I2 hq'
  | ok fl =>
    cases fl with
    | ret u =>
      obtain ⟨v, H', I3, rv', ev, S', x, m, q3⟩ := I2.after hq'
      subst ev
      exact ⟨rv', ⟨V.ref (s.heap.objs.size + 1), H', .ref (s.heap.objs.size + 1), S', I3, rfl, x0.trans x, by simp [DRel], m, q3⟩⟩
    | next => exact False.elim hq'
    | brk => exact False.elim hq'
    | cont => exact False.elim hq'
end
end DL

set_option Elab.async false
set_option linter.all false
set_option maxRecDepth 100000
set_option maxHeartbeats 4000000
namespace DL
open PySem PySem.Spec PyProof.Rows L2

/-- a class: slo: it has slots; its attributes (slots in their order), properties, methods -/
structure ClsE where
  slo : Bool
  fields : List Str
  props : List Str
  meths : List Str
/-- a def: its parameters, its defaults -/
structure FI where
  ps : List Str
  dfl : List D
abbrev Key := Str × Option Str
abbrev Orc := Key → DB
/-- what K has of the class c at C -/
structure ClsOk (K : PySem.W.Frag) (fa : Key → Addr) (c : Str) (ce : ClsE) (C : Addr) : Prop where
  s : SlX.SCls K C
  i : SlX.SIsi K C
  d : ce.slo = false → Cls K C ∧ ∀ f ∈ ce.fields, NoAttr K C f
  sl : ce.slo = true → ∀ (i : Nat) f, ce.fields[i]? = some f → ∃ p, SlX.Slot1 K C f p i
  pr : ∀ f ∈ ce.props, ∃ p, PropOf K C f p (fa (c, some f))
  me : ∀ m ∈ ce.meths, Meth K C m (fa (c, some m))
  mak : Mk K C (fa (c, some "__init__"))
/-- the classes -/
abbrev Tb := Str → Option ClsE
def TbOk (X : Cx) (fa : Key → Addr) (tb : Tb) : Prop := ∀ c ce, tb c = some ce → ∃ C, X.mg c = some (.ref C) ∧ ClsOk X.K fa c ce C
/-- the defaults may lack from behind -/
def BdOk (X : Cx) (fd : FuncData) (p : FI) : Prop := ∀ j, j ≤ p.dfl.length → ∃ (dvs : List V) (ds : List Value), Binds X.K fd p.ps ds ∧ Vals dvs ds ∧ ∀ H, DRels (gp X) H (p.dfl.drop (p.dfl.length - j)) dvs
/-- the defs -/
def OrcOk (X : Cx) (k : Nat) (fa : Key → Addr) (fi : Key → Option FI) (orc : Orc) : Prop := ∀ key p, fi key = some p → ∃ fd, FnG X.prog X.w X.K X.mg X.base (CXp X) k (fa key) fd p.ps (spD (gp X) p.ps.length (orc key)) ∧ BdOk X fd p
def callO (fi : Key → Option FI) (orc : Orc) (key : Key) : DB := fun xs S K E => ∃ p, fi key = some p ∧ xs.length ≤ p.ps.length ∧ p.ps.length ≤ xs.length + p.dfl.length ∧ orc key (xs ++ p.dfl.drop (p.dfl.length - (p.ps.length - xs.length))) S K E
section
variable {X : Cx} {k : Nat} {fa : Key → Addr} {fi : Key → Option FI} {orc : Orc} {tb : Tb}
theorem cd_orc (O : OrcOk X k fa fi orc) (hr : RoomG k X.A) (key : Key) : CallD X (.ref (fa key)) (callO fi orc key) := fun pins s σ H σD S ex Kt xs vs us tk T dr rv ⟨p, hp, h1, h2, q⟩ => by
  obtain ⟨fd, F, B⟩ := O key p hp
  obtain ⟨dvs, ds, hb, hd, hdd⟩ := B (p.ps.length - xs.length) (by omega)
  refine cd_own F hr hb hd hdd pins s σ H σD S ex Kt xs vs us tk T dr rv ⟨?_, q⟩
  rw [List.length_append, List.length_drop]
  omega
/-- C(..) -/
def makeO (tb : Tb) (fi : Key → Option FI) (orc : Orc) (c : Str) : DB := fun xs S K E => ∃ ce, tb c = some ce ∧ ∃ p, fi (c, some "__init__") = some p ∧ xs.length + 1 ≤ p.ps.length ∧ p.ps.length ≤ xs.length + 1 + p.dfl.length ∧
  ∀ x, S x = none → orc (c, some "__init__") (.ref x :: xs ++ p.dfl.drop (p.dfl.length - (p.ps.length - (xs.length + 1)))) (sup S x (if ce.slo then .slo c [] else .ins c [])) (fun v S' => v = .non ∧ K (.ref x) S') E
theorem cd_makeO {c : Str} {C : Addr} (W : TbOk X fa tb) (O : OrcOk X k fa fi orc) (hr : RoomG (k + 1) X.A) (hC : X.mg c = some (.ref C)) : CallD X (.ref C) (makeO tb fi orc c) := fun pins s σ H σD S ex Kt xs vs us tk T dr rv ⟨ce, hce, p, hp, h1, h2, q⟩ => by
  obtain ⟨C', hC', c'⟩ := W c ce hce
  rw [hC] at hC'
  cases hC'
  obtain ⟨fd, F, B⟩ := O _ p hp
  obtain ⟨dvs, ds, hb, hd, hdd⟩ := B (p.ps.length - (xs.length + 1)) (by omega)
  refine cd_make (slo := ce.slo) hC c'.mak F hr hb hd hdd pins s σ H σD S ex Kt xs vs us tk T dr rv fun x hx => ⟨?_, q x hx⟩
  simp only [List.length_append, List.length_cons, List.length_drop]
  omega

def baseOk : Expr → Bool
  | .Call (.Name x _) [] [] _ => x != "super"
  | _ => true
theorem base_ok {o : Expr} {m : Str} {env : Env} (h : baseOk o = true) : attributeBase o m env (eval o env) = eval o env := by
  unfold baseOk at h
  split at h
  · unfold attributeBase
    dsimp only
    rw [h]
    simp only [Bool.true_or, if_true]
    first | done | exact LawfulMonad.bind_pure_comp .. |>.trans (by simp)
  · rename_i hn
    unfold attributeBase
    split
    · rename_i id _ pos
      exact absurd rfl (hn _ _ _)
    · rfl
def ixOf (f : Str) : List Str → Option Nat
  | [] => none
  | x :: r => if x = f then some 0 else (ixOf f r).map (· + 1)
theorem ixOf_get {f : Str} : ∀ {l : List Str} {i : Nat}, ixOf f l = some i → l[i]? = some f
  | [], i, h => by cases h
  | x :: r, i, h => by
    unfold ixOf at h
    split at h
    · cases h; subst x; rfl
    · cases e : ixOf f r with
      | none => rw [e] at h; cases h
      | some j => rw [e] at h; cases h; simpa using ixOf_get e
def attD (tb : Tb) (fi : Key → Option FI) (orc : Orc) (f : Str) (o : D) (S : Sto) (K : DK) : Prop := ∃ a ob c ce, o = .ref a ∧ S a = some ob ∧ ob.cn = some c ∧ tb c = some ce ∧
  if f ∈ ce.props then callO fi orc (c, some f) [o] S K (fun _ _ _ => False)
  else match ob with
    | .ins _ fs => ce.slo = false ∧ f ∈ ce.fields ∧ ∃ d, fs.lookup f = some d ∧ K d S
    | .slo _ vs => ce.slo = true ∧ ∃ i d, ixOf f ce.fields = some i ∧ vs[i]? = some (some d) ∧ K d S
    | _ => False
theorem ORelS.get {g : GP} {H : Hp} {d : D} : ∀ {ds : List (Option D)} {vs : List (Option V)} {i : Nat}, ORelS g H ds vs → ds[i]? = some (some d) → ∃ v, vs[i]? = some (some v) ∧ DRel g H d v
  | [], vs, i, h, e => by simp at e
  | x :: ds, vs, 0, h, e => by
    obtain ⟨v, r, e1, h1, h2⟩ := h
    subst e1
    simp at e
    subst e
    cases v with
    | none => exact h1.elim
    | some v => exact ⟨v, rfl, h1⟩
  | x :: ds, vs, i + 1, h, e => by
    obtain ⟨v, r, e1, h1, h2⟩ := h
    subst e1
    obtain ⟨w, q, z⟩ := ORelS.get (i := i) h2 (by simpa using e)
    exact ⟨w, by simpa using q, z⟩
variable {pins : List (Addr × Obj)} {σ : VSt} {H : Hp} {s : Shared} {σD : DSt} {S : Sto}
theorem att_ok (W : TbOk X fa tb) (cap : (OrcOk X k fa fi orc ∧ RoomG (k + 1) X.A) ∨ ∀ key, fi key = none) {f : Str} {b : Bool} {o : D} {ov : V} {u : Value} {Kt : DK} (T : Sit X pins σ H s σD S) (dr : DRel (gp X) H o ov) (ru : RelV ov u) (h : attD tb fi orc f o S Kt) :
    wpAny (model X.prog X.w) X.A (getAttr u f b) (EQ X pins σ H Kt) X.xe s := by
  obtain ⟨a, ob, c, ce, rfl, hob, hcn, hce, h⟩ := h
  unfold DRel at dr; subst dr
  obtain rfl : u = Value.ref a := ru
  obtain ⟨C, hC, CO⟩ := W c ce hce
  obtain ⟨C', ox, od, hC', J, hl⟩ := inst_at T hob hcn
  rw [hC] at hC'
  cases hC'
  by_cases hp : f ∈ ce.props
  · rw [if_pos hp] at h
    obtain ⟨p, hp⟩ := CO.pr f hp
    obtain ⟨q, hq, h1, h2, h⟩ := h
    obtain ⟨O, hr⟩ : OrcOk X k fa fi orc ∧ RoomG (k + 1) X.A := by
      rcases cap with z | z
      · exact z
      · rw [z] at hq; cases hq
    obtain ⟨fd, F, B⟩ := O _ q hq
    obtain ⟨dvs, ds, hb, hd, hdd⟩ := B (q.ps.length - 1) (by simp at h2; omega)
    obtain ⟨rest, hrec⟩ := hp.rec_
    have dr1 : DRels (gp X) H ([D.ref a] ++ q.dfl.drop (q.dfl.length - (q.ps.length - 1))) (.ref a :: dvs) := DRels.append (.one (by simp [DRel])) (hdd H)
    have rl : (V.ref a :: dvs).length = q.ps.length := by
      rw [← dr1.length]
      simp only [List.length_append, List.length_cons, List.length_nil, List.length_drop] at h1 h2 ⊢
      omega
    have hsp : spD (gp X) q.ps.length (orc (c, some f)) (.ref a :: dvs) H (fun v H' => ∃ d S', Ext X.K H H' ∧ DRel (gp X) H' d v ∧ Sim (gp X) H' S' ∧ Kt d S') (fun _ _ _ => False) :=
      ⟨rl, _, S, Kt, _, dr1, T.m, h, fun v H' d S' x dr m k => ⟨d, S', x, dr, m, k⟩, fun c C fs dd' H' S' hc xr m x h => h⟩
    have I1 := T.I.tok (s.toks + 1)
    have r2 : Vals (V.ref a :: dvs) (Value.ref a :: ds) := .cons rfl hd
    refine PySem.W.get_bind T.I.kIn J (PySem.W.plainGet_of (CO.s.get f)).1 (PySem.W.findObj_data CO.s.ic hp.at_ hp.get hp.tak) (PySem.W.plainGet_of (CO.s.get f)).2 (wpAny_call (PySem.W.prop_get (s := { s with toks := s.toks + 1 }) T.I.kIn hrec ?_))
    refine codeAny_mono (F.run X.A.in1 X.stack { s with toks := s.toks + 1 } H ⟨[.ref a], []⟩ (.ref a :: ds) (.ref a :: dvs) _ _ hr.in1 I1.env0.in1 (hb _ [.ref a] I1.kIn (by rw [← rl]; exact r2.length.symm)) r2 hsp) fun r s' hq => ?_
    cases r with
    | error er => exact (hq.choose_spec.choose_spec.choose_spec.choose_spec.choose_spec.2.2.2.2.2.2.2).elim
    | ok fl =>
      cases fl with
      | ret u =>
        obtain ⟨v, H', I3, rv, d, S', x, dr, m, k⟩ := I1.after hq
        show wpAny _ _ (handedOut u) _ _ _
        rw [PySem.W.handedOut_of (handed_of rv)]
        exact wpAny_pure ⟨v, H', d, S', I3, rv, x, dr, m, k⟩
      | next => exact False.elim hq
      | brk => exact False.elim hq
      | cont => exact False.elim hq
  · rw [if_neg hp] at h
    have q := T.m a ob hob
    cases ob with
    | lst _ => exact h.elim
    | dic _ => exact h.elim
    | exd _ => exact h.elim
    | ins c' fs =>
      cases hcn
      obtain ⟨hs, hf, d, hd, hk⟩ := h
      obtain ⟨C', dx, vs, e1, e2, e3, r⟩ := q
      have e1' : X.mg c = some (.ref C') := e1
      rw [hC] at e1'
      cases e1'
      obtain ⟨v, hv, dv⟩ := r.look hd
      obtain ⟨cl, na⟩ := CO.d hs
      exact getattr_ok T.I e2 cl (na f hf) hv fun u' s' I' ru' => ⟨v, H, d, S, I', ru', .refl, dv, T.m, hk⟩
    | slo c' ds =>
      cases hcn
      obtain ⟨hs, i, d, hi, hd, hk⟩ := h
      obtain ⟨C', dx, vs, e1, e2, r⟩ := q
      have e1' : X.mg c = some (.ref C') := e1
      rw [hC] at e1'
      cases e1'
      obtain ⟨p, t⟩ := CO.sl hs i f (ixOf_get hi)
      obtain ⟨v, hv, dv⟩ := r.get hd
      exact SlX.getslot_ok T.I e2.slt CO.s t hv fun u' s' I' ru' => ⟨v, H, d, S, I', ru', .refl, dv, T.m, hk⟩
def dAtt (tb : Tb) (fi : Key → Option FI) (orc : Orc) (f : Str) (te : DE) : DE := fun σ S K E => te σ S (fun o S1 => attD tb fi orc f o S1 K) E
theorem qe_att (W : TbOk X fa tb) (O : OrcOk X k fa fi orc) (hr : RoomG (k + 1) X.A) {e : Expr} {te : DE} {f : Str} {pos : Pos} (he : QE X e te) (hb : baseOk e = true) : QE X (.Attribute e f pos) (dAtt tb fi orc f te) := fun pins s σ H σD S ex Kt tk T h =>
  attr_of (base_ok hb) (thn (he pins s σ H σD S ex _ tk T h) fun u s1 ⟨v, H1, x, S1, I1, r1, x1, d1, m1, q1⟩ => thn (att_ok W (.inl ⟨O, hr⟩) (T.on I1 x1 m1) d1 r1 q1) fun _ _ z => z.up x1)
/-- o.f = d -/
def setAD (tb : Tb) (f : Str) (o d : D) (S : Sto) (P : Sto → Prop) : Prop := ∃ a ob c ce, o = .ref a ∧ S a = some ob ∧ ob.cn = some c ∧ tb c = some ce ∧
  match ob with
    | .ins _ fs => ce.slo = false ∧ f ∈ ce.fields ∧ fs.length < 1000 ∧ P (sup S a (.ins c (putD f d fs)))
    | .slo _ vs => ce.slo = true ∧ ∃ i, ixOf f ce.fields = some i ∧ P (sup S a (.slo c ((vs ++ List.replicate (i + 1 - vs.length) none).set i (some d))))
    | _ => False
theorem setA_ok (W : TbOk X fa tb) {f : Str} {o d : D} {ov v : V} {ou u : Value} {P : Sto → Prop} (T : Sit X pins σ H s σD S) (d1 : DRel (gp X) H o ov) (d2 : DRel (gp X) H d v) (r1 : RelV ov ou) (r2 : RelV v u) (h : setAD tb f o d S P) :
    wpAny (model X.prog X.w) X.A (setAttr ou f u) (fun _ s' => ∃ H' S', Inv X pins σ H' s' ∧ Ext X.K H H' ∧ Sim (gp X) H' S' ∧ P S') X.xe s := by
  obtain ⟨a, ob, c, ce, rfl, hob, hcn, hce, h⟩ := h
  unfold DRel at d1; subst d1
  obtain rfl : ou = Value.ref a := r1
  obtain ⟨C, hC, CO⟩ := W c ce hce
  have q := T.m a ob hob
  cases ob with
  | lst _ => exact h.elim
  | dic _ => exact h.elim
  | exd _ => exact h.elim
  | ins c' fs =>
    cases hcn
    obtain ⟨hs, hf, hz, hk⟩ := h
    obtain ⟨C', dx, vs, e1, e2, e3, r⟩ := q
    have e1' : X.mg c = some (.ref C') := e1
    rw [hC] at e1'
    cases e1'
    obtain ⟨cl, na⟩ := CO.d hs
    obtain ⟨x, m⟩ := T.m.setF (f := f) hob e1 e2 e3 r d2
    exact setattr_ok T.I e2 cl (na f hf) (by rw [← r.length]; exact hz) r2 fun s' I' => ⟨_, _, I', x, m, hk⟩
  | slo c' ds =>
    cases hcn
    obtain ⟨hs, i, hi, hk⟩ := h
    obtain ⟨C', dx, vs, e1, e2, r⟩ := q
    have e1' : X.mg c = some (.ref C') := e1
    rw [hC] at e1'
    cases e1'
    obtain ⟨p, t⟩ := CO.sl hs i f (ixOf_get hi)
    obtain ⟨x, m⟩ := T.m.setS (i := i) hob e1 e2 r d2
    exact SlX.setslot_ok T.I e2.slt CO.s t r2 fun s' I' => ⟨_, _, I', x, m, hk⟩
def sSetA (tb : Tb) (f : Str) (to te : DE) : DS := fun D σ S => te σ S (fun d S1 => to σ S1 (fun o S2 => setAD tb f o d S2 fun S3 => D.nx σ S3) (eX D σ)) (eX D σ)
theorem qs_setA (W : TbOk X fa tb) {f : Str} {o e : Expr} {to te : DE} {pos pos' : Pos} (ho : QE X o to) (he : QE X e te) (hs : swapsWith e (some (.Attribute o f pos')) pos.line X.env = pure false) : QS X (.Assign [.Attribute o f pos'] e pos) (sSetA tb f to te) := fun pins s σ H σD S D tk T h => by
  refine plainObj_wpAny_Assign_Attribute (thn (he pins s σ H σD S D.ex _ tk T h) fun u s1 ⟨v, H1, x, S1, I1, r1, x1, d1, m1, q1⟩ => thn (ho pins s1 σ H1 σD S1 D.ex _ (tk.up x1) (T.on I1 x1 m1) q1) fun ov s2 ⟨w, H2, y, S2, I2, r2, x2, d2, m2, q2⟩ => ?_) hs
  exact thn (setA_ok W (T.on I2 (x1.trans x2) m2) d2 (DRel.ext x2 _ d1) r2 r1 q2) fun _ s3 ⟨H3, S3, I3, x3, m3, q3⟩ => ⟨σ, H3, σD, S3, T.on I3 (x1.trans (x2.trans x3)) m3, x1.trans (x2.trans x3), q3⟩
/-- o.f as a target -/
def gAt (tb : Tb) (i : Nat) (f : Str) : DG := fun d σ S P => ∃ o, σ[i]? = some (some o) ∧ setAD tb f o d S (fun S' => P σ S')
theorem qg_att (W : TbOk X fa tb) {i : Nat} {x f : Str} {px pos : Pos} (hN : X.N[i]? = some x) (hv : Vis X.env.scope x) (hd : (x == ("__debug__" : Str)) = false) (hcd : (x == ("__classdict__" : Str)) = false) {vs : List Nat} : QG X vs (.Attribute (.Name x px) f pos) (gAt tb i f) := fun pins s σ H σD S d v u P T dr r ⟨o, ho, h⟩ => by
  obtain ⟨w, ew, rw'⟩ := T.r.at_ i o ho
  refine assign_att (thn (thnE (Kt := fun o' S' => o' = o ∧ S' = S) (pe_var hN hv hd hcd) T.I ⟨w, ew, o, S, .refl, rw', T.m, rfl, rfl⟩) fun ou s1 ⟨ov, H1, o', S1, I1, r1, x1, d1, m1, eo, eS⟩ => ?_)
  subst eo eS
  exact thn (setA_ok W (T.on I1 x1 m1) d1 (DRel.ext x1 _ dr) r1 r h) fun _ s2 ⟨H2, S2, I2, x2, m2, q2⟩ => ⟨σ, H2, σD, S2, T.on I2 (x1.trans x2) m2, x1.trans x2, rfl, q2⟩
end
end DL

set_option Elab.async false
set_option linter.all false
set_option maxRecDepth 100000
set_option maxHeartbeats 4000000
namespace DL
open PySem PySem.Spec PyProof.Rows L2

inductive TyC where
  | b (n : String) | c (x : Str)
  deriving DecidableEq
def tyD (tb : Tb) (S : Sto) : D → Option TyC
  | .non => some (.b "NoneType")
  | .bl _ => some (.b "bool")
  | .int _ => some (.b "int")
  | .str _ => some (.b "str")
  | .tup _ => some (.b "tuple")
  | .rol _ => some (.b "list")
  | .ref a => match S a with
    | some (.lst _) => some (.b "list")
    | some (.ins c _) => (tb c).map fun _ => .c c
    | some (.slo c _) => (tb c).map fun _ => .c c
    | some (.dic _) => some (.b "dict")
    | _ => none
  | .ty _ => none
  | .glo _ => none
/-- a class as a value -/
def clD : D → Option TyC
  | .ty n => some (.b n)
  | .glo x => some (.c x)
  | _ => none
def TyV (mg : Str → Option Value) : TyC → Value → Prop
  | .b n, v => v = .type n
  | .c x, v => ∃ C, mg x = some (.ref C) ∧ v = .ref C
def IsiOk (X : Cx) (tab : TyC → TyC → Option Bool) : Prop := ∀ t c b, tab t c = some b → ∀ tv cv, TyV X.mg t tv → TyV X.mg c cv → PySem.W.kitOne X.K tv cv = some b
def tabAny (tab : TyC → TyC → Option Bool) (t : TyC) : List TyC → Option Bool
  | [] => some false
  | c :: r => match tab t c with
    | some true => some true
    | some false => tabAny tab t r
    | none => none
def isiD (tb : Tb) (tab : TyC → TyC → Option Bool) : DB := fun ds S K _ => ∃ x y t b, ds = [x, y] ∧ tyD tb S x = some t ∧ K (.bl b) S ∧ ((∃ c, clD y = some c ∧ tab t c = some b) ∨ ∃ ys cs, y = .tup ys ∧ mapO clD ys = some cs ∧ tabAny tab t cs = some b)
section
variable {X : Cx} {tab : TyC → TyC → Option Bool}
theorem clD_val {H : Hp} {y : D} {c : TyC} {v : V} {u : Value} (h : clD y = some c) (dr : DRel (gp X) H y v) (r : RelV v u) : TyV X.mg c u := by
  cases y with
  | ty n =>
    cases h
    unfold DRel at dr; subst dr
    exact r
  | glo x =>
    cases h
    unfold DRel at dr
    obtain ⟨a, h1, h2⟩ := dr
    subst h2
    exact ⟨a, h1, r⟩
  | _ => cases h
theorem clD_vals {H : Hp} : ∀ {ys : List D} {cs : List TyC} {vs : List V} {us : List Value}, mapO clD ys = some cs → DRels (gp X) H ys vs → Vals vs us → Paired (TyV X.mg) cs us
  | [], cs, vs, us, h, dr, r => by
    cases h
    unfold DRels at dr; subst dr
    cases r
    exact .nil
  | y :: ys, cs, vs, us, h, dr, r => by
    unfold mapO at h
    cases e1 : clD y with
    | none => simp [e1] at h
    | some c =>
      cases e2 : mapO clD ys with
      | none => simp [e1, e2] at h
      | some cs' =>
        simp [e1, e2] at h
        subst h
        unfold DRels at dr
        obtain ⟨v, rr, e, d1, d2⟩ := dr
        subst e
        cases r with
        | cons r1 r2 => exact .cons (clD_val e1 d1 r1) (clD_vals e2 d2 r2)
theorem tabAny_ok (W : IsiOk X tab) {t : TyC} {tv : Value} (ht : TyV X.mg t tv) : ∀ {cs : List TyC} {us : List Value} {b : Bool}, tabAny tab t cs = some b → Paired (TyV X.mg) cs us → PySem.W.kitAny X.K tv us = some b
  | [], _, b, h, .nil => by cases h; rfl
  | c :: _, u :: _, b, h, .cons p q => by
    unfold tabAny at h
    unfold PySem.W.kitAny
    cases e : tab t c with
    | none => rw [e] at h; cases h
    | some k =>
      rw [e] at h
      rw [W t c k e tv u ht p]
      cases k with
      | true => exact h
      | false => exact tabAny_ok W ht h q
theorem kit_D {pins : List (Addr × Obj)} {σ : VSt} {H : Hp} {s : Shared} {σD : DSt} {S : Sto} {fa : Key → Addr} {tb : Tb} (W : TbOk X fa tb) (T : Sit X pins σ H s σD S) {x : D} {v : V} {u : Value} {t : TyC} (h : tyD tb S x = some t) (dr : DRel (gp X) H x v) (r : RelV v u) :
    ∃ (tv : Value) (P : Heap → Prop), TyV X.mg t tv ∧ PySem.W.KitX X.K u tv P ∧ P s.heap ∧ u ≠ .builtin "__main__.__loader__#opaque" := by
  have own : ∀ {a : Addr} {ob : SO} {c : Str}, S a = some ob → ob.cn = some c → (tb c).map (fun _ => TyC.c c) = some t → v = .ref a → ∃ (tv : Value) (P : Heap → Prop), TyV X.mg t tv ∧ PySem.W.KitX X.K u tv P ∧ P s.heap ∧ u ≠ .builtin "__main__.__loader__#opaque" := by
    intro a ob c e hc ht ev
    subst ev
    obtain rfl : u = Value.ref a := r
    obtain ⟨ce, hce, e9⟩ := Option.map_eq_some_iff.mp ht
    subst e9
    obtain ⟨C, hC, CO⟩ := W c ce hce
    obtain ⟨C', ox, od, hC', J, _⟩ := inst_at T e hc
    rw [hC] at hC'; cases hC'
    exact ⟨.ref C, _, ⟨C, hC, rfl⟩, OwX.kitx_slt CO.s.ic (CO.s.get _) CO.i.ca CO.i.cn CO.i.ct CO.i.cm, J, fun z => nomatch z⟩
  have base : ∀ {tv : Value}, TyX X.K H v tv → TyV X.mg t tv → ∃ (tv : Value) (P : Heap → Prop), TyV X.mg t tv ∧ PySem.W.KitX X.K u tv P ∧ P s.heap ∧ u ≠ .builtin "__main__.__loader__#opaque" := fun {tv} ty e => by
    obtain ⟨P, a, b, c⟩ := kit_of T.I r ty
    exact ⟨tv, P, e, a, b, c⟩
  cases x with
  | non => cases h; unfold DRel at dr; subst dr; exact base (.base .non) rfl
  | bl b => cases h; unfold DRel at dr; subst dr; exact base (.base (.bl b)) rfl
  | int b => cases h; unfold DRel at dr; subst dr; exact base (.base (.int b)) rfl
  | str b => cases h; unfold DRel at dr; subst dr; exact base (.base (.str b)) rfl
  | tup ds =>
    cases h
    unfold DRel at dr
    obtain ⟨a, vs, e, q, _⟩ := dr
    subst e
    rcases q with (q | ⟨o, q⟩) | ⟨o, its, n, q1, q2, _⟩
    · exact base (.base (.tup q)) rfl
    · exact base (.fTuple q) rfl
    · exact base (.kTuple q1 q2) rfl
  | rol ds =>
    cases h
    unfold DRel at dr
    obtain ⟨a, vs, e, q, _⟩ := dr
    subst e
    rcases q with ⟨o, q⟩ | ⟨o, its, n, q1, q2, _⟩
    · exact base (.base (.frz q)) rfl
    · exact base (.kList q1 q2) rfl
  | ref a =>
    unfold DRel at dr
    simp only [tyD] at h
    cases e : S a with
    | none => rw [e] at h; cases h
    | some ob =>
      rw [e] at h
      cases ob with
      | lst xs =>
        cases h
        obtain ⟨vs, q, _⟩ := T.m a _ e
        subst dr
        exact base (.base (.lst q)) rfl
      | ins c fs => exact own e rfl h dr
      | slo c fs => exact own e rfl h dr
      | exd fs => cases h
      | dic kvs =>
        cases h
        obtain ⟨es, ep, q, _⟩ := T.m a _ e
        subst dr
        obtain rfl : u = Value.ref a := r
        obtain ⟨⟨_, _, o, h1, h2, _⟩, _⟩ := T.I.hok a _ q
        exact ⟨.type "dict", _, rfl, PySem.W.kitx_dict, ⟨o, h1, h2.1⟩, fun z => nomatch z⟩
  | ty _ => cases h
  | glo _ => cases h
theorem cd_isi {fa : Key → Addr} {tb : Tb} (W : TbOk X fa tb) (Wi : IsiOk X tab) : CallD X (.builtin "isinstance") (isiD tb tab) := fun pins s σ H σD S ex Kt ds vs us tk T dr rv ⟨x, y, t, b, e, ht, k, h⟩ => by
  subst e
  obtain ⟨v, w, rfl, d1, d2⟩ := drels2 dr
  obtain ⟨u1, u2, rfl, r1, r2⟩ := rv.two
  obtain ⟨tv, P, htv, Z, p, hx⟩ := kit_D W T ht d1 r1
  have fin : ∀ tk, EQ X pins σ H Kt (.bool b) { s with toks := tk } := fun tk => ⟨.bl b, H, .bl b, S, T.I.tok tk, rfl, .refl, by simp [DRel], T.m, k⟩
  rcases h with ⟨c, hc, hb⟩ | ⟨ys, cs, rfl, hc, hb⟩
  · exact PySem.W.kia_one Z T.I.kIn p (Wi t c b hb tv u2 htv (clD_val hc d2 r2)) hx fin
  · unfold DRel at d2
    obtain ⟨a, ws, e, q, dr2⟩ := d2
    subst e
    cases (show u2 = Value.ref a from r2)
    obtain ⟨its, rv2, ht2, _⟩ := T.I.tuple q
    obtain ⟨o, h1, h2, n, h3⟩ := ht2
    obtain ⟨oc, od, dt, sl⟩ := o
    simp only at h2 h3
    subst h2 h3
    exact PySem.W.kia_tup Z T.I.kIn p h1 (tabAny_ok Wi htv hb (clD_vals hc dr2 rv2)) hx fin
end
end DL

set_option Elab.async false
set_option linter.all false
set_option maxRecDepth 100000
set_option maxHeartbeats 4000000
namespace DL
open PySem PySem.Spec PyProof.Rows L2

def MtD (X : Cx) (id : String) (r : DB) : Prop := CallD X (.builtin id) r
def appendD : DB := fun ds S K _ => ∃ a xs y, ds = [.ref a, y] ∧ S a = some (.lst xs) ∧ xs.length < sizeLine ∧ K .non (sup S a (.lst (xs ++ [y])))
def extendD : DB := fun ds S K _ => ∃ a b xs ys, ds = [.ref a, .ref b] ∧ S a = some (.lst xs) ∧ S b = some (.lst ys) ∧ xs.length + ys.length ≤ sizeLine ∧ K .non (sup S a (.lst (xs ++ ys)))
def popD : DB := fun ds S K _ => ∃ a xs y, ds = [.ref a] ∧ S a = some (.lst xs) ∧ xs[xs.length - 1]? = some y ∧ K y (sup S a (.lst xs.dropLast))
def popAtD : DB := fun ds S K _ => ∃ a xs i k y, ds = [.ref a, .int i] ∧ S a = some (.lst xs) ∧ -(2 ^ 63) ≤ i ∧ i < 2 ^ 63 ∧ seqIndex? i xs.length = some k ∧ xs[k]? = some y ∧ K y (sup S a (.lst (xs.eraseIdx k)))
def insertD : DB := fun ds S K _ => ∃ a xs i y, ds = [.ref a, .int i, y] ∧ S a = some (.lst xs) ∧ xs.length < sizeLine ∧ 0 ≤ i ∧ i < 2 ^ 63 ∧ K .non (sup S a (.lst (xs.take i.toNat ++ [y] ++ xs.drop i.toNat)))
section
variable {X : Cx}
theorem CallD.ofM {id : String} {r0 : V → List V → Hp → VK → Prop} {r : DB} (ho : MtR X id r0) (h : ∀ (H : Hp) (S : Sto) (Kt : DK) (E : DX) (ds : List D) (vs : List V), Sim (gp X) H S → DRels (gp X) H ds vs → r ds S Kt E →
    ∃ x xs, vs = x :: xs ∧ r0 x xs H fun v H' => ∃ d S', Ext X.K H H' ∧ DRel (gp X) H' d v ∧ Sim (gp X) H' S' ∧ Kt d S') : CallD X (.builtin id) r := fun pins s σ H σD S ex Kt ds vs us tk T dr rv q => by
  obtain ⟨x, xs, e, q⟩ := h H S Kt _ ds vs T.m dr q
  subst e
  cases rv with
  | cons r1 r2 => exact thn (ho pins s σ H x xs _ _ _ T.I r1 r2 q) fun u s1 ⟨v, H', I', r, d, S', x, dr, m, k⟩ => ⟨v, H', d, S', I', r, x, dr, m, k⟩
theorem DRels.dropLast {g : GP} {H : Hp} {ds : List D} {vs : List V} (h : DRels g H ds vs) : DRels g H ds.dropLast vs.dropLast := by
  rw [List.dropLast_eq_take, List.dropLast_eq_take, h.length]
  exact h.take _
theorem DRels.erase {g : GP} {H : Hp} {ds : List D} {vs : List V} (h : DRels g H ds vs) (i : Nat) : DRels g H (ds.eraseIdx i) (vs.eraseIdx i) := by
  rw [List.eraseIdx_eq_take_drop_succ, List.eraseIdx_eq_take_drop_succ]
  exact (h.take _).append (h.drop _)
theorem cd_append : CallD X (.builtin "list.append") appendD := .ofM mt_append fun H S Kt E ds vs m dr ⟨a, xs, y, e, hS, hz, k⟩ => by
  subst e
  obtain ⟨v, w, rfl, d1, d2⟩ := drels2 dr
  unfold DRel at d1; subst d1
  obtain ⟨ws, h1, h2⟩ := m a _ hS
  exact ⟨_, _, rfl, a, ws, w, rfl, rfl, h1, by rw [← h2.length]; exact hz, .non, _, m.ext_setL hS, by simp [DRel], m.setL hS (h2.append (.one d2)), k⟩
theorem cd_extend : CallD X (.builtin "list.extend") extendD := .ofM mt_extend fun H S Kt E ds vs m dr ⟨a, b, xs, ys, e, hS, hb, hz, k⟩ => by
  subst e
  obtain ⟨v, w, rfl, d1, d2⟩ := drels2 dr
  unfold DRel at d1 d2; subst d1 d2
  obtain ⟨ws, h1, h2⟩ := m a _ hS
  obtain ⟨zs, h3, h4⟩ := m b _ hb
  exact ⟨_, _, rfl, a, b, ws, zs, rfl, rfl, h1, h3, by rw [← h2.length, ← h4.length]; exact hz, .non, _, m.ext_setL hS, by simp [DRel], m.setL hS (h2.append h4), k⟩
theorem cd_pop : CallD X (.builtin "list.pop") popD := .ofM mt_pop fun H S Kt E ds vs m dr ⟨a, xs, y, e, hS, hy, k⟩ => by
  subst e
  obtain ⟨v, rfl, d1⟩ := drels1 dr
  unfold DRel at d1; subst d1
  obtain ⟨ws, h1, h2⟩ := m a _ hS
  obtain ⟨w, hw, dw⟩ := h2.get hy
  rw [h2.length] at hw
  exact ⟨_, _, rfl, a, ws, w, rfl, rfl, h1, hw, y, _, m.ext_setL hS, DRel.ext (m.ext_setL hS) _ dw, m.setL hS h2.dropLast, k⟩
theorem cd_popAt : CallD X (.builtin "list.pop") popAtD := .ofM mt_popAt fun H S Kt E ds vs m dr ⟨a, xs, i, j, y, e, hS, h0, h9, hj, hy, k⟩ => by
  subst e
  obtain ⟨v, w, rfl, d1, d2⟩ := drels2 dr
  unfold DRel at d1 d2; subst d1 d2
  obtain ⟨ws, h1, h2⟩ := m a _ hS
  obtain ⟨w, hw, dw⟩ := h2.get hy
  exact ⟨_, _, rfl, a, ws, i, j, w, rfl, rfl, h1, h0, h9, by rw [← h2.length]; exact hj, hw, y, _, m.ext_setL hS, DRel.ext (m.ext_setL hS) _ dw, m.setL hS (h2.erase j), k⟩
theorem cd_insert : CallD X (.builtin "list.insert") insertD := .ofM mt_insert fun H S Kt E ds vs m dr ⟨a, xs, i, y, e, hS, hz, h0, h9, k⟩ => by
  subst e
  obtain ⟨v, w, z, rfl, d1, d2, d3⟩ := drels3 dr
  unfold DRel at d1 d2; subst d1 d2
  obtain ⟨ws, h1, h2⟩ := m a _ hS
  exact ⟨_, _, rfl, a, ws, i, z, rfl, rfl, h1, by rw [← h2.length]; exact hz, h0, h9, .non, _, m.ext_setL hS, by simp [DRel], m.setL hS (((h2.take _).append (.one d3)).append (h2.drop _)), k⟩
end
def bindMeth : List (Str × String) := [("append", "list.append"), ("extend", "list.extend"), ("pop", "list.pop"), ("insert", "list.insert")]
/-- a list's method -/
def lmD (m : Str) : DB := fun ds S K E =>
  if m = "append" then appendD ds S K E
  else if m = "extend" then extendD ds S K E
  else if m = "pop" then popD ds S K E ∨ popAtD ds S K E
  else if m = "insert" then insertD ds S K E
  else False
def lmId (m : Str) : String := if m = "append" then "list.append" else if m = "extend" then "list.extend" else if m = "pop" then "list.pop" else "list.insert"
def isLm (m : Str) : Bool := decide (m = "append") || decide (m = "extend") || decide (m = "pop") || decide (m = "insert")
section
variable {X : Cx} {k : Nat} {fa : Key → Addr} {fi : Key → Option FI} {orc : Orc} {tb : Tb}
theorem cd_lm {m : Str} : CallD X (.builtin (lmId m)) (lmD m) := fun pins s σ H σD S ex Kt ds vs us tk T dr rv q => by
  unfold lmD at q
  unfold lmId
  split at q
  · rename_i h; rw [if_pos h]; exact cd_append pins s σ H σD S ex Kt ds vs us tk T dr rv q
  · rename_i h; rw [if_neg h]
    split at q
    · rename_i h; rw [if_pos h]; exact cd_extend pins s σ H σD S ex Kt ds vs us tk T dr rv q
    · rename_i h; rw [if_neg h]
      split at q
      · rename_i h; rw [if_pos h]; exact (cd_pop.or cd_popAt) pins s σ H σD S ex Kt ds vs us tk T dr rv q
      · rename_i h; rw [if_neg h]
        split at q
        · exact cd_insert pins s σ H σD S ex Kt ds vs us tk T dr rv q
        · exact q.elim
theorem lm_slot {m : Str} (h : isLm m = true) : Slot "list" m (lmId m) ∧ typeOf (.builtin (lmId m)) = pure (.type "method_descriptor") := by
  unfold isLm at h
  simp only [Bool.or_eq_true, decide_eq_true_eq] at h
  rcases h with ((h | h) | h) | h <;> subst h
  · exact ⟨PySem.F.slot_list_append, PySem.F.type_list_append⟩
  · exact ⟨PySem.F.slot_list_extend, PySem.F.type_list_extend⟩
  · exact ⟨PySem.F.slot_list_pop, PySem.F.type_list_pop⟩
  · exact ⟨PySem.F.slot_list_insert, PySem.F.type_list_insert⟩
def isLst : SO → Bool
  | .lst _ => true
  | _ => false
/-- o.m(..) -/
def dMeth (tb : Tb) (fi : Key → Option FI) (orc : Orc) (m : Str) (te : DE) (t : DA) : DE := fun σ S K E => te σ S (fun o S1 => ∃ a ob, o = .ref a ∧ S1 a = some ob ∧ match ob.cn with
  | some c => (∃ ce, tb c = some ce ∧ m ∈ ce.meths ∧ ob.bare m) ∧ t σ S1 (fun xs S2 => callO fi orc (c, some m) (o :: xs) S2 K E) E
  | none => isLst ob = true ∧ isLm m = true ∧ t σ S1 (fun xs S2 => lmD m (o :: xs) S2 K E) E) E
theorem qe_meth (W : TbOk X fa tb) (hcd : ∀ key, CallD X (.ref (fa key)) (callO fi orc key)) {o : Expr} {te : DE} {m : Str} {es : List Expr} {t : DA} {apos pos : Pos} (ho : QE X o te) (hb : baseOk o = true) (ha : QA X es t) (h0 : es = [] → t = dNil) (hst : es.all noSt = true) (hfew : es.length < 30) (hline : (apos.endLine == pos.line) = true) :
    QE X (.Call (.Attribute o m apos) es [] pos) (dMeth tb fi orc m te t) := fun pins s σ H σD S ex Kt tk T h => by
  have hform : methodCallForm (es.length + ([] : List Keyword).length) (backTo pos (starEach es X.env)) (backToKw pos (keywordEach [] X.env)) = true := by
    have h1 : (backTo pos (starEach es X.env)).any (·.1) = false := star_plain hst
    have h2 : (backTo pos (starEach es X.env)).all (fun x => !x.1) = true := by
      rw [List.all_eq_not_any_not]
      simpa using h1
    show (((backTo pos (starEach es X.env)).all fun x => !x.1) && true && decide (es.length + 0 + 0 < 30)) = true
    rw [h2]
    simpa using hfew
  have hpos : methodCallPos true o X.env apos pos = pure pos := by unfold methodCallPos; simp [hline]
  rw [arm_eval_Call, base_ok hb]
  refine wpAny_bind (thn (ho pins s σ H σD S ex _ tk T h) fun u s1 ⟨v, H1, d, S1, I1, r1, x1, d1, m1, a, ob, e, hob, q⟩ => ?_)
  subst e
  have T1 := T.on I1 x1 m1
  unfold DRel at d1; subst d1
  obtain rfl : u = Value.ref a := r1
  refine wpAny_bind (wpAny_standAt ?_)
  unfold methodCall
  rw [hform]
  cases hc : ob.cn with
  | some c =>
    rw [hc] at q
    obtain ⟨⟨ce, hce, hm, hbare⟩, q⟩ := q
    obtain ⟨C, hC, CO⟩ := W c ce hce
    obtain ⟨C', ox, od, hC', J, hl⟩ := inst_at T1 hob hc
    rw [hC] at hC'; cases hC'
    have M := CO.me m hm
    refine wpAny_bind (wpAny_holding (PySem.W.method_fn I1.kIn J (PySem.W.plainGet_of (CO.s.get m)).1 (PySem.W.plainGet_of (CO.s.get m)).2 M.at_ (beq_iff_eq.mp M.fn) (by show (PySem.W.lookIn m od).map (·.isSome) = some false; rw [hl m hbare]; rfl) ?_))
    refine wpAny_bind (wpAny_of_eq hpos ?_)
    have call : ∀ {us : List Value} {vs : List V} {H2 : Hp} {ds : List D} {S2 : Sto} {s2 : Shared}, Inv X pins σ H2 s2 → Vals vs us → Ext X.K H1 H2 → DRels (gp X) H2 ds vs → Sim (gp X) H2 S2 → callO fi orc (c, some m) (.ref a :: ds) S2 Kt (fun c fs S => ex c fs σD S) →
        wpAny (model X.prog X.w) X.A (call (.ref (fa (c, some m))) ([Value.ref a] ++ us)) (EQ X pins σ H Kt) X.xe s2 := fun {us vs H2 ds S2 s2} I2 r2 x2 d2 m2 q2 =>
      thn (hcd (c, some m) pins s2 σ H2 σD S2 ex Kt (.ref a :: ds) (.ref a :: vs) _ (tk.up (x1.trans x2)) (T.on I2 (x1.trans x2) m2) (.cons (by simp [DRel]) d2) (.cons rfl r2) q2) fun _ _ z => z.up (x1.trans x2)
    have hA := ha pos pins s1 σ H1 σD S1 ex _ (tk.up x1) T1 q
    cases es with
    | nil =>
      rw [h0 rfl] at q
      exact PySem.W.callWith_K0 (first := [.ref a]) I1.kIn M.kp (call I1 .nil .refl .nil m1 q)
    | cons e es =>
      simp only [List.all_cons, Bool.and_eq_true] at hst
      exact PySem.W.callWith_K (first := [.ref a]) (h₀ := X.base) I1.ok.mod.kin M.kp (thn hA fun us s2 ⟨vs, H2, ds, S2, I2, r2, x2, d2, m2, q2⟩ => ⟨I2.kIn, call I2 r2 x2 d2 m2 q2⟩) (star_cons hst.1) (star_plain hst.2)
  | none =>
    rw [hc] at q
    obtain ⟨hil, hm, q⟩ := q
    cases ob with
    | ins _ _ => cases hc
    | slo _ _ => cases hc
    | dic _ => cases hil
    | exd _ => cases hil
    | lst xs =>
      obtain ⟨vs0, hH, _⟩ := m1 a _ hob
      obtain ⟨slot, ty⟩ := lm_slot hm
      obtain ⟨t1, t2⟩ := tyV_is (x := .ref a) (v := .ref a) I1 rfl (show tyV X.K "list" (.ref a) H1 from .inl ⟨rfl, vs0, .inl (.inl hH)⟩)
      refine wpAny_bind (wpAny_holding (getMethod_builtin t1 PySem.F.plainAttrs_list slot ty t2 ?_))
      refine wpAny_bind (wpAny_of_eq hpos ?_)
      have call : ∀ {us : List Value} {vs : List V} {H2 : Hp} {ds : List D} {S2 : Sto} {s2 : Shared}, Inv X pins σ H2 s2 → Vals vs us → Ext X.K H1 H2 → DRels (gp X) H2 ds vs → Sim (gp X) H2 S2 → lmD m (.ref a :: ds) S2 Kt (fun c fs S => ex c fs σD S) →
          wpAny (model X.prog X.w) X.A (call (.builtin (lmId m)) (.ref a :: us)) (EQ X pins σ H Kt) X.xe s2 := fun {us vs H2 ds S2 s2} I2 r2 x2 d2 m2 q2 =>
        thn (cd_lm (m := m) pins s2 σ H2 σD S2 ex Kt (.ref a :: ds) (.ref a :: vs) _ (tk.up (x1.trans x2)) (T.on I2 (x1.trans x2) m2) (.cons (by simp [DRel]) d2) (.cons rfl r2) q2) fun _ _ z => z.up (x1.trans x2)
      cases es with
      | nil =>
        rw [h0 rfl] at q
        exact Calls.callWith_builtin rfl (PySem.evalArgs_none (call I1 .nil .refl .nil m1 q))
      | cons e es =>
        have hst0 := hst
        simp only [List.all_cons, Bool.and_eq_true] at hst
        have hA := ha pos pins s1 σ H1 σD S1 ex _ (tk.up x1) T1 q
        have hp := star_plain (env := X.env) (pos := pos) hst0
        rw [star_cons hst.1] at hA hp ⊢
        exact Calls.callWith_builtin hp (Calls.evalArgs_plain (thn hA fun us s2 ⟨vs, H2, ds, S2, I2, r2, x2, d2, m2, q2⟩ => call I2 r2 x2 d2 m2 q2))
end
end DL

set_option Elab.async false
set_option linter.all false
set_option maxRecDepth 100000
set_option maxHeartbeats 4000000
namespace DL
open PySem PySem.Spec PyProof.Rows L2

section
open PySem.W
variable {prog : Program} {w : World} {A : Around} {E : Value → Shared → Prop} {s : Shared} {K : Frag} {x y C f : Addr} {ox oy : Obj} {od od' : Option Obj} {b tb : Value}
theorem ne_K {Q : Value → Shared → Prop} (X : K.In s.heap) (I : InstAt s.heap x ox C od) (hn : findIn K (.ref C) "__ne__" = some (some (.builtin "object.__ne__"))) (he : findIn K (.ref C) "__eq__" = some (some (.ref f))) (hf : isFn K (.ref f) = true)
    (hm : mroIn K C (.type "object") = some true) (hu : A.units + 1 < cLine) (hb : Looks (model prog w) s.heap (typeOf b) tb) (hnf : notFirst K C tb = true)
    (h : wpAny (model prog w) A.in1 (call (.ref f) [.ref x, b]) (fun v s' => ∃ r, v = .bool r ∧ Q (.bool (!r)) s') E s) : wpAny (model prog w) A (richCompare .NotEq (.ref x) b) Q E s := by
  have one : wpAny (model prog w) A (tryCompare (.ref x) (cmpInfo .NotEq).2.1 b) (fun r s' => ∃ v, r = some v ∧ Q v s') E s := by
    unfold tryCompare
    refine wpAny_bind ?_
    simp only [callSpecialIfBound?, bindSpecialIfBound?]
    refine wpAny_holding (wpAny_bind (wpAny_bind (wpAny_bind (I.type.here ((looks_findIn X hn).here ?_)))))
    refine wpAny_bind (wpAny_askSetting (wpAny_ite ?_))
    have SB := PySem.F.cmp_object.ne.bind (.ref x)
    have code : wpAny (model prog w) A (call (.builtin "object.__ne__") ([.ref x] ++ [b])) (fun v s' => ∃ r, v = .bool (!r) ∧ Q (.bool (!r)) s') E s := by
      obtain ⟨hp, g, d, t, os⟩ := s
      refine wpAny_call (codeAny_call_builtin PySem.F.cmp_object.ne.plain PySem.F.cmpEntry_ne ?_)
      refine check_slot PySem.F.cmpKind_ne PySem.F.cmpSplit_ne (I.type.andThen (looks_mroIn X hm)) (PySem.F.cmpArgs_ne _ _) ?_
      unfold Builtin.«object.__ne__»
      repeat (first
        | with_reducible refine wpAny_cRoomFor hu ?_
        | (refine wpAny_bind (m := callSpecialIfBound? (.ref x) (Str.ofString "__eq__") [b]) (ifBound_K X I he hf (wpAny_mono h (fun r s' hr => by
              obtain ⟨k, rfl, hq⟩ := hr
              repeat (first | exact ⟨k, rfl, hq⟩ | exact wpAny_pure ⟨k, rfl, hq⟩ | (refine wpAny_bind (m := truthy (.bool _)) (wpAny_truthy_bool ?_)) | wp_step)) fun _ _ e => e)))
        | wp_step)
    have fin : wpAny (model prog w) A (call (.builtin "object.__ne__") ([.ref x] ++ [b]) >>= fun v => pure (some v)) (fun r s' => wpAny (model prog w) A (match r with | some .notImplemented | none => pure none | some v => pure (some v)) (fun r s' => ∃ v, r = some v ∧ Q v s') E s') E s :=
      wpAny_bind (wpAny_mono code (fun v s' ⟨r, e, hq⟩ => wpAny_pure (by subst e; exact wpAny_pure ⟨_, rfl, hq⟩)) fun _ _ e => e)
    split
    · rw [SB]
      exact wpAny_bind (wpAny_pure (wpAny_pure (by exact fin)))
    · rw [SB]
      exact wpAny_tryCatch (wpAny_bind (wpAny_pure (wpAny_pure (by exact fin))))
  unfold richCompare
  simp only [oneThing_ref]
  refine wpAny_holding (wpAny_bind (wpAny_cRoomFor (Nat.lt_of_succ_lt hu) ?_))
  refine wpAny_bind (I.type.here (wpAny_bind (hb.here ?_)))
  split
  · rename_i q
    have e : subIn K tb (.ref C) = some false := by
      rcases Bool.or_eq_true_iff.mp hnf with e | e
      · rw [beq_iff_eq.mp e] at q; simp at q
      · exact beq_iff_eq.mp e
    refine wpAny_bind ((looks_subIn X e).here ?_)
    simp only [Bool.false_eq_true, if_false]
    refine wpAny_bind (wpAny_mono one (fun r s' z => ?_) fun _ _ e => e)
    obtain ⟨v, rfl, hq⟩ := z
    exact wpAny_pure hq
  · refine wpAny_bind (wpAny_pure ?_)
    simp only [Bool.false_eq_true, if_false]
    refine wpAny_bind (wpAny_mono one (fun r s' z => ?_) fun _ _ e => e)
    obtain ⟨v, rfl, hq⟩ := z
    exact wpAny_pure hq
/-- the class stands first among its ancestors -/
def headMe (K : Frag) (C : Addr) : Bool := (clsIn K C).any fun cd => cd.mro.head? == some (.ref C)
theorem looks_mro {M : Model} {h : Heap} (X : K.In h) (hm : headMe K C = true) : ∃ r, Looks M h (mroOf (.ref C)) (.ref C :: r) := by
  obtain ⟨cd, hc, e⟩ := any_some hm
  obtain ⟨r, er⟩ : ∃ r, cd.mro = .ref C :: r := by
    cases q : cd.mro with
    | nil => rw [q] at e; cases e
    | cons a r => rw [q] at e; simp at e; exact ⟨r, by rw [e]⟩
  exact ⟨r, (looks_clsIn X hc).andThen (by rw [er]; exact .now)⟩
theorem looks_fills {M : Model} {h : Heap} {nm : String} (X : K.In h) (hm : headMe K C = true) (hs : findIn K (.ref C) (dunder nm) = some (some (.ref f))) : Looks M h (fillsNumberSlot (.ref C) nm) true := by
  obtain ⟨r, L⟩ := looks_mro (M := M) X hm
  unfold fillsNumberSlot
  dsimp only
  refine L.andThen ?_
  rw [List.anyM_cons]
  refine Looks.andThen (a := true) ?_ .now
  rw [List.anyM_cons]
  refine Looks.andThen (a := true) ?_ .now
  exact (looks_findIn X hs).andThen .now
theorem binop_K {op : Operator} {Q : Value → Shared → Prop} (X : K.In s.heap) (I : InstAt s.heap x ox C od) (J : InstAt s.heap y oy C od') (hm : headMe K C = true) (hs : findIn K (.ref C) (dunder op.info.2) = some (some (.ref f))) (hf : isFn K (.ref f) = true)
    (h : wpAny (model prog w) A (call (.ref f) [.ref x, .ref y]) (PySem.W.CmpBack Q) E s) : wpAny (model prog w) A (binaryOp op (.ref x) (.ref y)) Q E s := by
  have one : wpAny (model prog w) A (tryMethod (.ref x) (dunder op.info.2) (.ref y)) (fun r s' => ∃ v, r = some v ∧ Q v s') E s := by
    unfold tryMethod
    refine wpAny_bind (special_fn X I hs (beq_iff_eq.mp hf) (wpAny_mono h (fun v s' hv => ?_) fun _ _ e => e))
    cases v <;> first | exact hv.elim | exact wpAny_pure ⟨_, rfl, hv⟩
  unfold binaryOp
  refine wpAny_holding ?_
  dsimp only
  refine wpAny_bind ?_
  unfold binaryOp1
  refine wpAny_bind (I.type.here (wpAny_bind (J.type.here (wpAny_bind ((looks_fills X hm hs).here ?_)))))
  rw [if_pos (by simp)]
  refine wpAny_bind (wpAny_pure ?_)
  simp only [Bool.true_and, Bool.and_true, Bool.false_eq_true, if_false, Bool.and_false, Bool.false_and, if_true, Bool.not_false]
  repeat (first
    | (with_reducible refine wpAny_bind (wpAny_mono one (fun r s' z => ?_) fun _ _ e => e); obtain ⟨v, rfl, hq⟩ := z; repeat (first | exact hq | exact wpAny_pure hq | exact wpAny_pure (wpAny_pure hq) | wp_step))
    | wp_step)
end
end DL

set_option Elab.async false
set_option linter.all false
set_option maxRecDepth 100000
set_option maxHeartbeats 4000000
namespace DL
open PySem PySem.Spec PyProof.Rows L2

/-- a callee under the frame A below the running body -/
theorem at_own {X : Cx} {k : Nat} {f : Addr} {fd : FuncData} {ps : List Str} {cal : DB} {dd : List D} {dvs : List V} {ds : List Value} {A : Around} (F : FnG X.prog X.w X.K X.mg X.base (CXp X) k f fd ps (spD (gp X) ps.length cal)) (hr : RoomG k A) (hb : Binds X.K fd ps ds) (hd : Vals dvs ds) (hdd : ∀ H, DRels (gp X) H dd dvs)
    {pins : List (Addr × Obj)} {s : Shared} {σ : VSt} {H : Hp} {σD : DSt} {S : Sto} {ex : DXs} {Kt : DK} {xs : List D} {vs : List V} {us : List Value} (e0 : Env0 X.prog X.w X.K X.mg X.base A X.stack s H) (tk : Takes X (lX X H ex)) (T : Sit X pins σ H s σD S) (dr : DRels (gp X) H xs vs) (rv : Vals vs us)
    (hl : (xs ++ dd).length = ps.length) (q : cal (xs ++ dd) S Kt fun c fs S => ex c fs σD S) : wpAny (model X.prog X.w) A (call (.ref f) us) (EQ X pins σ H Kt) X.xe s := by
  have dr2 := dr.append (hdd H)
  have l := dr2.length
  have r2 : Vals (vs ++ dvs) (us ++ ds) := rv.append hd
  have hl2 : (us ++ ds).length = ps.length := by rw [← r2.length, ← l]; exact hl
  have hsp : spD (gp X) ps.length cal (vs ++ dvs) H (fun v H' => ∃ d S', Ext X.K H H' ∧ DRel (gp X) H' d v ∧ Sim (gp X) H' S' ∧ Kt d S') (WE (lX X H ex) σ) :=
    ⟨by rw [← l]; exact hl, xs ++ dd, S, Kt, _, dr2, T.m, q, fun v H' d S' x dr m k => ⟨d, S', x, dr, m, k⟩, fun c C fs dd' H' S' hc xr m x h => wish T hc xr m x h⟩
  refine wpAny_call (codeAny_mono (F.run A X.stack s H ⟨us, []⟩ (us ++ ds) (vs ++ dvs) _ (WE (lX X H ex) σ) hr e0 (hb s us T.I.kIn hl2) r2 hsp) fun r s' hq => ?_)
  cases r with
  | error e => exact passAt tk σ pins H s e s' T.I hq
  | ok fl =>
    cases fl with
    | ret u =>
      obtain ⟨v, H', I', rv', d, S', x, dr', m', k'⟩ := T.I.after hq
      exact ⟨v, H', d, S', I', rv', x, dr', m', k'⟩
    | next => exact False.elim hq
    | brk => exact False.elim hq
    | cont => exact False.elim hq

def okT (tb : Tb) : TyC → Bool
  | .b n => ["NoneType", "bool", "int", "str", "tuple", "list", "dict"].contains n
  | .c x => (tb x).isSome
/-- what the operators ask of the classes -/
structure OpsOk (X : Cx) (fa : Key → Addr) (tb : Tb) : Prop where
  nf : ∀ c ce C t tv, tb c = some ce → X.mg c = some (.ref C) → okT tb t = true → TyV X.mg t tv → PySem.W.notFirst X.K C tv = true
  hm : ∀ c ce C, tb c = some ce → X.mg c = some (.ref C) → headMe X.K C = true
  fn : ∀ c ce, tb c = some ce → ∀ m ∈ ce.meths, PySem.W.fnIn X.K (fa (c, some m)) = true
  ne : ∀ c ce C, tb c = some ce → X.mg c = some (.ref C) → ("__eq__" : Str) ∈ ce.meths → PySem.W.findIn X.K (.ref C) "__ne__" = some (some (.builtin "object.__ne__"))
theorem okT_of {tb : Tb} {S : Sto} {x : D} {t : TyC} (h : tyD tb S x = some t) : okT tb t = true := by
  have own : ∀ {c : Str} {t : TyC}, (tb c).map (fun _ => TyC.c c) = some t → okT tb t = true := fun {c t} h => by
    obtain ⟨ce, h1, h2⟩ := Option.map_eq_some_iff.mp h
    subst h2
    simp [okT, h1]
  cases x with
  | ref a =>
    simp only [tyD] at h
    cases e : S a with
    | none => rw [e] at h; cases h
    | some o =>
      rw [e] at h
      cases o with
      | lst _ => cases h; simp [okT]
      | ins c _ => exact own h
      | slo c _ => exact own h
      | dic _ => cases h; simp [okT]
      | exd _ => cases h
  | ty _ => cases h
  | glo _ => cases h
  | _ => cases h; simp [okT]
/-- an instance that has the method -/
def hasM (tb : Tb) (S : Sto) (m : Str) (x : D) (c : Str) : Prop := ∃ a ob ce, x = .ref a ∧ S a = some ob ∧ ob.cn = some c ∧ tb c = some ce ∧ m ∈ ce.meths
def notK (K : DK) : DK := fun d S => ∃ k, d = .bl k ∧ K (.bl (!k)) S
def blK (K : DK) : DK := fun d S => ∃ k, d = .bl k ∧ K (.bl k) S
/-- the own operators -/
def ownO (tb : Tb) (fi : Key → Option FI) (orc : Orc) : Own := fun nm x y S K E =>
  if nm = "__eq__" then ∃ c t, hasM tb S "__eq__" x c ∧ tyD tb S y = some t ∧ callO fi orc (c, some "__eq__") [x, y] S K E
  else if nm = "__ne__" then ∃ c t, hasM tb S "__eq__" x c ∧ tyD tb S y = some t ∧ callO fi orc (c, some "__eq__") [x, y] S (notK K) E
  else if nm = "__contains__" then ∃ c, hasM tb S "__contains__" y c ∧ callO fi orc (c, some "__contains__") [y, x] S (blK K) E
  else if nm = "not in" then ∃ c, hasM tb S "__contains__" y c ∧ callO fi orc (c, some "__contains__") [y, x] S (notK K) E
  else if nm = "__add__" ∨ nm = "__and__" ∨ nm = "__or__" then ∃ c a ob, hasM tb S nm x c ∧ y = .ref a ∧ S a = some ob ∧ ob.cn = some c ∧ callO fi orc (c, some nm) [x, y] S K E
  else False
def ownT (tb : Tb) (fi : Key → Option FI) (orc : Orc) : OwnT := fun x S K E => ∃ c, hasM tb S "__bool__" x c ∧ callO fi orc (c, some "__bool__") [x] S (kB K) E
section
variable {X : Cx} {k : Nat} {fa : Key → Addr} {fi : Key → Option FI} {orc : Orc} {tb : Tb} {pins : List (Addr × Obj)} {s : Shared} {σ : VSt} {H : Hp} {σD : DSt} {S : Sto} {ex : DXs} {Kt : DK}
theorem hasM_at (W : TbOk X fa tb) (T : Sit X pins σ H s σD S) {m : Str} {x : D} {c : Str} (h : hasM tb S m x c) : ∃ a C ox od ce, x = .ref a ∧ tb c = some ce ∧ m ∈ ce.meths ∧ X.mg c = some (.ref C) ∧ ClsOk X.K fa c ce C ∧ PySem.W.InstAt s.heap a ox C (some od) := by
  obtain ⟨a, ob, ce, e, h1, h2, h3, h4⟩ := h
  obtain ⟨C, hC, CO⟩ := W c ce h3
  obtain ⟨C', ox, od, hC', J, _⟩ := inst_at T h1 h2
  rw [hC] at hC'; cases hC'
  exact ⟨a, C, ox, od, ce, e, h3, h4, hC, CO, J⟩
theorem looks_ty (W : TbOk X fa tb) (T : Sit X pins σ H s σD S) {y : D} {yv : V} {u : Value} {t : TyC} (h : tyD tb S y = some t) (dr : DRel (gp X) H y yv) (ru : RelV yv u) : ∃ tv, TyV X.mg t tv ∧ PySem.W.Looks (model X.prog X.w) s.heap (typeOf u) tv := by
  obtain ⟨tv, P, h1, Z, p, _⟩ := kit_D W T h dr ru
  exact ⟨tv, h1, Z.ty _ _ T.I.kIn p⟩
theorem own_eq (W : TbOk X fa tb) (P : OpsOk X fa tb) (O : OrcOk X k fa fi orc) (hr : RoomG k X.A) : OpD X (compareOp .Eq) (ownR (ownO tb fi orc) "__eq__") := by
  intro pins s σ H σD S ex Kt x y xv yv v u tk T dx dy rx ry ⟨a, ea, hi, q⟩
  rw [ownO, if_pos rfl] at q
  obtain ⟨c, t, hm, ht, q⟩ := q
  obtain ⟨a', C, ox, od, ce, e, hce, hme, hC, CO, J⟩ := hasM_at W T hm
  subst e
  have dx0 := dx
  unfold DRel at dx; subst dx
  obtain rfl : v = Value.ref a' := rx
  obtain ⟨tv, h1, L⟩ := looks_ty W T ht dy ry
  obtain ⟨m, hF⟩ := T.I.fr
  have M := CO.me _ hme
  show wpAny _ _ (richCompare .Eq (.ref a') u) _ _ _
  refine PySem.W.cmp_K (op := .Eq) (tb := tv) hr.units0 hF T.I.ok.mod.kin J L (P.nf c ce C t tv hce hC (okT_of ht) h1) M.at_ M.fn ?_
  refine thn (cd_orc O hr (c, some "__eq__") pins s σ H σD S ex Kt _ [.ref a', yv] [.ref a', u] tk T (.cons dx0 (.one dy)) (.cons rfl (.cons ry .nil)) q) fun w s' z => ?_
  obtain ⟨z1, H', d, S', I', rz, r⟩ := z
  exact SlX.cmpback rz ⟨z1, H', d, S', I', rz, r⟩
theorem call_in1 (O : OrcOk X k fa fi orc) (hr : RoomG (k + 1) X.A) {key : Key} {xs : List D} {vs : List V} {us : List Value} (tk : Takes X (lX X H ex)) (T : Sit X pins σ H s σD S) (dr : DRels (gp X) H xs vs) (rv : Vals vs us) (q : callO fi orc key xs S Kt fun c fs S => ex c fs σD S) :
    wpAny (model X.prog X.w) X.A.in1 (call (.ref (fa key)) us) (EQ X pins σ H Kt) X.xe s := by
  obtain ⟨p, hp, h1, h2, q⟩ := q
  obtain ⟨fd, F, B⟩ := O key p hp
  obtain ⟨dvs, ds, hb, hd, hdd⟩ := B (p.ps.length - xs.length) (by omega)
  refine at_own F hr.in1 hb hd hdd T.I.env0.in1 tk T dr rv ?_ q
  rw [List.length_append, List.length_drop]
  omega
theorem own_ne (W : TbOk X fa tb) (P : OpsOk X fa tb) (O : OrcOk X k fa fi orc) (hr : RoomG (k + 1) X.A) : OpD X (compareOp .NotEq) (ownR (ownO tb fi orc) "__ne__") := by
  intro pins s σ H σD S ex Kt x y xv yv v u tk T dx dy rx ry ⟨a, ea, hi, q⟩
  rw [ownO, if_neg (by decide), if_pos rfl] at q
  obtain ⟨c, t, hm, ht, q⟩ := q
  obtain ⟨a', C, ox, od, ce, e, hce, hme, hC, CO, J⟩ := hasM_at W T hm
  subst e
  have dx0 := dx
  unfold DRel at dx; subst dx
  obtain rfl : v = Value.ref a' := rx
  obtain ⟨tv, h1, L⟩ := looks_ty W T ht dy ry
  have M := CO.me _ hme
  show wpAny _ _ (richCompare .NotEq (.ref a') u) _ _ _
  refine ne_K T.I.kIn J (P.ne c ce C hce hC hme) M.at_ M.fn CO.i.cm (by have := hr.un; omega) L (P.nf c ce C t tv hce hC (okT_of ht) h1) ?_
  refine thn (call_in1 O hr tk T (.cons dx0 (.one dy)) (.cons rfl (.cons ry .nil)) q) fun w s' z => ?_
  obtain ⟨z1, H', d, S', I', rz, x, dz, m, b, eb, kq⟩ := z
  subst eb
  unfold DRel at dz; subst dz
  cases rz
  exact ⟨b, rfl, .bl (!b), H', .bl (!b), S', I', rfl, x, by simp [DRel], m, kq⟩
theorem own_in (W : TbOk X fa tb) (O : OrcOk X k fa fi orc) (hr : RoomG k X.A) : OpD X (compareOp .In) (fun x y S K E => ∃ a, y = .ref a ∧ isIns (S a) = true ∧ ownO tb fi orc "__contains__" x y S K E) := by
  intro pins s σ H σD S ex Kt x y xv yv v u tk T dx dy rx ry ⟨a, ea, hi, q⟩
  rw [ownO, if_neg (by decide), if_neg (by decide), if_pos rfl] at q
  obtain ⟨c, hm, q⟩ := q
  obtain ⟨a', C, ox, od, ce, e, hce, hme, hC, CO, J⟩ := hasM_at W T hm
  subst e
  have dy0 := dy
  unfold DRel at dy; subst dy
  obtain rfl : u = Value.ref a' := ry
  obtain ⟨m, hF⟩ := T.I.fr
  have M := CO.me _ hme
  refine PySem.W.in_K hF T.I.ok.mod.kin J M.at_ M.fn ?_
  refine thn (cd_orc O hr (c, some "__contains__") pins s σ H σD S ex (blK Kt) _ [.ref a', xv] [.ref a', v] tk T (.cons dy0 (.one dx)) (.cons rfl (.cons rx .nil)) q) fun w s' z => ?_
  obtain ⟨z1, H', d, S', I', rz, x, dz, m, b, eb, kq⟩ := z
  subst eb
  unfold DRel at dz; subst dz
  cases rz
  exact wpAny_truthy_bool ⟨.bl b, H', .bl b, S', I', rfl, x, by simp [DRel], m, kq⟩
theorem own_nin (W : TbOk X fa tb) (O : OrcOk X k fa fi orc) (hr : RoomG k X.A) : OpD X (compareOp .NotIn) (fun x y S K E => ∃ a, y = .ref a ∧ isIns (S a) = true ∧ ownO tb fi orc "not in" x y S K E) := by
  intro pins s σ H σD S ex Kt x y xv yv v u tk T dx dy rx ry ⟨a, ea, hi, q⟩
  rw [ownO, if_neg (by decide), if_neg (by decide), if_neg (by decide), if_pos rfl] at q
  obtain ⟨c, hm, q⟩ := q
  obtain ⟨a', C, ox, od, ce, e, hce, hme, hC, CO, J⟩ := hasM_at W T hm
  subst e
  have dy0 := dy
  unfold DRel at dy; subst dy
  obtain rfl : u = Value.ref a' := ry
  obtain ⟨m, hF⟩ := T.I.fr
  have M := CO.me _ hme
  refine PySem.W.notIn_K hF T.I.ok.mod.kin J M.at_ M.fn ?_
  refine thn (cd_orc O hr (c, some "__contains__") pins s σ H σD S ex (notK Kt) _ [.ref a', xv] [.ref a', v] tk T (.cons dy0 (.one dx)) (.cons rfl (.cons rx .nil)) q) fun w s' z => ?_
  obtain ⟨z1, H', d, S', I', rz, x, dz, m, b, eb, kq⟩ := z
  subst eb
  unfold DRel at dz; subst dz
  cases rz
  exact wpAny_truthy_bool ⟨.bl (!b), H', .bl (!b), S', I', rfl, x, by simp [DRel], m, kq⟩
theorem own_bin (W : TbOk X fa tb) (P : OpsOk X fa tb) (O : OrcOk X k fa fi orc) (hr : RoomG k X.A) {op : Operator} {nm : Str} (hn : nm = "__add__" ∨ nm = "__and__" ∨ nm = "__or__") (hd : dunder op.info.2 = nm) : OpD X (binaryOp op) (ownR (ownO tb fi orc) nm) := by
  intro pins s σ H σD S ex Kt x y xv yv v u tk T dx dy rx ry ⟨a, ea, hi, q⟩
  have q : ∃ c a ob, hasM tb S nm x c ∧ y = .ref a ∧ S a = some ob ∧ ob.cn = some c ∧ callO fi orc (c, some nm) [x, y] S Kt fun c fs S => ex c fs σD S := by
    unfold ownO at q
    rcases hn with h | h | h <;> subst h
    · rw [if_neg (by decide), if_neg (by decide), if_neg (by decide), if_neg (by decide), if_pos (by decide)] at q; exact q
    · rw [if_neg (by decide), if_neg (by decide), if_neg (by decide), if_neg (by decide), if_pos (by decide)] at q; exact q
    · rw [if_neg (by decide), if_neg (by decide), if_neg (by decide), if_neg (by decide), if_pos (by decide)] at q; exact q
  obtain ⟨c, b, ob, hm, ey, hb, hcb, q⟩ := q
  obtain ⟨a', C, ox, od, ce, e, hce, hme, hC, CO, J⟩ := hasM_at W T hm
  obtain ⟨C', oy, od', hC', J', _⟩ := inst_at T hb hcb
  rw [hC] at hC'; cases hC'
  subst e ey
  have dx0 := dx
  have dy0 := dy
  unfold DRel at dx dy; subst dx dy
  obtain rfl : v = Value.ref a' := rx
  obtain rfl : u = Value.ref b := ry
  have M := CO.me _ hme
  refine binop_K T.I.kIn J J' (P.hm c ce C hce hC) (by rw [hd]; exact M.at_) M.fn ?_
  refine thn (cd_orc O hr (c, some nm) pins s σ H σD S ex Kt _ [.ref a', .ref b] [.ref a', .ref b] tk T (.cons dx0 (.one dy0)) (.cons rfl (.cons rfl .nil)) q) fun w s' z => ?_
  obtain ⟨z1, H', d, S', I', rz, r⟩ := z
  exact SlX.cmpback rz ⟨z1, H', d, S', I', rz, r⟩
theorem own_tru (W : TbOk X fa tb) (O : OrcOk X k fa fi orc) (hr : RoomG k X.A) : TruD X (fun x S K E => ∃ a, x = .ref a ∧ isIns (S a) = true ∧ ownT tb fi orc x S K E) := by
  intro pins s σ H σD S ex Kt x xv v tk T dx rx ⟨a, ea, hi, c, hm, q⟩
  obtain ⟨a', C, ox, od, ce, e, hce, hme, hC, CO, J⟩ := hasM_at W T hm
  subst e
  have dx0 := dx
  unfold DRel at dx; subst dx
  obtain rfl : v = Value.ref a' := rx
  obtain ⟨m, hF⟩ := T.I.fr
  have M := CO.me _ hme
  refine PySem.W.truthy_K hF T.I.ok.mod.kin J M.at_ M.fn ?_
  refine thn (cd_orc O hr (c, some "__bool__") pins s σ H σD S ex (kB Kt) _ [.ref a'] [.ref a'] tk T (.one dx0) (.cons rfl .nil) q) fun w s' z => ?_
  obtain ⟨z1, H', d, S', I', rz, x, dz, m, b, eb, kq⟩ := z
  subst eb
  unfold DRel at dz; subst dz
  cases rz
  exact ⟨H', S', I', x, m, kq⟩
end
end DL

set_option Elab.async false
set_option linter.all false
set_option maxRecDepth 100000
set_option maxHeartbeats 4000000
namespace DL
open PySem PySem.Spec PyProof.Rows L2

abbrev inX (X : Cx) : Cx := { X with A := X.A.in1 }
theorem ok_in {X : Cx} (ok : X.Ok) : (inX X).Ok := ⟨ok.mod, ok.kind, ok.glob, ok.blt, ok.above, ok.inj, ok.has, ok.cab, ok.hd, ok.frames, ok.stk, ok.exf, ok.bs, ok.bsz, ok.noex, ok.exfs, ok.funs, ok.frf⟩
theorem ok_out {X : Cx} (ok : (inX X).Ok) : X.Ok := ⟨ok.mod, ok.kind, ok.glob, ok.blt, ok.above, ok.inj, ok.has, ok.cab, ok.hd, ok.frames, ok.stk, ok.exf, ok.bs, ok.bsz, ok.noex, ok.exfs, ok.funs, ok.frf⟩
section
variable {X : Cx} {pins : List (Addr × Obj)} {σ : VSt} {H : Hp} {s : Shared} {σD : DSt} {S : Sto} {ex : DXs}
theorem inv_in (I : Inv X pins σ H s) : Inv (inX X) pins σ H s := ⟨ok_in I.ok, I.os, I.bare, I.base, I.loc, I.cell, I.free, I.freeC, I.pin, I.hok, I.len⟩
theorem inv_out (I : Inv (inX X) pins σ H s) : Inv X pins σ H s := ⟨ok_out I.ok, I.os, I.bare, I.base, I.loc, I.cell, I.free, I.freeC, I.pin, I.hok, I.len⟩
theorem takes_in {W : WX} (tk : Takes X W) : Takes (inX X) W := fun u s' ⟨a, B, sI, pins, σ, H, cls, d, e, I, nb, up, sky, na, os, ag, w⟩ => tk u s' ⟨a, B, sI, pins, σ, H, cls, d, e, inv_out I, nb, up, sky, na, os, ag, w⟩
theorem sit_in (T : Sit X pins σ H s σD S) : Sit (inX X) pins σ H s σD S := ⟨inv_in T.I, T.r, T.m⟩
theorem eq_out {Kt : DK} {u : Value} {s' : Shared} (h : EQ (inX X) pins σ H Kt u s') : EQ X pins σ H Kt u s' := let ⟨v, H', d, S', I, r⟩ := h; ⟨v, H', d, S', inv_out I, r⟩
theorem tq_out {Kt : Bool → Sto → Prop} {b : Bool} {s' : Shared} (h : TQ (inX X) pins σ H Kt b s') : TQ X pins σ H Kt b s' := let ⟨H', S', I, r⟩ := h; ⟨H', S', inv_out I, r⟩
end

section
variable {prog : Program} {w : World} {A : Around} {E : Value → Shared → Prop} {s : Shared}
theorem meets_bool (x : Value) : MeetsIn prog w (Builtin.«bool.__new__» ⟨[.type "bool", x], []⟩) (fun A R s => wpAny (model prog w) A.in1 (truthy x) (fun b s' => R (.ok (.ret (.bool b))) s') (fun e s' => R (.error e) s') s) := by
  intro A R s h
  obtain ⟨hp, g, d, tk, os⟩ := s
  have f1 := F.conv_sub_bool
  unfold Builtin.«bool.__new__»
  repeat (any_goals (first
    | assumption
    | (with_reducible refine wpAny_bind (m := truthy x) (wpAny_mono h (fun b s' hq => ?_) fun _ _ e => e))
    | wp_step))
theorem call_bool_x {x : Value} {Q : Value → Shared → Prop} (h : wpAny (model prog w) A.in1.in1 (truthy x) (fun b s' => Q (.bool b) s') E s) : wpAny (model prog w) A (call (.type "bool") [x]) Q E s :=
  callType_newIn F.called_bool F.newNe_bool (F.typeCall_bool_1 x) (F.newCall_bool_1 x) (fun obj => F.args_object_init_2 obj x) F.entry_bool_new (meets_bool x) (by
    refine wpAny_mono h (fun b s' hq => ?_) fun _ _ e => e
    exact ⟨PySem.typeIs_bool _ _, hq⟩)
end
section
variable {X : Cx}
def boolXD (r : D → Sto → (Bool → Sto → Prop) → DX → Prop) : DB := fun ds S K E => ∃ x, ds = [x] ∧ r x S (fun b S' => K (.bl b) S') E
theorem cd_boolX {r : D → Sto → (Bool → Sto → Prop) → DX → Prop} (hr : TruD (inX (inX X)) r) : CallD X (.type "bool") (boolXD r) := fun pins s σ H σD S ex Kt ds vs us tk T dr rv ⟨x, e, q⟩ => by
  subst e
  obtain ⟨v, rfl, d1⟩ := drels1 dr
  obtain ⟨u, rfl, r1⟩ := rv.one
  refine call_bool_x (thn (hr pins s σ H σD S ex _ x v u (takes_in (takes_in tk)) (sit_in (sit_in T)) d1 r1 q) fun b s' z => ?_)
  obtain ⟨H', S', I', x', m, k⟩ := tq_out (tq_out z)
  exact ⟨.bl b, H', .bl b, S', I', rfl, x', by simp [DRel], m, k⟩
end
section
open PySem.W
variable {M : Model} {A : Around} {E : Value → Shared → Prop} {s : Shared} {K : Frag} {env : Env} {pos : Pos} {x : Addr} {Q : Value → Shared → Prop}
/-- an instance stands there -/
def InstS (x : Addr) (h : Heap) : Prop := ∃ o, h.get? x = some o ∧ o.data = .plain
theorem inst_callWith {args : List (Bool × Sem Value)} (hp : args.any (·.1) = false) (h : wpAny M A (evalArgs (.ref x) true args []) (fun a s₁ => InstS x s₁.heap ∧ wpAny M A (call (.ref x) ([] ++ a.pos) a.kw) Q E s₁) E s) :
    wpAny M A (callWith pos (.ref x) [] args []) Q E s := by
  unfold callWith
  refine wpAny_bind (wpAny_holding (wpAny_mono h (fun a s₁ hs => wpAny_bind (wpAny_standAt ?_)) fun _ _ e => e))
  obtain ⟨⟨o, ho, hd⟩, hs⟩ := hs
  have L : Looks M s₁.heap (keeperOf (.ref x)) .caller := (Looks.ld (part := none) ho).andThen (by simp only [hd]; exact .now)
  have hp2 : (args.any (·.1) || ([] : List (Option Str × Sem Value)).any (·.1.isNone)) = false := by rw [hp]; rfl
  simp only [hp2]
  refine wpAny_bind (L.here ?_)
  have fin : ∀ {t : Sem Value}, wpAny M A t Q E s₁ → wpAny M A (t >>= fun r => holding [r] point >>= fun _ => pure r) Q E s₁ :=
    fun z => wpAny_bind (wpAny_mono z (fun r s₂ hr => wpAny_bind (wpAny_holding (wpAny_point (wpAny_pure hr)))) fun _ _ e => e)
  exact fin (wpAny_operateT hs)
end
section
variable {X : Cx} {k : Nat} {fa : Key → Addr} {fi : Key → Option FI} {orc : Orc} {tb : Tb}
/-- f(..), f an instance -/
def dCallI (tb : Tb) (fi : Key → Option FI) (orc : Orc) (te : DE) (t : DA) : DE := fun σ S K E => te σ S (fun o S1 => ∃ c, hasM tb S1 "__call__" o c ∧ t σ S1 (fun xs S2 => hasM tb S2 "__call__" o c ∧ callO fi orc (c, some "__call__") (o :: xs) S2 K E) E) E
theorem cd_inst (W : TbOk X fa tb) (P : OpsOk X fa tb) (O : OrcOk X k fa fi orc) (hr : RoomG k X.A) {a : Addr} {c : Str} : CallD X (.ref a) (fun xs S K E => hasM tb S "__call__" (.ref a) c ∧ callO fi orc (c, some "__call__") (.ref a :: xs) S K E) := fun pins s σ H σD S ex Kt xs vs us tk T dr rv ⟨hm, q⟩ => by
  obtain ⟨a', ob, ce, e, h1, h2, hce, hme⟩ := hm
  cases e
  obtain ⟨C, hC, CO⟩ := W c ce hce
  obtain ⟨C', ox, od, hC', J, _, hpl⟩ := inst_pl T h1 h2
  rw [hC] at hC'; cases hC'
  have M := CO.me _ hme
  obtain ⟨p, hp, l1, l2, q⟩ := q
  obtain ⟨fd, F, B⟩ := O _ p hp
  obtain ⟨dvs, ds, hb, hd, hdd⟩ := B (p.ps.length - (D.ref a :: xs).length) (by omega)
  have dr2 := (DRels.cons (by simp [DRel] : DRel (gp X) H (.ref a) (.ref a)) dr).append (hdd H)
  have l := dr2.length
  have r2 : Vals (V.ref a :: vs ++ dvs) (Value.ref a :: us ++ ds) := .cons rfl (rv.append hd)
  have hl : ((D.ref a :: xs) ++ p.dfl.drop (p.dfl.length - (p.ps.length - (D.ref a :: xs).length))).length = p.ps.length := by
    rw [List.length_append, List.length_drop]; omega
  have hl2 : (Value.ref a :: us ++ ds).length = p.ps.length := by rw [← r2.length, ← l]; exact hl
  have hsp : spD (gp X) p.ps.length (orc (c, some "__call__")) (V.ref a :: vs ++ dvs) H (fun v H' => ∃ d S', Ext X.K H H' ∧ DRel (gp X) H' d v ∧ Sim (gp X) H' S' ∧ Kt d S') (WE (lX X H ex) σ) :=
    ⟨by rw [← l]; exact hl, _, S, Kt, _, dr2, T.m, q, fun v H' d S' x dr m k => ⟨d, S', x, dr, m, k⟩, fun c C fs dd' H' S' hc xr m x h => wish T hc xr m x h⟩
  refine wpAny_call (PySem.W.kco_code T.I.kIn J hpl M.at_ M.fn (P.fn c ce hce _ hme) (codeAny_mono (F.run X.A X.stack s H ⟨.ref a :: us, []⟩ (.ref a :: us ++ ds) (.ref a :: vs ++ dvs) _ (WE (lX X H ex) σ) hr T.I.env0 (hb s (.ref a :: us) T.I.kIn hl2) r2 hsp) fun r s' hq => ?_))
  cases r with
  | error e => exact passAt tk σ pins H s e s' T.I hq
  | ok fl =>
    cases fl with
    | ret u =>
      obtain ⟨v, H', I', rv', d, S', x, dr', m', k'⟩ := T.I.after hq
      exact ⟨v, H', d, S', I', rv', x, dr', m', k'⟩
    | next => exact False.elim hq
    | brk => exact False.elim hq
    | cont => exact False.elim hq
theorem qe_callI (W : TbOk X fa tb) (P : OpsOk X fa tb) (O : OrcOk X k fa fi orc) (hr : RoomG k X.A) {x : Str} {e : Expr} {es : List Expr} {te : DE} {t : DA} {p pos : Pos} (he : QE X (.Name x p) te) (ha : QA X (e :: es) t) (hst : (e :: es).all noSt = true) :
    QE X (.Call (.Name x p) (e :: es) [] pos) (dCallI tb fi orc te t) := fun pins s σ H σD S ex Kt tk T h => by
  have hp := star_plain (env := X.env) (pos := pos) hst
  simp only [List.all_cons, Bool.and_eq_true] at hst
  refine wpAny_Call_Name_kw (thn (he pins s σ H σD S ex _ tk T h) fun u s1 ⟨v, H1, d, S1, I1, r1, x1, d1, m1, c, hm, q⟩ => ?_)
  obtain ⟨a, ob, ce, e, h1, h2, hce, hme⟩ := hm
  subst e
  unfold DRel at d1; subst d1
  obtain rfl : u = Value.ref a := r1
  have hA := ha pos pins s1 σ H1 σD S1 ex _ (tk.up x1) (T.on I1 x1 m1) q
  have e0 : backTo pos (starEach (e :: es) X.env) = (false, eval e X.env) :: backTo pos (starEach es X.env) := by rw [star_cons hst.1]; rfl
  rw [e0] at hA hp ⊢
  refine inst_callWith hp (Calls.evalArgs_plain (thn hA fun us s2 ⟨vs, H2, ds, S2, I2, r2, x2, d2, m2, hm2, q2⟩ => ⟨?_, ?_⟩))
  · obtain ⟨a', ob', ce', e', g1, g2, _⟩ := hm2
    cases e'
    obtain ⟨C, ox, od, _, J, _, hpl⟩ := inst_pl (T.on I2 (x1.trans x2) m2) g1 g2
    exact ⟨ox, J.at_, hpl⟩
  · exact thn (cd_inst W P O hr (c := c) pins s2 σ H2 σD S2 ex Kt ds vs us (tk.up (x1.trans x2)) (T.on I2 (x1.trans x2) m2) d2 r2 ⟨hm2, q2⟩) fun _ _ z => z.up (x1.trans x2)
end
end DL

set_option Elab.async false
set_option linter.all false
set_option maxRecDepth 100000
set_option maxHeartbeats 4000000
namespace DL
open PySem PySem.Spec PyProof.Rows L2

/-- own errors with one field -/
def ExOk (X : Cx) (et : Str → Option Str) : Prop := ∀ cn f, et cn = some f → ∃ C fI, PySem.ExW.ExT X.prog X.K X.mg cn f C fI
theorem relO_one {f : Str} {v : V} {u : Value} (r : RelV v u) (g : Str) : RelO (List.lookup g [(f, v)]) (if g = f then some u else none) := by
  by_cases h : g = f
  · subst h
    rw [if_pos rfl, List.lookup_cons_self]
    exact r
  · rw [if_neg h]
    have h' : (g == f) = false := by simpa using h
    have e : List.lookup g [(f, v)] = none := by simp [List.lookup, h']
    rw [e]
    trivial
section
variable {X : Cx} {et : Str → Option Str} {k : Nat}
def sRaise (cn f : Str) (t : DA) : DS := fun D σ S => t σ S (fun vs S1 => ∃ v, vs = [v] ∧ D.ex cn [(f, v)] σ S1) (eX D σ)
theorem qs_raise (E : ExOk X et) (hc : X.calm = true) (hr : RoomG k X.A) {cn f : Str} (he : et cn = some f) {a : Expr} {t : DA} {p pos pos2 : Pos} (ha : QA X [a] t) (hst : noSt a = true) (hg : Gl X cn) (hdb : (cn == ("__debug__" : Str)) = false) :
    QS X (.Raise (some (.Call (.Name cn p) [a] [] pos)) none pos2) (sRaise cn f t) := fun pins s σ H σD S D tk T h => by
  obtain ⟨C, fI, W⟩ := E cn f he
  show wpAny _ _ (do standAt pos2; raiseStmt X.env (some (do let v ← eval (.Call (.Name cn p) [a] [] pos) X.env; standAt pos2; pure v)) none) _ _ _
  refine wpAny_bind (wpAny_standAt (raise_made (T.I.ok.hd hc) (wpAny_bind ?_)))
  refine wpAny_Call_Name_kw (ld_glob T.I hg W.gC ?_ hdb)
  refine PySem.W.callWith_K (h₀ := X.base) T.I.ok.mod.kin W.kC (thn (ha pos pins s σ H σD S D.ex _ tk T h) fun us s1 ⟨vs, H1, ds, S1, I1, r1, x1, d1, m1, v, e, q⟩ => ?_) (star_cons hst) rfl
  subst e
  obtain ⟨w, rfl, dv⟩ := drels1 d1
  obtain ⟨v', rfl, rv⟩ := r1.one
  refine ⟨I1.kIn, ?_⟩
  show wpAny _ _ (call (.ref C) [v']) _ _ _
  obtain ⟨mb, hb, hbs⟩ := I1.mod.blt
  have hlim := I1.nolimit
  have ng : s1.heap.Ns mainGlobals X.mg := I1.mod.glob.keeps I1.bk
  have nb : s1.heap.Ns builtinsNs mb := hb.keeps I1.bk
  obtain ⟨hp, g, dr, tk1, os⟩ := s1
  refine wpAny_call (PySem.ExW.ex_made W I1.kIn hlim ng nb (hbs "super" (by decide)) (by have := hr.dp; omega) fun h' tk' e d M => ?_)
  obtain ⟨oe, fv, hoe, hcl, hd, hdat, h1⟩ := M.obj
  have hns := M.ns
  obtain ⟨G', g1, g2⟩ := restrict h' fun b => decide (b ≠ e)
  have gk : ∀ b, b ≠ e → G'.get? b = h'.get? b := fun b hb => g1 b (decide_eq_true hb)
  have ge : G'.get? e = none := g2 e (by simp)
  have old : ∀ b o, hp.get? b = some o → G'.get? b = some o := fun b o q => (gk b (Nat.ne_of_lt (Nat.lt_of_lt_of_le (Heap.lt_size q) M.new))).trans (M.keep b o q)
  have ob : ObjOk X.prog X.w (upd H1 d (.xd [(f, w)])) G' d (.xd [(f, w)]) := ⟨_, hns.at (fun o q => (gk d M.dne).trans q), fun y => relO_one rv y⟩
  have fd : H1 d = none := I1.hok.fresh M.dbig
  have J : Inv X pins σ (upd H1 d (.xd [(f, w)])) ⟨G', g, dr, tk', os⟩ := I1.laid (t' := tk') old M.dbig ob
  have keep : ∀ b o, G'.get? b = some o → h'.get? b = some o := fun b o q => by
    by_cases hb : b = e
    · rw [hb, ge] at q; cases q
    · exact (gk b hb).symm.trans q
  have na : (upd H1 d (.xd [(f, w)])) e = none := by rw [upd_ne (Ne.symm M.dne)]; exact I1.hok.fresh M.new
  have x2 : Ext X.K H1 (upd H1 d (.xd [(f, w)])) := Ext.new fd
  obtain ⟨q1, q2⟩ := raises_own W.exC W.tyC (model X.prog X.w) h' (J.kIn.keeps keep)
  have T2 : Sit X pins σ (upd H1 d (.xd [(f, w)])) ⟨G', g, dr, tk', os⟩ σD S1 := ⟨J, T.r.ext (x1.trans x2), m1.hid fd⟩
  have W2 : lX X H D.ex (.ref C) (some d) σ (upd H1 d (.xd [(f, w)])) := ⟨cn, C, [(f, v)], σD, S1, rfl, W.gC, ⟨_, upd_same, w, [], rfl, DRel.ext x2 _ dv, rfl⟩, T2.r, T2.m, x1.trans x2, q⟩
  exact wpAny_bind (wpAny_standAt (wpAny_pure ⟨e, oe, fv, .ref C, rfl, hoe, hcl, hdat, h1, q1, q2, tk _ _ (XE.new J keep ge hoe ⟨hcl, hd⟩ hdat h1 na rfl I1.bare W2)⟩))
end

def vS (X : Cx) (ex : DXs) (t : DS) : TS := fun D σ H => ∃ σD S DD, DD.ex = ex ∧ SRel (gp X) H σD σ ∧ Sim (gp X) H S ∧ t DD σD S ∧
  (∀ σ' H' σD' S', Ext X.K H H' → SRel (gp X) H' σD' σ' → Sim (gp X) H' S' → DD.nx σD' S' → D.nx σ' H') ∧ (∀ v H' d S', Ext X.K H H' → DRel (gp X) H' d v → Sim (gp X) H' S' → DD.rt d S' → D.rt v H') ∧
  (∀ σ' H' σD' S', Ext X.K H H' → SRel (gp X) H' σD' σ' → Sim (gp X) H' S' → DD.bk σD' S' → D.bk σ' H') ∧ (∀ σ' H' σD' S', Ext X.K H H' → SRel (gp X) H' σD' σ' → Sim (gp X) H' S' → DD.ct σD' S' → D.ct σ' H')
theorem pss_of {X : Cx} {body : List Stmt} {t : DS} {ex : DXs} (h : QSs X body t) : PSs X body (fun D σ H => Takes X (lX X H ex) ∧ vS X ex t D σ H) := ⟨fun pins s σ H D I ⟨tk, σD, S, DD, e, r, m, q, k1, k2, k3, k4⟩ => by
  subst e
  refine thn (h pins s σ H σD S DD tk ⟨I, r, m⟩ q) fun f s1 z => ?_
  cases f with
  | next => obtain ⟨σ', H', σD', S', T', x', q'⟩ := z; exact ⟨σ', H', T'.I, k1 _ _ _ _ x' T'.r T'.m q'⟩
  | brk => obtain ⟨σ', H', σD', S', T', x', q'⟩ := z; exact ⟨σ', H', T'.I, k3 _ _ _ _ x' T'.r T'.m q'⟩
  | cont => obtain ⟨σ', H', σD', S', T', x', q'⟩ := z; exact ⟨σ', H', T'.I, k4 _ _ _ _ x' T'.r T'.m q'⟩
  | ret u => obtain ⟨v, σ', H', d, S', I', r', x', dr, m', q'⟩ := z; exact ⟨v, σ', H', I', r', k2 _ _ _ _ x' dr m' q'⟩⟩
/-- the wished ends over trees, for the hand layer -/
def vEnds (X : Cx) (H : Hp) (D : DKs) : Ends where
  nx := fun σ' H' => ∃ σD' S', Ext X.K H H' ∧ SRel (gp X) H' σD' σ' ∧ Sim (gp X) H' S' ∧ D.nx σD' S'
  rt := fun v H' => ∃ d S', Ext X.K H H' ∧ DRel (gp X) H' d v ∧ Sim (gp X) H' S' ∧ D.rt d S'
  bk := fun σ' H' => ∃ σD' S', Ext X.K H H' ∧ SRel (gp X) H' σD' σ' ∧ Sim (gp X) H' S' ∧ D.bk σD' S'
  ct := fun σ' H' => ∃ σD' S', Ext X.K H H' ∧ SRel (gp X) H' σD' σ' ∧ Sim (gp X) H' S' ∧ D.ct σD' S'
theorem sq_of {X : Cx} {pins : List (Addr × Obj)} {H : Hp} {D : DKs} {f : Flow} {s1 : Shared} (z : SP X pins (vEnds X H D) f s1) : SQ X pins H D f s1 := by
  cases f with
  | next => obtain ⟨σ', H', I', σD', S', x', r', m', q'⟩ := z; exact ⟨σ', H', σD', S', ⟨I', r', m'⟩, x', q'⟩
  | brk => obtain ⟨σ', H', I', σD', S', x', r', m', q'⟩ := z; exact ⟨σ', H', σD', S', ⟨I', r', m'⟩, x', q'⟩
  | cont => obtain ⟨σ', H', I', σD', S', x', r', m', q'⟩ := z; exact ⟨σ', H', σD', S', ⟨I', r', m'⟩, x', q'⟩
  | ret u => obtain ⟨v, σ', H', I', r', d, S', x', dr, m', q'⟩ := z; exact ⟨v, σ', H', d, S', I', r', x', dr, m', q'⟩

/-- the caught error: where it stands, its class, its dict -/
abbrev Cur := Addr × Str × Option Addr
def noX : DXs := fun _ _ _ _ => False
theorem takes_noX {X Y : Cx} {H₀ : Hp} : Takes X (lX Y H₀ noX) := fun u s' ⟨a, B, sI, pins, σ, H, cls, d, e, I, nb, up, sky, na, os, ag, w⟩ => by
  obtain ⟨_, _, _, _, _, _, _, _, _, _, _, w⟩ := w
  exact w.elim
/-- what the running suite's error must be -/
def CurOk (X : Cx) (cu : Cur) : Prop := ∃ oe C, (cu.1, oe) ∈ X.pn ∧ X.mg cu.2.1 = some (.ref C) ∧ Zc (.ref C) cu.2.2 oe ∧ ∃ vs, oe.data = .fields vs
def SubOk (X : Cx) (sx : Str → Str → Option Bool) : Prop := ∀ c c' b, sx c c' = some b → ∀ C C', X.mg c = some (.ref C) → X.mg c' = some (.ref C') → PySem.W.exmOne X.K (.ref C) (.ref C') = some b
/-- the store with the caught error's fields -/
def caught (S : Sto) (d : Option Addr) (fs : List (Str × D)) : Sto := match d with
  | some dd => sup S dd (.exd fs)
  | none => S
/-- an except suite, the error in the slot i -/
def suiteD (i : Nat) (td : Cur → DS) (D : DKs) : DXs := fun cls fs σ S => ∀ a d, S a = none → (d = none → fs = []) → (∀ dd, d = some dd → ∀ o, S dd = some o → ∃ fs', o = .exd fs') →
  td (a, cls, d) { nx := fun σ2 S2 => D.nx (σ2.set i none) S2, rt := D.rt, bk := fun σ2 S2 => D.bk (σ2.set i none) S2, ct := fun σ2 S2 => D.ct (σ2.set i none) S2, ex := noX } (σ.set i (some (.ref a))) (caught S d fs)
/-- .. without a name -/
def suite0D (td : Cur → DS) (D : DKs) : DXs := fun cls fs σ S => ∀ a d, S a = none → (d = none → fs = []) → (∀ dd, d = some dd → ∀ o, S dd = some o → ∃ fs', o = .exd fs') →
  td (a, cls, d) { nx := D.nx, rt := D.rt, bk := D.bk, ct := D.ct, ex := noX } σ (caught S d fs)
theorem xrel_none {g : GP} {H : Hp} {d : Option Addr} {fs : List (Str × D)} (h : XRel g H d fs) : d = none → fs = [] := fun e => by
  subst e; exact h
theorem sim_caught {g : GP} {H : Hp} {S : Sto} {d : Option Addr} {fs : List (Str × D)} (m : Sim g H S) (h : XRel g H d fs) : Sim g H (caught S d fs) ∧ ∀ dd, d = some dd → ∀ o, S dd = some o → ∃ fs', o = .exd fs' := by
  cases d with
  | none => exact ⟨m, fun _ e => by cases e⟩
  | some dd =>
    obtain ⟨vs, h1, h2⟩ := h
    refine ⟨fun a o e => ?_, fun dd' e o ho => ?_⟩
    · by_cases ha : a = dd
      · subst ha
        rw [show caught S (some a) fs = sup S a (.exd fs) from rfl, sup_same] at e
        cases e
        exact ⟨vs, h1, h2⟩
      · rw [show caught S (some dd) fs = sup S dd (.exd fs) from rfl, sup_ne ha] at e
        exact m a o e
    · cases e
      have q := m dd o ho
      cases o with
      | lst ds => obtain ⟨ws, q, _⟩ := q; rw [h1] at q; cases q
      | ins c fs => obtain ⟨C, dx, ws, _, q, _⟩ := q; rw [h1] at q; cases q
      | slo c ds =>
        obtain ⟨C, dx, ws, _, ⟨_, q⟩, _⟩ := q
        rcases q with ⟨q, _⟩ | ⟨q, _⟩ <;> rw [h1] at q <;> cases q
      | dic kvs => obtain ⟨es, ep, q, _⟩ := q; rw [h1] at q; cases q
      | exd fs' => exact ⟨fs', rfl⟩
theorem sim_none {g : GP} {H : Hp} {S : Sto} {a : Addr} (m : Sim g H S) (h : H a = none) : S a = none := m.fresh h
section
variable {X : Cx} {sx : Str → Str → Option Bool} {body suite : List Stmt} {b₀ : Stmt} {tb : DS} {td : Cur → DS} {c n : Str} {i : Nat} {np pos pos' : Pos}
/-- try: body, except c as n: suite -/
def sTryAs (sx : Str → Str → Option Bool) (c : Str) (i : Nat) (tb : DS) (td : Cur → DS) : DS := fun D σ S => tb { D with ex := fun cls fs σ' S' => ∃ b, sx cls c = some b ∧ if b = true then suiteD i td D cls fs σ' S' else D.ex cls fs σ' S' } σ S
theorem qs_tryAs (Sx : SubOk X sx) {C : Addr} (hs : X.stack = X.env :: X.outer) (hf : X.env.frame = some X.env.locals) (hN : X.N.Nodup) (hi : X.N[i]? = some n) (hln : X.env.kindOf n = some .local) (hg : Gl X c) (hdb : (c == ("__debug__" : Str)) = false) (hC : X.mg c = some (.ref C))
    (hb : ∀ (pn : List (Addr × Obj)) (xe : Value → Shared → Prop), PassesOwn (model X.prog X.w) X.A X.env xe → QSs (X.tr pn xe) body tb)
    (hsu : ∀ (cu : Cur) (oe : Obj) (pn : List (Addr × Obj)), CurOk (X.suite cu.1 ((cu.1, oe) :: pn)) cu → QSs (X.suite cu.1 ((cu.1, oe) :: pn)) (b₀ :: suite) (td cu)) :
    QS X (.Try body [.ExceptHandler (some (.Name c np)) (some n) (b₀ :: suite) pos'] [] [] pos) (sTryAs sx c i tb td) := fun pins s σ H σD S D tk T h => by
  refine thn ((ps_try_as (X := X) (c := .ref C) (i := i) (Wout := lX X H D.ex) (tb := fun W D' σ H => ∃ ex, (∀ cls d σ' H', lX X H ex cls d σ' H' → W cls d σ' H') ∧ vS X ex tb D' σ H)
    (ts := fun a cls d D' σ H => ∃ cn Cn, cls = .ref Cn ∧ X.mg cn = some (.ref Cn) ∧ vS X noX (td (a, cn, d)) D' σ H) hs hf hN hi hln ⟨hg, hdb, .inl hC⟩ tk (fun W pn xe tkW pas => ?_) (fun a oe cls d pn hz hd => ?_)).run pins s σ H (vEnds X H D) T.I ?_) fun f s1 z => sq_of z
  · refine ⟨fun pins s σ H D' I ⟨ex, h1, h2⟩ => ?_⟩
    exact (pss_of (X := X.tr pn xe) (ex := ex) (hb pn xe pas)).run pins s σ H D' I ⟨tkW.imp h1, h2⟩
  · refine ⟨fun pins s σ H D' I ⟨cn, Cn, e1, e2, q⟩ => ?_⟩
    subst e1
    exact (pss_of (X := X.suite a ((a, oe) :: pn)) (ex := noX) (hsu (a, cn, d) oe pn ⟨oe, Cn, List.mem_cons_self, e2, hz, hd⟩)).run pins s σ H D' I ⟨takes_noX, q⟩
  · refine ⟨_, fun cls d σ' H' w => ?_, σD, S, { D with ex := fun cls fs σ' S' => ∃ b, sx cls c = some b ∧ if b = true then suiteD i td D cls fs σ' S' else D.ex cls fs σ' S' }, rfl, T.r, T.m, h, fun σ' H' σD' S' x r m q => ⟨σD', S', x, r, m, q⟩, fun v H' d S' x r m q => ⟨d, S', x, r, m, q⟩, fun σ' H' σD' S' x r m q => ⟨σD', S', x, r, m, q⟩, fun σ' H' σD' S' x r m q => ⟨σD', S', x, r, m, q⟩⟩
    obtain ⟨cn, Cn, fs, σD1, S1, e1, e2, e3, e4, e5, e6, b, hb1, q⟩ := w
    subst e1
    refine ⟨b, Sx cn c b hb1 Cn C e2 hC, fun hbt a na => ?_, fun hbf => ?_⟩
    · rw [if_pos hbt] at q
      obtain ⟨m2, hd2⟩ := sim_caught e5 e3
      refine ⟨cn, Cn, rfl, e2, σD1.set i (some (.ref a)), caught S1 d fs, _, rfl, e4.set (by simp [DRel]), m2, q a d (e5.fresh na) (xrel_none e3) hd2, fun σ3 H3 σD3 S3 x r m q => ⟨σD3.set i none, S3, e6.trans x, r.unset, m, q⟩, fun v H3 d3 S3 x r m q => ⟨d3, S3, e6.trans x, r, m, q⟩, fun σ3 H3 σD3 S3 x r m q => ⟨σD3.set i none, S3, e6.trans x, r.unset, m, q⟩, fun σ3 H3 σD3 S3 x r m q => ⟨σD3.set i none, S3, e6.trans x, r.unset, m, q⟩⟩
    · subst hbf
      exact ⟨cn, Cn, fs, σD1, S1, rfl, e2, e3, e4, e5, e6, by simpa using q⟩
/-- several clauses without names -/
def manyD (sx : Str → Str → Option Bool) (D : DKs) : List (Str × (Cur → DS)) → DXs
  | [] => D.ex
  | (c, td) :: r => fun cls fs σ' S' => ∃ b, sx cls c = some b ∧ if b = true then suite0D td D cls fs σ' S' else manyD sx D r cls fs σ' S'
def sTryMany (sx : Str → Str → Option Bool) (tb : DS) (l : List (Str × (Cur → DS))) : DS := fun D σ S => tb { D with ex := manyD sx D l } σ S
/-- the clauses -/
inductive HdsD (X : Cx) : List ExceptHandler → List (Str × (Cur → DS)) → Prop
  | nil : HdsD X [] []
  | cons {c : Str} {C : Addr} {td : Cur → DS} {b₀ : Stmt} {suite : List Stmt} {np pos' : Pos} {hds : List ExceptHandler} {l : List (Str × (Cur → DS))} (hg : Gl X c) (hdb : (c == ("__debug__" : Str)) = false) (hC : X.mg c = some (.ref C))
      (hsu : ∀ (cu : Cur) (oe : Obj) (pn : List (Addr × Obj)), CurOk (X.suite cu.1 ((cu.1, oe) :: pn)) cu → QSs (X.suite cu.1 ((cu.1, oe) :: pn)) (b₀ :: suite) (td cu)) (r : HdsD X hds l) :
      HdsD X (.ExceptHandler (some (.Name c np)) none (b₀ :: suite) pos' :: hds) ((c, td) :: l)
/-- .. for the hand layer -/
def hdV (X : Cx) (l : List (Str × (Cur → DS))) : List (Value × (Addr → Value → Option Addr → TS)) := l.map fun p => ((X.mg p.1).getD .none, fun a cls d D' σ H => ∃ cn Cn, cls = .ref Cn ∧ X.mg cn = some (.ref Cn) ∧ vS X noX (p.2 (a, cn, d)) D' σ H)
theorem HdsD.ok {X : Cx} : ∀ {hds : List ExceptHandler} {l : List (Str × (Cur → DS))}, HdsD X hds l → HdsOk X hds (hdV X l)
  | _, _, .nil => .nil
  | _, _, .cons (td := td) hg hdb hC hsu r => by
    refine .cons ⟨hg, hdb, .inl ?_⟩ (fun a oe cls d pn hz hd => ⟨fun pins s σ H D' I ⟨cn, Cn, e1, e2, q⟩ => ?_⟩) (HdsD.ok r)
    · dsimp only; rw [hC]; rfl
    · subst e1
      exact (pss_of (X := X.suite a ((a, oe) :: pn)) (ex := noX) (hsu (a, cn, d) oe pn ⟨oe, Cn, List.mem_cons_self, e2, hz, hd⟩)).run pins s σ H D' I ⟨takes_noX, q⟩
theorem many_ok (Sx : SubOk X sx) {H : Hp} {D : DKs} {cn : Str} {Cn : Addr} {fs : List (Str × DL.D)} {d : Option Addr} {σ' : VSt} {H' : Hp} {σD1 : DSt} {S1 : Sto} (e2 : X.mg cn = some (.ref Cn)) (e3 : XRel (gp X) H' d fs) (e4 : SRel (gp X) H' σD1 σ') (e5 : Sim (gp X) H' S1) (e6 : Ext X.K H H') :
    ∀ {hds : List ExceptHandler} {l : List (Str × (Cur → DS))}, HdsD X hds l → manyD sx D l cn fs σD1 S1 → wMany X.K (lX X H D.ex) (vEnds X H D) (hdV X l) (.ref Cn) d σ' H'
  | _, _, .nil, q => ⟨cn, Cn, fs, σD1, S1, rfl, e2, e3, e4, e5, e6, q⟩
  | _, _, .cons (c := c) (C := C) (td := td) hg hdb hC hsu r, q => by
    obtain ⟨b, hb1, q⟩ := q
    have eC : (X.mg c).getD .none = .ref C := by rw [hC]; rfl
    refine ⟨b, by dsimp only; rw [eC]; exact Sx cn c b hb1 Cn C e2 hC, fun hbt a na => ?_, fun hbf => ?_⟩
    · rw [if_pos hbt] at q
      obtain ⟨m2, hd2⟩ := sim_caught e5 e3
      exact ⟨cn, Cn, rfl, e2, σD1, caught S1 d fs, _, rfl, e4, m2, q a d (e5.fresh na) (xrel_none e3) hd2, fun σ3 H3 σD3 S3 x r m q => ⟨σD3, S3, e6.trans x, r, m, q⟩, fun v H3 d3 S3 x r m q => ⟨d3, S3, e6.trans x, r, m, q⟩, fun σ3 H3 σD3 S3 x r m q => ⟨σD3, S3, e6.trans x, r, m, q⟩, fun σ3 H3 σD3 S3 x r m q => ⟨σD3, S3, e6.trans x, r, m, q⟩⟩
    · subst hbf
      exact many_ok Sx e2 e3 e4 e5 e6 r (by simpa using q)
theorem qs_tryMany (Sx : SubOk X sx) (hs : X.stack = X.env :: X.outer) (hf : X.env.frame = some X.env.locals) {h₀ : ExceptHandler} {hds : List ExceptHandler} {l : List (Str × (Cur → DS))}
    (hb : ∀ (pn : List (Addr × Obj)) (xe : Value → Shared → Prop), PassesOwn (model X.prog X.w) X.A X.env xe → QSs (X.tr pn xe) body tb) (hh : HdsD X (h₀ :: hds) l) :
    QS X (.Try body (h₀ :: hds) [] [] pos) (sTryMany sx tb l) := fun pins s σ H σD S D tk T h => by
  refine thn ((ps_try_many (X := X) (l := hdV X l) (Wout := lX X H D.ex) (tb := fun W D' σ H => ∃ ex, (∀ cls d σ' H', lX X H ex cls d σ' H' → W cls d σ' H') ∧ vS X ex tb D' σ H) hs hf tk (fun W pn xe tkW pas => ?_) hh.ok).run pins s σ H (vEnds X H D) T.I ?_) fun f s1 z => sq_of z
  · refine ⟨fun pins s σ H D' I ⟨ex, h1, h2⟩ => ?_⟩
    exact (pss_of (X := X.tr pn xe) (ex := ex) (hb pn xe pas)).run pins s σ H D' I ⟨tkW.imp h1, h2⟩
  · refine ⟨_, fun cls d σ' H' w => ?_, σD, S, { D with ex := manyD sx D l }, rfl, T.r, T.m, h, fun σ' H' σD' S' x r m q => ⟨σD', S', x, r, m, q⟩, fun v H' d S' x r m q => ⟨d, S', x, r, m, q⟩, fun σ' H' σD' S' x r m q => ⟨σD', S', x, r, m, q⟩, fun σ' H' σD' S' x r m q => ⟨σD', S', x, r, m, q⟩⟩
    obtain ⟨cn, Cn, fs, σD1, S1, e1, e2, e3, e4, e5, e6, q⟩ := w
    subst e1
    exact many_ok Sx e2 e3 e4 e5 e6 hh q
end
end DL

set_option Elab.async false
set_option linter.all false
set_option maxRecDepth 100000
set_option maxHeartbeats 4000000
namespace DL
open PySem PySem.Spec PyProof.Rows L2

/-- an iterator: the items that it gives, by the store -/
abbrev ItD := Sto → Option (List D)
abbrev DI := DSt → Sto → (ItD → Sto → Prop) → DX → Prop
/-- J of the hand layer does it, from the heap H1 on -/
def Real (X : Cx) (J : It) (it : ItD) (H1 : Hp) : Prop := ∀ (i : Nat) (H : Hp) (S : Sto), Ext X.K H1 H → Sim (gp X) H S → ∀ xs, it S = some xs →
  (∀ d, xs[i]? = some d → J.go i H ∧ ∀ v H', J.yld i H v H' → Ext X.K H H' ∧ Sim (gp X) H' S ∧ DRel (gp X) H' d v) ∧ (xs.length ≤ i → J.stop i H)
def PID (X : Cx) (pins : List (Addr × Obj)) (σ : VSt) (tg : Expr) (H₀ : Hp) (R : ItD → Sto → Prop) (itv : Value) (s2 : Shared) : Prop :=
  ∃ (it : Addr) (fp : List Addr) (tn : Nat → Heap → Prop) (J : It) (H' : Hp) (I : ItD) (S' : Sto), itv = .ref it ∧ Inv X pins σ H' s2 ∧ Turn X.prog X.w X.K tg J fp it tn ∧ tn 0 s2.heap ∧ (∀ b ∈ fp, FpOk X pins H' b) ∧ Ext X.K H₀ H' ∧ Sim (gp X) H' S' ∧ Real X J I H' ∧ R I S'
def QI (X : Cx) (tg iter : Expr) (wi : DI) : Prop := ∀ (pins : List (Addr × Obj)) (s : Shared) (σ : VSt) (H : Hp) (σD : DSt) (S : Sto) (ex : DXs) (R : ItD → Sto → Prop), Takes X (lX X H ex) → Sit X pins σ H s σD S → wi σD S R (fun c fs S => ex c fs σD S) →
  wpAny (model X.prog X.w) X.A (eval iter X.env) (fun v s1 => wpAny (model X.prog X.w) X.A (pyIter v) (PID X pins σ tg H R) X.xe s1) X.xe s
/-- over a list (as it stands at each turn), over a tuple -/
def itOf (d : D) : ItD := fun S => itemsD S d
/-- over given items -/
def itL (xs : List D) : ItD := fun _ => some xs
def iSeq (te : DE) : DI := fun σ S R E => te σ S (fun d S1 => (itemsD S1 d).isSome = true ∧ R (itOf d) S1) E
def rgD (lo : Int) (n : Nat) : List D := (List.range n).map fun i => D.int (lo + (i : Nat))
section
variable {X : Cx} {pins : List (Addr × Obj)} {σ : VSt} {H : Hp} {s : Shared} {σD : DSt} {S : Sto} {tg : Expr} {R : ItD → Sto → Prop}
theorem PID.up {H1 : Hp} {itv : Value} {s2 : Shared} (x : Ext X.K H H1) (h : PID X pins σ tg H1 R itv s2) : PID X pins σ tg H R itv s2 := let ⟨it, fp, tn, J, H', I, S', a, b, c, d, e, f, r⟩ := h; ⟨it, fp, tn, J, H', I, S', a, b, c, d, e, x.trans f, r⟩
theorem items_live {H H1 : Hp} {d : D} {v : V} {xs : List D} (x : Ext X.K H1 H) (m : Sim (gp X) H S) (dr : DRel (gp X) H1 d v) (e : itemsD S d = some xs) : ∃ a vs, v = .ref a ∧ (SqL X.K H a vs ∨ SqT X.K H a vs) ∧ DRels (gp X) H xs vs := items_sq m (DRel.ext x _ dr) e
theorem iter_seq {d : D} {v : V} {u : Value} {xs : List D} (T : Sit X pins σ H s σD S) (dr : DRel (gp X) H d v) (ru : RelV v u) (e : itemsD S d = some xs) (q : R (itOf d) S) : wpAny (model X.prog X.w) X.A (pyIter u) (PID X pins σ tg H R) X.xe s := by
  obtain ⟨a, vs, rfl, hq, dv⟩ := items_sq T.m dr e
  obtain rfl : u = Value.ref a := ru
  have fresh : ∀ b ∈ [s.heap.objs.size], FpOk X pins H b := fun b hb => by
    have eb : b = s.heap.objs.size := by simpa using hb
    subst eb
    exact T.I.fpOk (Nat.le_refl _) (T.I.hok.fresh (Nat.le_refl _))
  -- a list or a tuple for good
  have kind : (∀ S' : Sto, ∀ ys, itemsD S' d = some ys → litemsD S' d = some ys) ∨ ∃ ds, d = .tup ds := by
    cases d with
    | tup ds => exact .inr ⟨ds, rfl⟩
    | _ => exact .inl fun S' ys h => h
  rcases kind with kind | ⟨ds, rfl⟩
  · obtain ⟨a', vs', ea, hl, _⟩ := litems_sql T.m dr (kind S xs e)
    cases ea
    obtain ⟨its, rv, p, hz⟩ := T.I.list hl
    refine wpAny_pyIter_list p.isList ?_
    refine ⟨s.heap.objs.size, [s.heap.objs.size], _, _, H, itOf d, S, rfl, T.I.kept (t' := s.toks) fun b o e => Heap.get?_push_of_some _ e, turn_list a _, ⟨_, Heap.get?_push_size _ rfl, rfl, rfl⟩, fresh, .refl, T.m, ?_, q⟩
    intro i H2 S2 x m xs2 e2
    obtain ⟨a2, vs2, ea, hl2, dr2⟩ := litems_sql m (DRel.ext x _ dr) (kind S2 xs2 e2)
    cases ea
    refine ⟨fun d2 hd2 => ?_, fun hle => ⟨vs2, hl2, by rw [← dr2.length]; exact hle⟩⟩
    obtain ⟨v2, hv2, dv2⟩ := dr2.get hd2
    refine ⟨⟨vs2, v2, hl2, hv2⟩, fun v3 H3 hy => ?_⟩
    obtain ⟨e3, hy⟩ := hy
    subst e3
    have := hy vs2 hl2
    rw [hv2] at this
    cases this
    exact ⟨.refl, m, dv2⟩
  · unfold DRel at dr
    obtain ⟨a', vs', ea, ht, dv'⟩ := dr
    cases ea
    obtain ⟨its, rv, p, hz⟩ := T.I.tuple ht
    refine wpAny_pyIter_tuple (show s.heap.IsTuple a its.toArray from p) ?_
    refine ⟨s.heap.objs.size, [s.heap.objs.size], _, _, H, itOf (.tup ds), S, rfl, T.I.kept (t' := s.toks) fun b o e => Heap.get?_push_of_some _ e, turn_tuple a _, ⟨_, Heap.get?_push_size _ rfl, rfl, rfl⟩, fresh, .refl, T.m, ?_, q⟩
    intro i H2 S2 x m xs2 e2
    cases e2
    have ht2 := x.t a vs' ht
    have dr2 := DRels.ext x ds dv'
    refine ⟨fun d2 hd2 => ?_, fun hle => ⟨vs', ht2, by rw [← dr2.length]; exact hle⟩⟩
    obtain ⟨v2, hv2, dv2⟩ := dr2.get hd2
    refine ⟨⟨vs', v2, ht2, hv2⟩, fun v3 H3 hy => ?_⟩
    obtain ⟨e3, hy⟩ := hy
    subst e3
    have := hy vs' ht2
    rw [hv2] at this
    cases this
    exact ⟨.refl, m, dv2⟩
theorem qi_seq {e : Expr} {te : DE} (he : QE X e te) : QI X tg e (iSeq te) := fun pins s σ H σD S ex R tk T h =>
  thn (he pins s σ H σD S ex _ tk T h) fun u s1 ⟨v, H1, d, S1, I1, r1, x1, d1, m1, hs, q⟩ => by
    obtain ⟨xs, e⟩ := Option.isSome_iff_exists.mp hs
    exact thn (iter_seq (T.on I1 x1 m1) d1 r1 e q) fun _ _ z => z.up x1
theorem real_rng {lo : Int} {n : Nat} : Real X (Itr lo n) (itL (rgD lo n)) H := by
  intro i H2 S2 x m xs e
  cases e
  have hl : (rgD lo n).length = n := by simp [rgD]
  refine ⟨fun d hd => ?_, fun hle => by rw [hl] at hle; exact hle⟩
  have hi : i < n := by
    have := (List.getElem?_eq_some_iff.mp hd).1
    rw [hl] at this; exact this
  have ed : d = .int (lo + i) := by
    simp [rgD, hi] at hd
    exact hd.symm
  subst ed
  refine ⟨hi, fun v H3 hy => ?_⟩
  obtain ⟨e1, e2⟩ := hy
  subst e1 e2
  exact ⟨.refl, m, by simp [DRel]⟩
def okR (i : Int) : Prop := -(2 ^ 62) ≤ i ∧ i < 2 ^ 62
def iRng (t : DA) : DI := fun σ S R E => t σ S (fun vs S1 => (∃ j, vs = [.int j] ∧ okR j ∧ R (itL (rgD 0 j.toNat)) S1) ∨ ∃ i j, vs = [.int i, .int j] ∧ okR i ∧ okR j ∧ R (itL (rgD i (j - i).toNat)) S1) E
theorem pie_pid {J : It} {it : ItD} {itv : Value} {s2 : Shared} {H₀ : Hp} (x : Ext X.K H₀ H) (m : Sim (gp X) H S) (q : R it S) (hr : Real X J it H) (h : PIE X pins σ tg (fun J' H' => J' = J ∧ H' = H) itv s2) : PID X pins σ tg H₀ R itv s2 := by
  obtain ⟨i, fp, tn, J', H', e, I', tu, t0, f, e1, e2⟩ := h
  subst e1 e2
  exact ⟨i, fp, tn, J', H', it, S, e, I', tu, t0, f, x, m, hr, q⟩
theorem qi_rng {e : Expr} {es : List Expr} {t : DA} {p pos : Pos} (hg : Gl X "range") (hm : X.mg "range" = none) (ha : QA X (e :: es) t) (hst : (e :: es).all noSt = true) : QI X tg (.Call (.Name "range" p) (e :: es) [] pos) (iRng t) := fun pins s σ H σD S ex R tk T h => by
  simp only [List.all_cons, Bool.and_eq_true] at hst
  refine Call_ (ld_blt T.I hg hm boot_range (PyProof.Rows.callWith_type1 (thn (ha pos pins s σ H σD S ex _ tk T h) fun us s1 ⟨vs, H1, ds, S1, I1, r1, x1, d1, m1, q1⟩ => ?_) (star_cons hst.1) (star_plain hst.2)))
  rcases q1 with ⟨j, e, ⟨k1, k2⟩, q⟩ | ⟨i, j, e, ⟨k1, k2⟩, ⟨k3, k4⟩, q⟩
  · subst e
    obtain ⟨v, rfl, dv⟩ := drels1 d1
    unfold DRel at dv; subst dv
    obtain ⟨u, rfl, ru⟩ := r1.one
    obtain ⟨t, rfl⟩ := ru
    exact call_range_1 (thn (range_it (R := fun J' H' => J' = Itr 0 j.toNat ∧ H' = H1) I1 (by omega) (by omega) k1 k2 ⟨by simp, rfl⟩) fun _ _ z => pie_pid x1 m1 q real_rng z)
  · subst e
    obtain ⟨v, w, rfl, dv, dw⟩ := drels2 d1
    unfold DRel at dv dw; subst dv dw
    obtain ⟨u, u', rfl, ru, ru'⟩ := r1.two
    obtain ⟨t, rfl⟩ := ru
    obtain ⟨t', rfl⟩ := ru'
    exact call_range_2 (thn (range_it (R := fun J' H' => J' = Itr i (j - i).toNat ∧ H' = H1) I1 k1 k2 k3 k4 ⟨rfl, rfl⟩) fun _ _ z => pie_pid x1 m1 q real_rng z)
def enuL : Nat → List D → List D
  | _, [] => []
  | k, x :: xs => .tup [.int (k : Nat), x] :: enuL (k + 1) xs
theorem enuL_len : ∀ (k : Nat) (xs : List D), (enuL k xs).length = xs.length
  | _, [] => rfl
  | k, x :: xs => by simp [enuL, enuL_len (k + 1) xs]
theorem enuL_get : ∀ (k : Nat) (xs : List D) (i : Nat), (enuL k xs)[i]? = (xs[i]?).map fun x => .tup [.int ((k + i : Nat) : Int), x]
  | _, [], _ => by simp [enuL]
  | k, x :: xs, 0 => by simp [enuL]
  | k, x :: xs, i + 1 => by
    simp only [enuL, List.getElem?_cons_succ]
    rw [enuL_get (k + 1) xs i, show k + 1 + i = k + (i + 1) by omega]
/-- over a list, with its places -/
def enuIt (d : D) : ItD := fun S => (litemsD S d).map (enuL 0)
def iEnu (te : DA) : DI := fun σ S R E => te σ S (fun ds S1 => ∃ d, ds = [d] ∧ (litemsD S1 d).isSome = true ∧ R (enuIt d) S1) E
theorem real_enu {a : Addr} {d : D} (dr : DRel (gp X) H d (.ref a)) : Real X (Ite X.K a) (enuIt d) H := by
  intro i H2 S2 x m xs e
  obtain ⟨ys, e1, e2⟩ := Option.map_eq_some_iff.mp e
  subst e2
  obtain ⟨a2, vs2, ea, hl2, dr2⟩ := litems_sql m (DRel.ext x _ dr) e1
  cases ea
  refine ⟨fun d' hd => ?_, fun hle => ⟨vs2, hl2, by rw [enuL_len] at hle; rw [← dr2.length]; exact hle⟩⟩
  rw [enuL_get] at hd
  obtain ⟨y, hy, e3⟩ := Option.map_eq_some_iff.mp hd
  subst e3
  obtain ⟨v2, hv2, dv2⟩ := dr2.get hy
  refine ⟨⟨vs2, v2, hl2, hv2⟩, fun v3 H3 hyl => ?_⟩
  obtain ⟨t, z, e4, hn, e5, hz⟩ := hyl
  subst e4 e5
  have q := hz vs2 hl2
  rw [hv2] at q
  cases q
  refine ⟨Ext.new hn, m.hid hn, sit_tup hn (.cons ?_ (.one dv2))⟩
  rw [Nat.zero_add]
  unfold DRel
  rfl
theorem qi_enu {e : Expr} {te : DA} {p pos tpos : Pos} {elts : List Expr} {kk : Nat} (hg : Gl X "enumerate") (hm : X.mg "enumerate" = none) (ha : QA X [e] te) (hst : noSt e = true) : QI X (.Tuple elts kk tpos) (.Call (.Name "enumerate" p) [e] [] pos) (iEnu te) := fun pins s σ H σD S ex R tk T h => by
  refine Call_ (ld_blt T.I hg hm boot_enumerate (PyProof.Rows.callWith_type1 (thn (ha pos pins s σ H σD S ex _ tk T h) fun us s1 ⟨vs, H1, ds, S1, I1, r1, x1, d1, m1, d, e1, hs, q⟩ => ?_) (star_cons hst) rfl))
  subst e1
  obtain ⟨v, rfl, dv⟩ := drels1 d1
  obtain ⟨u, rfl, ru⟩ := r1.one
  obtain ⟨xs, hxs⟩ := Option.isSome_iff_exists.mp hs
  obtain ⟨a, ws, rfl, hq, _⟩ := litems_sql m1 dv hxs
  obtain rfl : u = Value.ref a := ru
  obtain ⟨its, rv, p', hz⟩ := I1.list hq
  refine call_enumerate_list p'.isList fun h' he hit hsz hk => wpAny_pyIter_enum he ?_
  have I2 : Inv X pins σ H1 { s1 with heap := h' } := I1.kept (t' := s1.toks) hk
  refine ⟨s1.heap.objs.size + 1, [s1.heap.objs.size + 1, s1.heap.objs.size], _, Ite X.K a, H1, enuIt d, S1, rfl, I2, turn_enum a (s1.heap.objs.size + 1) s1.heap.objs.size, ⟨⟨.none, he⟩, hit, Nat.succ_ne_self _⟩, fun b hb => ?_, x1, m1, real_enu dv, q⟩
  have hle : s1.heap.objs.size ≤ b := by
    rcases (show b = s1.heap.objs.size + 1 ∨ b = s1.heap.objs.size by simpa using hb) with z | z <;> rw [z]
    · exact Nat.le_add_right _ _
    · exact Nat.le_refl _
  exact I1.fpOk hle (I1.hok.fresh hle)
def sFor (wi : DI) (g : DG) (tb : DS) : DS := fun D σ S => wi σ S (fun it S1 => ∃ W : Nat → Nat → DSt → Sto → Prop, (∃ m, W 0 m σ S1) ∧ ∀ i m σ S, W i m σ S → ∃ xs, it S = some xs ∧
  ((xs.length ≤ i ∧ D.nx σ S) ∨ ∃ d, xs[i]? = some d ∧ g d σ S fun σ2 S2 => tb { D with nx := fun σ' S' => ∃ m', m' < m ∧ W (i + 1) m' σ' S', ct := fun σ' S' => ∃ m', m' < m ∧ W (i + 1) m' σ' S', bk := D.nx } σ2 S2)) (eX D σ)
/-- for the hand layer -/
def vI (X : Cx) (wi : DI) (ex : DXs) : TI := fun σ H R => ∃ σD S RD, Takes X (lX X H ex) ∧ SRel (gp X) H σD σ ∧ Sim (gp X) H S ∧ wi σD S RD (fun c fs S => ex c fs σD S) ∧ ∀ J H' I S', Ext X.K H H' → Sim (gp X) H' S' → Real X J I H' → RD I S' → R J H'
theorem pi_of {iter : Expr} {wi : DI} {ex : DXs} (h : QI X tg iter wi) : PI X tg iter (vI X wi ex) := ⟨fun pins s σ H R I ⟨σD, S, RD, tk, r, m, q, k⟩ =>
  thn (h pins s σ H σD S ex RD tk ⟨I, r, m⟩ q) fun v s1 z => thn z fun itv s2 ⟨it, fp, tn, J, H', IT, S', a, b, c, d, e, f, g, hr, w⟩ => ⟨it, fp, tn, J, H', a, b, c, d, e, k J H' IT S' f g hr w⟩⟩
def vG (X : Cx) (vs : List Nat) (g : DG) : TG := fun x σ H P => ∃ d σD S PD, DRel (gp X) H d x ∧ SRel (gp X) H σD σ ∧ Sim (gp X) H S ∧ g d σD S PD ∧ ∀ σ' H' σD' S', Ext X.K H H' → SRel (gp X) H' σD' σ' → Sim (gp X) H' S' → wipe σ' vs = wipe σ vs → PD σD' S' → P σ' H'
theorem pg_of {vs : List Nat} {g : DG} (h : QG X vs tg g) : PG X tg (vG X vs g) := ⟨fun pins s σ H v u P I r ⟨d, σD, S, PD, dr, sr, m, q, k⟩ =>
  thn (h pins s σ H σD S d v u PD ⟨I, sr, m⟩ dr r q) fun _ s1 ⟨σ', H', σD', S', T', x', w', p⟩ => ⟨σ', H', T'.I, k σ' H' σD' S' x' T'.r T'.m w' p⟩⟩
theorem qs_for {vs : List Nat} {iter : Expr} {body : List Stmt} {wi : DI} {g : DG} {tb : DS} {pos : Pos} (hp : PassesOwn (model X.prog X.w) X.A X.env X.xe) (hc : X.calm = true) (hi : QI X tg iter wi) (hg : QG X vs tg g) (hb : QSs X body tb) (hs : ∀ x, foldedSetIterable iter X.env x = pure x) :
    QS X (.For tg iter body [] pos) (sFor wi g tb) := fun pins s σ H σD S D tk T h => by
  refine thn ((ps_for (wi := vI X wi D.ex) (g := vG X vs g) (tb := fun D' σ H => Takes X (lX X H D.ex) ∧ vS X D.ex tb D' σ H) hp hc (pi_of hi) (pg_of hg) (pss_of hb) hs).run pins s σ H (vEnds X H D) T.I ?_) fun f s1 z => sq_of z
  refine ⟨σD, S, _, tk, T.r, T.m, h, fun J H1 I S1 x1 m1 hr ⟨W, ⟨m0, w0⟩, turn⟩ => ?_⟩
  refine ⟨fun i m σ' H' => ∃ σD' S', Ext X.K H1 H' ∧ SRel (gp X) H' σD' σ' ∧ Sim (gp X) H' S' ∧ W i m σD' S', ⟨m0, σD, S1, .refl, T.r.ext x1, m1, w0⟩, ?_⟩
  rintro i m σ2 H2 ⟨σD2, S2, x2, r2, m2, w2⟩
  obtain ⟨xs, e, h⟩ := turn i m σD2 S2 w2
  obtain ⟨hgo, hst⟩ := hr i H2 S2 x2 m2 xs e
  rcases h with ⟨hle, q⟩ | ⟨d, hd, q⟩
  · exact .inl ⟨hst hle, σD2, S2, x1.trans x2, r2, m2, q⟩
  · obtain ⟨go, hy⟩ := hgo d hd
    refine .inr ⟨go, fun σ' H' => ∃ σD' S', Ext X.K H1 H' ∧ SRel (gp X) H' σD' σ' ∧ Sim (gp X) H' S' ∧ ∃ m', m' < m ∧ W (i + 1) m' σD' S', fun σ' H' ⟨σD', S', a, b, c, m', hm, w⟩ => ⟨m', hm, σD', S', a, b, c, w⟩, fun v H3 yl => ?_⟩
    obtain ⟨x3, m3, dr3⟩ := hy v H3 yl
    refine ⟨d, σD2, S2, _, dr3, r2.ext x3, m3, q, fun σ4 H4 σD4 S4 x4 r4 m4 _ q4 => ?_⟩
    have x14 : Ext X.K H1 H4 := x2.trans (x3.trans x4)
    exact ⟨tk.up (x1.trans x14), σD4, S4, { D with nx := fun σ' S' => ∃ m', m' < m ∧ W (i + 1) m' σ' S', ct := fun σ' S' => ∃ m', m' < m ∧ W (i + 1) m' σ' S', bk := D.nx }, rfl, r4, m4, q4, fun σ5 H5 σD5 S5 x5 r5 m5 q5 => ⟨σD5, S5, x14.trans x5, r5, m5, q5⟩, fun v5 H5 d5 S5 x5 r5 m5 q5 => ⟨d5, S5, x1.trans (x14.trans x5), r5, m5, q5⟩,
      fun σ5 H5 σD5 S5 x5 r5 m5 q5 => ⟨σD5, S5, x1.trans (x14.trans x5), r5, m5, q5⟩, fun σ5 H5 σD5 S5 x5 r5 m5 q5 => ⟨σD5, S5, x14.trans x5, r5, m5, q5⟩⟩
def sWhile (c : DT) (tb : DS) : DS := fun D σ S => ∃ W : Nat → DSt → Sto → Prop, (∃ m, W m σ S) ∧ ∀ m σ S, W m σ S →
  c σ S (fun b S1 => if b = true then tb { D with nx := fun σ' S' => ∃ m', m' < m ∧ W m' σ' S', ct := fun σ' S' => ∃ m', m' < m ∧ W m' σ' S', bk := D.nx } σ S1 else D.nx σ S1) (eX D σ)
def vT (X : Cx) (c : DT) (ex : DXs) : TT := fun σ H Q => ∃ σD S QD, Takes X (lX X H ex) ∧ SRel (gp X) H σD σ ∧ Sim (gp X) H S ∧ c σD S QD (fun c fs S => ex c fs σD S) ∧ ∀ b H' S', Ext X.K H H' → Sim (gp X) H' S' → QD b S' → Q b H'
theorem pt_of {e : Expr} {c : DT} {ex : DXs} (h : QT X e c) : PT X e (vT X c ex) := ⟨fun pins s σ H Q I ⟨σD, S, QD, tk, r, m, q, k⟩ =>
  thn (h pins s σ H σD S ex QD tk ⟨I, r, m⟩ q) fun b s1 ⟨H', S', I', x', m', q'⟩ => ⟨H', I', k b H' S' x' m' q'⟩⟩
theorem qs_while {c : Expr} {body : List Stmt} {tc : DT} {tb : DS} {pos : Pos} (hp : PassesOwn (model X.prog X.w) X.A X.env X.xe) (hc : QT X c tc) (hb : QSs X body tb) : QS X (.While c body [] pos) (sWhile tc tb) := fun pins s σ H σD S D tk T h => by
  refine thn ((ps_while (tc := vT X tc D.ex) (tb := fun D' σ H => Takes X (lX X H D.ex) ∧ vS X D.ex tb D' σ H) hp (pt_of hc) (pss_of hb)).run pins s σ H (vEnds X H D) T.I ?_) fun f s1 z => sq_of z
  obtain ⟨W, ⟨m0, w0⟩, turn⟩ := h
  refine ⟨fun m σ' H' => ∃ σD' S', Ext X.K H H' ∧ SRel (gp X) H' σD' σ' ∧ Sim (gp X) H' S' ∧ W m σD' S', ⟨m0, σD, S, .refl, T.r, T.m, w0⟩, ?_⟩
  rintro m σ2 H2 ⟨σD2, S2, x2, r2, m2, w2⟩
  refine ⟨σD2, S2, _, tk.up x2, r2, m2, turn m σD2 S2 w2, fun b H3 S3 x3 m3 q => ?_⟩
  have x23 := x2.trans x3
  cases b with
  | false =>
    simp only [Bool.false_eq_true, if_false] at q ⊢
    exact ⟨σD2, S3, x23, r2.ext x3, m3, q⟩
  | true =>
    simp only [if_true] at q ⊢
    refine ⟨fun σ' H' => ∃ σD' S', Ext X.K H H' ∧ SRel (gp X) H' σD' σ' ∧ Sim (gp X) H' S' ∧ ∃ m', m' < m ∧ W m' σD' S', fun σ' H' ⟨σD', S', a, b, c, m', hm, w⟩ => ⟨m', hm, σD', S', a, b, c, w⟩, tk.up x23, σD2, S3, { D with nx := fun σ' S' => ∃ m', m' < m ∧ W m' σ' S', ct := fun σ' S' => ∃ m', m' < m ∧ W m' σ' S', bk := D.nx }, rfl, r2.ext x3, m3, q, ?_⟩
    exact ⟨fun σ5 H5 σD5 S5 x5 r5 m5 q5 => ⟨σD5, S5, x23.trans x5, r5, m5, q5⟩, fun v5 H5 d5 S5 x5 r5 m5 q5 => ⟨d5, S5, x23.trans x5, r5, m5, q5⟩,
      fun σ5 H5 σD5 S5 x5 r5 m5 q5 => ⟨σD5, S5, x23.trans x5, r5, m5, q5⟩, fun σ5 H5 σD5 S5 x5 r5 m5 q5 => ⟨σD5, S5, x23.trans x5, r5, m5, q5⟩⟩
end
end DL

set_option Elab.async false
set_option linter.all false
set_option maxRecDepth 100000
set_option maxHeartbeats 4000000
namespace DL
open PySem PySem.Spec PyProof.Rows L2

def wipeD (σ : DSt) : List Nat → DSt
  | [] => σ
  | v :: vs => (wipeD σ vs).set v none
theorem SRel.wipe {g : GP} {H : Hp} {σD : DSt} {σ : VSt} (h : SRel g H σD σ) : ∀ vs : List Nat, SRel g H (wipeD σD vs) (L2.wipe σ vs)
  | [] => h
  | v :: vs => by
    unfold wipeD L2.wipe
    exact (SRel.wipe h vs).unset
abbrev noE : DX := fun _ _ _ => False
/-- a clause's test -/
def dIfs : Option DT → DT
  | none => fun _ S K _ => K true S
  | some t => t
def dLc (wi : DI) (g : DG) (tt : Option DT) (te : DE) (vs : List Nat) : DE := fun σ S K E => wi σ S (fun it S1 => ∀ p, S1 p = none → ∃ W : Nat → Nat → Sto → Prop, (∃ m, W 0 m (sup S1 p (.lst []))) ∧ ∀ i m S, W i m S → ∃ xs, it S = some xs ∧
  ((xs.length ≤ i ∧ K (.ref p) S) ∨ ∃ d, xs[i]? = some d ∧ g d (wipeD σ vs) S fun σ2 S2 => dIfs tt σ2 S2 (fun b S3 => if b = true then te σ2 S3 (fun y S4 => ∃ acc, S4 p = some (.lst acc) ∧ acc.length < sizeLine ∧ ∃ m', m' < m ∧ W (i + 1) m' (sup S4 p (.lst (acc ++ [y])))) noE
    else ∃ m', m' < m ∧ W (i + 1) m' S3) noE)) E
section
variable {X : Cx} {tg : Expr}
/-- for the hand layer -/
def vE (X : Cx) (te : DE) (ex : DXs) : TE := fun σ H Q => ∃ σD S KD, Takes X (lX X H ex) ∧ SRel (gp X) H σD σ ∧ Sim (gp X) H S ∧ te σD S KD (fun c fs S => ex c fs σD S) ∧ ∀ v H' d S', Ext X.K H H' → DRel (gp X) H' d v → Sim (gp X) H' S' → KD d S' → Q v H'
theorem pe_of {e : Expr} {te : DE} {ex : DXs} (h : QE X e te) : PE X e (vE X te ex) := ⟨fun pins s σ H Q I ⟨σD, S, KD, tk, r, m, q, k⟩ =>
  thn (h pins s σ H σD S ex KD tk ⟨I, r, m⟩ q) fun u s1 ⟨v, H', d, S', I', r', x', d', m', q'⟩ => ⟨v, H', I', r', k v H' d S' x' d' m' q'⟩⟩
/-- a test within a block -/
def QTs (X : Cx) : List Expr → Option DT → Prop
  | [], t => t = none
  | [c], t => ∃ u, t = some u ∧ QT X c u
  | _, _ => False
def vTs (X : Cx) : Option DT → TT
  | none => tYes
  | some t => vT X t noX
theorem pts_of {ifs : List Expr} {t : Option DT} (h : QTs X ifs t) : PTs X ifs (vTs X t) := by
  match ifs, h with
  | [], h =>
    have e : t = none := h
    subst e
    exact pts_nil
  | [c], h =>
    obtain ⟨u, e, q⟩ := h
    subst e
    exact pts_one (pt_of q)
/-- a block's parts -/
structure BlkQ (X : Cx) (scope : Scope) (vs : List Nat) (tg elt : Expr) (ifs : List Expr) (g : DG) (tt : Option DT) (te : DE) : Prop where
  hg : ∀ (s : Shared) (H : Hp) (C : Addr) (cl : List (Str × Addr)) (fp : List Addr), QG (X.blk s H scope (compEnvC scope cl C X.env) fp) vs tg g
  ht : ∀ (s : Shared) (H : Hp) (C : Addr) (cl : List (Str × Addr)) (fp : List Addr), QTs (X.blk s H scope (compEnvC scope cl C X.env) fp) ifs tt
  he : ∀ (s : Shared) (H : Hp) (C : Addr) (cl : List (Str × Addr)) (fp : List Addr), QE (X.blk s H scope (compEnvC scope cl C X.env) fp) elt te
/-- the same readings for every block of X -/
def wG (X : Cx) (vs : List Nat) (g : DG) : TG := vG X vs g
def wT (X : Cx) : Option DT → TT
  | none => tYes
  | some t => fun σ H Q => ∃ σD S QD, SRel (gp X) H σD σ ∧ Sim (gp X) H S ∧ t σD S QD noE ∧ ∀ b H' S', Ext X.K H H' → Sim (gp X) H' S' → QD b S' → Q b H'
def wE (X : Cx) (te : DE) : TE := fun σ H Q => ∃ σD S KD, SRel (gp X) H σD σ ∧ Sim (gp X) H S ∧ te σD S KD noE ∧ ∀ v H' d S', Ext X.K H H' → DRel (gp X) H' d v → Sim (gp X) H' S' → KD d S' → Q v H'
variable {elt iter : Expr} {ifs : List Expr} {scope : Scope} {own : List (Str × Nat)} {pos : Pos} {wi : DI} {g : DG} {tt : Option DT} {te : DE}
theorem blk_parts (B : BlkQ X scope (own.map (·.2)) tg elt ifs g tt te) :
    (∀ (s : Shared) (H : Hp) (C : Addr) (cl : List (Str × Addr)) (fp : List Addr), PG (X.blk s H scope (compEnvC scope cl C X.env) fp) tg (wG X (own.map (·.2)) g)) ∧ (∀ (s : Shared) (H : Hp) (C : Addr) (cl : List (Str × Addr)) (fp : List Addr), PTs (X.blk s H scope (compEnvC scope cl C X.env) fp) ifs (wT X tt)) ∧
    (∀ (s : Shared) (H : Hp) (C : Addr) (cl : List (Str × Addr)) (fp : List Addr), PE (X.blk s H scope (compEnvC scope cl C X.env) fp) elt (wE X te)) := by
  refine ⟨fun s H C cl fp => pg_of (B.hg s H C cl fp), fun s H C cl fp => ?_, fun s H C cl fp => ⟨fun pins s1 σ H1 Q I ⟨σD, S, KD, r, m, q, k⟩ => (pe_of (ex := noX) (B.he s H C cl fp)).run pins s1 σ H1 Q I ⟨σD, S, KD, takes_noX, r, m, q, k⟩⟩⟩
  have h := B.ht s H C cl fp
  match ifs, h with
  | [], h =>
    have e : tt = none := h
    subst e
    exact pts_nil
  | [c], h =>
    obtain ⟨u, e, q⟩ := h
    subst e
    exact pts_one ⟨fun pins s1 σ H1 Q I ⟨σD, S, QD, r, m, q1, k⟩ => (pt_of (ex := noX) q).run pins s1 σ H1 Q I ⟨σD, S, QD, takes_noX, r, m, q1, k⟩⟩
/-- the loop -/
theorem lc_walk {pins : List (Addr × Obj)} {σ : VSt} {H : Hp} {s : Shared} {σD : DSt} {S : Sto} {ex : DXs} {vs : List Nat} {Kt : DK} {Q : VK} (tk : Takes X (lX X H ex)) (T : Sit X pins σ H s σD S) (h : dLc wi g tt te vs σD S Kt (fun c fs S => ex c fs σD S))
    (hQ : ∀ p H' S', Ext X.K H H' → Sim (gp X) H' S' → Kt (.ref p) S' → Q (.ref p) H') : tLc (vI X wi ex) (wG X vs g) (wT X tt) (wE X te) vs σ H Q := by
  refine ⟨σD, S, _, tk, T.r, T.m, h, fun J H1 I S1 x1 m1 hr hW D hD => ?_⟩
  obtain ⟨W, ⟨m0, w0⟩, turn⟩ := hW D (m1.fresh hD)
  have xD : Ext X.K H1 (upd H1 D (.lst [])) := Ext.new hD
  refine ⟨fun i m H' => ∃ S', Ext X.K H1 H' ∧ Sim (gp X) H' S' ∧ W i m S', ⟨m0, _, xD, m1.newL hD .nil, w0⟩, ?_⟩
  rintro i m H2 ⟨S2, x2, m2, w2⟩
  obtain ⟨xs, e, h⟩ := turn i m S2 w2
  obtain ⟨hgo, hst⟩ := hr i H2 S2 x2 m2 xs e
  rcases h with ⟨hle, q⟩ | ⟨d, hd, q⟩
  · exact .inl ⟨hst hle, hQ D H2 S2 (x1.trans x2) m2 q⟩
  · obtain ⟨go, hy⟩ := hgo d hd
    refine .inr ⟨go, fun H' => ∃ S', Ext X.K H1 H' ∧ Sim (gp X) H' S' ∧ ∃ m', m' < m ∧ W (i + 1) m' S', fun H' ⟨S', a, b, m', hm, w⟩ => ⟨m', hm, S', a, b, w⟩, fun v H3 yl => ?_⟩
    obtain ⟨x3, m3, dr3⟩ := hy v H3 yl
    have x13 := x2.trans x3
    refine ⟨d, wipeD σD vs, S2, _, dr3, (T.r.wipe vs).ext (x1.trans x13), m3, q, fun σ4 H4 σD4 S4 x4 r4 m4 hw q4 => ⟨?_, ?_⟩⟩
    · rw [hw]
      -- wiping twice
      have tw : ∀ (σ : VSt) (vs : List Nat), L2.wipe (L2.wipe σ vs) vs = L2.wipe σ vs := by
        intro σ vs
        have gen : ∀ (us : List Nat) (τ : VSt), (∀ u ∈ us, ∀ x, τ[u]? = some x → x = none) → L2.wipe τ us = τ := by
          intro us
          induction us with
          | nil => intro τ _; rfl
          | cons u us ih =>
            intro τ hτ
            unfold L2.wipe
            rw [ih τ fun w hw => hτ w (List.mem_cons_of_mem _ hw)]
            apply List.ext_getElem?
            intro j
            by_cases hj : u = j
            · subst hj
              by_cases hl : u < τ.length
              · rw [List.getElem?_set_self hl]
                obtain ⟨x, hx⟩ : ∃ x, τ[u]? = some x := ⟨τ[u], by simp [hl]⟩
                rw [hx, hτ u List.mem_cons_self x hx]
              · rw [List.getElem?_eq_none (by simpa using hl), List.getElem?_eq_none (by simpa using hl)]
            · rw [List.getElem?_set_ne hj]
        refine gen vs _ fun u hu x hx => ?_
        cases x with
        | none => rfl
        | some y => exact absurd hu (wipe_some hx).2
      exact tw σ vs
    · have x14 := x13.trans x4
      -- the test
      have fin : ∀ b H5 S5, Ext X.K H4 H5 → Sim (gp X) H5 S5 → (if b = true then te σD4 S5 (fun y S4 => ∃ acc, S4 D = some (.lst acc) ∧ acc.length < sizeLine ∧ ∃ m', m' < m ∧ W (i + 1) m' (sup S4 D (.lst (acc ++ [y])))) noE else ∃ m', m' < m ∧ W (i + 1) m' S5) →
          (if b = true then wE X te σ4 H5 (fun y H6 => ∃ acc, H6 D = some (.lst acc) ∧ acc.length < sizeLine ∧ ∃ S', Ext X.K H1 (upd H6 D (.lst (acc ++ [y]))) ∧ Sim (gp X) (upd H6 D (.lst (acc ++ [y]))) S' ∧ ∃ m', m' < m ∧ W (i + 1) m' S')
            else ∃ S', Ext X.K H1 H5 ∧ Sim (gp X) H5 S' ∧ ∃ m', m' < m ∧ W (i + 1) m' S') := by
        intro b H5 S5 x5 m5 q5
        cases b with
        | false =>
          simp only [Bool.false_eq_true, if_false] at q5 ⊢
          exact ⟨S5, x14.trans x5, m5, q5⟩
        | true =>
          simp only [if_true] at q5 ⊢
          refine ⟨σD4, S5, _, r4.ext x5, m5, q5, fun v H6 y S6 x6 dy m6 ⟨acc, ha, hz, m', hm, w⟩ => ?_⟩
          obtain ⟨accV, h1, h2⟩ := m6 D _ ha
          refine ⟨accV, h1, by rw [← h2.length]; exact hz, _, (x14.trans (x5.trans x6)).trans (m6.ext_setL ha), m6.setL ha (h2.append (.one dy)), m', hm, w⟩
      cases tt with
      | none => exact fin true H4 S4 .refl m4 q4
      | some t => exact ⟨σD4, S4, _, r4, m4, q4, fun b H5 S5 x5 m5 q5 => fin b H5 S5 x5 m5 q5⟩
theorem qe_lc (hc : X.calm = true) (hN : X.N.Nodup) (hi : QI X tg iter wi) (ok : BlkOk X.N X.env.scope scope own) (B : BlkQ X scope (own.map (·.2)) tg elt ifs g tt te) (hs : ∀ x, foldedSetIterable iter X.env x = pure x) :
    QE X (.ListComp elt [⟨tg, iter, ifs, 0⟩] scope pos) (dLc wi g tt te (own.map (·.2))) := fun pins s σ H σD S ex Kt tk T h => by
  obtain ⟨b1, b2, b3⟩ := blk_parts B
  refine thn ((pe_lc (wi := vI X wi ex) hc hN (pi_of hi) ok b1 b2 b3 hs).run pins s σ H (PQ X H Kt) T.I ?_) fun u s1 ⟨v, H', I', r', d, S', x', dr, m', k⟩ => ⟨v, H', d, S', I', r', x', dr, m', k⟩
  exact lc_walk tk T h fun p H' S' x m k => ⟨.ref p, S', x, by simp [DRel], m, k⟩
/-- name = [..] on one line -/
theorem qs_setLc {i : Nat} {y : Str} {py spos : Pos} (hc : X.calm = true) (hN : X.N.Nodup) (hy : X.N[i]? = some y) (hyl : X.env.scope.names.lookup y = some .local) (hsw : swapsWith (.ListComp elt [⟨tg, iter, ifs, 0⟩] scope pos) (some (.Name y py)) spos.line X.env = pure true)
    (hi : QI X tg iter wi) (ok : BlkOk X.N X.env.scope scope own) (B : BlkQ X scope (own.map (·.2)) tg elt ifs g tt te) (hs : ∀ x, foldedSetIterable iter X.env x = pure x) :
    QS X (.Assign [.Name y py] (.ListComp elt [⟨tg, iter, ifs, 0⟩] scope pos) spos) (sAsg (dLc wi g tt te (own.map (·.2))) (gNm i)) := fun pins s σ H σD S D tk T h => by
  obtain ⟨b1, b2, b3⟩ := blk_parts B
  refine thn ((ps_setLc (wi := vI X wi D.ex) hc hN hy hyl hsw (pi_of hi) ok b1 b2 b3 hs).run pins s σ H (vEnds X H D) T.I ?_) fun f s1 z => sq_of z
  exact lc_walk (Q := fun v H' => gName i v σ H' (vEnds X H D).nx) tk T h fun p H' S' x m k => ⟨_, S', x, (T.r.ext x).set (by simp [DRel]), m, k⟩
end
end DL

set_option Elab.async false
set_option linter.all false
set_option maxRecDepth 100000
set_option maxHeartbeats 4000000
namespace DL
open PySem PySem.Spec PyProof.Rows L2

section
variable {X : Cx}
def dDic0 : DE := fun _ S K _ => ∀ p, S p = none → K (.ref p) (sup S p (.dic []))
theorem qe_dic0 {pos : Pos} : QE X (.Dict [] [] pos) dDic0 := fun pins s σ H σD S ex Kt tk T h => by
  refine wpAny_Dict_empty ?_
  have hf : H s.heap.objs.size = none := T.I.hok.fresh (Nat.le_refl _)
  have big := T.I.big
  have lo : (s.heap.objs.size == sysModules) = false := beq_eq_false_iff_ne.mpr (Nat.ne_of_gt big)
  have ob : ObjOk X.prog X.w (upd H s.heap.objs.size (DicO s.heap.objs.size #[] 0)) (s.heap.push { cls := .type "dict", data := .dict #[] }) s.heap.objs.size (DicO s.heap.objs.size #[] 0) := by
    refine ⟨⟨lo, Nat.zero_le _, _, Heap.get?_push_size _ rfl, ⟨rfl, rfl, rfl⟩, rfl⟩, ⟨_, Heap.get?_push_size _ rfl⟩, fun h1 h2 ⟨a, b, o, q, r⟩ k => ⟨a, b, o, k o q, r⟩⟩
  refine ⟨.ref s.heap.objs.size, _, .ref s.heap.objs.size, _, T.I.laid (t' := s.toks) (fun b o e => Heap.get?_push_of_some _ e) (Nat.le_refl _) ob, rfl, Ext.new hf, by simp [DRel], T.m.new (o := .dic []) hf ⟨#[], 0, upd_same, rfl, List.nodup_nil⟩, h _ (T.m.fresh hf)⟩

/-- the modules' dict stands in the written part: no list of the store stands there -/
def SysOk (K : PySem.W.Frag) : Prop := ∃ o es n, K.lookup sysModules = some o ∧ o.data = .dict es n
def mapP (f : D → Option PyData) : List (D × D) → Option (List (PyData × PyData))
  | [] => some []
  | p :: r => match f p.1, f p.2, mapP f r with
    | some a, some b, some l => some ((a, b) :: l)
    | _, _, _ => none
theorem mapP_cons {f : D → Option PyData} {p : D × D} {r : List (D × D)} {l : List (PyData × PyData)} (h : mapP f (p :: r) = some l) : ∃ a b l', f p.1 = some a ∧ f p.2 = some b ∧ mapP f r = some l' ∧ l = (a, b) :: l' := by
  unfold mapP at h
  split at h
  · rename_i a b l' e1 e2 e3; cases h; exact ⟨a, b, l', e1, e2, e3, rfl⟩
  · cases h
/-- a value as data: lists and dicts are looked up -/
def toPyR (S : Sto) : Nat → D → Option PyData
  | 0, _ => none
  | n + 1, .tup xs => (mapO (toPyR S n) xs).map .tuple
  | n + 1, .rol xs => (mapO (toPyR S n) xs).map .list
  | n + 1, .ref a => match S a with
    | some (.lst xs) => (mapO (toPyR S n) xs).map .list
    | some (.dic kvs) => (mapP (toPyR S n) kvs).map .dict
    | _ => none
  | _ + 1, .non => some .none
  | _ + 1, .bl b => some (.bool b)
  | _ + 1, .int i => some (.int i)
  | _ + 1, .str x => some (.str x)
  | _ + 1, .ty _ => none
  | _ + 1, .glo _ => none
theorem mapO_imp {f f' : D → Option PyData} (h : ∀ d p, f d = some p → f' d = some p) : ∀ {xs : List D} {l : List PyData}, mapO f xs = some l → mapO f' xs = some l
  | [], _, e => e
  | x :: xs, l, e => by
    obtain ⟨y, ys, e1, e2, rfl⟩ := mapO_cons e
    simp only [mapO, h _ _ e1, mapO_imp h e2]
theorem toPyR_of {S : Sto} : ∀ (n : Nat) (d : D) (p : PyData), toPy S n d = some p → toPyR S n d = some p
  | 0, d, p, e => by cases e
  | n + 1, .tup xs, p, e => by
    unfold toPy at e
    obtain ⟨l, e1, rfl⟩ := Option.map_eq_some_iff.mp e
    unfold toPyR
    rw [mapO_imp (toPyR_of n) e1]; rfl
  | n + 1, .rol xs, p, e => by
    unfold toPy at e
    obtain ⟨l, e1, rfl⟩ := Option.map_eq_some_iff.mp e
    unfold toPyR
    rw [mapO_imp (toPyR_of n) e1]; rfl
  | n + 1, .ref a, p, e => by
    unfold toPy at e
    unfold toPyR
    cases q : S a with
    | none => rw [q] at e; cases e
    | some o =>
      rw [q] at e
      cases o with
      | lst xs =>
        obtain ⟨l, e1, rfl⟩ := Option.map_eq_some_iff.mp e
        show (mapO (toPyR S n) xs).map PyData.list = _
        rw [mapO_imp (toPyR_of n) e1]; rfl
      | _ => cases e
  | n + 1, .non, p, e => e
  | n + 1, .bl b, p, e => e
  | n + 1, .int b, p, e => e
  | n + 1, .str b, p, e => e
  | n + 1, .ty _, p, e => by cases e
  | n + 1, .glo _, p, e => by cases e
section
variable {pins : List (Addr × Obj)} {σ : VSt} {H : Hp} {s : Shared} {σD : DSt} {S : Sto}
/-- the value reads so; the modules' dict is no part of it -/
def RdsR (h : Heap) (u : Value) (p : PyData) : Prop := ∃ as, Reads h u p as ∧ sysModules ∉ as
def RdsRs (h : Heap) (us : List Value) (ps : List PyData) : Prop := ∃ as, ReadsAll h us ps as ∧ sysModules ∉ as
theorem not_sys (hs : SysOk X.K) (I : Inv X pins σ H s) {a : Addr} {o : Obj} {vs : Array Value} {n : Nat} (e : s.heap.get? a = some o) (d : o.data = .seq vs n) : a ≠ sysModules := by
  rintro rfl
  obtain ⟨o', es, k, h1, h2⟩ := hs
  have q := I.kIn _ _ h1
  rw [e] at q
  cases q
  rw [d] at h2
  cases h2
theorem mapO_rds {f : D → Option PyData} {P : Nat} (hf : ∀ d p v u, f d = some p → DRel (gp X) H d v → RelV v u → RdsR s.heap u p ∧ p.depth ≤ P) : ∀ {xs : List D} {l : List PyData} {vs : List V} {us : List Value}, mapO f xs = some l → DRels (gp X) H xs vs → Vals vs us → RdsRs s.heap us l ∧ PyData.depthAll l ≤ P
  | [], l, vs, us, e, r, w => by
    cases e
    have : vs = [] := by simpa [DRels] using r
    subst this
    cases w
    exact ⟨⟨[], .nil, by simp⟩, by simp [PyData.depthAll]⟩
  | x :: xs, l, vs, us, e, r, w => by
    obtain ⟨y, ys, e1, e2, rfl⟩ := mapO_cons e
    unfold DRels at r
    obtain ⟨v, q, rfl, r1, r2⟩ := r
    cases w with
    | cons w1 w2 =>
      obtain ⟨⟨as, R1, n1⟩, p1⟩ := hf x y v _ e1 r1 w1
      obtain ⟨⟨bs, R2, n2⟩, p2⟩ := mapO_rds hf e2 r2 w2
      exact ⟨⟨as ++ bs, .cons R1 R2, by simp [n1, n2]⟩, by simp only [PyData.depthAll]; omega⟩
theorem mapP_rds {f : D → Option PyData} {P : Nat} (hf : ∀ d p v u, f d = some p → DRel (gp X) H d v → RelV v u → RdsR s.heap u p ∧ p.depth ≤ P) : ∀ {kvs : List (D × D)} {l : List (PyData × PyData)} {es : List DictEntry}, mapP f kvs = some l → DicRel (gp X) H kvs es →
    RdsRs s.heap (es.map (·.key)) (l.map (·.1)) ∧ RdsRs s.heap (es.map (·.val)) (l.map (·.2)) ∧ PyData.depthKv l ≤ P
  | [], l, es, e, r => by
    cases e
    have : es = [] := r
    subst this
    exact ⟨⟨[], .nil, by simp⟩, ⟨[], .nil, by simp⟩, by simp [PyData.depthKv]⟩
  | p :: kvs, l, es, e, r => by
    obtain ⟨a, b, l', e1, e2, e3, rfl⟩ := mapP_cons e
    obtain ⟨en, es', rfl, ⟨kv, k1, k2⟩, ⟨vv, v1, v2⟩, _, r'⟩ := r
    obtain ⟨⟨as, R1, n1⟩, d1⟩ := hf _ _ _ _ e1 k1 k2
    obtain ⟨⟨bs, R2, n2⟩, d2⟩ := hf _ _ _ _ e2 v1 v2
    obtain ⟨⟨cs, R3, n3⟩, ⟨ds, R4, n4⟩, d3⟩ := mapP_rds hf e3 r'
    exact ⟨⟨as ++ cs, .cons R1 R3, by simp [n1, n3]⟩, ⟨bs ++ ds, .cons R2 R4, by simp [n2, n4]⟩, by simp only [PyData.depthKv]; omega⟩
theorem rds_R (hs : SysOk X.K) (I : Inv X pins σ H s) (m : Sim (gp X) H S) : ∀ (n : Nat) (d : D) (p : PyData) (v : V) (u : Value), toPyR S n d = some p → DRel (gp X) H d v → RelV v u → RdsR s.heap u p ∧ p.depth ≤ n
  | 0, d, p, v, u, e, _, _ => by cases e
  | n + 1, .tup xs, p, v, u, e, r, w => by
    unfold toPyR at e
    obtain ⟨l, e1, rfl⟩ := Option.map_eq_some_iff.mp e
    unfold DRel at r
    obtain ⟨a, vs, rfl, q, r⟩ := r
    cases w
    obtain ⟨its, rv, ⟨o, ho, hc, k, hd⟩, hz⟩ := I.tuple q
    obtain ⟨⟨as, R, n1⟩, d1⟩ := mapO_rds (rds_R hs I m n) e1 r rv
    exact ⟨⟨as, .tuple ho hc hd (by simpa using R), n1⟩, by simp only [PyData.depth]; omega⟩
  | n + 1, .rol xs, p, v, u, e, r, w => by
    unfold toPyR at e
    obtain ⟨l, e1, rfl⟩ := Option.map_eq_some_iff.mp e
    unfold DRel at r
    obtain ⟨a, vs, rfl, q, r⟩ := r
    cases w
    obtain ⟨its, rv, hl, hz⟩ := I.list q.sql
    obtain ⟨o, ho, hc, k, hd⟩ := hl.isList
    obtain ⟨⟨as, R, n1⟩, d1⟩ := mapO_rds (rds_R hs I m n) e1 r rv
    exact ⟨⟨a :: as, .list ho hc hd (by simpa using R), by simp [n1, Ne.symm (not_sys hs I ho hd)]⟩, by simp only [PyData.depth]; omega⟩
  | n + 1, .ref a, p, v, u, e, r, w => by
    unfold toPyR at e
    unfold DRel at r
    subst r
    cases w
    cases q : S a with
    | none => rw [q] at e; cases e
    | some o =>
      rw [q] at e
      cases o with
      | lst xs =>
        obtain ⟨l, e1, rfl⟩ := Option.map_eq_some_iff.mp e
        obtain ⟨vs, h1, h2⟩ := m a _ q
        obtain ⟨its, rv, hl, hz⟩ := I.list (SqL.of h1)
        obtain ⟨o, ho, hc, k, hd⟩ := hl.isList
        obtain ⟨⟨as, R, n1⟩, d1⟩ := mapO_rds (rds_R hs I m n) e1 h2 rv
        exact ⟨⟨a :: as, .list ho hc hd (by simpa using R), by simp [n1, Ne.symm (not_sys hs I ho hd)]⟩, by simp only [PyData.depth]; omega⟩
      | dic kvs =>
        obtain ⟨l, e1, rfl⟩ := Option.map_eq_some_iff.mp e
        obtain ⟨es, ep, h1, h2, _⟩ := m a _ q
        obtain ⟨⟨lo, _, o, g1, g2, g3⟩, _⟩ := I.hok a _ h1
        obtain ⟨⟨as, R1, n1⟩, ⟨bs, R2, n2⟩, d1⟩ := mapP_rds (rds_R hs I m n) e1 h2
        refine ⟨⟨a :: as ++ bs, .dict g1 g2.1 g3 R1 R2, ?_⟩, by simp only [PyData.depth]; omega⟩
        have : a ≠ sysModules := by simpa using lo
        simp [n1, n2, Ne.symm this]
      | _ => cases e
  | n + 1, .non, p, v, u, e, r, w => by cases e; unfold DRel at r; subst r; cases w; exact ⟨⟨[], .none, by simp⟩, by simp [PyData.depth]⟩
  | n + 1, .bl b, p, v, u, e, r, w => by cases e; unfold DRel at r; subst r; cases w; exact ⟨⟨[], .bool b, by simp⟩, by simp [PyData.depth]⟩
  | n + 1, .int b, p, v, u, e, r, w => by cases e; unfold DRel at r; subst r; obtain ⟨t, rfl⟩ := w; exact ⟨⟨[], .int b t, by simp⟩, by simp [PyData.depth]⟩
  | n + 1, .str b, p, v, u, e, r, w => by cases e; unfold DRel at r; subst r; obtain ⟨t, rfl⟩ := w; exact ⟨⟨[], .str b t, by simp⟩, by simp [PyData.depth]⟩
  | n + 1, .ty _, p, v, u, e, _, _ => by cases e
  | n + 1, .glo _, p, v, u, e, _, _ => by cases e
end
/-- data that repr shows -/
def reprOk (p : PyData) : Prop := p.showable = true ∧ p.shown.length ≤ sizeLine
def reprD : DB := fun ds S K _ => ∃ d p, ds = [d] ∧ toPyR S 64 d = some p ∧ reprOk p ∧ K (.str p.shown) S
theorem cd_repr (hs : SysOk X.K) (hg : X.A.guards = some []) (hu : X.A.units + 66 < cLine) : CallD X (.builtin "repr") reprD := fun pins s σ H σD S ex Kt ds vs us tk T dr rv ⟨d, p, e, hp, ⟨h1, h2⟩, q⟩ => by
  subst e
  obtain ⟨v, rfl, d1⟩ := drels1 dr
  obtain ⟨u, rfl, r1⟩ := rv.one
  have fin : ∀ (x : Str) (h' : Heap) (t : Tok) (tk : Nat), (∀ b o, s.heap.get? b = some o → h'.get? b = some o) → Kt (.str x) S → EQ X pins σ H Kt (.str x t) { s with heap := h', toks := tk } := fun x h' t tk kp k =>
    ⟨.str x, H, .str x, S, T.I.kept (t' := tk) kp, ⟨t, rfl⟩, .refl, by simp [DRel], T.m, k⟩
  obtain ⟨⟨as, R, ns⟩, dp⟩ := rds_R hs T.I T.m 64 d p v u hp d1 r1
  cases R with
  | none => exact PySem.P.repr_of_none (fin _ _ _ _ (fun _ _ e => e) q)
  | bool b => exact PySem.P.repr_of_bool (fin _ _ _ _ (fun _ _ e => e) q)
  | int i t => exact PySem.P.repr_of_int (by simpa [PyData.showable] using h1) (fin _ _ _ _ (fun _ _ e => e) q)
  | str x t => exact PySem.P.repr_of_str (fin _ _ _ _ (fun _ _ e => e) q) h2
  | list e1 e2 e3 e4 => exact repr_of_reads' (h₀ := s.heap) (.list e1 e2 e3 e4) h1 (fun _ => ns) hg (by omega) (fun _ _ e => e) (fun h' u tk kp => fin _ h' _ _ kp q) h2
  | tuple e1 e2 e3 e4 => exact repr_of_reads' (h₀ := s.heap) (.tuple e1 e2 e3 e4) h1 (fun _ => ns) hg (by omega) (fun _ _ e => e) (fun h' u tk kp => fin _ h' _ _ kp q) h2
  | dict e1 e2 e3 e4 e5 => exact repr_of_reads' (h₀ := s.heap) (.dict e1 e2 e3 e4 e5) h1 (fun _ => ns) hg (by omega) (fun _ _ e => e) (fun h' u tk kp => fin _ h' _ _ kp q) h2
end
end DL

set_option Elab.async false
set_option linter.all false
set_option maxRecDepth 100000
set_option maxHeartbeats 4000000
namespace DL
open PySem PySem.Spec PyProof.Rows L2

mutual
inductive CE where
  | var (i : Nat)
  | cst (d : D)
  | tup (es : CEs) | lst (es : CEs) | dic0
  | op (o : Operator) (a b : CE)
  | cmp (o : CmpOp) (a b : CE)
  | chn (o o' : CmpOp) (a b c : CE)
  | and (a b : CE) | or (a b : CE) | not (a : CE) | neg (a : CE)
  | ite (c : CT) (a b : CE)
  | ix (a b : CE)
  | sl (a lo hi : CE)
  | att (e : CE) (f : Str)
  | call (f : Key) (es : CEs)
  | make (c : Str) (es : CEs)
  | blt (b : Str) (es : CEs)
  | meth (e : CE) (m : Str) (es : CEs)
  | callI (i : Nat) (es : CEs)
  | comp (it : CI) (g : CG) (t : Option CT) (e : CE) (vs : List Nat)
inductive CEs where
  | nil | cons (e : CE) (es : CEs)
inductive CT where
  | val (e : CE)
  | cmp (o : CmpOp) (a b : CE) | chn (o o' : CmpOp) (a b c : CE)
  | and (a b : CT) | or (a b : CT) | not (a : CT) | ite (c a b : CT)
inductive CI where
  | seq (e : CE) | rng (es : CEs) | enu (es : CEs)
inductive CG where
  | nm (i : Nat) | tup (n : Nat) (gs : CGs) | att (i : Nat) (f : Str)
inductive CGs where
  | nil | cons (g : CG) (gs : CGs)
end
mutual
inductive CS where
  | pass | brk | cont
  | expr (e : CE) | ret (e : CE) | retN
  | iff (c : CT) (a b : CSs)
  | asg (e : CE) (g : CG)
  | par (i j : Nat) (a b : CE)
  | sub (e o i : CE)
  | setA (e o : CE) (f : Str)
  | aug (i : Nat) (o : Operator) (e : CE)
  | for_ (it : CI) (g : CG) (b : CSs)
  | whl (c : CT) (b : CSs)
  | raise (cn f : Str) (e : CE)
  | tryAs (c : Str) (i : Nat) (b h : CSs)
  | try_ (b : CSs) (hs : CHs)
inductive CSs where
  | nil | cons (s : CS) (r : CSs)
inductive CHs where
  | nil | cons (c : Str) (b : CSs) (r : CHs)
end

/-- what the code leans on: classes, defs, isinstance, errors -/
structure Env1 where
  tb : Tb
  fi : Key → Option FI
  orc : Orc
  tab : TyC → TyC → Option Bool
  et : Str → Option Str
  sx : Str → Str → Option Bool
abbrev Env1.own (M : Env1) : Own := ownO M.tb M.fi M.orc
abbrev Env1.tru (M : Env1) : D → Sto → (Bool → Sto → Prop) → DX → Prop := truD (ownT M.tb M.fi M.orc)
/-- slices -/
def cutD (xs : List D) (lo hi : Option Int) : List D := (xs.drop (HT.sIx xs.length 0 lo)).take (HT.sIx xs.length xs.length hi - HT.sIx xs.length 0 lo)
def ptD : D → Option (Option Int)
  | .non => some none
  | .int i => some (some i)
  | _ => none
def slD (x lo hi : D) (S : Sto) (K : DK) : Prop := ∃ l h, ptD lo = some l ∧ ptD hi = some h ∧ match x with
  | .tup xs => K (.tup (cutD xs l h)) S
  | .rol xs => ∀ p, S p = none → K (.ref p) (sup S p (.lst (cutD xs l h)))
  | .ref a => (match S a with
    | some (.lst xs) => ∀ p, S p = none → K (.ref p) (sup S p (.lst (cutD xs l h)))
    | _ => False)
  | .str z => z.length ≤ sizeLine ∧ K (.str (cutS z l h)) S
  | _ => False
def opM (M : Env1) : Operator → DR2
  | .Add => addD M.own
  | .Sub => subD
  | .Mult => mulD
  | .FloorDiv => divD
  | .Mod => modD
  | .Pow => powD
  | .BitAnd => ownR M.own "__and__"
  | .BitOr => ownR M.own "__or__"
  | _ => fun _ _ _ _ _ => False
/-- name op= value -/
def inpM : Operator → DR2
  | .Add => fun x y S K _ => match x, y with
    | .int i, .int j => K (.int (i + j)) S
    | .str a, .str b => a.length + b.length ≤ sizeLine ∧ K (.str (a ++ b)) S
    | _, _ => False
  | .Sub => subD
  | _ => fun _ _ _ _ _ => False
def cmpM (M : Env1) : CmpOp → DR2
  | .Eq => eqDn false M.own
  | .NotEq => eqDn true M.own
  | .Lt => ltD
  | .LtE => leD
  | .Gt => gtD
  | .GtE => geD
  | .Is => isD
  | .IsNot => isnD
  | .In => inDn false M.own
  | .NotIn => inDn true M.own
/-- built-in functions -/
def bltM (M : Env1) (b : Str) : DB := fun ds S K E =>
  if b = "abs" then absD ds S K E
  else if b = "int" then int1D ds S K E
  else if b = "bool" then boolXD M.tru ds S K E
  else if b = "len" then lenD ds S K E
  else if b = "max" then max2D ds S K E ∨ maxlD ds S K E
  else if b = "min" then min2D ds S K E ∨ minlD ds S K E
  else if b = "sum" then sumD ds S K E
  else if b = "all" then allD ds S K E
  else if b = "any" then anyD ds S K E
  else if b = "list" then listD ds S K E
  else if b = "tuple" then tupleD ds S K E
  else if b = "repr" then reprD ds S K E
  else if b = "isinstance" then isiD M.tb M.tab ds S K E
  else if b = "sorted" then sortedD ds S K E
  else False
/-- an attribute; a caught error's -/
def attC (M : Env1) (cu : Option Cur) (f : Str) (o : D) (S : Sto) (K : DK) : Prop :=
  (∃ a c dd fs d, cu = some (a, c, some dd) ∧ o = .ref a ∧ M.et c = some f ∧ S dd = some (.exd fs) ∧ fs.lookup f = some d ∧ K d S) ∨ attD M.tb M.fi M.orc f o S K
mutual
def mE (M : Env1) (cu : Option Cur) : CE → DE
  | .var i => dV i
  | .cst d => dC d
  | .tup es => dTup (mEs M cu es)
  | .lst es => dLst (mEs M cu es)
  | .dic0 => dDic0
  | .op o a b => dOp (opM M o) (mE M cu a) (mE M cu b)
  | .cmp o a b => dOp (cmpM M o) (mE M cu a) (mE M cu b)
  | .chn o o' a b c => dChain (cmpM M o) (cmpM M o') (mE M cu a) (mE M cu b) (mE M cu c)
  | .and a b => dAnd M.tru (mE M cu a) (mE M cu b)
  | .or a b => dOr M.tru (mE M cu a) (mE M cu b)
  | .not a => dNot M.tru (mE M cu a)
  | .neg a => dNeg (mE M cu a)
  | .ite c a b => dIf (mT M cu c) (mE M cu a) (mE M cu b)
  | .ix a b => dOp (ixD M.own) (mE M cu a) (mE M cu b)
  | .sl a lo hi => fun σ S K E => mE M cu a σ S (fun x S1 => mE M cu lo σ S1 (fun l S2 => mE M cu hi σ S2 (fun h S3 => slD x l h S3 K) E) E) E
  | .att e f => fun σ S K E => mE M cu e σ S (fun o S1 => attC M cu f o S1 K) E
  | .call f es => dCall (callO M.fi M.orc f) (mEs M cu es)
  | .make c es => dCall (makeO M.tb M.fi M.orc c) (mEs M cu es)
  | .blt b es => dCall (bltM M b) (mEs M cu es)
  | .meth e m es => dMeth M.tb M.fi M.orc m (mE M cu e) (mEs M cu es)
  | .callI i es => dCallI M.tb M.fi M.orc (dV i) (mEs M cu es)
  | .comp it g t e vs => dLc (mI M cu it) (mG M.tb g) (mO M cu t) (mE M cu e) vs
def mEs (M : Env1) (cu : Option Cur) : CEs → DA
  | .nil => dNil
  | .cons e es => dCons (mE M cu e) (mEs M cu es)
def mT (M : Env1) (cu : Option Cur) : CT → DT
  | .val e => dTru M.tru (mE M cu e)
  | .cmp o a b => dTst (dOp (cmpM M o) (mE M cu a) (mE M cu b))
  | .chn o o' a b c => dTst (dChain (cmpM M o) (cmpM M o') (mE M cu a) (mE M cu b) (mE M cu c))
  | .and a b => dtAnd (mT M cu a) (mT M cu b)
  | .or a b => dtOr (mT M cu a) (mT M cu b)
  | .not a => dtNot (mT M cu a)
  | .ite c a b => dtIf (mT M cu c) (mT M cu a) (mT M cu b)
def mO (M : Env1) (cu : Option Cur) : Option CT → Option DT
  | none => none
  | some t => some (mT M cu t)
def mI (M : Env1) (cu : Option Cur) : CI → DI
  | .seq e => iSeq (mE M cu e)
  | .rng es => iRng (mEs M cu es)
  | .enu es => iEnu (mEs M cu es)
def mG (tb : Tb) : CG → DG
  | .nm i => gNm i
  | .tup n gs => gTp n (mGs tb gs)
  | .att i f => gAt tb i f
def mGs (tb : Tb) : CGs → DGs
  | .nil => gN
  | .cons g gs => gC (mG tb g) (mGs tb gs)
end
mutual
def mS (M : Env1) (cu : Option Cur) : CS → DS
  | .pass => sNext
  | .brk => sBreak
  | .cont => sCont
  | .expr e => sExpr (mE M cu e)
  | .ret e => sRet (mE M cu e)
  | .retN => sRetN
  | .iff c a b => sIf (mT M cu c) (mSs M cu a) (mSs M cu b)
  | .asg e g => sAsg (mE M cu e) (mG M.tb g)
  | .par i j a b => sPar i j (dCons (mE M cu a) (dCons (mE M cu b) dNil))
  | .sub e o i => sSub (mE M cu e) (mE M cu o) (mE M cu i) setD
  | .setA e o f => sSetA M.tb f (mE M cu o) (mE M cu e)
  | .aug i o e => sAug i (mE M cu e) (inpM o)
  | .for_ it g b => sFor (mI M cu it) (mG M.tb g) (mSs M cu b)
  | .whl c b => sWhile (mT M cu c) (mSs M cu b)
  | .raise cn f e => sRaise cn f (dCons (mE M cu e) dNil)
  | .tryAs c i b h => sTryAs M.sx c i (mSs M cu b) (fun cu' => mSs { M with fi := fun _ => none } (some cu') h)
  | .try_ b hs => sTryMany M.sx (mSs M cu b) (mHs M hs)
def mSs (M : Env1) (cu : Option Cur) : CSs → DS
  | .nil => sNext
  | .cons s r => sSeq (mS M cu s) (mSs M cu r)
def mHs (M : Env1) : CHs → List (Str × (Cur → DS))
  | .nil => []
  | .cons c b r => (c, fun cu' => mSs { M with fi := fun _ => none } (some cu') b) :: mHs M r
end
end DL

set_option Elab.async false
set_option linter.all false
set_option maxRecDepth 100000
set_option maxHeartbeats 4000000
namespace DL
open PySem PySem.Spec PyProof.Rows L2

section
variable {X : Cx} {pins : List (Addr × Obj)} {σ : VSt} {H : Hp} {s : Shared} {σD : DSt} {S : Sto}
theorem opD_le : OpD X (compareOp .LtE) leD := opD_cmp op_le op_le_str
theorem opD_gt : OpD X (compareOp .Gt) gtD := opD_cmp op_gt op_gt_str
theorem opD_ge : OpD X (compareOp .GtE) geD := opD_cmp op_ge op_ge_str
theorem qt_ifexp {c a b : Expr} {tc ta tb : DT} {pos : Pos} (hc : QT X c tc) (ha : QT X a ta) (hb : QT X b tb) : QT X (.IfExp c a b pos) (dtIf tc ta tb) := fun pins s σ H σD S ex Kt tk T h => by
  have e : isTrue (.IfExp c a b pos) X.env (eval (.IfExp c a b pos) X.env) = (do if ← isTrue c X.env (eval c X.env) then isTrue a X.env (eval a X.env) else isTrue b X.env (eval b X.env)) := rfl
  rw [e]
  refine wpAny_bind (thn (hc pins s σ H σD S ex _ tk T h) fun k s1 ⟨H1, S1, I1, x1, m1, q1⟩ => ?_)
  cases k with
  | true =>
    simp only [if_true] at q1 ⊢
    exact thn (ha pins s1 σ H1 σD S1 ex Kt (tk.up x1) (T.on I1 x1 m1) q1) fun _ _ z => z.up x1
  | false =>
    simp only [Bool.false_eq_true, if_false] at q1 ⊢
    exact thn (hb pins s1 σ H1 σD S1 ex Kt (tk.up x1) (T.on I1 x1 m1) q1) fun _ _ z => z.up x1
theorem part_rel {d : D} {o : Option Int} {v : V} {u : Value} (h : ptD d = some o) (dr : DRel (gp X) H d v) (r : RelV v u) : IsPart u o := by
  cases d with
  | non =>
    cases h
    unfold DRel at dr; subst dr
    cases (show u = Value.none from r)
    exact .none
  | int i =>
    cases h
    unfold DRel at dr; subst dr
    obtain ⟨t, rfl⟩ := (show ∃ t, u = Value.int i t from r)
    exact .int _ _
  | _ => cases h
theorem cutD_rel {g : GP} {xs : List D} {vs : List V} (l h : Option Int) (r : DRels g H xs vs) : DRels g H (cutD xs l h) (cutV vs l h) := by
  unfold cutD cutV
  rw [r.length]
  exact (r.drop _).take _
theorem cut_all {xs : List D} {l h : Option Int} (q : HT.sIx xs.length 0 l = 0 ∧ HT.sIx xs.length xs.length h = xs.length) : cutD xs l h = xs := by
  unfold cutD
  rw [q.1, q.2]
  simp
theorem slice_ok {x lo hi : D} {xv lv hv : V} {v vl vu : Value} {sl : Addr} {Kt : DK} (T : Sit X pins σ H s σD S) (dx : DRel (gp X) H x xv) (dl : DRel (gp X) H lo lv) (dh : DRel (gp X) H hi hv) (rx : RelV xv v) (rl : RelV lv vl) (rh : RelV hv vu) (hs : s.heap.IsSliceOf sl vl vu .none) (h : slD x lo hi S Kt) :
    ∃ T id, typeLookup (.type T) "__getitem__" = pure (some (.builtin id)) ∧ s.TypeIs v T ∧ wpAny (model X.prog X.w) X.A (getItem v (.ref sl)) (EQ X pins σ H Kt) X.xe s := by
  obtain ⟨l, u, e1, e2, h⟩ := h
  have pl := part_rel e1 dl rl
  have pu := part_rel e2 dh rh
  have fin : ∀ {r0 : V → Option Int → Option Int → Hp → VK → Prop}, SlR X r0 → r0 xv l u H (PQ X H Kt) → ∃ T id, typeLookup (.type T) "__getitem__" = pure (some (.builtin id)) ∧ s.TypeIs v T ∧ wpAny (model X.prog X.w) X.A (getItem v (.ref sl)) (EQ X pins σ H Kt) X.xe s := fun {r0} hr q => by
    obtain ⟨T0, id, a, b, c⟩ := hr pins s σ H xv v vl vu l u sl _ T.I rx hs pl pu q
    exact ⟨T0, id, a, b, thn c fun u s1 ⟨v, H', I', r, d, S', x, dr, m, k⟩ => ⟨v, H', d, S', I', r, x, dr, m, k⟩⟩
  have lst : ∀ {xs : List D}, litemsD S x = some xs → (∀ p, S p = none → Kt (.ref p) (sup S p (.lst (cutD xs l u)))) → ∃ T id, typeLookup (.type T) "__getitem__" = pure (some (.builtin id)) ∧ s.TypeIs v T ∧ wpAny (model X.prog X.w) X.A (getItem v (.ref sl)) (EQ X pins σ H Kt) X.xe s := fun {xs} e q => by
    obtain ⟨a, vs, ev, hq, dr⟩ := litems_sql T.m dx e
    exact fin sl_list ⟨a, vs, ev, hq, fun p hp => PQ.newL T.m hp (cutD_rel l u dr) (q p (T.m.fresh hp))⟩
  cases x with
  | tup xs =>
    have h : Kt (.tup (cutD xs l u)) S := h
    have dx0 := dx
    unfold DRel at dx
    obtain ⟨a, vs, ev, hq, dr⟩ := dx
    have hl := dr.length
    refine fin sl_tupA ⟨a, vs, ev, hq, fun hw => ?_, fun hw p hp => PQ.newT T.m hp (cutD_rel l u dr) h⟩
    rw [← hl] at hw
    rw [cut_all hw] at h
    exact ⟨.tup xs, S, .refl, by rw [ev] at dx0; exact dx0, T.m, h⟩
  | rol xs => exact lst (xs := xs) rfl h
  | ref a =>
    cases e : S a with
    | none => simp only [e] at h
    | some o =>
      cases o with
      | lst xs =>
        simp only [e] at h
        exact lst (xs := xs) (by simp [litemsD, e]) h
      | _ => simp only [e] at h
  | str z =>
    obtain ⟨hz, h⟩ := h
    unfold DRel at dx
    exact fin sl_str ⟨z, dx, hz, PQ.str T.m h⟩
  | _ => exact (show False from h).elim
/-- a slice's part -/
def QP (X : Cx) : Option Expr → DE → Prop
  | none, t => t = dC .non
  | some e, t => QE X e t
theorem qp_run {e : Option Expr} {t : DE} (h : QP X e t) {ex : DXs} {Kt : DK} (tk : Takes X (lX X H ex)) (T : Sit X pins σ H s σD S) (q : t σD S Kt (fun c fs S => ex c fs σD S)) : wpAny (model X.prog X.w) X.A (evalPart e X.env) (EQ X pins σ H Kt) X.xe s := by
  cases e with
  | none =>
    have e : t = dC .non := h
    subst e
    exact wpAny_pure ⟨.non, H, .non, S, T.I, rfl, .refl, by simp [DRel], T.m, q⟩
  | some e => exact (show QE X e t from h) pins s σ H σD S ex Kt tk T q
theorem qe_sl {a : Expr} {lo hi : Option Expr} {ta tl th : DE} {p2 pos : Pos} (ha : QE X a ta) (hl : QP X lo tl) (hh : QP X hi th) :
    QE X (.Subscript a (.Slice lo hi none p2) pos) (fun σ S K E => ta σ S (fun x S1 => tl σ S1 (fun l S2 => th σ S2 (fun h S3 => slD x l h S3 K) E) E) E) := fun pins s σ H σD S ex Kt tk T h => by
  refine Subscript_ (thn (ha pins s σ H σD S ex _ tk T h) fun v s1 ⟨xv, H1, x, S1, I1, r1, x1, d1, m1, q1⟩ => ?_)
  refine wpAny_Slice (thn (qp_run hl (tk.up x1) (T.on I1 x1 m1) q1) fun vl s2 ⟨lv, H2, l, S2, I2, r2, x2, d2, m2, q2⟩ => thn (qp_run hh (tk.up (x1.trans x2)) (T.on I2 (x1.trans x2) m2) q2) fun vu s3 ⟨hv, H3, u, S3, I3, r3, x3, d3, m3, q3⟩ => ?_)
  rw [evalPart_none]
  refine wpAny_pure ?_
  have x13 := x1.trans (x2.trans x3)
  have I4 : Inv X pins σ H3 { s3 with heap := s3.heap.push { cls := .type "slice", data := .fields #[vl, vu, .none] } } := I3.kept (t' := s3.toks) fun b ob q => Heap.get?_push_of_some _ q
  obtain ⟨T0, id, hT, ht, hg⟩ := slice_ok (T.on I4 x13 m3) (DRel.ext (x2.trans x3) _ d1) (DRel.ext x3 _ d2) d3 r1 r2 r3 (Heap.IsSliceOf.new ..) q3
  exact tail_any (value := a) (slice := .Slice lo hi none p2) (ops := [.ref s3.heap.objs.size, v]) ht hT (thn hg fun _ _ z => z.up x13) (by with_unfolding_all rfl)
end
end DL

set_option Elab.async false
set_option linter.all false
set_option maxRecDepth 100000
set_option maxHeartbeats 4000000
namespace DL
open PySem PySem.Spec PyProof.Rows L2

inductive GK where
  | fn | cls | exc (f : Str) | blt | val (d : D)
/-- the built-in names that the code may use -/
def bltL : List (Str × Value) := [("abs", .builtin "abs"), ("int", .type "int"), ("bool", .type "bool"), ("len", .builtin "len"), ("max", .builtin "max"), ("min", .builtin "min"), ("sum", .builtin "sum"), ("all", .builtin "all"), ("any", .builtin "any"), ("list", .type "list"),
  ("tuple", .type "tuple"), ("repr", .builtin "repr"), ("isinstance", .builtin "isinstance"), ("range", .type "range"), ("str", .type "str"), ("dict", .type "dict"), ("sorted", .builtin "sorted"), ("enumerate", .type "enumerate")]
theorem blt_boot : ∀ p ∈ bltL, bootBuiltins p.1 = some p.2 ∧ p.1 ≠ "__name__" ∧ (p.1 == ("__debug__" : Str)) = false := by decide +kernel
/-- how a body is read -/
structure Cfg where
  N : List Str
  sc : Scope
  own : Str → Bool
  gk : Str → Option GK
  calm : Bool
  top : Bool
def Cfg.loc (c : Cfg) (x : Str) : Option Nat := match c.sc.names.lookup x with
  | some .local => ixOf x c.N
  | some .cell => ixOf x c.N
  | some .free => ixOf x c.N
  | _ => none
/-- a name that is stored -/
def Cfg.stl (c : Cfg) (x : Str) : Option Nat := match c.sc.names.lookup x with
  | some .local => ixOf x c.N
  | some .cell => if c.own x then ixOf x c.N else none
  | _ => none
def Cfg.glo (c : Cfg) (x : Str) : Option GK := match c.sc.names.lookup x with
  | some .globalImplicit => if (x == ("__debug__" : Str)) then none else c.gk x
  | _ => none
def notComp : Expr → Bool
  | .ListComp .. | .SetComp .. | .DictComp .. => false
  | _ => true
def notSet : Expr → Bool
  | .Set .. => false
  | _ => true
def notSlice : Expr → Bool
  | .Slice .. => false
  | _ => true
/-- is a comprehension's list put into the name's slot at once? -/
def swB (c : Cfg) (v : Expr) (t : Str) (pos : Pos) : Bool := match v with
  | .ListComp _ _ s p => (match c.sc.names.lookup t with | some .local => true | _ => false) && pos.line == p.line && !(s.names.any fun (n, k) => n == t && (k == .local || k == .cell))
  | _ => false
/-- names that are stored crosswise -/
def crossB (c : Cfg) (ts vs : List Expr) : Option (Option (List Str)) :=
  if !(ts.length == 2 || ts.length == 3) || vs.length != ts.length then some none
  else if vs.any fun | .Starred .. => true | _ => false then some none
  else
    let names := ts.filterMap fun
      | .Name id pos => if c.sc.names.lookup id == some .local && pos.line == (ts.head?.map (·.pos.line)).getD 0 then some id else none
      | _ => none
    if names.length != ts.length || names.eraseDups.length != names.length then some none
    else if vs.all (foldedForSure 8) then some none
    else if vs.all (constantsAlone 8) then none
    else some (some names)
/-- a block's own names, with their slots -/
def ownOf (N : List Str) (scope : Scope) : List (Str × Nat) := scope.names.filterMap fun (n, k) => if k == .local || k == .cell then (ixOf n N).map fun i => (n, i) else none
def blkCfg (c : Cfg) (scope : Scope) : Cfg := { c with sc := relS scope c.sc, own := fun x => scope.names.lookup x == some .cell, top := false }
mutual
def slotsG : CG → List Nat
  | .nm i => [i]
  | .att _ _ => []
  | .tup _ gs => slotsGs gs
def slotsGs : CGs → List Nat
  | .nil => []
  | .cons g gs => slotsG g ++ slotsGs gs
end
/-- may the built-in be used here -/
def bltUse (c : Cfg) (x : Str) (n : Nat) : Bool := [("abs" : Str), "int", "bool", "len", "list", "tuple", "repr", "isinstance"].contains x || (c.calm && [("max" : Str), "min", "sum", "all", "any", "sorted"].contains x)
/-- enumerate wants a tuple of targets -/
def enuB : CI → Expr → Bool
  | .enu _, .Tuple .. => true
  | .enu _, _ => false
  | _, _ => true
mutual
def cE : Nat → Cfg → Expr → Option CE
  | 0, _, _ => none
  | n + 1, c, e => match e with
    | .Constant (.int i) _ _ => some (.cst (.int i))
    | .Constant (.bool b) _ _ => some (.cst (.bl b))
    | .Constant (.str x) _ _ => some (.cst (.str x))
    | .Constant .none _ _ => some (.cst .non)
    | .Name x _ => if x == ("__debug__" : Str) || x == ("__classdict__" : Str) then none else match c.loc x with
      | some i => some (.var i)
      | none => match c.glo x with
        | some (.val d) => some (.cst d)
        | some .cls => some (.cst (.glo x))
        | some (.exc _) => some (.cst (.glo x))
        | some .blt => (match bltL.lookup x with
          | some (.type T) => some (.cst (.ty T))
          | _ => none)
        | _ => none
    | .Tuple es _ _ => if es.all noSt then (cEs n c es).map .tup else none
    | .List es _ => if es.all noSt then (cEs n c es).map .lst else none
    | .Dict [] [] _ => some .dic0
    | .BinOp a o b _ => match cE n c a, cE n c b with
      | some a', some b' => some (.op o a' b')
      | _, _ => none
    | .UnaryOp .Not a _ => (cE n c a).map .not
    | .UnaryOp .USub a _ => (cE n c a).map .neg
    | .BoolOp op vs _ => cB n c op vs
    | .Compare a [o] [b] _ => if behindInMarks o b then none else match cE n c a, cE n c b with
      | some a', some b' => some (.cmp o a' b')
      | _, _ => none
    | .Compare a [o, o'] [b, d] _ => if lastMarks [o, o'] [b, d] then none else match cE n c a, cE n c b, cE n c d with
      | some a', some b', some d' => some (.chn o o' a' b' d')
      | _, _, _ => none
    | .IfExp t a b _ => match cT n c t, cE n c a, cE n c b with
      | some t', some a', some b' => some (.ite t' a' b')
      | _, _, _ => none
    | .Subscript a (.Slice lo hi none _) _ => match cE n c a, cP n c lo, cP n c hi with
      | some a', some l, some h => some (.sl a' l h)
      | _, _, _ => none
    | .Subscript a b _ => if notSlice b then match cE n c a, cE n c b with
      | some a', some b' => some (.ix a' b')
      | _, _ => none
      else none
    | .Attribute o f _ => if baseOk o then (cE n c o).map (.att · f) else none
    | .Call (.Attribute o m apos) es [] pos => if baseOk o && es.all noSt && decide (es.length < 30) && apos.endLine == pos.line then match cE n c o, cEs n c es with
      | some o', some es' => some (.meth o' m es')
      | _, _ => none
      else none
    | .Call (.Name x _) es [] _ => if es.all noSt && !(x == ("__debug__" : Str)) && !(x == ("__classdict__" : Str)) then match cEs n c es with
      | none => none
      | some es' => match c.loc x with
        | some i => if es.isEmpty || !c.calm then none else some (.callI i es')
        | none => match c.glo x with
          | some .fn => some (.call (x, none) es')
          | some .cls => if es.isEmpty then none else some (.make x es')
          | some .blt => if bltUse c x es.length && !es.isEmpty then some (.blt x es') else none
          | _ => none
      else none
    | .ListComp elt [⟨tg, iter, ifs, 0⟩] scope _ => cComp n c elt tg iter ifs scope
    | _ => none
def cComp : Nat → Cfg → Expr → Expr → Expr → List Expr → Scope → Option CE
  | 0, _, _, _, _, _, _ => none
  | n + 1, c, elt, tg, iter, ifs, scope => if c.calm && notSet iter && blkC c.N c.sc scope (ownOf c.N scope) then
      match cI n c iter, cG n (blkCfg c scope) tg, cIf n (blkCfg c scope) ifs, cE n (blkCfg c scope) elt with
      | some i, some g, some t, some e => if enuB i tg && (slotsG g).all fun j => ((ownOf c.N scope).map (·.2)).contains j then some (.comp i g t e ((ownOf c.N scope).map (·.2))) else none
      | _, _, _, _ => none
    else none
def cIf : Nat → Cfg → List Expr → Option (Option CT)
  | 0, _, _ => none
  | _ + 1, _, [] => some none
  | n + 1, c, [e] => (cT n c e).map some
  | _ + 1, _, _ => none
def cP : Nat → Cfg → Option Expr → Option CE
  | 0, _, _ => none
  | _ + 1, _, none => some (.cst .non)
  | n + 1, c, some e => cE n c e
def cB : Nat → Cfg → BoolOp → List Expr → Option CE
  | 0, _, _, _ => none
  | n + 1, c, _, [a] => cE n c a
  | n + 1, c, op, a :: b :: r => match cE n c a, cB n c op (b :: r) with
    | some a', some r' => (match op with
      | .And => some (.and a' r')
      | .Or => some (.or a' r'))
    | _, _ => none
  | _ + 1, _, _, [] => none
def cEs : Nat → Cfg → List Expr → Option CEs
  | 0, _, _ => none
  | _ + 1, _, [] => some .nil
  | n + 1, c, e :: es => match cE n c e, cEs n c es with
    | some e', some es' => some (.cons e' es')
    | _, _ => none
def cT : Nat → Cfg → Expr → Option CT
  | 0, _, _ => none
  | n + 1, c, e => match e with
    | .UnaryOp .Not a _ => (cT n c a).map .not
    | .BoolOp op vs _ => cW n c op vs
    | .IfExp t a b _ => match cT n c t, cT n c a, cT n c b with
      | some t', some a', some b' => some (.ite t' a' b')
      | _, _, _ => none
    | .Compare a [o] [b] _ => if behindInMarks o b then none else match cE n c a, cE n c b with
      | some a', some b' => some (.cmp o a' b')
      | _, _ => none
    | .Compare a [o, o'] [b, d] _ => if lastMarks [o, o'] [b, d] then none else match cE n c a, cE n c b, cE n c d with
      | some a', some b', some d' => some (.chn o o' a' b' d')
      | _, _, _ => none
    | .Compare .. => none
    | e => (cE n c e).map .val
def cW : Nat → Cfg → BoolOp → List Expr → Option CT
  | 0, _, _, _ => none
  | n + 1, c, _, [a] => cT n c a
  | n + 1, c, op, a :: b :: r => match cT n c a, cW n c op (b :: r) with
    | some a', some r' => (match op with
      | .And => some (.and a' r')
      | .Or => some (.or a' r'))
    | _, _ => none
  | _ + 1, _, _, [] => none
def cI : Nat → Cfg → Expr → Option CI
  | 0, _, _ => none
  | n + 1, c, e => match e with
    | .Call (.Name x _) es [] _ => if x == ("range" : Str) && es.all noSt && !es.isEmpty then (match c.loc x, c.glo x with
      | none, some .blt => (cEs n c es).map .rng
      | _, _ => none) else if x == ("enumerate" : Str) && es.all noSt && es.length == 1 then (match c.loc x, c.glo x with
      | none, some .blt => (cEs n c es).map .enu
      | _, _ => none) else (cE n c e).map .seq
    | _ => (cE n c e).map .seq
def cG : Nat → Cfg → Expr → Option CG
  | 0, _, _ => none
  | n + 1, c, e => match e with
    | .Name x _ => (c.stl x).map .nm
    | .Tuple es _ _ => if c.calm && es.all noSt then (cGs n c es).map (.tup es.length) else none
    | .Attribute (.Name x _) f _ => if x == ("__debug__" : Str) || x == ("__classdict__" : Str) then none else (c.loc x).map (.att · f)
    | _ => none
def cGs : Nat → Cfg → List Expr → Option CGs
  | 0, _, _ => none
  | _ + 1, _, [] => some .nil
  | n + 1, c, e :: es => match cG n c e, cGs n c es with
    | some e', some es' => some (.cons e' es')
    | _, _ => none
end
/-- stores by an operator -/
def augUse : Operator → Bool
  | .Add | .Sub => true
  | _ => false
/-- name = v -/
def cAsgN (n : Nat) (c : Cfg) (x : Str) (p : Pos) (v : Expr) : Option CS := match c.stl x, cE n c v with
  | some i, some v' => if notComp v then some (.asg v' (.nm i)) else (match v with
    | .ListComp _ [⟨_, _, _, 0⟩] _ _ => if swB c v x p then (if c.sc.names.lookup x == some .local then some (.asg v' (.nm i)) else none) else some (.asg v' (.nm i))
    | _ => none)
  | _, _ => none
/-- o.f = v -/
def cAsgA (n : Nat) (c : Cfg) (o : Expr) (f : Str) (v : Expr) : Option CS := match cE n c v, cE n c o with
  | some v', some o' => some (.setA v' o' f)
  | _, _ => none
/-- o[i] = v -/
def cAsgS (n : Nat) (c : Cfg) (o i v : Expr) : Option CS := if notComp v && notSlice i then (match cE n c v, cE n c o, cE n c i with
  | some v', some o', some i' => some (.sub v' o' i')
  | _, _, _ => none) else none
/-- x, y = a, b -/
def cPar (n : Nat) (c : Cfg) (ts vs : List Expr) : Option CS := match ts, vs with
  | [.Name x _, .Name y _], [a, b] => (match cE n c a, cE n c b with
    | some a', some b' => if c.calm && noSt a && noSt b && !(x == y) && crossB c ts vs == some (some [x, y]) && c.sc.names.lookup x == some .local && c.sc.names.lookup y == some .local then (match ixOf x c.N, ixOf y c.N with
      | some i, some j => some (.par i j a' b')
      | _, _ => none) else none
    | _, _ => none)
  | _, _ => none
/-- a tuple of targets -/
def cAsgT (n : Nat) (c : Cfg) (ts : List Expr) (k : Nat) (p : Pos) (v : Expr) : Option CS := match v with
  | .Tuple vs _ _ => (match crossB c ts vs with
    | some none => (match cE n c v, cG n c (.Tuple ts k p) with
      | some v', some g => some (.asg v' g)
      | _, _ => none)
    | some (some _) => cPar n c ts vs
    | none => none)
  | _ => if notComp v then (match cE n c v, cG n c (.Tuple ts k p) with
    | some v', some g => some (.asg v' g)
    | _, _ => none) else none
def cAsg (n : Nat) (c : Cfg) (t v : Expr) : Option CS := match t with
  | .Name x p => cAsgN n c x p v
  | .Attribute o f _ => cAsgA n c o f v
  | .Subscript o i _ => cAsgS n c o i v
  | .Tuple ts k p => cAsgT n c ts k p v
  | _ => none
def cAug (n : Nat) (c : Cfg) (t : Expr) (op : Operator) (e : Expr) : Option CS := match t with
  | .Name x _ => if augUse op then (match c.stl x, cE n c e with
    | some i, some e' => some (.aug i op e')
    | _, _ => none) else none
  | _ => none
def cRaise (n : Nat) (c : Cfg) (e : Expr) : Option CS := match e with
  | .Call (.Name cn _) [a] [] _ => if c.calm && noSt a then (match c.glo cn, cE n c a with
    | some (.exc f), some a' => if f == ("" : Str) then none else some (.raise cn f a')
    | _, _ => none) else none
  | _ => none
def Cfg.hot (c : Cfg) : Cfg := { c with calm := false, top := false }
mutual
def cS : Nat → Cfg → Stmt → Option CS
  | 0, _, _ => none
  | n + 1, c, st => match st with
    | .Pass _ => some .pass
    | .Break _ => some .brk
    | .Continue _ => some .cont
    | .Expr e _ => if notComp e then (cE n c e).map .expr else none
    | .Return (some e) _ => (cE n c e).map .ret
    | .Return none _ => some .retN
    | .If t a b _ => match cT n c t, cSs n c a, cSs n c b with
      | some t', some a', some b' => some (.iff t' a' b')
      | _, _, _ => none
    | .Assign [t] v _ => cAsg n c t v
    | .AugAssign t op e _ => cAug n c t op e
    | .For tg it body [] _ => if c.calm && notSet it then (match cI n c it, cG n c tg, cSs n c body with
      | some i, some g, some b => if enuB i tg then some (.for_ i g b) else none
      | _, _, _ => none) else none
    | .While t body [] _ => match cT n c t, cSs n c body with
      | some t', some b => some (.whl t' b)
      | _, _ => none
    | .Raise (some e) none _ => cRaise n c e
    | .Try body hs [] [] _ => if c.calm && c.top then (match cSs n c body with
      | some b => cTry n c b hs
      | none => none) else none
    | _ => none
def cTry : Nat → Cfg → CSs → List ExceptHandler → Option CS
  | 0, _, _, _ => none
  | n + 1, c, b, [.ExceptHandler (some (.Name cn _)) (some x) (b₀ :: suite) _] => (match c.glo cn, c.sc.names.lookup x, ixOf x c.N, cSs n c.hot (b₀ :: suite) with
      | some (.exc _), some .local, some i, some h => some (.tryAs cn i b h)
      | _, _, _, _ => none)
  | _ + 1, _, _, [] => none
  | n + 1, c, b, h :: hs => match cHs n c (h :: hs) with
      | some h' => some (.try_ b h')
      | none => none
def cSs : Nat → Cfg → List Stmt → Option CSs
  | 0, _, _ => none
  | _ + 1, _, [] => some .nil
  | n + 1, c, s :: r => match cS n c s, cSs n c r with
    | some s', some r' => some (.cons s' r')
    | _, _ => none
def cHs : Nat → Cfg → List ExceptHandler → Option CHs
  | 0, _, _ => none
  | _ + 1, _, [] => some .nil
  | n + 1, c, .ExceptHandler (some (.Name cn _)) none (b₀ :: suite) _ :: r => match c.glo cn, cSs n c.hot (b₀ :: suite), cHs n c r with
    | some (.exc _), some b, some r' => some (.cons cn b r')
    | _, _, _ => none
  | _ + 1, _, _ => none
end
end DL

set_option Elab.async false
set_option linter.all false
set_option maxRecDepth 100000
set_option maxHeartbeats 4000000
namespace DL
open PySem PySem.Spec PyProof.Rows L2

def GkOk (X : Cx) (fa : Key → Addr) (M : Env1) (x : Str) : GK → Prop
  | .fn => X.mg x = some (.ref (fa (x, none))) ∧ PySem.W.keepIn X.K (.ref (fa (x, none))) = true
  | .cls => ∃ C, X.mg x = some (.ref C) ∧ PySem.W.keepIn X.K (.ref C) = true
  | .exc f => ∃ C, X.mg x = some (.ref C) ∧ (f ≠ "" → M.et x = some f)
  | .blt => X.mg x = none
  | .val d => ∃ v u, X.mg x = some u ∧ RelV v u ∧ ∀ H, DRel (gp X) H d v
structure CfgOk (X : Cx) (fa : Key → Addr) (M : Env1) (cu : Option Cur) (k : Nat) (c : Cfg) : Prop where
  sc : X.env.scope = c.sc
  kind : c.sc.kind = .function
  N : X.N = c.N
  nd : c.N.Nodup
  own : X.fn = c.own
  gk : ∀ x g, c.gk x = some g → GkOk X fa M x g
  calm : c.calm = true → X.calm = true
  cup : c.calm = true → cu = none
  top : c.top = true → X.stack = X.env :: X.outer ∧ X.env.frame = some X.env.locals
  pas : PassesOwn (model X.prog X.w) X.A X.env X.xe
  tb : TbOk X fa M.tb
  ops : OpsOk X fa M.tb
  isi : IsiOk X M.tab
  ex : ExOk X M.et
  sx : SubOk X M.sx
  cap : (OrcOk X k fa M.fi M.orc ∧ RoomG (k + 3) X.A) ∨ ((∀ key, M.fi key = none) ∧ c.calm = false)
  un : X.A.units + 70 < cLine
  gd : X.A.guards = some []
  sys : SysOk X.K
  cur : ∀ cc, cu = some cc → CurOk X cc
section
variable {X : Cx} {fa : Key → Addr} {M : Env1} {cu : Option Cur} {k : Nat} {c : Cfg}
theorem loc_of (O : CfgOk X fa M cu k c) {x : Str} {i : Nat} (h : c.loc x = some i) : X.N[i]? = some x ∧ Vis X.env.scope x := by
  unfold Cfg.loc at h
  rw [O.N, O.sc]
  cases e : c.sc.names.lookup x with
  | none => rw [e] at h; cases h
  | some q =>
    rw [e] at h
    cases q with
    | «local» => exact ⟨ixOf_get h, .inl e⟩
    | cell => exact ⟨ixOf_get h, .inr (.inl e)⟩
    | free => exact ⟨ixOf_get h, .inr (.inr e)⟩
    | _ => cases h
theorem stl_of (O : CfgOk X fa M cu k c) {x : Str} {i : Nat} (h : c.stl x = some i) : X.N[i]? = some x ∧ Loc X.env.scope x ∧ (X.fn x = true ∨ X.env.scope.names.lookup x = some .local) := by
  unfold Cfg.stl at h
  rw [O.N, O.sc, O.own]
  cases e : c.sc.names.lookup x with
  | none => rw [e] at h; cases h
  | some q =>
    rw [e] at h
    cases q with
    | «local» => exact ⟨ixOf_get h, .inl e, .inr rfl⟩
    | cell =>
      simp only at h
      by_cases hw : c.own x = true
      · rw [if_pos hw] at h
        exact ⟨ixOf_get h, .inr e, .inl hw⟩
      · rw [if_neg hw] at h; cases h
    | _ => cases h
theorem glo_of (O : CfgOk X fa M cu k c) {x : Str} {g : GK} (h : c.glo x = some g) : Gl X x ∧ (x == ("__debug__" : Str)) = false ∧ GkOk X fa M x g := by
  unfold Cfg.glo at h
  cases e : c.sc.names.lookup x with
  | none => rw [e] at h; cases h
  | some q =>
    rw [e] at h
    cases q with
    | globalImplicit =>
      simp only at h
      by_cases hd : (x == ("__debug__" : Str)) = true
      · rw [if_pos hd] at h; cases h
      · rw [if_neg hd] at h
        refine ⟨?_, by simpa using hd, O.gk x g h⟩
        show X.env.scope.names.lookup x = some .globalImplicit
        rw [O.sc]; exact e
    | _ => cases h
theorem own_not {tb : Tb} {fi : Key → Option FI} {orc : Orc} (h : ∀ key, fi key = none) {nm : Str} {x y : D} {S : Sto} {K : DK} {E : DX} : ¬ ownO tb fi orc nm x y S K E := by
  intro q
  have no : ∀ {key xs S K E}, ¬ callO fi orc key xs S K E := fun {key xs S K E} ⟨p, hp, _⟩ => by rw [h] at hp; cases hp
  unfold ownO at q
  split at q
  · obtain ⟨_, _, _, _, q⟩ := q; exact no q
  · split at q
    · obtain ⟨_, _, _, _, q⟩ := q; exact no q
    · split at q
      · obtain ⟨_, _, q⟩ := q; exact no q
      · split at q
        · obtain ⟨_, _, q⟩ := q; exact no q
        · split at q
          · obtain ⟨_, _, _, _, _, _, _, q⟩ := q; exact no q
          · exact q
theorem ownT_not {tb : Tb} {fi : Key → Option FI} {orc : Orc} (h : ∀ key, fi key = none) {x : D} {S : Sto} {K : Bool → Sto → Prop} {E : DX} : ¬ ownT tb fi orc x S K E := fun ⟨_, _, p, hp, _⟩ => by rw [h] at hp; cases hp
theorem cdo (O : CfgOk X fa M cu k c) (key : Key) : CallD X (.ref (fa key)) (callO M.fi M.orc key) := by
  rcases O.cap with ⟨o, hr⟩ | ⟨hn, _⟩
  · exact cd_orc o (hr.mono (by omega)) key
  · exact fun pins s σ H σD S ex Kt xs vs us tk T dr rv ⟨p, hp, _⟩ => by rw [hn] at hp; cases hp
theorem cdm (O : CfgOk X fa M cu k c) {x : Str} {C : Addr} (hC : X.mg x = some (.ref C)) : CallD X (.ref C) (makeO M.tb M.fi M.orc x) := by
  rcases O.cap with ⟨o, hr⟩ | ⟨hn, _⟩
  · exact cd_makeO O.tb o (hr.mono (by omega)) hC
  · exact fun pins s σ H σD S ex Kt xs vs us tk T dr rv ⟨ce, _, p, hp, _⟩ => by rw [hn] at hp; cases hp
theorem tru_ok' (O : CfgOk X fa M cu k c) : TruD X M.tru := by
  refine truD_ok ?_
  rcases O.cap with ⟨o, hr⟩ | ⟨hn, _⟩
  · exact own_tru O.tb o (hr.mono (by omega))
  · exact fun pins s σ H σD S ex Kt x xv v tk T dx rx ⟨a, _, _, q⟩ => (ownT_not hn q).elim
theorem op_ok (O : CfgOk X fa M cu k c) (o : Operator) : OpD X (binaryOp o) (opM M o) := by
  have no : ∀ {f : Value → Value → Sem Value}, OpD X f (fun _ _ _ _ _ => False) := fun pins s σ H σD S ex Kt x y xv yv v u tk T dx dy rx ry q => q.elim
  have ow : ∀ {o : Operator} {nm : Str}, (nm = "__add__" ∨ nm = "__and__" ∨ nm = "__or__") → dunder o.info.2 = nm → OpD X (binaryOp o) (ownR M.own nm) := fun {o nm} h1 h2 => by
    rcases O.cap with ⟨oo, hr⟩ | ⟨hn, _⟩
    · exact own_bin O.tb O.ops oo (hr.mono (by omega)) h1 h2
    · exact fun pins s σ H σD S ex Kt x y xv yv v u tk T dx dy rx ry ⟨a, _, _, q⟩ => (own_not hn q).elim
  cases o with
  | Add => exact opD_add (ow (.inl rfl) (by decide +kernel))
  | Sub => exact opD_sub
  | Mult => exact opD_mul
  | FloorDiv => exact opD_div
  | Mod => exact opD_mod
  | Pow => exact opD_pow
  | BitAnd => exact ow (.inr (.inl rfl)) (by decide +kernel)
  | BitOr => exact ow (.inr (.inr rfl)) (by decide +kernel)
  | _ => exact no
theorem cmp_ok (O : CfgOk X fa M cu k c) (o : CmpOp) : OpD X (compareOp o) (cmpM M o) := by
  have un := O.un
  cases o with
  | Eq =>
    refine opD_eq (by omega) ?_
    rcases O.cap with ⟨oo, hr⟩ | ⟨hn, _⟩
    · exact own_eq O.tb O.ops oo (hr.mono (by omega))
    · exact fun pins s σ H σD S ex Kt x y xv yv v u tk T dx dy rx ry ⟨a, _, _, q⟩ => (own_not hn q).elim
  | NotEq =>
    refine opD_ne (by omega) ?_
    rcases O.cap with ⟨oo, hr⟩ | ⟨hn, _⟩
    · exact own_ne O.tb O.ops oo (hr.mono (by omega))
    · exact fun pins s σ H σD S ex Kt x y xv yv v u tk T dx dy rx ry ⟨a, _, _, q⟩ => (own_not hn q).elim
  | Lt => exact opD_lt
  | LtE => exact opD_le
  | Gt => exact opD_gt
  | GtE => exact opD_ge
  | Is => exact opD_is
  | IsNot => exact opD_isn
  | In =>
    refine opD_in (by omega) ?_
    rcases O.cap with ⟨oo, hr⟩ | ⟨hn, _⟩
    · exact own_in O.tb oo (hr.mono (by omega))
    · exact fun pins s σ H σD S ex Kt x y xv yv v u tk T dx dy rx ry ⟨a, _, _, q⟩ => (own_not hn q).elim
  | NotIn =>
    refine opD_nin (by omega) ?_
    rcases O.cap with ⟨oo, hr⟩ | ⟨hn, _⟩
    · exact own_nin O.tb oo (hr.mono (by omega))
    · exact fun pins s σ H σD S ex Kt x y xv yv v u tk T dx dy rx ry ⟨a, _, _, q⟩ => (own_not hn q).elim
theorem ix_ok (O : CfgOk X fa M cu k c) : IxD X (ixD M.own) := ixD_ok fun value slice pins s σ H σD S ex Kt x y xv yv v u tk T dx dy rx ry ⟨a, _, _, q⟩ hs => by
  change ownO _ _ _ _ _ _ _ _ _ at q
  unfold ownO at q
  rw [if_neg (by decide), if_neg (by decide), if_neg (by decide), if_neg (by decide), if_neg (by decide)] at q
  exact q.elim
/-- attributes, a caught error's too -/
theorem att_c (O : CfgOk X fa M cu k c) {e : Expr} {te : DE} {f : Str} {pos : Pos} (he : QE X e te) (hb : baseOk e = true) : QE X (.Attribute e f pos) (fun σ S K E => te σ S (fun o S1 => attC M cu f o S1 K) E) := fun pins s σ H σD S ex Kt tk T h => by
  refine attr_of (base_ok hb) (thn (he pins s σ H σD S ex _ tk T h) fun u s1 ⟨v, H1, x, S1, I1, r1, x1, d1, m1, q1⟩ => ?_)
  rcases q1 with ⟨a, cn, dd, fs, d, ecu, eo, het, hS, hl, kq⟩ | q1
  · subst eo
    unfold DRel at d1; subst d1
    obtain rfl : u = Value.ref a := r1
    obtain ⟨oe, C, hp, hC, hz, vs, hd⟩ := O.cur _ ecu
    obtain ⟨C', fI, W⟩ := O.ex cn f het
    have e9 : C' = C := by simpa using W.gC.symm.trans hC
    subst e9
    obtain ⟨ha, _⟩ := I1.pin (a, oe) (List.mem_append_left _ hp)
    obtain ⟨ws, h1, h2⟩ := m1 dd _ hS
    obtain ⟨w, hw, dw⟩ := h2.look hl
    obtain ⟨mA, hns, hr⟩ := (show ObjOk X.prog X.w H1 s1.heap dd (.xd ws) from I1.hok dd _ h1)
    obtain ⟨od, ho, hlk⟩ := lookIn_ns hns
    obtain ⟨u, hu, ru⟩ := RelO.some_of (v := w) (o := mA f) (by have z := hr f; rw [hw] at z; exact z)
    have J : PySem.W.InstAt s1.heap a oe C' (some od) := ⟨ha, hz.1, by unfold PySem.W.notCls; rw [hd] <;> rfl, by rw [hz.2]; exact ho⟩
    exact HandSPX.exc_get I1.kIn J W.ga W.gg W.exC (PySem.W.findObj_own W.hdC W.noN rfl (by rw [hlk, hu])) (handed_of ru) ⟨w, H1, d, S1, I1.tok _, ru, x1, dw, m1, kq⟩
  · refine thn (att_ok (k := k) O.tb ?_ (T.on I1 x1 m1) d1 r1 q1) fun _ _ z => z.up x1
    rcases O.cap with ⟨oo, hr⟩ | ⟨hn, _⟩
    · exact .inl ⟨oo, hr.mono (by omega)⟩
    · exact .inr hn
theorem opD_inpAdd {X : Cx} : OpD X (inplaceOp .Add) (inpM .Add) := by
  intro pins s σ H σD S ex Kt x y xv yv v u tk T dx dy rx ry q
  cases x with
  | int i => cases y with
    | int j =>
      unfold DRel at dx dy
      exact go2 iop_add T rx ry ⟨i, j, dx, dy, PQ.int T.m q⟩
    | _ => exact (show False from q).elim
  | str i => cases y with
    | str j =>
      unfold DRel at dx dy
      exact go2 iop_add_str T rx ry ⟨i, j, dx, dy, q.1, PQ.str T.m q.2⟩
    | _ => exact (show False from q).elim
  | _ => exact (show False from q).elim
theorem in_cfg (O : CfgOk X fa M cu k c) : OrcOk X k fa M.fi M.orc → RoomG (k + 3) X.A → TruD (inX (inX X)) M.tru := fun o hr =>
  truD_ok (own_tru (X := inX (inX X)) (k := k) (fa := fa) O.tb o (RoomG.in1 (RoomG.in1 (hr.mono (by omega : k + 2 ≤ k + 3)))))
theorem in_cfg0 (O : CfgOk X fa M cu k c) (hn : ∀ key, M.fi key = none) : TruD (inX (inX X)) M.tru :=
  truD_ok fun pins s σ H σD S ex Kt x xv v tk T dx rx ⟨a, _, _, q⟩ => (ownT_not hn q).elim
theorem blt_ok (O : CfgOk X fa M cu k c) {x : Str} {v : Value} {n : Nat} (hx : bltL.lookup x = some v) (hu : bltUse c x n = true) : CallD X v (bltM M x) := by
  have un := O.un
  have boolX : TruD (inX (inX X)) M.tru := by
    rcases O.cap with ⟨oo, hr⟩ | ⟨hn, _⟩
    · exact in_cfg O oo hr
    · exact in_cfg0 O hn
  unfold bltUse at hu
  simp only [Bool.or_eq_true, Bool.and_eq_true, List.contains_eq_mem, List.mem_cons, List.not_mem_nil, or_false, decide_eq_true_eq] at hu
  rcases hu with (h | h | h | h | h | h | h | h) | ⟨hc, h | h | h | h | h | h⟩ <;> subst h
  · cases (show some (Value.builtin "abs") = some v from (by decide +kernel : bltL.lookup ("abs" : Str) = some (Value.builtin "abs")).symm.trans hx)
    exact cd_abs.imp fun _ _ _ _ q => by unfold bltM at q; simpa using q
  · cases (show some (Value.type "int") = some v from (by decide +kernel : bltL.lookup ("int" : Str) = some (Value.type "int")).symm.trans hx)
    exact cd_int.imp fun _ _ _ _ q => by unfold bltM at q; rw [if_neg (by decide), if_pos rfl] at q; exact q
  · cases (show some (Value.type "bool") = some v from (by decide +kernel : bltL.lookup ("bool" : Str) = some (Value.type "bool")).symm.trans hx)
    exact (cd_boolX boolX).imp fun _ _ _ _ q => by unfold bltM at q; rw [if_neg (by decide), if_neg (by decide), if_pos rfl] at q; exact q
  · cases (show some (Value.builtin "len") = some v from (by decide +kernel : bltL.lookup ("len" : Str) = some (Value.builtin "len")).symm.trans hx)
    exact cd_len.imp fun _ _ _ _ q => by unfold bltM at q; rw [if_neg (by decide), if_neg (by decide), if_neg (by decide), if_pos rfl] at q; exact q
  · cases (show some (Value.type "list") = some v from (by decide +kernel : bltL.lookup ("list" : Str) = some (Value.type "list")).symm.trans hx)
    exact cd_list.imp fun _ _ _ _ q => by unfold bltM at q; rw [if_neg (by decide), if_neg (by decide), if_neg (by decide), if_neg (by decide), if_neg (by decide), if_neg (by decide), if_neg (by decide), if_neg (by decide), if_neg (by decide), if_pos rfl] at q; exact q
  · cases (show some (Value.type "tuple") = some v from (by decide +kernel : bltL.lookup ("tuple" : Str) = some (Value.type "tuple")).symm.trans hx)
    exact cd_tuple.imp fun _ _ _ _ q => by unfold bltM at q; rw [if_neg (by decide), if_neg (by decide), if_neg (by decide), if_neg (by decide), if_neg (by decide), if_neg (by decide), if_neg (by decide), if_neg (by decide), if_neg (by decide), if_neg (by decide), if_pos rfl] at q; exact q
  · cases (show some (Value.builtin "repr") = some v from (by decide +kernel : bltL.lookup ("repr" : Str) = some (Value.builtin "repr")).symm.trans hx)
    exact (cd_repr O.sys O.gd (by omega)).imp fun _ _ _ _ q => by unfold bltM at q; rw [if_neg (by decide), if_neg (by decide), if_neg (by decide), if_neg (by decide), if_neg (by decide), if_neg (by decide), if_neg (by decide), if_neg (by decide), if_neg (by decide), if_neg (by decide), if_neg (by decide), if_pos rfl] at q; exact q
  · cases (show some (Value.builtin "isinstance") = some v from (by decide +kernel : bltL.lookup ("isinstance" : Str) = some (Value.builtin "isinstance")).symm.trans hx)
    exact (cd_isi O.tb O.isi).imp fun _ _ _ _ q => by unfold bltM at q; rw [if_neg (by decide), if_neg (by decide), if_neg (by decide), if_neg (by decide), if_neg (by decide), if_neg (by decide), if_neg (by decide), if_neg (by decide), if_neg (by decide), if_neg (by decide), if_neg (by decide), if_neg (by decide), if_pos rfl] at q; exact q
  · cases (show some (Value.builtin "max") = some v from (by decide +kernel : bltL.lookup ("max" : Str) = some (Value.builtin "max")).symm.trans hx)
    exact ((cd_max2 (O.calm hc)).or (cd_maxl (O.calm hc))).imp fun _ _ _ _ q => by unfold bltM at q; rw [if_neg (by decide), if_neg (by decide), if_neg (by decide), if_neg (by decide), if_pos rfl] at q; exact q
  · cases (show some (Value.builtin "min") = some v from (by decide +kernel : bltL.lookup ("min" : Str) = some (Value.builtin "min")).symm.trans hx)
    exact ((cd_min2 (O.calm hc)).or (cd_minl (O.calm hc))).imp fun _ _ _ _ q => by unfold bltM at q; rw [if_neg (by decide), if_neg (by decide), if_neg (by decide), if_neg (by decide), if_neg (by decide), if_pos rfl] at q; exact q
  · cases (show some (Value.builtin "sum") = some v from (by decide +kernel : bltL.lookup ("sum" : Str) = some (Value.builtin "sum")).symm.trans hx)
    exact (cd_sum (O.calm hc)).imp fun _ _ _ _ q => by unfold bltM at q; rw [if_neg (by decide), if_neg (by decide), if_neg (by decide), if_neg (by decide), if_neg (by decide), if_neg (by decide), if_pos rfl] at q; exact q
  · cases (show some (Value.builtin "all") = some v from (by decide +kernel : bltL.lookup ("all" : Str) = some (Value.builtin "all")).symm.trans hx)
    exact (cd_all (O.calm hc)).imp fun _ _ _ _ q => by unfold bltM at q; rw [if_neg (by decide), if_neg (by decide), if_neg (by decide), if_neg (by decide), if_neg (by decide), if_neg (by decide), if_neg (by decide), if_pos rfl] at q; exact q
  · cases (show some (Value.builtin "any") = some v from (by decide +kernel : bltL.lookup ("any" : Str) = some (Value.builtin "any")).symm.trans hx)
    exact (cd_any (O.calm hc)).imp fun _ _ _ _ q => by unfold bltM at q; rw [if_neg (by decide), if_neg (by decide), if_neg (by decide), if_neg (by decide), if_neg (by decide), if_neg (by decide), if_neg (by decide), if_neg (by decide), if_pos rfl] at q; exact q
  · cases (show some (Value.builtin "sorted") = some v from (by decide +kernel : bltL.lookup ("sorted" : Str) = some (Value.builtin "sorted")).symm.trans hx)
    exact cd_sorted.imp fun _ _ _ _ q => by unfold bltM at q; rw [if_neg (by decide), if_neg (by decide), if_neg (by decide), if_neg (by decide), if_neg (by decide), if_neg (by decide), if_neg (by decide), if_neg (by decide), if_neg (by decide), if_neg (by decide), if_neg (by decide), if_neg (by decide), if_neg (by decide), if_pos rfl] at q; exact q
theorem mem_of_look {x : Str} {v : Value} : ∀ {l : List (Str × Value)}, l.lookup x = some v → (x, v) ∈ l
  | [], h => by cases h
  | (y, w) :: r, h => by
    rw [List.lookup_cons] at h
    cases e : x == y with
    | true =>
      rw [e] at h
      cases h
      rw [beq_iff_eq.mp e]
      exact List.mem_cons_self
    | false =>
      rw [e] at h
      exact List.mem_cons_of_mem _ (mem_of_look h)
theorem blt_look {x : Str} {v : Value} (h : bltL.lookup x = some v) : bootBuiltins x = some v ∧ x ≠ "__name__" ∧ (x == ("__debug__" : Str)) = false := blt_boot (x, v) (mem_of_look h)
end
end DL

set_option Elab.async false
set_option linter.all false
set_option maxRecDepth 100000
set_option maxHeartbeats 4000000
namespace DL
open PySem PySem.Spec PyProof.Rows L2

theorem folded_set {e : Expr} {env : Env} (h : notSet e = true) : ∀ x, foldedSetIterable e env x = pure x := by
  intro x
  cases e <;> first | rfl | (simp [notSet] at h)
theorem plain_ix {b : Expr} (h : notSlice b = true) : PlainIx b := by
  intro o i
  cases b <;> first | rfl | (simp [notSlice] at h)
section
variable {X : Cx} {fa : Key → Addr} {M : Env1} {cu : Option Cur} {k : Nat} {c : Cfg}
theorem blk_cfg (O : CfgOk X fa M cu k c) (hc : c.calm = true) {scope : Scope} (hk : scope.kind = .function) (s : Shared) (H : Hp) (C : Addr) (cl : List (Str × Addr)) (fp : List Addr) : CfgOk (X.blk s H scope (compEnvC scope cl C X.env) fp) fa M cu k (blkCfg c scope) where
  sc := by
    show relS scope X.env.scope = relS scope c.sc
    rw [O.sc]
  kind := hk
  N := O.N
  nd := O.nd
  own := rfl
  gk := fun x g h => by
    have q := O.gk x g h
    cases g <;> exact q
  calm := O.calm
  cup := O.cup
  top := fun h => by cases h
  pas := PassesOwn.never
  tb := O.tb
  ops := ⟨O.ops.nf, O.ops.hm, O.ops.fn, O.ops.ne⟩
  isi := O.isi
  ex := O.ex
  sx := O.sx
  cap := by
    rcases O.cap with ⟨o, hr⟩ | ⟨_, h⟩
    · exact .inl ⟨o, hr⟩
    · rw [hc] at h; cases h
  un := O.un
  gd := O.gd
  sys := O.sys
  cur := fun cc h => by rw [O.cup hc] at h; cases h
end
/-- the readings with fuel n -/
structure Snd (n : Nat) : Prop where
  E : ∀ {X : Cx} {fa : Key → Addr} {M : Env1} {cu : Option Cur} {k : Nat} {c : Cfg}, CfgOk X fa M cu k c → ∀ {e t}, cE n c e = some t → QE X e (mE M cu t)
  C1 : ∀ {X : Cx} {fa : Key → Addr} {M : Env1} {cu : Option Cur} {k : Nat} {c : Cfg}, CfgOk X fa M cu k c → ∀ {elt tg iter ifs scope t}, cComp n c elt tg iter ifs scope = some t → ∀ pos, QE X (.ListComp elt [⟨tg, iter, ifs, 0⟩] scope pos) (mE M cu t)
  C2 : ∀ {X : Cx} {fa : Key → Addr} {M : Env1} {cu : Option Cur} {k : Nat} {c : Cfg}, CfgOk X fa M cu k c → ∀ {elt tg iter ifs scope t}, cComp n c elt tg iter ifs scope = some t → ∀ {pos y i py spos}, c.sc.names.lookup y = some .local → ixOf y c.N = some i →
    swapsWith (.ListComp elt [⟨tg, iter, ifs, 0⟩] scope pos) (some (.Name y py)) spos.line X.env = pure true → QS X (.Assign [.Name y py] (.ListComp elt [⟨tg, iter, ifs, 0⟩] scope pos) spos) (sAsg (mE M cu t) (gNm i))
  F : ∀ {X : Cx} {fa : Key → Addr} {M : Env1} {cu : Option Cur} {k : Nat} {c : Cfg}, CfgOk X fa M cu k c → ∀ {es t}, cIf n c es = some t → QTs X es (mO M cu t)
  P : ∀ {X : Cx} {fa : Key → Addr} {M : Env1} {cu : Option Cur} {k : Nat} {c : Cfg}, CfgOk X fa M cu k c → ∀ {o t}, cP n c o = some t → QP X o (mE M cu t)
  B : ∀ {X : Cx} {fa : Key → Addr} {M : Env1} {cu : Option Cur} {k : Nat} {c : Cfg}, CfgOk X fa M cu k c → ∀ {op vs t}, cB n c op vs = some t → ∀ pos, QE X (.BoolOp op vs pos) (mE M cu t)
  Es : ∀ {X : Cx} {fa : Key → Addr} {M : Env1} {cu : Option Cur} {k : Nat} {c : Cfg}, CfgOk X fa M cu k c → ∀ {es ts}, cEs n c es = some ts → es.all noSt = true → QA X es (mEs M cu ts) ∧ (es = [] → mEs M cu ts = dNil)
  T : ∀ {X : Cx} {fa : Key → Addr} {M : Env1} {cu : Option Cur} {k : Nat} {c : Cfg}, CfgOk X fa M cu k c → ∀ {e t}, cT n c e = some t → QT X e (mT M cu t)
  W : ∀ {X : Cx} {fa : Key → Addr} {M : Env1} {cu : Option Cur} {k : Nat} {c : Cfg}, CfgOk X fa M cu k c → ∀ {op vs t}, cW n c op vs = some t → ∀ pos, QW X (.BoolOp op vs pos) (mT M cu t)
  I : ∀ {X : Cx} {fa : Key → Addr} {M : Env1} {cu : Option Cur} {k : Nat} {c : Cfg}, CfgOk X fa M cu k c → ∀ {e t}, cI n c e = some t → ∀ tg, enuB t tg = true → QI X tg e (mI M cu t)
  G : ∀ {X : Cx} {fa : Key → Addr} {M : Env1} {cu : Option Cur} {k : Nat} {c : Cfg}, CfgOk X fa M cu k c → ∀ {e g}, cG n c e = some g → ∀ vs, (∀ j ∈ slotsG g, j ∈ vs) → QG X vs e (mG M.tb g)
  Gs : ∀ {X : Cx} {fa : Key → Addr} {M : Env1} {cu : Option Cur} {k : Nat} {c : Cfg}, CfgOk X fa M cu k c → ∀ {es gs}, cGs n c es = some gs → es.all noSt = true → ∀ vs, (∀ j ∈ slotsGs gs, j ∈ vs) → QGs X vs es (mGs M.tb gs)
section
variable {X : Cx} {fa : Key → Addr} {M : Env1} {cu : Option Cur} {k : Nat} {c : Cfg} {n : Nat}
theorem snd_E (I : Snd n) (O : CfgOk X fa M cu k c) {e : Expr} {t : CE} (h : cE (n + 1) c e = some t) : QE X e (mE M cu t) := by
  unfold cE at h
  split at h
  · cases h; exact qe_int
  · cases h; exact qe_bl
  · cases h; exact qe_str
  · cases h; exact qe_non
  · -- a name
    rename_i x p
    split at h
    · cases h
    · rename_i hd
      simp only [Bool.or_eq_true, not_or, Bool.not_eq_true] at hd
      split at h
      · rename_i i hi
        cases h
        obtain ⟨h1, h2⟩ := loc_of O hi
        exact qe_var h1 h2 hd.1 hd.2
      · split at h
        · rename_i d hg
          cases h
          obtain ⟨g1, g2, v, u, g3, g4, g5⟩ := glo_of O hg
          exact qe_glob g1 g3 g4 g2 g5
        · rename_i hg
          cases h
          obtain ⟨g1, g2, C, g3, g4⟩ := glo_of O hg
          exact qe_glob (v := .ref C) g1 g3 rfl g2 fun H => by unfold DRel; exact ⟨C, g3, rfl⟩
        · rename_i f hg
          cases h
          obtain ⟨g1, g2, C, g3, g4⟩ := glo_of O hg
          exact qe_glob (v := .ref C) g1 g3 rfl g2 fun H => by unfold DRel; exact ⟨C, g3, rfl⟩
        · rename_i hg
          split at h
          · rename_i T hT
            cases h
            obtain ⟨g1, g2, g3⟩ := glo_of O hg
            obtain ⟨b1, b2, b3⟩ := blt_look hT
            exact fun pins s σ H σD S ex Kt tk T' h => ld_blt T'.I g1 g3 b1 ⟨.ty T, H, .ty T, S, T'.I, rfl, .refl, by simp [DRel], T'.m, h⟩ b2 b3
          · cases h
        · cases h
  · split at h
    · rename_i hs
      obtain ⟨ts, h1, h2⟩ := Option.map_eq_some_iff.mp h
      subst h2
      exact qe_tup (I.Es O h1 hs).1
    · cases h
  · split at h
    · rename_i hs
      obtain ⟨ts, h1, h2⟩ := Option.map_eq_some_iff.mp h
      subst h2
      exact qe_lst (I.Es O h1 hs).1
    · cases h
  · cases h; exact qe_dic0
  · split at h
    · rename_i h1 h2
      cases h
      exact qe_op (op_ok O _) (I.E O h1) (I.E O h2)
    · cases h
  · obtain ⟨ts, h1, h2⟩ := Option.map_eq_some_iff.mp h
    subst h2
    exact qe_not (tru_ok' O) (I.E O h1)
  · obtain ⟨ts, h1, h2⟩ := Option.map_eq_some_iff.mp h
    subst h2
    exact qe_neg (I.E O h1)
  · exact I.B O h _
  · split at h
    · cases h
    · rename_i hm
      split at h
      · rename_i h1 h2
        cases h
        exact qe_cmp (cmp_ok O _) (I.E O h1) (I.E O h2) (by simpa using hm)
      · cases h
  · split at h
    · cases h
    · rename_i hm
      split at h
      · rename_i h1 h2 h3
        cases h
        exact qe_chain (cmp_ok O _) (cmp_ok O _) (I.E O h1) (I.E O h2) (I.E O h3) (by simpa using hm)
      · cases h
  · split at h
    · rename_i h1 h2 h3
      cases h
      exact qe_if (I.T O h1) (I.E O h2) (I.E O h3)
    · cases h
  · split at h
    · rename_i h1 h2 h3
      cases h
      exact qe_sl (I.E O h1) (I.P O h2) (I.P O h3)
    · cases h
  · split at h
    · rename_i hs
      split at h
      · rename_i h1 h2
        cases h
        exact qe_ix (ix_ok O) (I.E O h1) (I.E O h2) (plain_ix hs)
      · cases h
    · cases h
  · split at h
    · rename_i hb
      obtain ⟨ts, h1, h2⟩ := Option.map_eq_some_iff.mp h
      subst h2
      exact att_c O (I.E O h1) hb
    · cases h
  · -- a method
    split at h
    · rename_i hs
      simp only [Bool.and_eq_true, decide_eq_true_eq] at hs
      split at h
      · rename_i h1 h2
        cases h
        obtain ⟨q1, q2⟩ := I.Es O h2 hs.1.1.2
        exact qe_meth O.tb (cdo O) (I.E O h1) hs.1.1.1 q1 q2 hs.1.1.2 hs.1.2 hs.2
      · cases h
    · cases h
  · -- a call
    split at h
    · rename_i hs
      simp only [Bool.and_eq_true, Bool.not_eq_true'] at hs
      split at h
      · cases h
      · rename_i ts h1
        obtain ⟨q1, q2⟩ := I.Es O h1 hs.1.1
        split at h
        · rename_i i hi
          split at h
          · cases h
          · rename_i hne
            cases h
            obtain ⟨l1, l2⟩ := loc_of O hi
            rename_i x p es _ _ _
            cases es with
            | nil => simp at hne
            | cons e es =>
              rcases O.cap with ⟨oo, hr⟩ | ⟨hn, hc⟩
              · exact qe_callI O.tb O.ops oo (hr.mono (by omega)) (qe_var l1 l2 hs.1.2 hs.2) q1 hs.1.1
              · simp [hc] at hne
        · rename_i x p es _ _ _ _
          split at h
          · rename_i hg
            cases h
            obtain ⟨g1, g2, g3, g4⟩ := glo_of O hg
            cases es with
            | nil =>
              have e := q2 rfl
              show QE X _ (dCall _ (mEs M cu ts))
              rw [e]
              exact qe_callF0 (cdo O _) g1 g3 g4 g2
            | cons e es => exact qe_callF (cdo O _) g1 g3 g4 q1 hs.1.1 g2
          · rename_i hg
            split at h
            · cases h
            · rename_i hne
              cases h
              obtain ⟨g1, g2, C, g3, g4⟩ := glo_of O hg
              cases es with
              | nil => simp at hne
              | cons e es => exact qe_callF (cdm O g3) g1 g3 g4 q1 hs.1.1 g2
          · rename_i hg
            split at h
            · rename_i hu
              simp only [Bool.and_eq_true, Bool.not_eq_true'] at hu
              cases h
              obtain ⟨g1, g2, g3⟩ := glo_of O hg
              cases es with
              | nil => simp at hu
              | cons e es =>
                have hex : ∃ v, bltL.lookup x = some v ∧ ((∃ id, v = .builtin id) ∨ ∃ id, v = .type id) := by
                  have hb := hu.1
                  unfold bltUse at hb
                  simp only [Bool.or_eq_true, Bool.and_eq_true, List.contains_eq_mem, List.mem_cons, List.not_mem_nil, or_false, decide_eq_true_eq] at hb
                  rcases hb with (h | h | h | h | h | h | h | h) | ⟨_, h | h | h | h | h | h⟩ <;> subst h
                  · exact ⟨.builtin "abs", by decide +kernel, .inl ⟨_, rfl⟩⟩
                  · exact ⟨.type "int", by decide +kernel, .inr ⟨_, rfl⟩⟩
                  · exact ⟨.type "bool", by decide +kernel, .inr ⟨_, rfl⟩⟩
                  · exact ⟨.builtin "len", by decide +kernel, .inl ⟨_, rfl⟩⟩
                  · exact ⟨.type "list", by decide +kernel, .inr ⟨_, rfl⟩⟩
                  · exact ⟨.type "tuple", by decide +kernel, .inr ⟨_, rfl⟩⟩
                  · exact ⟨.builtin "repr", by decide +kernel, .inl ⟨_, rfl⟩⟩
                  · exact ⟨.builtin "isinstance", by decide +kernel, .inl ⟨_, rfl⟩⟩
                  · exact ⟨.builtin "max", by decide +kernel, .inl ⟨_, rfl⟩⟩
                  · exact ⟨.builtin "min", by decide +kernel, .inl ⟨_, rfl⟩⟩
                  · exact ⟨.builtin "sum", by decide +kernel, .inl ⟨_, rfl⟩⟩
                  · exact ⟨.builtin "all", by decide +kernel, .inl ⟨_, rfl⟩⟩
                  · exact ⟨.builtin "any", by decide +kernel, .inl ⟨_, rfl⟩⟩
                  · exact ⟨.builtin "sorted", by decide +kernel, .inl ⟨_, rfl⟩⟩
                obtain ⟨v, hv, hk⟩ := hex
                obtain ⟨b1, b2, b3⟩ := blt_look hv
                have cd := blt_ok O hv hu.1
                rcases hk with ⟨id, rfl⟩ | ⟨id, rfl⟩
                · exact qe_callB cd g1 g3 b1 q1 hs.1.1 b2 b3
                · exact qe_callTy cd g1 g3 b1 q1 hs.1.1 b2 b3
            · cases h
          · cases h
    · cases h
  · exact I.C1 O h _
  · cases h
theorem snd_comp (I : Snd n) (O : CfgOk X fa M cu k c) {elt tg iter : Expr} {ifs : List Expr} {scope : Scope} {t : CE} (h : cComp (n + 1) c elt tg iter ifs scope = some t) :
    ∃ i g tt te, t = .comp i g tt te ((ownOf c.N scope).map (·.2)) ∧ X.calm = true ∧ (∀ x, foldedSetIterable iter X.env x = pure x) ∧ BlkOk X.N X.env.scope scope (ownOf c.N scope) ∧ QI X tg iter (mI M cu i) ∧ BlkQ X scope ((ownOf c.N scope).map (·.2)) tg elt ifs (mG M.tb g) (mO M cu tt) (mE M cu te) := by
  unfold cComp at h
  split at h
  · rename_i hs
    simp only [Bool.and_eq_true] at hs
    have hb := blkOk_by hs.2
    split at h
    · rename_i i g tt te h1 h2 h3 h4
      split at h
      · rename_i hsl
        simp only [Bool.and_eq_true] at hsl
        obtain ⟨hen, hsl⟩ := hsl
        cases h
        have B := fun s H C cl fp => blk_cfg O hs.1.1 hb.kind s H C cl fp
        refine ⟨i, g, tt, te, rfl, O.calm hs.1.1, folded_set hs.1.2, by rw [O.N, O.sc]; exact hb, I.I O h1 tg hen, ⟨fun s H C cl fp => I.G (B s H C cl fp) h2 _ fun j hj => ?_, fun s H C cl fp => I.F (B s H C cl fp) h3, fun s H C cl fp => I.E (B s H C cl fp) h4⟩⟩
        have q := List.all_eq_true.mp hsl j hj
        simpa using q
      · cases h
    · cases h
  · cases h
theorem snd_C1 (I : Snd n) (O : CfgOk X fa M cu k c) {elt tg iter : Expr} {ifs : List Expr} {scope : Scope} {t : CE} (h : cComp (n + 1) c elt tg iter ifs scope = some t) (pos : Pos) : QE X (.ListComp elt [⟨tg, iter, ifs, 0⟩] scope pos) (mE M cu t) := by
  obtain ⟨i, g, tt, te, rfl, hc, hs, hb, hi, B⟩ := snd_comp I O h
  exact qe_lc hc (by rw [O.N]; exact O.nd) hi hb B hs
theorem snd_C2 (I : Snd n) (O : CfgOk X fa M cu k c) {elt tg iter : Expr} {ifs : List Expr} {scope : Scope} {t : CE} (h : cComp (n + 1) c elt tg iter ifs scope = some t) {pos : Pos} {y : Str} {i : Nat} {py spos : Pos} (hl : c.sc.names.lookup y = some .local) (hy : ixOf y c.N = some i)
    (hsw : swapsWith (.ListComp elt [⟨tg, iter, ifs, 0⟩] scope pos) (some (.Name y py)) spos.line X.env = pure true) : QS X (.Assign [.Name y py] (.ListComp elt [⟨tg, iter, ifs, 0⟩] scope pos) spos) (sAsg (mE M cu t) (gNm i)) := by
  obtain ⟨j, g, tt, te, rfl, hc, hs, hb, hi, B⟩ := snd_comp I O h
  exact qs_setLc hc (by rw [O.N]; exact O.nd) (by rw [O.N]; exact ixOf_get hy) (by rw [O.sc]; exact hl) hsw hi hb B hs
theorem snd_F (I : Snd n) (O : CfgOk X fa M cu k c) {es : List Expr} {t : Option CT} (h : cIf (n + 1) c es = some t) : QTs X es (mO M cu t) := by
  match es, h with
  | [], h1 => simp only [cIf] at h1; cases h1; exact rfl
  | [e], h1 =>
    simp only [cIf] at h1
    obtain ⟨u, h2, h3⟩ := Option.map_eq_some_iff.mp h1
    subst h3
    exact ⟨_, rfl, I.T O h2⟩
  | _ :: _ :: _, h1 => simp [cIf] at h1
theorem snd_P (I : Snd n) (O : CfgOk X fa M cu k c) {o : Option Expr} {t : CE} (h : cP (n + 1) c o = some t) : QP X o (mE M cu t) := by
  cases o with
  | none => simp only [cP] at h; cases h; rfl
  | some e => simp only [cP] at h; exact I.E O h
theorem snd_B (I : Snd n) (O : CfgOk X fa M cu k c) {op : BoolOp} {vs : List Expr} {t : CE} (h : cB (n + 1) c op vs = some t) (pos : Pos) : QE X (.BoolOp op vs pos) (mE M cu t) := by
  match vs, h with
  | [], h => simp [cB] at h
  | [a], h =>
    simp only [cB] at h
    exact qe_one (I.E O h)
  | a :: b :: r, h =>
    simp only [cB] at h
    split at h
    · rename_i h1 h2
      cases op with
      | And => cases h; exact qe_and (tru_ok' O) (I.E O h1) (I.B O h2 pos)
      | Or => cases h; exact qe_or (tru_ok' O) (I.E O h1) (I.B O h2 pos)
    · cases h
theorem snd_Es (I : Snd n) (O : CfgOk X fa M cu k c) {es : List Expr} {ts : CEs} (h : cEs (n + 1) c es = some ts) (hs : es.all noSt = true) : QA X es (mEs M cu ts) ∧ (es = [] → mEs M cu ts = dNil) := by
  cases es with
  | nil => simp only [cEs] at h; cases h; exact ⟨qa_nil, fun _ => rfl⟩
  | cons e es =>
    simp only [cEs] at h
    simp only [List.all_cons, Bool.and_eq_true] at hs
    split at h
    · rename_i h1 h2
      cases h
      exact ⟨qa_cons (I.E O h1) (I.Es O h2 hs.2).1 (star_cons hs.1), fun z => by cases z⟩
    · cases h
theorem is_val {e : Expr} {env : Env} (h : ∀ whole, isTrue e env whole = (do let v ← whole; standAt e.pos; holding [v] (truthy v))) : True := trivial
theorem snd_T (I : Snd n) (O : CfgOk X fa M cu k c) {e : Expr} {t : CT} (h : cT (n + 1) c e = some t) : QT X e (mT M cu t) := by
  unfold cT at h
  split at h
  · obtain ⟨u, h1, h2⟩ := Option.map_eq_some_iff.mp h
    subst h2
    exact qt_not (I.T O h1)
  · exact (I.W O h _).qt
  · split at h
    · rename_i h1 h2 h3
      cases h
      exact qt_ifexp (I.T O h1) (I.T O h2) (I.T O h3)
    · cases h
  · split at h
    · cases h
    · rename_i hm
      split at h
      · rename_i h1 h2
        cases h
        exact qt_cmp (cmp_ok O _) (I.E O h1) (I.E O h2) (by simpa using hm)
      · cases h
  · split at h
    · cases h
    · rename_i hm
      split at h
      · rename_i h1 h2 h3
        cases h
        exact qt_chain (cmp_ok O _) (cmp_ok O _) (I.E O h1) (I.E O h2) (I.E O h3) (by simpa using hm)
      · cases h
  · cases h
  · rename_i e1 n1 n2 n3 n4 n5 n6
    obtain ⟨u, h1, h2⟩ := Option.map_eq_some_iff.mp h
    subst h2
    refine qt_tru (tru_ok' O) (I.E O h1) fun whole => ?_
    cases e with
    | UnaryOp op a p => cases op <;> first | rfl | exact absurd rfl (n1 _ _)
    | BoolOp op a p => exact absurd rfl (n2 _ _ _)
    | IfExp a b d p => exact absurd rfl (n3 _ _ _ _)
    | Compare a b d p => exact absurd rfl (n6 _ _ _ _)
    | _ => rfl
theorem snd_W (I : Snd n) (O : CfgOk X fa M cu k c) {op : BoolOp} {vs : List Expr} {t : CT} (h : cW (n + 1) c op vs = some t) (pos : Pos) : QW X (.BoolOp op vs pos) (mT M cu t) := by
  match vs, h with
  | [], h1 => simp [cW] at h1
  | [a], h1 =>
    simp only [cW] at h1
    have q := I.T O h1
    clear h
    cases op with
    | And => exact qw_and1 q
    | Or => exact qw_or1 q
  | a :: b :: r, h =>
    simp only [cW] at h
    split at h
    · rename_i h1 h2
      cases op with
      | And => cases h; exact qw_and (I.T O h1) (I.W O h2 pos)
      | Or => cases h; exact qw_or (I.T O h1) (I.W O h2 pos)
    · cases h
theorem snd_I (I : Snd n) (O : CfgOk X fa M cu k c) {e : Expr} {t : CI} (h : cI (n + 1) c e = some t) (tg : Expr) (hen : enuB t tg = true) : QI X tg e (mI M cu t) := by
  unfold cI at h
  split at h
  · split at h
    · rename_i hs
      simp only [Bool.and_eq_true, Bool.not_eq_true', beq_iff_eq] at hs
      split at h
      · rename_i hl hg
        obtain ⟨u, h1, h2⟩ := Option.map_eq_some_iff.mp h
        subst h2
        rename_i x p es pos _ _
        obtain ⟨⟨ex, hs1⟩, hne⟩ := hs
        subst ex
        obtain ⟨g1, g2, g3⟩ := glo_of O hg
        cases es with
        | nil => simp at hne
        | cons e es => exact qi_rng g1 g3 (I.Es O h1 hs1).1 hs1
      · cases h
    · split at h
      · rename_i hs
        simp only [Bool.and_eq_true, beq_iff_eq] at hs
        split at h
        · rename_i hl hg
          obtain ⟨u, h1, h2⟩ := Option.map_eq_some_iff.mp h
          subst h2
          rename_i x p es pos _ _ _
          obtain ⟨⟨ex, hs1⟩, hne⟩ := hs
          subst ex
          obtain ⟨g1, g2, g3⟩ := glo_of O hg
          match es, hne with
          | [e], _ =>
            match tg, hen with
            | .Tuple elts kk tpos, _ => exact qi_enu g1 g3 (I.Es O h1 hs1).1 (by simpa using hs1)
        · cases h
      · obtain ⟨u, h1, h2⟩ := Option.map_eq_some_iff.mp h
        subst h2
        exact qi_seq (I.E O h1)
  · obtain ⟨u, h1, h2⟩ := Option.map_eq_some_iff.mp h
    subst h2
    exact qi_seq (I.E O h1)
theorem assign_len : ∀ {es : List Expr} {env : Env}, es.all noSt = true → (assignEach es env).length = es.length ∧ (assignEach es env).findIdx? (·.1) = none
  | [], _, _ => ⟨rfl, rfl⟩
  | e :: es, env, h => by
    simp only [List.all_cons, Bool.and_eq_true] at h
    have e0 : assignEach (e :: es) env = (false, assign e env) :: assignEach es env := by
      have h1 := h.1
      cases e <;> first | rfl | (simp [noSt] at h1)
    obtain ⟨a, b⟩ := assign_len (env := env) h.2
    rw [e0]
    refine ⟨by simp [a], ?_⟩
    rw [List.findIdx?_cons]
    simp [b]
theorem assign_cons {e : Expr} {es : List Expr} {env : Env} (h : noSt e = true) : (assignEach (e :: es) env).map (·.2) = assign e env :: (assignEach es env).map (·.2) := by
  cases e <;> first | rfl | (simp [noSt] at h)
theorem snd_G (I : Snd n) (O : CfgOk X fa M cu k c) {e : Expr} {g : CG} (h : cG (n + 1) c e = some g) (vs : List Nat) (hv : ∀ j ∈ slotsG g, j ∈ vs) : QG X vs e (mG M.tb g) := by
  unfold cG at h
  split at h
  · obtain ⟨i, h1, h2⟩ := Option.map_eq_some_iff.mp h
    subst h2
    obtain ⟨a, b, d⟩ := stl_of O h1
    exact qg_name (by rw [O.N]; exact O.nd) a b d (hv i (by simp [slotsG]))
  · split at h
    · rename_i hs
      simp only [Bool.and_eq_true] at hs
      obtain ⟨gs, h1, h2⟩ := Option.map_eq_some_iff.mp h
      subst h2
      obtain ⟨a, b⟩ := assign_len (env := X.env) hs.2
      exact qg_tup (O.calm hs.1) (I.Gs O h1 hs.2 vs (by simpa [slotsG] using hv)) a b
    · cases h
  · split at h
    · cases h
    · rename_i hn
      simp only [Bool.or_eq_true, not_or, Bool.not_eq_true] at hn
      obtain ⟨i, h1, h2⟩ := Option.map_eq_some_iff.mp h
      subst h2
      obtain ⟨a, b⟩ := loc_of O h1
      exact qg_att O.tb a b hn.1 hn.2
  · cases h
theorem snd_Gs (I : Snd n) (O : CfgOk X fa M cu k c) {es : List Expr} {gs : CGs} (h : cGs (n + 1) c es = some gs) (hs : es.all noSt = true) (vs : List Nat) (hv : ∀ j ∈ slotsGs gs, j ∈ vs) : QGs X vs es (mGs M.tb gs) := by
  cases es with
  | nil => simp only [cGs] at h; cases h; exact qgs_nil
  | cons e es =>
    simp only [cGs] at h
    simp only [List.all_cons, Bool.and_eq_true] at hs
    split at h
    · rename_i h1 h2
      cases h
      simp only [slotsGs, List.mem_append] at hv
      exact qgs_cons (I.G O h1 vs fun j hj => hv j (.inl hj)) (I.Gs O h2 hs.2 vs fun j hj => hv j (.inr hj)) (assign_cons hs.1)
    · cases h
end
theorem snd : ∀ n, Snd n
  | 0 => ⟨fun _ _ _ h => by simp [cE] at h, fun _ _ _ _ _ _ _ h => by simp [cComp] at h, fun _ _ _ _ _ _ _ h => by simp [cComp] at h, fun _ _ _ h => by simp [cIf] at h, fun _ _ _ h => by simp [cP] at h, fun _ _ _ _ h => by simp [cB] at h, fun _ _ _ h => by simp [cEs] at h, fun _ _ _ h => by simp [cT] at h,
      fun _ _ _ _ h => by simp [cW] at h, fun _ _ _ h => by simp [cI] at h, fun _ _ _ h => by simp [cG] at h, fun _ _ _ h => by simp [cGs] at h⟩
  | n + 1 =>
    have I := snd n
    ⟨fun O _ _ h => snd_E I O h, fun O _ _ _ _ _ _ h => snd_C1 I O h, fun O _ _ _ _ _ _ h _ _ _ _ _ a b d => snd_C2 I O h a b d, fun O _ _ h => snd_F I O h, fun O _ _ h => snd_P I O h, fun O _ _ _ h => snd_B I O h, fun O _ _ h => snd_Es I O h, fun O _ _ h => snd_T I O h, fun O _ _ _ h => snd_W I O h, fun O _ _ h tg he => snd_I I O h tg he, fun O _ _ h => snd_G I O h, fun O _ _ h => snd_Gs I O h⟩
end DL

set_option Elab.async false
set_option linter.all false
set_option maxRecDepth 100000
set_option maxHeartbeats 4000000
namespace DL
open PySem PySem.Spec PyProof.Rows L2

theorem swaps_not {v : Expr} {t : Option Expr} {l : Nat} {env : Env} (h : notComp v = true) : swapsWith v t l env = pure false := by
  cases v <;> first | rfl | (simp [notComp] at h)
theorem swaps_other {v t : Expr} {l : Nat} {env : Env} (h : ∀ x p, t ≠ .Name x p) : swapsWith v (some t) l env = pure false := by
  unfold swapsWith
  cases t with
  | Name x p => exact absurd rfl (h x p)
  | _ => cases v <;> rfl
section
variable {X : Cx} {fa : Key → Addr} {M : Env1} {cu : Option Cur} {k : Nat} {c : Cfg} {n : Nat}
theorem swaps_comp (O : CfgOk X fa M cu k c) {elt : Expr} {gs : List Comprehension} {s : Scope} {p : Pos} {x : Str} {pos : Pos} {l : Nat} : swapsWith (.ListComp elt gs s p) (some (.Name x pos)) l X.env = pure (swB c (.ListComp elt gs s p) x pos) := by
  unfold swapsWith swB
  have hb : X.env.blockKind = .function := by unfold Env.blockKind; rw [O.sc, O.kind]; rfl
  simp only [hb, Expr.pos]
  have hk : (X.env.kindOf x == some .local) = (match c.sc.names.lookup x with | some .local => true | _ => false) := by
    show (X.env.scope.names.lookup x == some .local) = _
    rw [O.sc]
    cases c.sc.names.lookup x with
    | none => rfl
    | some q => cases q <;> rfl
  simp only [hk]
  rfl
theorem cross_ok (O : CfgOk X fa M cu k c) {ts vs : List Expr} {kt kv : Nat} {pt pv : Pos} {r : Option (List Str)} (h : crossB c ts vs = some r) : swappedStores [.Tuple ts kt pt] (.Tuple vs kv pv) X.env = pure r := by
  have hb : (X.env.blockKind != .function) = false := by
    have e : X.env.blockKind = .function := by unfold Env.blockKind; rw [O.sc, O.kind]; rfl
    rw [e]; rfl
  unfold crossB at h
  unfold swappedStores
  simp only [pure_bind, hb, Bool.or_false]
  have hk : ∀ x : Str, X.env.kindOf x = c.sc.names.lookup x := fun x => by
    show X.env.scope.names.lookup x = _
    rw [O.sc]
  simp only [hk]
  split at h
  · rename_i h1
    cases h
    exact if_pos h1
  · rename_i h1
    refine (if_neg h1).trans ?_
    split at h
    · rename_i h2
      cases h
      exact if_pos h2
    · rename_i h2
      refine (if_neg h2).trans ?_
      dsimp only at h ⊢
      split at h
      · rename_i h3
        cases h
        exact if_pos h3
      · rename_i h3
        refine (if_neg h3).trans ?_
        split at h
        · rename_i h4
          cases h
          exact if_pos h4
        · rename_i h4
          refine (if_neg h4).trans ?_
          split at h
          · cases h
          · rename_i h5
            cases h
            exact if_neg h5
theorem cross_not {ts : List Expr} {v : Expr} {kt : Nat} {pt : Pos} {env : Env} (h : ∀ vs kv pv, v ≠ .Tuple vs kv pv) : swappedStores [.Tuple ts kt pt] v env = pure none := by
  cases v with
  | Tuple vs kv pv => exact absurd rfl (h vs kv pv)
  | _ => rfl
theorem cross_sub {o i v : Expr} {p : Pos} {env : Env} : swappedStores [.Subscript o i p] v env = pure none := by
  unfold swappedStores
  cases v <;> rfl
end
/-- in an except suite -/
theorem suite_cfg {X : Cx} {fa : Key → Addr} {M : Env1} {cu : Option Cur} {k : Nat} {c : Cfg} (O : CfgOk X fa M cu k c) {cc : Cur} {pn : List (Addr × Obj)} (hc : CurOk (X.suite cc.1 pn) cc) : CfgOk (X.suite cc.1 pn) fa { M with fi := fun _ => none } (some cc) k c.hot where
  sc := O.sc
  kind := O.kind
  N := O.N
  nd := O.nd
  own := O.own
  gk := fun x g h => by
    have q := O.gk x g h
    cases g <;> exact q
  calm := fun h => by cases h
  cup := fun h => by cases h
  top := fun h => by cases h
  pas := PassesOwn.never
  tb := O.tb
  ops := ⟨O.ops.nf, O.ops.hm, O.ops.fn, O.ops.ne⟩
  isi := O.isi
  ex := O.ex
  sx := O.sx
  cap := .inr ⟨fun _ => rfl, rfl⟩
  un := O.un
  gd := O.gd
  sys := O.sys
  cur := fun c2 h => by cases h; exact hc
/-- in a try's body -/
theorem try_cfg {X : Cx} {fa : Key → Addr} {M : Env1} {cu : Option Cur} {k : Nat} {c : Cfg} (O : CfgOk X fa M cu k c) (hc : c.calm = true) {pn : List (Addr × Obj)} {xe : Value → Shared → Prop} (hp : PassesOwn (model X.prog X.w) X.A X.env xe) : CfgOk (X.tr pn xe) fa M cu k c where
  sc := O.sc
  kind := O.kind
  N := O.N
  nd := O.nd
  own := O.own
  gk := fun x g h => by
    have q := O.gk x g h
    cases g <;> exact q
  calm := O.calm
  cup := O.cup
  top := O.top
  pas := hp
  tb := O.tb
  ops := ⟨O.ops.nf, O.ops.hm, O.ops.fn, O.ops.ne⟩
  isi := O.isi
  ex := O.ex
  sx := O.sx
  cap := O.cap
  un := O.un
  gd := O.gd
  sys := O.sys
  cur := fun c2 h => by rw [O.cup hc] at h; cases h
end DL

set_option Elab.async false
set_option linter.all false
set_option maxRecDepth 100000
set_option maxHeartbeats 4000000
namespace DL
open PySem PySem.Spec PyProof.Rows L2

structure SndS (n : Nat) : Prop where
  S : ∀ {X : Cx} {fa : Key → Addr} {M : Env1} {cu : Option Cur} {k : Nat} {c : Cfg}, CfgOk X fa M cu k c → ∀ {st t}, cS n c st = some t → QS X st (mS M cu t)
  Y : ∀ {X : Cx} {fa : Key → Addr} {M : Env1} {cu : Option Cur} {k : Nat} {c : Cfg}, CfgOk X fa M cu k c → c.calm = true → c.top = true → ∀ {b hs t}, cTry n c b hs = some t → ∀ {body : List Stmt} {pos : Pos}, (∀ (pn : List (Addr × Obj)) (xe : Value → Shared → Prop), PassesOwn (model X.prog X.w) X.A X.env xe → QSs (X.tr pn xe) body (mSs M cu b)) → QS X (.Try body hs [] [] pos) (mS M cu t)
  Ss : ∀ {X : Cx} {fa : Key → Addr} {M : Env1} {cu : Option Cur} {k : Nat} {c : Cfg}, CfgOk X fa M cu k c → ∀ {st t}, cSs n c st = some t → QSs X st (mSs M cu t)
  Hs : ∀ {X : Cx} {fa : Key → Addr} {M : Env1} {cu : Option Cur} {k : Nat} {c : Cfg}, CfgOk X fa M cu k c → ∀ {hs t}, cHs n c hs = some t → HdsD X hs (mHs M t)
section
variable {X : Cx} {fa : Key → Addr} {M : Env1} {cu : Option Cur} {k : Nat} {c : Cfg} {n : Nat}
theorem inp_ok (O : CfgOk X fa M cu k c) {o : Operator} (h : augUse o = true) : OpD X (inplaceOp o) (inpM o) := by
  cases o with
  | Add => exact opD_inpAdd
  | Sub => exact opD_int (rI_of0 iop_sub) (fun _ _ h => h) fun _ _ _ _ => by simp [DRel]
  | _ => cases h
theorem asgN_ok (O : CfgOk X fa M cu k c) {x : Str} {p pos : Pos} {v : Expr} {t : CS} (h : cAsgN n c x p v = some t) : QS X (.Assign [.Name x p] v pos) (mS M cu t) := by
  have J := snd n
  have hN : X.N.Nodup := by rw [O.N]; exact O.nd
  unfold cAsgN at h
  split at h
  · rename_i h1 h2
    obtain ⟨a, b, d⟩ := stl_of O h1
    split at h
    · rename_i hc
      cases h
      exact qs_set hN a b (J.E O h2) (swaps_not hc) d
    · split at h
      · rename_i elt tg iter ifs scope pos1 _
        have hcomp : ∀ {u}, cE n c (.ListComp elt [⟨tg, iter, ifs, 0⟩] scope pos1) = some u → ∃ m, n = m + 1 ∧ cComp m c elt tg iter ifs scope = some u := fun {u} hu => by
          cases n with
          | zero => simp [cE] at hu
          | succ m => exact ⟨m, rfl, by simpa only [cE] using hu⟩
        split at h
        · rename_i hsw
          split at h
          · rename_i hl
            cases h
            obtain ⟨m, e, hm⟩ := hcomp h2
            have hl' := beq_iff_eq.mp hl
            refine (snd m).C2 O hm hl' ?_ ?_
            · unfold Cfg.stl at h1
              rw [hl'] at h1
              exact h1
            · rw [swaps_comp O, hsw]
          · cases h
        · rename_i hsw
          cases h
          exact qs_set hN a b (J.E O h2) (by rw [swaps_comp O]; simp only [Bool.not_eq_true] at hsw; rw [hsw]) d
      · cases h
  · cases h
theorem sole_not {v t : Expr} {l : Nat} {env : Env} (h : notComp v = true) : swapsWithSole [t] v l env = pure false := swaps_not h
theorem asgA_ok (O : CfgOk X fa M cu k c) {o v : Expr} {f : Str} {p pos : Pos} {t : CS} (h : cAsgA n c o f v = some t) : QS X (.Assign [.Attribute o f p] v pos) (mS M cu t) := by
  have J := snd n
  unfold cAsgA at h
  split at h
  · rename_i h1 h2
    cases h
    exact qs_setA O.tb (J.E O h2) (J.E O h1) (swaps_other fun x p e => by cases e)
  · cases h
theorem asgS_ok (O : CfgOk X fa M cu k c) {o i v : Expr} {p pos : Pos} {t : CS} (h : cAsgS n c o i v = some t) : QS X (.Assign [.Subscript o i p] v pos) (mS M cu t) := by
  have J := snd n
  unfold cAsgS at h
  split at h
  · rename_i hs
    simp only [Bool.and_eq_true] at hs
    split at h
    · rename_i h1 h2 h3
      cases h
      refine qs_sub (J.E O h1) (J.E O h2) (J.E O h3) setD_ok (sole_not hs.1) cross_sub rfl fun v => ?_
      have hi := hs.2
      clear h1 h2 h3 hs
      cases i <;> first | rfl | (simp [notSlice] at hi)
    · cases h
  · cases h
theorem par_ok (O : CfgOk X fa M cu k c) {ts vs : List Expr} {kt kv : Nat} {pt pv pos : Pos} {t : CS} (h : cPar n c ts vs = some t) : QS X (.Assign [.Tuple ts kt pt] (.Tuple vs kv pv) pos) (mS M cu t) := by
  have J := snd n
  have hN : X.N.Nodup := by rw [O.N]; exact O.nd
  unfold cPar at h
  split at h
  · split at h
    · rename_i h1 h2
      split at h
      · rename_i hs
        simp only [Bool.and_eq_true, Bool.not_eq_true', beq_iff_eq] at hs
        obtain ⟨⟨⟨⟨⟨⟨hc, n1⟩, n2⟩, hxy⟩, hcr⟩, l1⟩, l2⟩ := hs
        split at h
        · rename_i i1 i2
          cases h
          have ha := qa_cons (J.E O h1) (qa_cons (J.E O h2) qa_nil (star_cons n2)) (star_cons n1)
          refine qs_par (O.calm hc) hN (by rw [O.N]; exact ixOf_get i1) (by rw [O.N]; exact ixOf_get i2) ?_ (by rw [O.sc]; exact l1) (by rw [O.sc]; exact l2) ha (cross_ok O hcr) (sole_not rfl)
          intro e
          have z1 := ixOf_get i1
          have z2 := ixOf_get i2
          rw [e, z2] at z1
          cases z1
          simp at hxy
        · cases h
      · cases h
    · cases h
  · cases h
theorem asgT_ok (O : CfgOk X fa M cu k c) {ts : List Expr} {kt : Nat} {pt pos : Pos} {v : Expr} {t : CS} (h : cAsgT n c ts kt pt v = some t) : QS X (.Assign [.Tuple ts kt pt] v pos) (mS M cu t) := by
  have J := snd n
  unfold cAsgT at h
  split at h
  · split at h
    · rename_i hx
      split at h
      · rename_i h1 h2
        cases h
        exact qs_asg (vs := slotsG _) (J.E O h1) (J.G O h2 _ fun j hj => hj) (sole_not rfl) (cross_ok O hx) rfl
      · cases h
    · exact par_ok O h
    · cases h
  · rename_i hnt
    split at h
    · rename_i hc
      split at h
      · rename_i h1 h2
        cases h
        exact qs_asg (vs := slotsG _) (J.E O h1) (J.G O h2 _ fun j hj => hj) (sole_not hc) (cross_not hnt) rfl
      · cases h
    · cases h
theorem asg_ok (O : CfgOk X fa M cu k c) {tg v : Expr} {pos : Pos} {t : CS} (h : cAsg n c tg v = some t) : QS X (.Assign [tg] v pos) (mS M cu t) := by
  unfold cAsg at h
  split at h
  · exact asgN_ok O h
  · exact asgA_ok O h
  · exact asgS_ok O h
  · exact asgT_ok O h
  · cases h
theorem aug_ok (O : CfgOk X fa M cu k c) {tg e : Expr} {op : Operator} {pos : Pos} {t : CS} (h : cAug n c tg op e = some t) : QS X (.AugAssign tg op e pos) (mS M cu t) := by
  have J := snd n
  have hN : X.N.Nodup := by rw [O.N]; exact O.nd
  unfold cAug at h
  split at h
  · split at h
    · rename_i hu
      split at h
      · rename_i h1 h2
        cases h
        obtain ⟨a, b, d⟩ := stl_of O h1
        exact qs_aug hN a b (J.E O h2) (inp_ok O hu) d
      · cases h
    · cases h
  · cases h
theorem raise_ok (O : CfgOk X fa M cu k c) {e : Expr} {pos : Pos} {t : CS} (h : cRaise n c e = some t) : QS X (.Raise (some e) none pos) (mS M cu t) := by
  have J := snd n
  unfold cRaise at h
  split at h
  · split at h
    · rename_i hs
      simp only [Bool.and_eq_true] at hs
      split at h
      · rename_i f a' hg h1
        split at h
        · cases h
        · rename_i hf
          cases h
          obtain ⟨g1, g2, C, g3, g4⟩ := glo_of O hg
          rcases O.cap with ⟨oo, hr⟩ | ⟨_, hh⟩
          · exact qs_raise O.ex (O.calm hs.1) hr (g4 (by simpa using hf)) (qa_cons (J.E O h1) qa_nil (star_cons hs.2)) hs.2 g1 g2
          · rw [hs.1] at hh; cases hh
      · cases h
    · cases h
  · cases h
theorem sndS_S (I : SndS n) (O : CfgOk X fa M cu k c) {st : Stmt} {t : CS} (h : cS (n + 1) c st = some t) : QS X st (mS M cu t) := by
  have J := snd n
  unfold cS at h
  split at h
  · cases h; exact qs_pass
  · cases h; exact qs_break
  · cases h; exact qs_continue
  · split at h
    · rename_i hc
      obtain ⟨u, h1, h2⟩ := Option.map_eq_some_iff.mp h
      subst h2
      exact qs_expr (J.E O h1) (swaps_not hc)
    · cases h
  · obtain ⟨u, h1, h2⟩ := Option.map_eq_some_iff.mp h
    subst h2
    exact qs_ret (J.E O h1)
  · cases h; exact qs_retN
  · split at h
    · rename_i h1 h2 h3
      cases h
      exact qs_if (J.T O h1) (I.Ss O h2) (I.Ss O h3)
    · cases h
  · exact asg_ok O h
  · exact aug_ok O h
  · split at h
    · rename_i hs
      simp only [Bool.and_eq_true] at hs
      split at h
      · rename_i h1 h2 h3
        split at h
        · rename_i hen
          cases h
          exact qs_for (vs := slotsG _) O.pas (O.calm hs.1) (J.I O h1 _ hen) (J.G O h2 _ fun j hj => hj) (I.Ss O h3) (folded_set hs.2)
        · cases h
      · cases h
    · cases h
  · split at h
    · rename_i h1 h2
      cases h
      exact qs_while O.pas (J.T O h1) (I.Ss O h2)
    · cases h
  · exact raise_ok O h
  · split at h
    · rename_i hs
      simp only [Bool.and_eq_true] at hs
      split at h
      · rename_i h1
        exact I.Y O hs.1 hs.2 h fun pn xe hp => I.Ss (try_cfg O hs.1 hp) h1
      · cases h
    · cases h
  · cases h
theorem sndS_Ss (I : SndS n) (O : CfgOk X fa M cu k c) {st : List Stmt} {t : CSs} (h : cSs (n + 1) c st = some t) : QSs X st (mSs M cu t) := by
  cases st with
  | nil => simp only [cSs] at h; cases h; exact qss_nil
  | cons s r =>
    simp only [cSs] at h
    split at h
    · rename_i h1 h2
      cases h
      exact qss_cons (I.S O h1) (I.Ss O h2)
    · cases h
theorem sndS_Y (I : SndS n) (O : CfgOk X fa M cu k c) (hc : c.calm = true) (ht : c.top = true) {b : CSs} {hs : List ExceptHandler} {t : CS} (h : cTry (n + 1) c b hs = some t) {body : List Stmt} {pos : Pos}
    (hb : ∀ (pn : List (Addr × Obj)) (xe : Value → Shared → Prop), PassesOwn (model X.prog X.w) X.A X.env xe → QSs (X.tr pn xe) body (mSs M cu b)) : QS X (.Try body hs [] [] pos) (mS M cu t) := by
  have hN : X.N.Nodup := by rw [O.N]; exact O.nd
  obtain ⟨t1, t2⟩ := O.top ht
  unfold cTry at h
  split at h
  · rename_i e; cases e
  · rename_i e9
    cases e9
    split at h
    · rename_i hg hl hi h2
      cases h
      obtain ⟨g1, g2, C, g3, g4⟩ := glo_of O hg
      exact qs_tryAs O.sx t1 t2 hN (by rw [O.N]; exact ixOf_get hi) (by show X.env.scope.names.lookup _ = _; rw [O.sc]; exact hl) g1 g2 g3 hb fun cc oe pn hcc => I.Ss (suite_cfg O hcc) h2
    · cases h
  · cases h
  · have e9 := Nat.succ.inj (by assumption : n + 1 = Nat.succ _)
    subst e9
    split at h
    · rename_i h2
      cases h
      exact qs_tryMany O.sx t1 t2 hb (I.Hs O h2)
    · cases h
theorem sndS_Hs (I : SndS n) (O : CfgOk X fa M cu k c) {hs : List ExceptHandler} {t : CHs} (h : cHs (n + 1) c hs = some t) : HdsD X hs (mHs M t) := by
  unfold cHs at h
  split at h
  · rename_i e; cases e
  · cases h; exact .nil
  · rename_i e9
    cases e9
    split at h
    · rename_i hg h1 h2
      cases h
      obtain ⟨g1, g2, C, g3, g4⟩ := glo_of O hg
      exact .cons g1 g2 g3 (fun cc oe pn hc => I.Ss (suite_cfg O hc) h1) (I.Hs O h2)
    · cases h
  · cases h
end
theorem sndS : ∀ n, SndS n
  | 0 => ⟨fun _ _ _ h => by simp [cS] at h, fun _ _ _ _ _ _ h => by simp [cTry] at h, fun _ _ _ h => by simp [cSs] at h, fun _ _ _ h => by simp [cHs] at h⟩
  | n + 1 => have I := sndS n; ⟨fun O _ _ h => sndS_S I O h, fun O a b _ _ _ h _ _ z => sndS_Y I O a b h z, fun O _ _ h => sndS_Ss I O h, fun O _ _ h => sndS_Hs I O h⟩
end DL

set_option Elab.async false
set_option linter.all false
set_option maxRecDepth 100000
set_option maxHeartbeats 4000000
namespace DL
open PySem PySem.Spec PyProof.Rows L2

/-- a def: parameters and defaults, names, code -/
structure FE where
  fi : FI
  N : List Str
  code : CSs
/-- a program: what its names are, its classes, its defs -/
structure Prg where
  gk : Str → Option GK
  tb : Tb
  tab : TyC → TyC → Option Bool
  et : Str → Option Str
  sx : Str → Str → Option Bool
  fe : Key → Option FE
def Prg.fi (G : Prg) : Key → Option FI := fun key => (G.fe key).map (·.fi)
def Prg.env (G : Prg) (orc : Orc) : Env1 := ⟨G.tb, G.fi, orc, G.tab, G.et, G.sx⟩
/-- a body, run -/
def runB (M : Env1) (f : FE) : DB := fun ds S K E => ds.length = f.fi.ps.length ∧
  mSs M none f.code { nx := fun _ S' => K .non S', rt := K, bk := fun _ _ => False, ct := fun _ _ => False, ex := fun c fs _ S' => E c fs S' } (ds.map some ++ List.replicate (f.N.length - ds.length) none) S
/-- what a def does, n calls deep -/
def mCall (G : Prg) : Nat → Orc
  | 0 => fun _ _ _ _ _ => False
  | n + 1 => fun key ds S K E => ∃ f, G.fe key = some f ∧ runB (G.env (mCall G n)) f ds S K E
/-- what the written part has of a def -/
structure KeyOk (K : PySem.W.Frag) (mg : Str → Option Value) (w : World) (G : Prg) (f : FE) (a : Addr) (fd : FuncData) : Prop where
  ex : ∃ (x qual : Str) (params : Arguments) (body : List Stmt) (scope : Scope) (dvs : List V) (kws : List (Str × V)) (m : Nat), FunD K x qual params body scope dvs kws a fd ∧ FnScope f.N f.fi.ps scope ∧ cSs m ⟨f.N, scope, fun _ => true, G.gk, true, true⟩ body = some f.code
  bd : ∀ j, j ≤ f.fi.dfl.length → ∃ (dvs : List V) (ds : List Value), Binds K fd f.fi.ps ds ∧ Vals dvs ds ∧ ∀ H, DRels ⟨K, mg, w⟩ H (f.fi.dfl.drop (f.fi.dfl.length - j)) dvs
/-- what the written part has of the program -/
structure PrgOk (P : Program) (w : World) (K : PySem.W.Frag) (mg : Str → Option Value) (G : Prg) (fa : Key → Addr) : Prop where
  fe : ∀ key f, G.fe key = some f → ∃ fd, KeyOk K mg w G f (fa key) fd
  gk : ∀ X : Cx, X.prog = P → X.w = w → X.K = K → X.mg = mg → ∀ M : Env1, M.et = G.et → ∀ x g, G.gk x = some g → GkOk X fa M x g
  sys : SysOk K
  tb : ∀ X : Cx, X.prog = P → X.w = w → X.K = K → X.mg = mg → TbOk X fa G.tb ∧ OpsOk X fa G.tb ∧ IsiOk X G.tab ∧ ExOk X G.et ∧ SubOk X G.sx
section
variable {P : Program} {w : World} {K : PySem.W.Frag} {mg : Str → Option Value} {G : Prg} {fa : Key → Addr} {base : Heap}
def start' (n : Nat) (vs : List V) : VSt := vs.map some ++ List.replicate (n - vs.length) none
theorem srel_start {g : GP} {H : Hp} {ds : List D} {vs : List V} (n : Nat) (r : DRels g H ds vs) : SRel g H (ds.map some ++ List.replicate (n - ds.length) none) (start' n vs) := by
  have l := r.length
  refine ⟨by unfold start'; simp [l], fun i d e => ?_⟩
  by_cases hi : i < ds.length
  · rw [List.getElem?_append_left (by simpa using hi), List.getElem?_map] at e
    obtain ⟨d', h1, h2⟩ := Option.map_eq_some_iff.mp e
    cases h2
    obtain ⟨v, hv, dv⟩ := r.get h1
    refine ⟨v, ?_, dv⟩
    unfold start'
    rw [List.getElem?_append_left (by simpa [← l] using hi), List.getElem?_map, hv]
    rfl
  · rw [List.getElem?_append_right (by simpa using hi), List.getElem?_replicate] at e
    split at e <;> cases e
/-- the promise of each def, n calls deep -/
theorem fn_ok (W : PrgOk P w K mg G fa) : ∀ (n : Nat) (key : Key) (f : FE), G.fe key = some f → ∀ fd, KeyOk K mg w G f (fa key) fd → FnG P w K mg base (L2.CX P w) (4 * n) (fa key) fd f.fi.ps (spD ⟨K, mg, w⟩ f.fi.ps.length (mCall G n key))
  | 0, key, f, hf, fd, KO => ⟨fun vs H Q E h => h.1, fun A outer s H args us vs Q E hr e0 hb r hsp => by
      obtain ⟨_, ds, S, Kt, Ex, _, _, h, _⟩ := hsp
      exact h.elim⟩
  | n + 1, key, f, hf, fd, KO => by
    obtain ⟨x, qual, params, body, scope, dvs, kws, m, FD, Sc, hcode⟩ := KO.ex
    refine fnG_of (N := f.N) (k := 4 * n + 3) FD Sc (fun vs H Q E h => h.1) fun cdv A outer s s1 H vs Q E hr I hsp => ?_
    obtain ⟨hl, ds, S, Kt, Ex, dr, m0, hq, hn, hx⟩ := hsp
    obtain ⟨f', hf', hlen, hq⟩ := hq
    rw [hf] at hf'
    cases hf'
    have ORC : OrcOk (cxOf (L2.CX P w) P w K mg base f.N qual scope (fa key) cdv A outer s H E) (4 * n) fa G.fi (mCall G n) := fun key' p hp => by
      obtain ⟨f', h1, h2⟩ := Option.map_eq_some_iff.mp hp
      subst h2
      obtain ⟨fd', KO'⟩ := W.fe key' f' h1
      exact ⟨fd', fn_ok W n key' f' h1 fd' KO', KO'.bd⟩
    obtain ⟨w1, w2, w3, w4, w5⟩ := W.tb (cxOf (L2.CX P w) P w K mg base f.N qual scope (fa key) cdv A outer s H E) rfl rfl rfl rfl
    have O : CfgOk (cxOf (L2.CX P w) P w K mg base f.N qual scope (fa key) cdv A outer s H E) fa (G.env (mCall G n)) none (4 * n) ⟨f.N, scope, fun _ => true, G.gk, true, true⟩ := {
      sc := rfl, kind := Sc.kind, N := rfl, nd := Sc.nd, own := rfl, gk := W.gk _ rfl rfl rfl rfl _ rfl, calm := fun _ => rfl, cup := fun _ => rfl, top := fun _ => ⟨rfl, rfl⟩, pas := passes_of rfl,
      tb := w1, ops := w2, isi := w3, ex := w4, sx := w5, cap := .inl ⟨ORC, hr⟩, un := by have := hr.un; show (A.deeper _).units + 70 < _; omega, gd := hr.gd, sys := W.sys, cur := fun _ h => by cases h }
    have Q1 := (sndS m).Ss O hcode
    have tk : Takes (cxOf (L2.CX P w) P w K mg base f.N qual scope (fa key) cdv A outer s H E) (lX (cxOf (L2.CX P w) P w K mg base f.N qual scope (fa key) cdv A outer s H E) H fun c fs _ S' => Ex c fs S') :=
      (takes_of (E := E) rfl rfl rfl rfl).imp fun cls d σ H' ⟨c, C, fs, σD, S', e1, e2, e3, e4, e5, e6, e7⟩ => by subst e1; exact hx c C fs d H' S' e2 e3 e5 e6 e7
    have hst : start f.N vs = start' f.N.length vs := rfl
    refine thn (Q1 [] s1 (start f.N vs) H _ S _ tk ⟨I, by rw [hst]; exact srel_start _ dr, m0⟩ hq) fun fl s2 z => ?_
    cases fl with
    | ret u => obtain ⟨v, σ', H', d, S', I', r', x', dr', m', k'⟩ := z; exact ⟨v, σ', H', I', r', hn v H' d S' x' dr' m' k'⟩
    | next => obtain ⟨σ', H', σD', S', T', x', k'⟩ := z; exact ⟨σ', H', T'.I, hn .non H' .non S' x' (by simp [DRel]) T'.m k'⟩
    | brk => obtain ⟨σ', H', σD', S', T', x', k'⟩ := z; exact k'.elim
    | cont => obtain ⟨σ', H', σD', S', T', x', k'⟩ := z; exact k'.elim
end
end DL

set_option Elab.async false
set_option linter.all false
set_option maxRecDepth 100000
set_option maxHeartbeats 4000000
namespace DL
open PySem PySem.Spec PyProof.Rows L2

/-- the wished end of the law's call -/
abbrev LawEnd (s : Shared) (r : Result) (s' : Shared) : Prop := r = .ok (.ret (.bool true)) ∧ OldK s.heap s'.heap ∧ s'.os = s.os ∧ AllBare s'.gens
section
variable {P : Program} {w : World} {K : PySem.W.Frag} {mg mb : Str → Option Value} {k : Nat} {fa a : Addr} {fd : FuncData} {x : Str} {cal : DB} {s : Shared} {vs : List Value} {ns : List Int}
/-- from an abstract heap in which the script alone may stand -/
theorem law_core (KX : K.In s.heap) (hns : s.heap.Ns mainGlobals mg) (hb : s.heap.Ns builtinsNs mb) (hbb : ∀ x : Str, x ≠ "__name__" → mb x = bootBuiltins x) (hlim : s.heap.NoLimit) (hg : s.gens = #[])
    (ha : s.heap.get? a = some { cls := .type "list", data := .seq vs.toArray }) (hr : RoomG k callerA)
    (F : ∀ base : Heap, FnG P w K mg base (L2.CX P w) k fa fd [x] (spD ⟨K, mg, w⟩ 1 cal)) (hbind : ∀ (s : Shared) (u : Value), BindsTo s fd ⟨[u], []⟩ [(x, u)])
    (hcal : cal [.rol (ns.map D.int)] (fun _ => none) (fun d _ => d = .bl true) (fun _ _ _ => False))
    (H : Hp) (hO : Only H) (hS : SqR K H a (ns.map V.int)) (hok : HOk P w H s.heap) (hA : ∀ b, H b ≠ none → b = a) (hK : H a ≠ none → K.lookup a = none) :
    codeAny (model P w) callerA (.call (.ref fa) ⟨[.ref a], []⟩) (LawEnd s) s := by
  have seen : ∀ {b : Addr} {o : Obj}, s.heap.get? b = some o → H b = none → (hidT s.heap H).get? b = some o := fun e n => hidT_get e n
  have dictless : ∀ {b : Addr} {o : Obj} {es : Array DictEntry} {ep : Nat}, s.heap.get? b = some o → o.data = .dict es ep → H b = none := by
    intro b o es ep e d
    by_cases q : H b = none
    · exact q
    · rw [hA b q, ha] at e
      cases e
      cases d
  have names : ∀ {b : Addr} {m : Str → Option Value}, s.heap.Ns b m → (hidT s.heap H).Ns b m := by
    rintro b m ⟨o, es, ep, e, d, r⟩
    exact ⟨o, es, ep, seen e (dictless e d), d, r⟩
  have kIn : K.In (hidT s.heap H) := by
    intro b o e
    refine seen (KX b o e) (Classical.byContradiction fun q => ?_)
    have eb := hA b q
    subst eb
    rw [hK q] at e
    cases e
  have M : Mod K mg (hidT s.heap H) := ⟨kIn, names hns, ⟨mb, names hb, hbb⟩, let ⟨mc, h1, h2⟩ := hlim; ⟨mc, names h1, h2⟩⟩
  have e0 : Env0 P w K mg (hidT s.heap H) callerA [] s H :=
    { frames := rfl, mod := M, bs := fun b o e => of_hidT e, bsz := Nat.le_of_eq (hidT_size _ _), funs := trivial, frf := fun b z => absurd (show b ∈ ([] : List Addr) from z) List.not_mem_nil, hok := hok, bare := .of_eq hg }
  have hdr : DRels ⟨K, mg, w⟩ H [D.rol (ns.map D.int)] [V.ref a] := by
    refine .one ?_
    unfold DRel
    refine ⟨a, _, rfl, hS, ?_⟩
    clear hS hcal
    induction ns with
    | nil => exact .nil
    | cons n ns ih => exact .cons (by simp [DRel]) ih
  have hsp : spD ⟨K, mg, w⟩ 1 cal [.ref a] H (fun v _ => v = .bl true) (fun _ _ _ => False) :=
    ⟨rfl, _, fun _ => none, fun d _ => d = .bl true, fun _ _ _ => False, hdr, (fun _ _ e => nomatch e), hcal, (fun v H' d S' _ dr _ e => by subst e; simpa [DRel] using dr), fun _ _ _ _ _ _ _ _ _ _ z => z⟩
  refine codeAny_mono ((F _).run callerA [] s H ⟨[.ref a], []⟩ [.ref a] [.ref a] _ _ hr e0 (hbind s (.ref a)) (.cons rfl .nil) hsp) fun r s' h => ?_
  match r, h with
  | .error e, h =>
    obtain ⟨_, _, _, _, _, _, _, _, _, _, _, _, z⟩ := h
    exact z.elim
  | .ok .next, h => exact False.elim h
  | .ok .brk, h => exact False.elim h
  | .ok .cont, h => exact False.elim h
  | .ok (.ret u), h =>
    obtain ⟨v, H', os, bare, un, hok2, rv, q⟩ := h
    have q : v = .bl true := q
    subst q
    cases (show u = Value.bool true from rv)
    refine ⟨rfl, OldK.of_keep fun b o e => ?_, os, bare⟩
    rcases hO b with z | ⟨ob, xs, z⟩
    · exact un.keep b o e z (fun z => absurd (show b ∈ ([] : List Addr) from z) List.not_mem_nil) List.not_mem_nil
    · obtain ⟨g1, _⟩ := hok b _ z
      obtain ⟨g2, _⟩ := hok2 b _ (un.frzs b ob _ z)
      rw [e] at g1
      cases g1
      exact g2
theorem law_end (KX : K.In s.heap) (hns : s.heap.Ns mainGlobals mg) (hb : s.heap.Ns builtinsNs mb) (hbb : ∀ x : Str, x ≠ "__name__" → mb x = bootBuiltins x) (hlim : s.heap.NoLimit) (hg : s.gens = #[])
    (ha : s.heap.get? a = some { cls := .type "list", data := .seq vs.toArray }) (hi : IntsAre vs ns) (hl : ns.length ≤ sizeLine) (hr : RoomG k callerA)
    (F : ∀ base : Heap, FnG P w K mg base (L2.CX P w) k fa fd [x] (spD ⟨K, mg, w⟩ 1 cal)) (hbind : ∀ (s : Shared) (u : Value), BindsTo s fd ⟨[u], []⟩ [(x, u)])
    (hcal : cal [.rol (ns.map D.int)] (fun _ => none) (fun d _ => d = .bl true) (fun _ _ _ => False)) : codeAny (model P w) callerA (.call (.ref fa) ⟨[.ref a], []⟩) (LawEnd s) s := by
  have rv := vals_ints hi
  have lv := hi.length
  have go := law_core (P := P) (w := w) (K := K) (mb := mb) (k := k) (fa := fa) (fd := fd) (x := x) KX hns hb hbb hlim hg ha hr F hbind hcal
  by_cases hk : K.lookup a = none
  · refine go (upd (fun _ => none) a (.frz { cls := .type "list", data := .seq vs.toArray } (.lst (ns.map V.int)))) (fun b => ?_) (.inl ⟨_, upd_same⟩) (fun b u z => ?_) (fun b z => ?_) fun _ => hk
    · by_cases h : b = a
      · exact .inr ⟨_, _, by rw [h, upd_same]⟩
      · exact .inl (by rw [upd_ne h])
    · by_cases h : b = a
      · subst h
        rw [upd_same] at z
        cases z
        exact ⟨ha, by rw [List.length_map]; exact hl, vs, _, rv, ha⟩
      · rw [upd_ne h] at z
        cases z
    · exact Classical.byContradiction fun h => z (by rw [upd_ne h])
  · obtain ⟨o, ho⟩ := Option.ne_none_iff_exists'.mp hk
    have e := KX a o ho
    rw [ha] at e
    cases e
    exact go (fun _ => none) (fun _ => .inl rfl) (.inr ⟨_, vs.toArray, _, ho, rfl, rfl, rfl, by rw [List.size_toArray, lv]; exact hl, by simpa using rv⟩) (fun b u z => by cases z) (fun b z => absurd rfl z) fun z => absurd rfl z
end
/-- the law: F gives the written part, its facts, the answer -/
theorem walk_G {l : PySem.W.OpenLaw} {n m : Nat} {q : Program} {loose : List Str} {XP : (Str → Option Value) → Heap → Prop} {YP : World → Heap → Prop} {d : DefRec} {x : Str} {G : Prg} {fL : FE}
    (hn : l.most = some n) (hn2 : n ≤ sizeLine) (hdf : d.params.defaults = []) (hr : RoomG (4 * m) callerA) (hL : G.fe (d.name, none) = some fL) (hps : fL.fi.ps = [x])
    (F : ∀ (w : World) (mg : Str → Option Value) (fa : Addr) (h : Heap), YP w h → h.Ns mainGlobals mg → mg d.name = some (.ref fa) →
      ∃ (K : PySem.W.Frag) (fo : Key → Addr) (fd : FuncData), K.In h ∧ fo (d.name, none) = fa ∧ PrgOk l.prog w K mg G fo ∧ KeyOk K mg w G fL fa fd ∧ ∀ (s : Shared) (u : Value), BindsTo s fd ⟨[u], []⟩ [(x, u)])
    (A : ∀ ns : List Int, ns.length ≤ n → (∀ k ∈ ns, Builtin.Int.intBits k ≤ 1048576) → mCall G m (d.name, none) [.rol (ns.map D.int)] (fun _ => none) (fun d _ => d = .bl true) (fun _ _ _ => False)) :
    PySem.W.WalkO q loose XP YP l.row.toRowW d [] (fun f vs => PySem.call f vs) := by
  refine Att.attach_callB hn hdf fun w s₀ s₁ mg mb fa o pm cd doc a vs ns G' Y ho hd hcd hmg hobj hints hlen hbits hg => ?_
  obtain ⟨K, fo, fd, KX, e, W, KO, hb⟩ := F w mg fa _ Y G'.T.g hmg
  subst e
  have FN : ∀ base : Heap, FnG l.prog w K mg base (L2.CX l.prog w) (4 * m) (fo (d.name, none)) fd [x] (spD ⟨K, mg, w⟩ 1 (mCall G m (d.name, none))) := fun base => by
    have q := fn_ok (base := base) W m (d.name, none) fL hL fd KO
    rw [hps] at q
    exact q
  exact law_end KX G'.T.g G'.T.b G'.T.builtins G'.T.nolimit hg hobj hints (Nat.le_trans hlen hn2) hr FN hb (A ns hlen hbits)
end DL

set_option Elab.async false
set_option linter.all false
set_option maxRecDepth 100000
set_option maxHeartbeats 4000000
namespace DL
open PySem PySem.Spec PyProof.Rows L2

def eqOO (a b : Option (Option Value)) : Bool := decide (a = b)
/-- a def's place: a global's, a method's, a property's getter's -/
def foK (K : PySem.W.Frag) (key : Key) : Addr := match key.2 with
  | none => He.ga K key.1
  | some m => match PySem.W.recIn K (He.ma K (He.ga K key.1) m) "property" with
    | some (.ref g :: _) => g
    | _ => He.ma K (He.ga K key.1) m
def fnA (K : PySem.W.Frag) (a : Addr) : He.FnW := match K.lookup a with
  | some ⟨_, _, .func fd, _⟩ => some (fd.name, fd.qualname, fd.params, fd.body, fd.scope, fd.globals, fd.closure, fd.builtins)
  | _ => none
def fnB (K : PySem.W.Frag) (a : Addr) (d : He.DefD) : Bool := PySem.W.keepIn K (.ref a) && (match K.lookup a with
  | some ⟨_, _, .func fd, _⟩ => PySem.W.codeIn K fd.code d.qual && (He.dflB K fd.defaults (d.dvs K) && He.kwdB K fd.kwdefaults (d.kws K))
  | _ => false)
section
variable {K : PySem.W.Frag} {h : Heap} {mg : Str → Option Value}
theorem ands {a b : Bool} (h : (a && b) = true) : a = true ∧ b = true := by simpa using h
theorem funA {a : Addr} {d : He.DefD} (e : fnA K a = d.val) (c : fnB K a d = true) : ∃ fd, FunD K d.name d.qual d.params d.body d.scope (d.dvs K) (d.kws K) a fd := by
  obtain ⟨kp, c2⟩ := ands c
  unfold fnA at e
  cases q : K.lookup a with
  | none => rw [q] at c2; cases c2
  | some o =>
    obtain ⟨oc, od, dt, osl⟩ := o
    rw [q] at c2 e
    cases dt with
    | func fd =>
      obtain ⟨n1, n2, n3, n4, n5, n6, n7, n8, n9, n10, n11, n12, n13, n14, n15⟩ := fd
      have e2 : (some (n1, n2, n3, n4, n5, n6, n7, n15) : He.FnW) = some (d.name, d.qual, d.params, .stmts d.body, d.scope, mainGlobals, [], builtinsNs) := e
      injection e2 with e2
      simp only [Prod.mk.injEq] at e2
      obtain ⟨rfl, rfl, rfl, rfl, rfl, rfl, rfl, rfl⟩ := e2
      obtain ⟨k1, k2⟩ := ands (show (PySem.W.codeIn K _ d.qual && _) = true from c2)
      obtain ⟨k3, k4⟩ := ands k2
      exact ⟨_, ⟨oc, od, n8, n9, n10, n11, n12, n13, n14, osl, rfl, q, k1, He.dflB_ok k3, He.kwdB_ok k4⟩, kp⟩
    | _ => cases c2
def slotB (K : PySem.W.Frag) (C : Addr) (f : Str) (i : Nat) : Bool := let p := He.ma K C f
  eqOO (PySem.W.findIn K (.ref C) f) (some (some (.ref p))) && (eqOO (PySem.W.specialIn K (.ref p) "__get__") (some (some (.builtin "member_descriptor.__get__"))) && (decide (PySem.W.takesIn K (.ref p) = some true) &&
    (decide (PySem.W.typeIn K (.ref p) = some (.type "member_descriptor")) && (decide (PySem.W.slotIn K p C = some i) && decide (i < 1000)))))
theorem slotB_ok {C : Addr} {f : Str} {i : Nat} (h : slotB K C f i = true) : ∃ p, SlX.Slot1 K C f p i := by
  obtain ⟨h1, h⟩ := ands h
  obtain ⟨h2, h⟩ := ands h
  obtain ⟨h3, h⟩ := ands h
  obtain ⟨h4, h⟩ := ands h
  obtain ⟨h5, h6⟩ := ands h
  exact ⟨_, of_decide_eq_true h1, of_decide_eq_true h2, of_decide_eq_true h3, of_decide_eq_true h4, of_decide_eq_true h5, of_decide_eq_true h6⟩
def propB (K : PySem.W.Frag) (C : Addr) (f : Str) : Bool := let p := He.ma K C f
  eqOO (PySem.W.findIn K (.ref C) f) (some (some (.ref p))) && (eqOO (PySem.W.specialIn K (.ref p) "__get__") (some (some (.builtin "property.__get__"))) && (decide (PySem.W.takesIn K (.ref p) = some true) && (match PySem.W.recIn K p "property" with
    | some (.ref _ :: _) => true
    | _ => false)))
theorem propB_ok {c f : Str} (h : propB K (He.ga K c) f = true) : ∃ p, PropOf K (He.ga K c) f p (foK K (c, some f)) := by
  obtain ⟨h1, h⟩ := ands h
  obtain ⟨h2, h⟩ := ands h
  obtain ⟨h3, h4⟩ := ands h
  refine ⟨_, of_decide_eq_true h1, of_decide_eq_true h2, of_decide_eq_true h3, ?_⟩
  unfold foK
  dsimp only
  cases e : PySem.W.recIn K (He.ma K (He.ga K c) f) "property" with
  | none => rw [e] at h4; cases h4
  | some l =>
    rw [e] at h4
    cases l with
    | nil => cases h4
    | cons v r =>
      cases v with
      | ref g => exact ⟨r, rfl⟩
      | _ => cases h4
def methB (K : PySem.W.Frag) (c m : Str) : Bool := eqOO (PySem.W.findIn K (.ref (He.ga K c)) m) (some (some (.ref (foK K (c, some m))))) && (PySem.W.isFn K (.ref (foK K (c, some m))) && (PySem.W.keepIn K (.ref (foK K (c, some m))) && PySem.W.fnIn K (foK K (c, some m))))
theorem methB_ok {c m : Str} (h : methB K c m = true) : Meth K (He.ga K c) m (foK K (c, some m)) ∧ PySem.W.fnIn K (foK K (c, some m)) = true := by
  obtain ⟨h1, h⟩ := ands h
  obtain ⟨h2, h⟩ := ands h
  obtain ⟨h3, h4⟩ := ands h
  exact ⟨⟨of_decide_eq_true h1, h2, h3⟩, h4⟩
def slotsB (K : PySem.W.Frag) (C : Addr) : Nat → List Str → Bool
  | _, [] => true
  | i, f :: r => slotB K C f i && slotsB K C (i + 1) r
theorem slotsB_ok {C : Addr} : ∀ {l : List Str} {j : Nat}, slotsB K C j l = true → ∀ (i : Nat) f, l[i]? = some f → ∃ p, SlX.Slot1 K C f p (j + i)
  | [], _, _, i, f, e => by simp at e
  | g :: r, j, h, 0, f, e => by
    simp at e; subst e
    exact slotB_ok (ands h).1
  | g :: r, j, h, i + 1, f, e => by
    obtain ⟨p, q⟩ := slotsB_ok (ands h).2 i f (by simpa using e)
    exact ⟨p, by rw [show j + (i + 1) = j + 1 + i by omega]; exact q⟩
def clsB (K : PySem.W.Frag) (c : Str) (ce : ClsE) : Bool := let C := He.ga K c
  eqOO (PySem.W.nsIn K mainGlobals c) (some (some (.ref C))) && (PySem.W.plainGet K C Str.empty && (PySem.W.isClsIn K C && (PySem.W.plainOver K C && (eqOO (PySem.W.findIn K (.ref C) "__setattr__") (some (some (.builtin "object.__setattr__"))) &&
  (eqOO (PySem.W.findIn K (.ref C) "__class__") (some (some (.builtin "object.__class__"))) && (eqOO (PySem.W.specialIn K (.builtin "object.__class__") "__get__") (some (some (.builtin "getset_descriptor.__get__"))) && (decide (PySem.W.takesIn K (.builtin "object.__class__") = some true) &&
  (decide (PySem.W.mroIn K C (.type "object") = some true) && ((ce.slo || (PySem.W.hasDictIn K C && ce.fields.all fun f => eqOO (PySem.W.findIn K (.ref C) f) (some none))) && ((!ce.slo || slotsB K C 0 ce.fields) && (ce.props.all (propB K C) &&
  (ce.meths.all (methB K c) && (PySem.W.makesIn K C && (methB K c "__init__" && (PySem.W.keepIn K (.ref C) && headMe K C)))))))))))))))
theorem clsB_ok (X : K.In h) (G : h.Ns mainGlobals mg) {c : Str} {ce : ClsE} (hb : clsB K c ce = true) : mg c = some (.ref (He.ga K c)) ∧ ClsOk K (foK K) c ce (He.ga K c) ∧ headMe K (He.ga K c) = true ∧ ∀ m ∈ ce.meths, PySem.W.fnIn K (foK K (c, some m)) = true := by
  obtain ⟨h1, hb⟩ := ands hb
  obtain ⟨h2, hb⟩ := ands hb
  obtain ⟨h3, hb⟩ := ands hb
  obtain ⟨h4, hb⟩ := ands hb
  obtain ⟨h5, hb⟩ := ands hb
  obtain ⟨h6, hb⟩ := ands hb
  obtain ⟨h7, hb⟩ := ands hb
  obtain ⟨h8, hb⟩ := ands hb
  obtain ⟨h9, hb⟩ := ands hb
  obtain ⟨h10, hb⟩ := ands hb
  obtain ⟨h11, hb⟩ := ands hb
  obtain ⟨h12, hb⟩ := ands hb
  obtain ⟨h13, hb⟩ := ands hb
  obtain ⟨h14, hb⟩ := ands hb
  obtain ⟨h15, hb⟩ := ands hb
  obtain ⟨h16, h17⟩ := ands hb
  obtain ⟨mi, _⟩ := methB_ok h15
  refine ⟨PySem.W.mg_of X G (of_decide_eq_true h1), ⟨⟨h2, h3, h4, of_decide_eq_true h5⟩, ⟨of_decide_eq_true h6, of_decide_eq_true h7, of_decide_eq_true h8, of_decide_eq_true h9⟩, fun hs => ?_, fun hs i f e => ?_, fun f hf => ?_, fun m hm => (methB_ok (List.all_eq_true.mp h13 m hm)).1, ⟨h14, mi.at_, mi.fn, h16⟩⟩, h17, fun m hm => (methB_ok (List.all_eq_true.mp h13 m hm)).2⟩
  · rw [hs] at h10
    obtain ⟨g1, g2⟩ := ands (show (PySem.W.hasDictIn K (He.ga K c) && _) = true from h10)
    exact ⟨⟨h2, g1, h4, of_decide_eq_true h5⟩, fun f hf => show PySem.W.findIn K (.ref (He.ga K c)) f = some none from of_decide_eq_true (List.all_eq_true.mp g2 f hf)⟩
  · rw [hs] at h11
    have q := slotsB_ok (show slotsB K (He.ga K c) 0 ce.fields = true from h11) i f e
    simpa using q
  · exact propB_ok (List.all_eq_true.mp h12 f hf)
end
end DL

set_option Elab.async false
set_option linter.all false
set_option maxRecDepth 100000
set_option maxHeartbeats 4000000
namespace DL
open PySem PySem.Spec PyProof.Rows L2

/-- a function's own part, with the names of its closure -/
abbrev FnW2 : Type := Option (Str × Str × Arguments × FuncBody × Scope × Addr × List Str × Addr)
def fnA2 (K : PySem.W.Frag) (a : Addr) : FnW2 := match K.lookup a with
  | some ⟨_, _, .func fd, _⟩ => some (fd.name, fd.qualname, fd.params, fd.body, fd.scope, fd.globals, fd.closure.map (·.1), fd.builtins)
  | _ => none
/-- an own error's text: its field, its message, the places -/
structure ExD where
  cn : Str
  f : Str
  qual : Str
  msg : Str
  n : Nat
  a : List Pos
/-- the i-th place -/
def ExD.p (e : ExD) (i : Nat) : Pos := e.a.getD i default
def ExD.val (e : ExD) : FnW2 := some ("__init__", e.qual, PySem.ExW.iA e.f (e.p 0) (e.p 1), .stmts (PySem.ExW.iB e.f e.msg e.n (e.p 2) (e.p 3) (e.p 4) (e.p 5) (e.p 6) (e.p 7) (e.p 8) (e.p 9) (e.p 10) (e.p 11)), PySem.ExW.iS e.f, mainGlobals, ["__class__"], builtinsNs)
def exClB (K : PySem.W.Frag) (C : Addr) : Bool := match K.lookup C with
  | some ⟨.type t, _, .cls cd, sl⟩ => decide (t = "type") && (match cd.mro, sl.toList with
    | .ref C' :: bm, [_, _, _, _, some (.builtin n), _] => decide (C' = C) && (decide (n = "ValueError.__new__") && (!cd.hasDel && (cd.hasDict && PySem.HandSPX.refsVE bm)))
    | _, _ => false)
  | _ => false
theorem exClB_ok {K : PySem.W.Frag} {C : Addr} (h : exClB K C = true) : ∃ nm q N bs bm sn sub ab col dd k0 k1 k2 k3 k5, K.lookup C = some (excClassObj nm q C N bs bm true sn sub ab col dd k0 k1 k2 k3 k5 "ValueError.__new__") ∧ PySem.HandSPX.refsVE bm = true := by
  unfold exClB at h
  split at h
  · rename_i t dd cd sl e
    obtain ⟨h0, h⟩ := ands h
    split at h
    · rename_i C' bm k0 k1 k2 k3 n k5 hm hs
      obtain ⟨h1, h⟩ := ands h
      obtain ⟨h2, h⟩ := ands h
      obtain ⟨h3, h⟩ := ands h
      obtain ⟨h4, h5⟩ := ands h
      have h0 := of_decide_eq_true h0
      have h1 := of_decide_eq_true h1
      have h2 := of_decide_eq_true h2
      have es : sl = #[k0, k1, k2, k3, some (.builtin n), k5] := by
        apply Array.ext'
        simpa using hs
      obtain ⟨nm, bs, mro, ns, qn, hd, sn, sub, ab, col, hdel⟩ := cd
      simp only at hm h3 h4
      subst h0 h1 h2 es hm
      simp at h3
      subst h3 h4
      exact ⟨_, _, _, _, _, _, _, _, _, _, _, _, _, _, _, e, h5⟩
    · cases h
  · cases h
def clo1 : List (Str × Addr) → Option (Str × Addr)
  | [p] => some p
  | _ => none
theorem clo1_ok {l : List (Str × Addr)} {p : Str × Addr} (h : clo1 l = some p) : l = [p] := by
  match l, h with
  | [q], h => cases h; rfl
  | [], h => cases h
  | _ :: _ :: _, h => cases h
def refOf : Value → Option Addr
  | .ref a => some a
  | _ => none
theorem refOf_ok {v : Value} {a : Addr} (h : refOf v = some a) : v = .ref a := by
  cases v <;> first | (cases h; rfl) | (simp [refOf] at h)
def noneV : Value → Bool
  | .none => true
  | _ => false
theorem noneV_ok {v : Value} (h : noneV v = true) : v = .none := by
  cases v <;> first | rfl | (simp [noneV] at h)
def strOf2 (vs : Array Value) : Option Str := match vs[2]? with
  | some (Value.str file _) => some file
  | _ => none
theorem strOf2_ok {vs : Array Value} {f : Str} (h : strOf2 vs = some f) : ∃ t, vs[2]? = some (.str f t) := by
  unfold strOf2 at h
  split at h
  · rename_i t e
    cases h
    exact ⟨t, e⟩
  · cases h
def fieldsAt (K : PySem.W.Frag) (a : Addr) : Option Str := match K.lookup a with
  | some ⟨_, _, .fields vs, _⟩ => strOf2 vs
  | _ => none
theorem fieldsAt_ok {K : PySem.W.Frag} {a : Addr} {f : Str} (h : fieldsAt K a = some f) : ∃ c d vs sl t, K.lookup a = some ⟨c, d, .fields vs, sl⟩ ∧ vs[2]? = some (.str f t) := by
  unfold fieldsAt at h
  split at h
  · rename_i c d vs sl e
    obtain ⟨t, ht⟩ := strOf2_ok h
    exact ⟨c, d, vs, sl, t, e, ht⟩
  · cases h
def cellB (K : PySem.W.Frag) (a C : Addr) : Bool := match K.lookup a with
  | some ⟨_, _, .cell (some (.ref C')), _⟩ => decide (C' = C)
  | _ => false
theorem cellB_ok {K : PySem.W.Frag} {a C : Addr} (h : cellB K a C = true) : ∃ c d sl, K.lookup a = some ⟨c, d, .cell (some (.ref C)), sl⟩ := by
  unfold cellB at h
  split at h
  · rename_i c d C' sl e
    have e2 := of_decide_eq_true h
    subst e2
    exact ⟨c, d, sl, e⟩
  · cases h
def exFnB (P : Program) (K : PySem.W.Frag) (C fI : Addr) (qual : Str) : Bool := match K.lookup fI with
  | some ⟨_, _, .func fd, _⟩ => noneV fd.defaults && (noneV fd.kwdefaults && (match clo1 fd.closure, refOf fd.code with
    | some p, some cda => PySem.W.codeIn K (.ref cda) qual && (decide (fieldsAt K cda = some P.main.file) && cellB K p.2 C)
    | _, _ => false))
  | _ => false
def exB (P : Program) (K : PySem.W.Frag) (e : ExD) : Bool := let C := He.ga K e.cn; let fI := He.ma K C "__init__"
  eqOO (PySem.W.nsIn K mainGlobals e.cn) (some (some (.ref C))) && (exClB K C && (eqOO (PySem.W.findIn K (.ref C) "__setattr__") (some (some (.builtin "object.__setattr__"))) && (eqOO (PySem.W.findIn K (.ref C) "__getattribute__") (some (some (.builtin "BaseException.__getattribute__"))) &&
  (eqOO (PySem.W.findIn K (.ref C) "__getattr__") (some none) && (eqOO (PySem.W.findIn K (.ref C) e.f) (some none) && (eqOO (PySem.W.findIn K (.ref C) "__init__") (some (some (.ref fI))) && (decide (PySem.W.typeIn K (.ref fI) = some (.type "function")) && (PySem.W.keepIn K (.ref C) &&
  (decide (PySem.W.subIn K (.ref C) (.type "BaseException") = some true) && (decide (PySem.W.typeIn K (.ref C) = some (.type "type")) && (PySem.W.hasDictIn K C && (decide (PySem.W.exmOne K (.ref C) (.ref C) = some true) && (decide (PySem.W.mroIn K C (.ref C) = some true) &&
  (decide (PySem.W.subIn K (.ref C) (.type "ValueError") = some true) && (eqOO (PySem.W.nsIn K mainGlobals "super") (some none) && (eqOO (PySem.W.nsIn K cStatics "thirdparty.any") (some none) && (eqOO (PySem.W.ks_superIn K C C "__init__") (some (some (.builtin "ValueError.__init__"))) &&
  (!(P.main.scope.names.lookup ("super" : Str)).isSome && ((decide (e.f = "value") || (decide (e.f = "line") || decide (e.f = "limit"))) && (exFnB P K C fI e.qual && ((e.p 4).endLine == (e.p 6).line)))))))))))))))))))))
theorem exB_ok {P : Program} {K : PySem.W.Frag} {h : Heap} {mg : Str → Option Value} (X : K.In h) (G : h.Ns mainGlobals mg) {e : ExD} (hb : exB P K e = true) (hv : fnA2 K (He.ma K (He.ga K e.cn) "__init__") = e.val) : PySem.ExW.ExT P K mg e.cn e.f (He.ga K e.cn) (He.ma K (He.ga K e.cn) "__init__") := by
  obtain ⟨h1, hb⟩ := ands hb
  obtain ⟨h2, hb⟩ := ands hb
  obtain ⟨h3, hb⟩ := ands hb
  obtain ⟨h4, hb⟩ := ands hb
  obtain ⟨h5, hb⟩ := ands hb
  obtain ⟨h6, hb⟩ := ands hb
  obtain ⟨h7, hb⟩ := ands hb
  obtain ⟨h8, hb⟩ := ands hb
  obtain ⟨h9, hb⟩ := ands hb
  obtain ⟨h10, hb⟩ := ands hb
  obtain ⟨h11, hb⟩ := ands hb
  obtain ⟨h12, hb⟩ := ands hb
  obtain ⟨h13, hb⟩ := ands hb
  obtain ⟨h14, hb⟩ := ands hb
  obtain ⟨h15, hb⟩ := ands hb
  obtain ⟨h16, hb⟩ := ands hb
  obtain ⟨h17, hb⟩ := ands hb
  obtain ⟨h18, hb⟩ := ands hb
  obtain ⟨h19, hb⟩ := ands hb
  obtain ⟨h20, hb⟩ := ands hb
  obtain ⟨h21, h22⟩ := ands hb
  refine ⟨PySem.W.mg_of X G (of_decide_eq_true h1), exClB_ok h2, of_decide_eq_true h3, of_decide_eq_true h4, of_decide_eq_true h5, of_decide_eq_true h6, of_decide_eq_true h7, of_decide_eq_true h8, h9, of_decide_eq_true h10, of_decide_eq_true h11, h12, of_decide_eq_true h13, of_decide_eq_true h14, of_decide_eq_true h15, of_decide_eq_true h16, of_decide_eq_true h17,
    of_decide_eq_true h18, by simpa using h19, by simpa using h20, ?_⟩
  generalize He.ma K (He.ga K e.cn) "__init__" = fI at hv h21
  generalize He.ga K e.cn = C at h21
  unfold fnA2 at hv
  unfold exFnB at h21
  cases q : K.lookup fI with
  | none => rw [q] at h21; cases h21
  | some o =>
    obtain ⟨oc, od, dt, osl⟩ := o
    rw [q] at h21 hv
    cases dt with
    | func fd =>
      obtain ⟨n1, n2, n3, n4, n5, n6, n7, n8, n9, n10, n11, n12, n13, n14, n15⟩ := fd
      have e2 : (some (n1, n2, n3, n4, n5, n6, n7.map (·.1), n15) : FnW2) = e.val := hv
      unfold ExD.val at e2
      injection e2 with e2
      simp only [Prod.mk.injEq] at e2
      obtain ⟨rfl, rfl, rfl, rfl, rfl, rfl, e7, rfl⟩ := e2
      obtain ⟨k1, h21⟩ := ands (show (noneV n8 && (noneV n9 && _)) = true from h21)
      obtain ⟨k2, h21⟩ := ands h21
      have e8 := noneV_ok k1
      have e9 := noneV_ok k2
      subst e8 e9
      split at h21
      · rename_i p cda hc1 hc2
        have z1 := clo1_ok hc1
        have z2 := refOf_ok hc2
        simp only at z1 z2
        subst z1 z2
        obtain ⟨k3, h23⟩ := ands (show (PySem.W.codeIn K (.ref cda) e.qual && _) = true by first | exact h21 | exact (ands h21).2)
        obtain ⟨k4, k5⟩ := ands h23
        obtain ⟨x, cc⟩ := p
        have ex : x = "__class__" := by simpa using e7
        subst ex
        obtain ⟨c1, d1, vs, s1, t, g1, g2⟩ := fieldsAt_ok (of_decide_eq_true k4)
        obtain ⟨c2, d2, s2, g3⟩ := cellB_ok k5
        exact ⟨_, _, _, _, _, _, _, _, _, _, _, _, _, _, _, _, _, _, _, _, _, _, _, _, _, _, _, _, _, _, _, _, _, rfl, k3, g1, g2, by simp, g3, h22⟩
      · cases h21
    | _ => cases h21
end DL

set_option Elab.async false
set_option linter.all false
set_option maxRecDepth 100000
set_option maxHeartbeats 4000000
namespace DL
open PySem PySem.Spec PyProof.Rows L2

/-- a def as printed: where, its reading, its text, the fuel of its reading -/
structure DefE where
  key : Key
  fe : FE
  d : He.DefD
  m : Nat
/-- a program as printed -/
structure PD where
  gk : List (Str × GK)
  tb : List (Str × ClsE)
  defs : List DefE
  exs : List ExD
  isi : List ((TyC × TyC) × Bool)
  sx : List ((Str × Str) × Bool)
def PD.feOf (D : PD) (key : Key) : Option DefE := D.defs.find? fun e => decide (e.key = key)
def PD.prg (D : PD) : Prg where
  gk := fun x => D.gk.lookup x
  tb := fun c => D.tb.lookup c
  tab := fun t c => D.isi.lookup (t, c)
  et := fun c => (D.exs.find? fun e => decide (e.cn = c)).map (·.f)
  sx := fun a b => D.sx.lookup (a, b)
  fe := fun key => (D.feOf key).map (·.fe)
def tyA (K : PySem.W.Frag) : TyC → Value
  | .b n => .type n
  | .c x => .ref (He.ga K x)
def gloB (K : PySem.W.Frag) (x : Str) : Bool := eqOO (PySem.W.nsIn K mainGlobals x) (some (some (.ref (He.ga K x))))
def tyGlo (K : PySem.W.Frag) : TyC → Bool
  | .b _ => true
  | .c x => gloB K x
def valB (K : PySem.W.Frag) (x : Str) : D → Bool
  | .int i => (match PySem.W.nsIn K mainGlobals x with
    | some (some (.int j _)) => decide (j = i)
    | _ => false)
  | .str y => (match PySem.W.nsIn K mainGlobals x with
    | some (some (.str z _)) => decide (z = y)
    | _ => false)
  | _ => false
def gkB (D : PD) (K : PySem.W.Frag) (x : Str) : GK → Bool
  | .fn => eqOO (PySem.W.nsIn K mainGlobals x) (some (some (.ref (foK K (x, none))))) && PySem.W.keepIn K (.ref (foK K (x, none)))
  | .cls => gloB K x && PySem.W.keepIn K (.ref (He.ga K x))
  | .exc f => gloB K x && (decide (f = "") || decide (D.prg.et x = some f))
  | .blt => eqOO (PySem.W.nsIn K mainGlobals x) (some none)
  | .val d => valB K x d
def baseTys : List TyC := [.b "NoneType", .b "bool", .b "int", .b "str", .b "tuple", .b "list", .b "dict"]
def opsB (D : PD) (K : PySem.W.Frag) (c : Str) (ce : ClsE) : Bool := ((baseTys ++ D.tb.map fun p => TyC.c p.1).all fun t => PySem.W.notFirst K (He.ga K c) (tyA K t)) && (!(ce.meths.contains "__eq__") || eqOO (PySem.W.findIn K (.ref (He.ga K c)) "__ne__") (some (some (.builtin "object.__ne__"))))
/-- the modules' dict is there -/
def sysB (K : PySem.W.Frag) : Bool := match K.lookup sysModules with
  | some o => (match o.data with
    | .dict _ _ => true
    | _ => false)
  | none => false
theorem sysB_ok {K : PySem.W.Frag} (h : sysB K = true) : SysOk K := by
  unfold sysB at h
  split at h
  · rename_i o e
    split at h
    · rename_i es n d; exact ⟨o, es, n, e, d⟩
    · cases h
  · cases h
def PD.ok (D : PD) (P : Program) (K : PySem.W.Frag) : Bool := sysB K && ((D.gk.all fun p => gkB D K p.1 p.2) && ((D.tb.all fun p => clsB K p.1 p.2 && opsB D K p.1 p.2) && ((D.exs.all fun e => exB P K e) && ((D.isi.all fun p => tyGlo K p.1.1 && (tyGlo K p.1.2 && decide (PySem.W.kitOne K (tyA K p.1.1) (tyA K p.1.2) = some p.2))) &&
  ((D.sx.all fun p => gloB K p.1.1 && (gloB K p.1.2 && decide (PySem.W.exmOne K (.ref (He.ga K p.1.1)) (.ref (He.ga K p.1.2)) = some p.2))) && D.defs.all fun e => fnB K (foK K e.key) e.d)))))
theorem lookup_mem {α β : Type} [BEq α] [LawfulBEq α] {x : α} {v : β} : ∀ {l : List (α × β)}, l.lookup x = some v → (x, v) ∈ l
  | [], h => by cases h
  | (y, w) :: r, h => by
    rw [List.lookup_cons] at h
    cases e : x == y with
    | true =>
      rw [e] at h
      cases h
      rw [eq_of_beq e]
      exact List.mem_cons_self
    | false =>
      rw [e] at h
      exact List.mem_cons_of_mem _ (lookup_mem h)
section
variable {D : PD} {P : Program} {w : World} {K : PySem.W.Frag} {mg : Str → Option Value} {h : Heap}
theorem glo_at (X : K.In h) (G : h.Ns mainGlobals mg) {x : Str} (hb : gloB K x = true) : mg x = some (.ref (He.ga K x)) := PySem.W.mg_of X G (of_decide_eq_true hb)
theorem ty_at (X : K.In h) (G : h.Ns mainGlobals mg) {t : TyC} {v : Value} (hb : tyGlo K t = true) (hv : TyV mg t v) : v = tyA K t := by
  cases t with
  | b n => exact hv
  | c x =>
    obtain ⟨C, h1, h2⟩ := hv
    rw [glo_at X G hb] at h1
    cases h1
    exact h2
/-- what the whole program must have, beyond the looks: the readings of the bodies, the bindings of the parameters -/
structure PD.Reads (D : PD) : Prop where
  sc : ∀ e ∈ D.defs, FnScope e.fe.N e.fe.fi.ps e.d.scope
  code : ∀ e ∈ D.defs, cSs e.m ⟨e.fe.N, e.d.scope, fun _ => true, D.prg.gk, true, true⟩ e.d.body = some e.fe.code
  bd : ∀ e ∈ D.defs, ∀ (K : PySem.W.Frag) (mg : Str → Option Value) (w : World) (a : Addr) (fd : FuncData), FunD K e.d.name e.d.qual e.d.params e.d.body e.d.scope (e.d.dvs K) (e.d.kws K) a fd → ∀ j, j ≤ e.fe.fi.dfl.length →
    ∃ (dvs : List V) (ds : List Value), Binds K fd e.fe.fi.ps ds ∧ Vals dvs ds ∧ ∀ H, DRels ⟨K, mg, w⟩ H (e.fe.fi.dfl.drop (e.fe.fi.dfl.length - j)) dvs
theorem prg_ok (R : D.Reads) (X : K.In h) (G : h.Ns mainGlobals mg) (hb : D.ok P K = true) (hf : D.defs.map (fun e => fnA K (foK K e.key)) = D.defs.map fun e => e.d.val) (hx : D.exs.map (fun e => fnA2 K (He.ma K (He.ga K e.cn) "__init__")) = D.exs.map ExD.val) : PrgOk P w K mg D.prg (foK K) := by
  obtain ⟨h0, hb⟩ := ands hb
  obtain ⟨h1, hb⟩ := ands hb
  obtain ⟨h2, hb⟩ := ands hb
  obtain ⟨h3, hb⟩ := ands hb
  obtain ⟨h4, hb⟩ := ands hb
  obtain ⟨h5, h6⟩ := ands hb
  have cls : ∀ c ce, D.prg.tb c = some ce → mg c = some (.ref (He.ga K c)) ∧ ClsOk K (foK K) c ce (He.ga K c) ∧ headMe K (He.ga K c) = true ∧ (∀ m ∈ ce.meths, PySem.W.fnIn K (foK K (c, some m)) = true) ∧ opsB D K c ce = true := fun c ce hc => by
    obtain ⟨q1, q2⟩ := ands (List.all_eq_true.mp h2 (c, ce) (lookup_mem hc))
    obtain ⟨a, b, d, e⟩ := clsB_ok X G q1
    exact ⟨a, b, d, e, q2⟩
  refine ⟨fun key f hk => ?_, fun Y e1 e2 e3 e4 M hM x g hg => ?_, sysB_ok h0, fun Y e1 e2 e3 e4 => ?_⟩
  · obtain ⟨e, he, ef⟩ := Option.map_eq_some_iff.mp hk
    have he : D.defs.find? (fun e => decide (e.key = key)) = some e := he
    have hm := List.mem_of_find?_eq_some he
    have ek : e.key = key := of_decide_eq_true (List.find?_some (p := fun e : DefE => decide (e.key = key)) he)
    subst ef ek
    have e9 : fnA K (foK K e.key) = e.d.val := by
      obtain ⟨i, hi⟩ := List.getElem?_of_mem hm
      have z := congrArg (fun l : List He.FnW => l[i]?) hf
      simp only [List.getElem?_map, hi] at z
      exact Option.some.inj z
    obtain ⟨fd, FD⟩ := funA e9 (List.all_eq_true.mp h6 e hm)
    exact ⟨fd, ⟨⟨_, _, _, _, _, _, _, e.m, FD, R.sc e hm, R.code e hm⟩, R.bd e hm K mg w _ fd FD⟩⟩
  · have q := List.all_eq_true.mp h1 (x, g) (lookup_mem hg)
    subst e3 e4
    cases g with
    | fn =>
      obtain ⟨a, b⟩ := ands q
      exact ⟨PySem.W.mg_of X G (of_decide_eq_true a), b⟩
    | cls =>
      obtain ⟨a, b⟩ := ands q
      exact ⟨_, glo_at X G a, b⟩
    | exc f =>
      obtain ⟨a, b⟩ := ands q
      refine ⟨_, glo_at X G a, fun hne => ?_⟩
      rw [hM]
      simp only [Bool.or_eq_true, decide_eq_true_eq] at b
      exact b.resolve_left hne
    | blt => exact PySem.W.mg_none_of X G (of_decide_eq_true q)
    | val d =>
      have q : valB Y.K x d = true := q
      cases d with
      | int i =>
        simp only [valB] at q
        split at q
        · rename_i j t e
          have ej := of_decide_eq_true q
          subst ej
          exact ⟨.int j, _, PySem.W.mg_of X G e, ⟨t, rfl⟩, fun H => by simp [DRel]⟩
        · cases q
      | str y =>
        simp only [valB] at q
        split at q
        · rename_i z t e
          have ej := of_decide_eq_true q
          subst ej
          exact ⟨.str z, _, PySem.W.mg_of X G e, ⟨t, rfl⟩, fun H => by simp [DRel]⟩
        · cases q
      | _ => cases q
  · subst e1 e3 e4
    refine ⟨fun c ce hc => ⟨_, (cls c ce hc).1, (cls c ce hc).2.1⟩, ⟨fun c ce C t tv hc hC ht hv => ?_, fun c ce C hc hC => ?_, fun c ce hc m hm => (cls c ce hc).2.2.2.1 m hm, fun c ce C hc hC hm => ?_⟩, fun t c b hb tv cv h7 h8 => ?_, fun cn f hf' => ?_, fun c c' b hb C C' h7 h8 => ?_⟩
    · obtain ⟨k1, _, _, _, k5⟩ := cls c ce hc
      rw [k1] at hC
      cases hC
      obtain ⟨k6, _⟩ := ands k5
      have mem : t ∈ baseTys ++ D.tb.map fun p => TyC.c p.1 := by
        cases t with
        | b n =>
          refine List.mem_append_left _ ?_
          simpa [okT, baseTys] using ht
        | c x =>
          refine List.mem_append_right _ ?_
          obtain ⟨ce', hce⟩ := Option.isSome_iff_exists.mp (show (D.prg.tb x).isSome = true from ht)
          exact List.mem_map.mpr ⟨(x, ce'), lookup_mem hce, rfl⟩
      have et : tv = tyA Y.K t := by
        cases t with
        | b n => exact hv
        | c x =>
          obtain ⟨C, g1, g2⟩ := hv
          obtain ⟨ce', hce⟩ := Option.isSome_iff_exists.mp (show (D.prg.tb x).isSome = true from ht)
          rw [(cls x ce' hce).1] at g1
          cases g1
          exact g2
      rw [et]
      exact List.all_eq_true.mp k6 t mem
    · obtain ⟨k1, _, k3, _⟩ := cls c ce hc
      rw [k1] at hC
      cases hC
      exact k3
    · obtain ⟨k1, _, _, _, k5⟩ := cls c ce hc
      rw [k1] at hC
      cases hC
      obtain ⟨_, k6⟩ := ands k5
      have hm' : ce.meths.contains ("__eq__" : Str) = true := by simpa using hm
      rw [hm'] at k6
      exact of_decide_eq_true (show eqOO _ _ = true from k6)
    · obtain ⟨k1, k2⟩ := ands (List.all_eq_true.mp h4 ((t, c), b) (lookup_mem hb))
      obtain ⟨k2, k3⟩ := ands k2
      rw [ty_at X G k1 h7, ty_at X G k2 h8]
      exact of_decide_eq_true k3
    · obtain ⟨e, he, ef⟩ := Option.map_eq_some_iff.mp hf'
      have hm := List.mem_of_find?_eq_some he
      have ek : e.cn = cn := of_decide_eq_true (List.find?_some (p := fun e : ExD => decide (e.cn = cn)) he)
      subst ef ek
      have e9 : fnA2 Y.K (He.ma Y.K (He.ga Y.K e.cn) "__init__") = e.val := by
        obtain ⟨i, hi⟩ := List.getElem?_of_mem hm
        have z := congrArg (fun l : List FnW2 => l[i]?) hx
        simp only [List.getElem?_map, hi] at z
        exact Option.some.inj z
      exact ⟨_, _, exB_ok X G (List.all_eq_true.mp h3 e hm) e9⟩
    · obtain ⟨k1, k2⟩ := ands (List.all_eq_true.mp h5 ((c, c'), b) (lookup_mem hb))
      obtain ⟨k2, k3⟩ := ands k2
      rw [glo_at X G k1] at h7
      rw [glo_at X G k2] at h8
      cases h7
      cases h8
      exact of_decide_eq_true k3
end
end DL

set_option Elab.async false
set_option linter.all false
set_option maxRecDepth 100000
set_option maxHeartbeats 4000000
namespace DL
open PySem PySem.Spec PyProof.Rows L2

abbrev Obs : Type := Bool × List He.FnW × List FnW2
def PD.obs (D : PD) (P : Program) (K : PySem.W.Frag) : Obs := (D.ok P K, D.defs.map fun e => fnA K (foK K e.key), D.exs.map fun e => fnA2 K (He.ma K (He.ga K e.cn) "__init__"))
def PD.want (D : PD) : Obs := (true, D.defs.map fun e => e.d.val, D.exs.map ExD.val)
/-- the part of the heap that is looked at -/
def fragOf (n : Nat) (g : Addr → Option Obj) : PySem.W.Frag := He.frG g (sysModules :: cStatics :: He.asD g n)
def PD.obsG (D : PD) (P : Program) (n : Nat) (g : Addr → Option Obj) : Obs := D.obs P (fragOf n g)
def PD.hook (D : PD) (P : Program) (n : Nat) : PySem.W.Hook where
  α := Obs
  obs := fun s => D.obsG P n s.heap.get?
  val := fun _ => D.want
  says := fun _ h => ∃ K : PySem.W.Frag, K.In h ∧ D.obs P K = D.want
  of := fun _ _ e => ⟨_, He.frG_in, e⟩
  keeps := fun _ _ _ ⟨K, hK, c⟩ k => ⟨K, PySem.W.Frag.In.keeps hK k, c⟩
def PD.ob (D : PD) (P : Program) (n : Nat) (s : PySem.W.SharedT) : Obs := D.obsG P n (HandSHeadRun.getT s)
theorem ob_eq {D : PD} {P : Program} {n : Nat} (s : PySem.W.SharedT) : D.ob P n s = (D.hook P n).obs s.abs := by
  have e : HandSHeadRun.getT s = s.abs.heap.get? := funext (HandSHeadRun.getT_eq s)
  unfold PD.ob
  rw [e]
  rfl
/-- a law over a program as printed -/
theorem walk_D {l : PySem.W.OpenLaw} {n m i : Nat} {q : Program} {loose : List Str} {XP : (Str → Option Value) → Heap → Prop} {d : DefRec} {x : Str} {D : PD} {e : DefE}
    (hn : l.most = some n) (hn2 : n ≤ sizeLine) (hdf : d.params.defaults = []) (hr : RoomG (4 * m) callerA) (R : D.Reads) (hL : D.feOf (d.name, none) = some e) (hg : D.gk.lookup d.name = some .fn) (hps : e.fe.fi.ps = [x]) (hdl : e.fe.fi.dfl = [])
    (hb : ∀ (K : PySem.W.Frag) (a : Addr) (fd : FuncData), FunD K e.d.name e.d.qual e.d.params e.d.body e.d.scope (e.d.dvs K) (e.d.kws K) a fd → ∀ (s : Shared) (u : Value), BindsTo s fd ⟨[u], []⟩ [(x, u)])
    (A : ∀ ns : List Int, ns.length ≤ n → (∀ k ∈ ns, Builtin.Int.intBits k ≤ 1048576) → mCall D.prg m (d.name, none) [.rol (ns.map DL.D.int)] (fun _ => none) (fun d _ => d = .bl true) (fun _ _ _ => False)) :
    PySem.W.WalkO q loose XP (D.hook l.prog i).says l.row.toRowW d [] (fun f vs => PySem.call f vs) := by
  refine walk_G (G := D.prg) (fL := e.fe) hn hn2 hdf hr (by show (D.feOf _).map _ = _; rw [hL]; rfl) hps (fun w mg fa h Y G hfa => ?_) A
  obtain ⟨K, KX, c⟩ := Y
  have c1 : D.ok l.prog K = true := congrArg (fun z : Obs => z.1) c
  have c2 : D.defs.map (fun e => fnA K (foK K e.key)) = D.defs.map fun e => e.d.val := congrArg (fun z : Obs => z.2.1) c
  have c3 : D.exs.map (fun e => fnA2 K (He.ma K (He.ga K e.cn) "__init__")) = D.exs.map ExD.val := congrArg (fun z : Obs => z.2.2) c
  have PO : PrgOk l.prog w K mg D.prg (foK K) := prg_ok R KX G c1 c2 c3
  have hm := List.mem_of_find?_eq_some (show D.defs.find? (fun e => decide (e.key = (d.name, none))) = some e from hL)
  have ek : e.key = (d.name, none) := of_decide_eq_true (List.find?_some (p := fun e : DefE => decide (e.key = (d.name, none))) hL)
  have e9 : fnA K (foK K e.key) = e.d.val := by
    obtain ⟨i, hi⟩ := List.getElem?_of_mem hm
    have z := congrArg (fun l : List He.FnW => l[i]?) c2
    simp only [List.getElem?_map, hi] at z
    exact Option.some.inj z
  obtain ⟨_, h⟩ := ands c1
  obtain ⟨h1, h⟩ := ands h
  obtain ⟨h2, h⟩ := ands h
  obtain ⟨h3, h⟩ := ands h
  obtain ⟨h4, h⟩ := ands h
  obtain ⟨h5, h6⟩ := ands h
  obtain ⟨fd, FD⟩ := funA e9 (List.all_eq_true.mp h6 e hm)
  obtain ⟨k1, _⟩ := ands (List.all_eq_true.mp h1 (d.name, .fn) (lookup_mem hg))
  have ea : mg d.name = some (.ref (foK K (d.name, none))) := PySem.W.mg_of KX G (of_decide_eq_true k1)
  rw [hfa] at ea
  cases ea
  rw [ek] at FD
  exact ⟨K, foK K, fd, KX, rfl, PO, ⟨⟨_, _, _, _, _, _, _, e.m, FD, R.sc e hm, R.code e hm⟩, R.bd e hm K mg w _ fd FD⟩, hb K _ fd FD⟩
end DL

set_option Elab.async false
set_option linter.all false
set_option maxRecDepth 100000
set_option maxHeartbeats 4000000
namespace DL
open PySem PySem.Spec PyProof.Rows L2

/-- the statement at i, or at j within the class at i -/
def stAt (P : Program) (i : Nat) : Option Nat → Option Stmt
  | none => P.main.body[i]?
  | some j => match P.main.body[i]? with
    | some (.ClassDef _ _ _ bs _ _ _ _ _ _ _) => bs[j]?
    | _ => none
def dAt (P : Program) (i : Nat) (j : Option Nat) (key : Key) (qual : Str) : He.DefD := match stAt P i j with
  | some (.FunctionDef n a b _ _ _ sc _ _ _) => ⟨key, n, qual, a, b, sc, [], []⟩
  | _ => ⟨key, qual, qual, ⟨[], [], none, [], [], none, []⟩, [], ⟨.module, [], false, false, []⟩, [], []⟩
/-- an own error's places -/
def exPl (P : Program) (i j : Nat) : List Pos := match stAt P i (some j) with
  | some (.FunctionDef _ a b _ _ _ _ _ _ _) => (a.args.map (·.pos)) ++ (match b with
    | [.Expr (.Call (.Attribute (.Call (.Name _ p1) _ _ p2) _ p3) [.Constant _ _ p4] _ p5) p6, .Assign [.Attribute (.Name _ q1) _ q2] (.Name _ q3) q4] => [p1, p2, p3, p4, p5, p6, q1, q2, q3, q4]
    | _ => [])
  | _ => []
/-- no defaults -/
theorem bd0 {e : DefE} (h0 : e.fe.fi.dfl = []) (hd : e.d.dfl = []) (hb : ∀ (kV doc pm : Value) (an : Option Addr) (cdv ct : Value) (us : List Value), us.length = e.fe.fi.ps.length → bindArgs (PySem.W.fnOf e.d.name e.d.qual e.d.params e.d.body e.d.scope .none kV doc pm an cdv ct) { pos := us } = pure (e.fe.fi.ps.zip us)) :
    ∀ (K : PySem.W.Frag) (mg : Str → Option Value) (w : World) (a : Addr) (fd : FuncData), FunD K e.d.name e.d.qual e.d.params e.d.body e.d.scope (e.d.dvs K) (e.d.kws K) a fd → ∀ j, j ≤ e.fe.fi.dfl.length →
    ∃ (dvs : List V) (ds : List Value), Binds K fd e.fe.fi.ps ds ∧ Vals dvs ds ∧ ∀ H, DRels ⟨K, mg, w⟩ H (e.fe.fi.dfl.drop (e.fe.fi.dfl.length - j)) dvs := by
  intro K mg w a fd F j hj
  have e0 : e.d.dvs K = [] := by
    unfold He.DefD.dvs
    rw [hd]
    rfl
  rw [e0] at F
  refine ⟨[], [], F.bindsN fun kV doc pm an cdv ct us hl => hb kV doc pm an cdv ct us hl, .nil, fun H => ?_⟩
  rw [h0, List.drop_nil]
  exact .nil
theorem hb0 {e : DefE} {x : Str} (hps : e.fe.fi.ps = [x]) (hd : e.d.dfl = []) (hb : ∀ (kV doc pm : Value) (an : Option Addr) (cdv ct : Value) (us : List Value), us.length = e.fe.fi.ps.length → bindArgs (PySem.W.fnOf e.d.name e.d.qual e.d.params e.d.body e.d.scope .none kV doc pm an cdv ct) { pos := us } = pure (e.fe.fi.ps.zip us)) :
    ∀ (K : PySem.W.Frag) (a : Addr) (fd : FuncData), FunD K e.d.name e.d.qual e.d.params e.d.body e.d.scope (e.d.dvs K) (e.d.kws K) a fd → ∀ (s : Shared) (u : Value), BindsTo s fd ⟨[u], []⟩ [(x, u)] := by
  intro K a fd F s u
  have e0 : e.d.dvs K = [] := by
    unfold He.DefD.dvs
    rw [hd]
    rfl
  rw [e0] at F
  have b := F.bindsA (ps := [x]) (fun kV doc pm an cdv ct us hl => by
    have z := hb kV doc pm an cdv ct us (by rw [hps]; exact hl)
    rw [hps] at z
    exact z)
  exact b s [u] rfl
end DL

set_option Elab.async false
set_option linter.all false
set_option maxRecDepth 100000
set_option maxHeartbeats 4000000
namespace DL
open PySem PySem.Spec PyProof.Rows L2
def isX : SO → Bool
  | .exd _ => true
  | _ => false
/-- what stood still stands (caught errors' fields left out) -/
def Le (S S' : Sto) : Prop := ∀ a o, isX o = false → S a = some o → S' a = some o
/-- .. but for one place -/
def LeX (p : Addr) (S S' : Sto) : Prop := ∀ a o, a ≠ p → isX o = false → S a = some o → S' a = some o
theorem Le.refl {S : Sto} : Le S S := fun _ _ _ h => h
theorem Le.trans {S S' S'' : Sto} (a : Le S S') (b : Le S' S'') : Le S S'' := fun x o i h => b x o i (a x o i h)
theorem Le.new {S : Sto} {p : Addr} {o : SO} (h : S p = none) : Le S (sup S p o) := fun a x _ e => by
  have : a ≠ p := by rintro rfl; rw [h] at e; cases e
  rw [sup_ne this]; exact e
theorem Le.new' {S T : Sto} {p : Addr} {o : SO} (l : Le S T) (h : T p = none) : Le S (sup T p o) := l.trans (.new h)
theorem Le.x {S S' : Sto} {p : Addr} (l : Le S S') : LeX p S S' := fun a o _ i h => l a o i h
theorem LeX.refl {S : Sto} {p : Addr} : LeX p S S := fun _ _ _ _ h => h
theorem LeX.trans {S S' S'' : Sto} {p : Addr} (a : LeX p S S') (b : LeX p S' S'') : LeX p S S'' := fun x o n i h => b x o n i (a x o n i h)
theorem LeX.mut {S : Sto} {p : Addr} {o : SO} : LeX p S (sup S p o) := fun a x n _ e => by rw [sup_ne n]; exact e
theorem Le.caught {S : Sto} {d : Option Addr} {fs : List (Str × D)} (h : ∀ dd, d = some dd → ∀ o, S dd = some o → ∃ fs', o = .exd fs') : Le S (caught S d fs) := fun a o i e => by
  cases d with
  | none => exact e
  | some dd =>
    have : a ≠ dd := by
      rintro rfl
      obtain ⟨fs', q⟩ := h a rfl o e
      subst q
      cases i
    show sup S dd _ a = _
    rw [sup_ne this]; exact e
theorem ne_new {S : Sto} {a p : Addr} {o : SO} (h : S p = none) (g : S a = some o) : a ≠ p := by rintro rfl; rw [h] at g; cases g
theorem ne_new' {S : Sto} {a p : Addr} {o : SO} (h : S p = none) (g : S a = some o) : p ≠ a := by rintro rfl; rw [h] at g; cases g
theorem look_old {S : Sto} {p a : Addr} {x o : SO} (h : S p = none) (g : S a = some o) : sup S p x a = some o := by rw [sup_ne (ne_new h g)]; exact g
theorem look_ne {S : Sto} {p a : Addr} {x o : SO} (h : a ≠ p) (g : S a = some o) : sup S p x a = some o := by rw [sup_ne h]; exact g
theorem look_le {S S' : Sto} {a : Addr} {o : SO} (l : Le S S') (i : isX o = false) (g : S a = some o) : S' a = some o := l a o i g
theorem look_lx {S S' : Sto} {a p : Addr} {o : SO} (l : LeX p S S') (n : a ≠ p) (i : isX o = false) (g : S a = some o) : S' a = some o := l a o n i g
theorem sup_sup {S : Sto} {p : Addr} {x y : SO} : sup (sup S p x) p y = sup S p y := by
  funext b; unfold sup; split <;> rfl
theorem le_mut {S T : Sto} {p : Addr} {x y : SO} (h : S p = none) (l : Le (sup S p x) T) : Le S (sup T p y) := fun a o i e => look_ne (ne_new h e) (l a o i (look_old h e))
theorem LeX.le {S T : Sto} {p : Addr} (h : S p = none) (l : LeX p S T) : Le S T := fun a o i e => l a o (ne_new h e) i e
theorem len_ok {n : Nat} (h : n ≤ 16777216) : n ≤ sizeLine := h
theorem ite_t {P Q : Prop} (h : P) : if true = true then P else Q := h
theorem ite_f {P Q : Prop} (h : Q) : if false = true then P else Q := h
theorem ite_ct {c : Bool} {P Q : Prop} (e : c = true) (h : P) : if c = true then P else Q := by subst e; exact h
theorem ite_cf {c : Bool} {P Q : Prop} (e : c = false) (h : Q) : if c = true then P else Q := by subst e; exact h
theorem ite_any {c : Bool} {P Q : Prop} (h1 : c = true → P) (h2 : c = false → Q) : if c = true then P else Q := by
  cases c
  · exact h2 rfl
  · exact h1 rfl
theorem ite_pt {p : Prop} [Decidable p] {P Q : Prop} (e : p) (h : P) : if decide p = true then P else Q := by simp [e, h]
theorem ite_pf {p : Prop} [Decidable p] {P Q : Prop} (e : ¬p) (h : Q) : if decide p = true then P else Q := by simp [e, h]
theorem ite_p {p : Prop} [Decidable p] {P Q : Prop} (h1 : p → P) (h2 : ¬p → Q) : if decide p = true then P else Q := by
  by_cases e : p
  · simp [e, h1 e]
  · simp [e, h2 e]
theorem ite_npt {p : Prop} [Decidable p] {P Q : Prop} (e : p) (h : Q) : if (!decide p) = true then P else Q := by simp [e, h]
theorem ite_npf {p : Prop} [Decidable p] {P Q : Prop} (e : ¬p) (h : P) : if (!decide p) = true then P else Q := by simp [e, h]
theorem ite_np {p : Prop} [Decidable p] {P Q : Prop} (h1 : ¬p → P) (h2 : p → Q) : if (!decide p) = true then P else Q := by
  by_cases e : p
  · simp [e, h2 e]
  · simp [e, h1 e]
theorem kb_bl {K : Bool → Sto → Prop} {b : Bool} {S : Sto} (h : K b S) : kB K (.bl b) S := ⟨b, rfl, h⟩
theorem nk_bl {K : DK} {b : Bool} {S : Sto} (h : K (.bl (!b)) S) : notK K (.bl b) S := ⟨b, rfl, h⟩
theorem bk_bl {K : DK} {b : Bool} {S : Sto} (h : K (.bl b) S) : blK K (.bl b) S := ⟨b, rfl, h⟩
section
variable {M : Env1} {cu : Option Cur} {σ : DSt} {S : Sto} {K : DK} {E : DX} {KT : Bool → Sto → Prop} {KA : List D → Sto → Prop} {nx bk ct : DSt → Sto → Prop} {rt : DK} {ex : DXs}

theorem v0 {d : D} {r : DSt} (k : K d S) : mE M cu (.var 0) (some d :: r) S K E := ⟨d, rfl, k⟩
theorem v1 {a0 : Option D} {d : D} {r : DSt} (k : K d S) : mE M cu (.var 1) (a0 :: some d :: r) S K E := ⟨d, rfl, k⟩
theorem v2 {a0 a1 : Option D} {d : D} {r : DSt} (k : K d S) : mE M cu (.var 2) (a0 :: a1 :: some d :: r) S K E := ⟨d, rfl, k⟩
theorem v3 {a0 a1 a2 : Option D} {d : D} {r : DSt} (k : K d S) : mE M cu (.var 3) (a0 :: a1 :: a2 :: some d :: r) S K E := ⟨d, rfl, k⟩
theorem v4 {a0 a1 a2 a3 : Option D} {d : D} {r : DSt} (k : K d S) : mE M cu (.var 4) (a0 :: a1 :: a2 :: a3 :: some d :: r) S K E := ⟨d, rfl, k⟩
theorem v5 {a0 a1 a2 a3 a4 : Option D} {d : D} {r : DSt} (k : K d S) : mE M cu (.var 5) (a0 :: a1 :: a2 :: a3 :: a4 :: some d :: r) S K E := ⟨d, rfl, k⟩
theorem v6 {a0 a1 a2 a3 a4 a5 : Option D} {d : D} {r : DSt} (k : K d S) : mE M cu (.var 6) (a0 :: a1 :: a2 :: a3 :: a4 :: a5 :: some d :: r) S K E := ⟨d, rfl, k⟩
theorem v7 {a0 a1 a2 a3 a4 a5 a6 : Option D} {d : D} {r : DSt} (k : K d S) : mE M cu (.var 7) (a0 :: a1 :: a2 :: a3 :: a4 :: a5 :: a6 :: some d :: r) S K E := ⟨d, rfl, k⟩
theorem v8 {a0 a1 a2 a3 a4 a5 a6 a7 : Option D} {d : D} {r : DSt} (k : K d S) : mE M cu (.var 8) (a0 :: a1 :: a2 :: a3 :: a4 :: a5 :: a6 :: a7 :: some d :: r) S K E := ⟨d, rfl, k⟩
theorem v9 {a0 a1 a2 a3 a4 a5 a6 a7 a8 : Option D} {d : D} {r : DSt} (k : K d S) : mE M cu (.var 9) (a0 :: a1 :: a2 :: a3 :: a4 :: a5 :: a6 :: a7 :: a8 :: some d :: r) S K E := ⟨d, rfl, k⟩
theorem v10 {a0 a1 a2 a3 a4 a5 a6 a7 a8 a9 : Option D} {d : D} {r : DSt} (k : K d S) : mE M cu (.var 10) (a0 :: a1 :: a2 :: a3 :: a4 :: a5 :: a6 :: a7 :: a8 :: a9 :: some d :: r) S K E := ⟨d, rfl, k⟩
theorem v11 {a0 a1 a2 a3 a4 a5 a6 a7 a8 a9 a10 : Option D} {d : D} {r : DSt} (k : K d S) : mE M cu (.var 11) (a0 :: a1 :: a2 :: a3 :: a4 :: a5 :: a6 :: a7 :: a8 :: a9 :: a10 :: some d :: r) S K E := ⟨d, rfl, k⟩
theorem v12 {a0 a1 a2 a3 a4 a5 a6 a7 a8 a9 a10 a11 : Option D} {d : D} {r : DSt} (k : K d S) : mE M cu (.var 12) (a0 :: a1 :: a2 :: a3 :: a4 :: a5 :: a6 :: a7 :: a8 :: a9 :: a10 :: a11 :: some d :: r) S K E := ⟨d, rfl, k⟩
theorem v13 {a0 a1 a2 a3 a4 a5 a6 a7 a8 a9 a10 a11 a12 : Option D} {d : D} {r : DSt} (k : K d S) : mE M cu (.var 13) (a0 :: a1 :: a2 :: a3 :: a4 :: a5 :: a6 :: a7 :: a8 :: a9 :: a10 :: a11 :: a12 :: some d :: r) S K E := ⟨d, rfl, k⟩
theorem v14 {a0 a1 a2 a3 a4 a5 a6 a7 a8 a9 a10 a11 a12 a13 : Option D} {d : D} {r : DSt} (k : K d S) : mE M cu (.var 14) (a0 :: a1 :: a2 :: a3 :: a4 :: a5 :: a6 :: a7 :: a8 :: a9 :: a10 :: a11 :: a12 :: a13 :: some d :: r) S K E := ⟨d, rfl, k⟩
theorem v15 {a0 a1 a2 a3 a4 a5 a6 a7 a8 a9 a10 a11 a12 a13 a14 : Option D} {d : D} {r : DSt} (k : K d S) : mE M cu (.var 15) (a0 :: a1 :: a2 :: a3 :: a4 :: a5 :: a6 :: a7 :: a8 :: a9 :: a10 :: a11 :: a12 :: a13 :: a14 :: some d :: r) S K E := ⟨d, rfl, k⟩
theorem v16 {a0 a1 a2 a3 a4 a5 a6 a7 a8 a9 a10 a11 a12 a13 a14 a15 : Option D} {d : D} {r : DSt} (k : K d S) : mE M cu (.var 16) (a0 :: a1 :: a2 :: a3 :: a4 :: a5 :: a6 :: a7 :: a8 :: a9 :: a10 :: a11 :: a12 :: a13 :: a14 :: a15 :: some d :: r) S K E := ⟨d, rfl, k⟩
theorem v17 {a0 a1 a2 a3 a4 a5 a6 a7 a8 a9 a10 a11 a12 a13 a14 a15 a16 : Option D} {d : D} {r : DSt} (k : K d S) : mE M cu (.var 17) (a0 :: a1 :: a2 :: a3 :: a4 :: a5 :: a6 :: a7 :: a8 :: a9 :: a10 :: a11 :: a12 :: a13 :: a14 :: a15 :: a16 :: some d :: r) S K E := ⟨d, rfl, k⟩
theorem v18 {a0 a1 a2 a3 a4 a5 a6 a7 a8 a9 a10 a11 a12 a13 a14 a15 a16 a17 : Option D} {d : D} {r : DSt} (k : K d S) : mE M cu (.var 18) (a0 :: a1 :: a2 :: a3 :: a4 :: a5 :: a6 :: a7 :: a8 :: a9 :: a10 :: a11 :: a12 :: a13 :: a14 :: a15 :: a16 :: a17 :: some d :: r) S K E := ⟨d, rfl, k⟩
theorem v19 {a0 a1 a2 a3 a4 a5 a6 a7 a8 a9 a10 a11 a12 a13 a14 a15 a16 a17 a18 : Option D} {d : D} {r : DSt} (k : K d S) : mE M cu (.var 19) (a0 :: a1 :: a2 :: a3 :: a4 :: a5 :: a6 :: a7 :: a8 :: a9 :: a10 :: a11 :: a12 :: a13 :: a14 :: a15 :: a16 :: a17 :: a18 :: some d :: r) S K E := ⟨d, rfl, k⟩
theorem v20 {a0 a1 a2 a3 a4 a5 a6 a7 a8 a9 a10 a11 a12 a13 a14 a15 a16 a17 a18 a19 : Option D} {d : D} {r : DSt} (k : K d S) : mE M cu (.var 20) (a0 :: a1 :: a2 :: a3 :: a4 :: a5 :: a6 :: a7 :: a8 :: a9 :: a10 :: a11 :: a12 :: a13 :: a14 :: a15 :: a16 :: a17 :: a18 :: a19 :: some d :: r) S K E := ⟨d, rfl, k⟩
theorem v21 {a0 a1 a2 a3 a4 a5 a6 a7 a8 a9 a10 a11 a12 a13 a14 a15 a16 a17 a18 a19 a20 : Option D} {d : D} {r : DSt} (k : K d S) : mE M cu (.var 21) (a0 :: a1 :: a2 :: a3 :: a4 :: a5 :: a6 :: a7 :: a8 :: a9 :: a10 :: a11 :: a12 :: a13 :: a14 :: a15 :: a16 :: a17 :: a18 :: a19 :: a20 :: some d :: r) S K E := ⟨d, rfl, k⟩
theorem v22 {a0 a1 a2 a3 a4 a5 a6 a7 a8 a9 a10 a11 a12 a13 a14 a15 a16 a17 a18 a19 a20 a21 : Option D} {d : D} {r : DSt} (k : K d S) : mE M cu (.var 22) (a0 :: a1 :: a2 :: a3 :: a4 :: a5 :: a6 :: a7 :: a8 :: a9 :: a10 :: a11 :: a12 :: a13 :: a14 :: a15 :: a16 :: a17 :: a18 :: a19 :: a20 :: a21 :: some d :: r) S K E := ⟨d, rfl, k⟩
theorem v23 {a0 a1 a2 a3 a4 a5 a6 a7 a8 a9 a10 a11 a12 a13 a14 a15 a16 a17 a18 a19 a20 a21 a22 : Option D} {d : D} {r : DSt} (k : K d S) : mE M cu (.var 23) (a0 :: a1 :: a2 :: a3 :: a4 :: a5 :: a6 :: a7 :: a8 :: a9 :: a10 :: a11 :: a12 :: a13 :: a14 :: a15 :: a16 :: a17 :: a18 :: a19 :: a20 :: a21 :: a22 :: some d :: r) S K E := ⟨d, rfl, k⟩
theorem v24 {a0 a1 a2 a3 a4 a5 a6 a7 a8 a9 a10 a11 a12 a13 a14 a15 a16 a17 a18 a19 a20 a21 a22 a23 : Option D} {d : D} {r : DSt} (k : K d S) : mE M cu (.var 24) (a0 :: a1 :: a2 :: a3 :: a4 :: a5 :: a6 :: a7 :: a8 :: a9 :: a10 :: a11 :: a12 :: a13 :: a14 :: a15 :: a16 :: a17 :: a18 :: a19 :: a20 :: a21 :: a22 :: a23 :: some d :: r) S K E := ⟨d, rfl, k⟩
theorem v25 {a0 a1 a2 a3 a4 a5 a6 a7 a8 a9 a10 a11 a12 a13 a14 a15 a16 a17 a18 a19 a20 a21 a22 a23 a24 : Option D} {d : D} {r : DSt} (k : K d S) : mE M cu (.var 25) (a0 :: a1 :: a2 :: a3 :: a4 :: a5 :: a6 :: a7 :: a8 :: a9 :: a10 :: a11 :: a12 :: a13 :: a14 :: a15 :: a16 :: a17 :: a18 :: a19 :: a20 :: a21 :: a22 :: a23 :: a24 :: some d :: r) S K E := ⟨d, rfl, k⟩
theorem v26 {a0 a1 a2 a3 a4 a5 a6 a7 a8 a9 a10 a11 a12 a13 a14 a15 a16 a17 a18 a19 a20 a21 a22 a23 a24 a25 : Option D} {d : D} {r : DSt} (k : K d S) : mE M cu (.var 26) (a0 :: a1 :: a2 :: a3 :: a4 :: a5 :: a6 :: a7 :: a8 :: a9 :: a10 :: a11 :: a12 :: a13 :: a14 :: a15 :: a16 :: a17 :: a18 :: a19 :: a20 :: a21 :: a22 :: a23 :: a24 :: a25 :: some d :: r) S K E := ⟨d, rfl, k⟩
theorem v27 {a0 a1 a2 a3 a4 a5 a6 a7 a8 a9 a10 a11 a12 a13 a14 a15 a16 a17 a18 a19 a20 a21 a22 a23 a24 a25 a26 : Option D} {d : D} {r : DSt} (k : K d S) : mE M cu (.var 27) (a0 :: a1 :: a2 :: a3 :: a4 :: a5 :: a6 :: a7 :: a8 :: a9 :: a10 :: a11 :: a12 :: a13 :: a14 :: a15 :: a16 :: a17 :: a18 :: a19 :: a20 :: a21 :: a22 :: a23 :: a24 :: a25 :: a26 :: some d :: r) S K E := ⟨d, rfl, k⟩
theorem v28 {a0 a1 a2 a3 a4 a5 a6 a7 a8 a9 a10 a11 a12 a13 a14 a15 a16 a17 a18 a19 a20 a21 a22 a23 a24 a25 a26 a27 : Option D} {d : D} {r : DSt} (k : K d S) : mE M cu (.var 28) (a0 :: a1 :: a2 :: a3 :: a4 :: a5 :: a6 :: a7 :: a8 :: a9 :: a10 :: a11 :: a12 :: a13 :: a14 :: a15 :: a16 :: a17 :: a18 :: a19 :: a20 :: a21 :: a22 :: a23 :: a24 :: a25 :: a26 :: a27 :: some d :: r) S K E := ⟨d, rfl, k⟩
theorem v29 {a0 a1 a2 a3 a4 a5 a6 a7 a8 a9 a10 a11 a12 a13 a14 a15 a16 a17 a18 a19 a20 a21 a22 a23 a24 a25 a26 a27 a28 : Option D} {d : D} {r : DSt} (k : K d S) : mE M cu (.var 29) (a0 :: a1 :: a2 :: a3 :: a4 :: a5 :: a6 :: a7 :: a8 :: a9 :: a10 :: a11 :: a12 :: a13 :: a14 :: a15 :: a16 :: a17 :: a18 :: a19 :: a20 :: a21 :: a22 :: a23 :: a24 :: a25 :: a26 :: a27 :: a28 :: some d :: r) S K E := ⟨d, rfl, k⟩
theorem v30 {a0 a1 a2 a3 a4 a5 a6 a7 a8 a9 a10 a11 a12 a13 a14 a15 a16 a17 a18 a19 a20 a21 a22 a23 a24 a25 a26 a27 a28 a29 : Option D} {d : D} {r : DSt} (k : K d S) : mE M cu (.var 30) (a0 :: a1 :: a2 :: a3 :: a4 :: a5 :: a6 :: a7 :: a8 :: a9 :: a10 :: a11 :: a12 :: a13 :: a14 :: a15 :: a16 :: a17 :: a18 :: a19 :: a20 :: a21 :: a22 :: a23 :: a24 :: a25 :: a26 :: a27 :: a28 :: a29 :: some d :: r) S K E := ⟨d, rfl, k⟩
theorem v31 {a0 a1 a2 a3 a4 a5 a6 a7 a8 a9 a10 a11 a12 a13 a14 a15 a16 a17 a18 a19 a20 a21 a22 a23 a24 a25 a26 a27 a28 a29 a30 : Option D} {d : D} {r : DSt} (k : K d S) : mE M cu (.var 31) (a0 :: a1 :: a2 :: a3 :: a4 :: a5 :: a6 :: a7 :: a8 :: a9 :: a10 :: a11 :: a12 :: a13 :: a14 :: a15 :: a16 :: a17 :: a18 :: a19 :: a20 :: a21 :: a22 :: a23 :: a24 :: a25 :: a26 :: a27 :: a28 :: a29 :: a30 :: some d :: r) S K E := ⟨d, rfl, k⟩
theorem v32 {a0 a1 a2 a3 a4 a5 a6 a7 a8 a9 a10 a11 a12 a13 a14 a15 a16 a17 a18 a19 a20 a21 a22 a23 a24 a25 a26 a27 a28 a29 a30 a31 : Option D} {d : D} {r : DSt} (k : K d S) : mE M cu (.var 32) (a0 :: a1 :: a2 :: a3 :: a4 :: a5 :: a6 :: a7 :: a8 :: a9 :: a10 :: a11 :: a12 :: a13 :: a14 :: a15 :: a16 :: a17 :: a18 :: a19 :: a20 :: a21 :: a22 :: a23 :: a24 :: a25 :: a26 :: a27 :: a28 :: a29 :: a30 :: a31 :: some d :: r) S K E := ⟨d, rfl, k⟩
theorem v33 {a0 a1 a2 a3 a4 a5 a6 a7 a8 a9 a10 a11 a12 a13 a14 a15 a16 a17 a18 a19 a20 a21 a22 a23 a24 a25 a26 a27 a28 a29 a30 a31 a32 : Option D} {d : D} {r : DSt} (k : K d S) : mE M cu (.var 33) (a0 :: a1 :: a2 :: a3 :: a4 :: a5 :: a6 :: a7 :: a8 :: a9 :: a10 :: a11 :: a12 :: a13 :: a14 :: a15 :: a16 :: a17 :: a18 :: a19 :: a20 :: a21 :: a22 :: a23 :: a24 :: a25 :: a26 :: a27 :: a28 :: a29 :: a30 :: a31 :: a32 :: some d :: r) S K E := ⟨d, rfl, k⟩
theorem g0 {x : Option D} {d : D} {r : DSt} {P : DSt → Sto → Prop} {tb : Tb} (k : P (some d :: r) S) : mG tb (.nm 0) d (x :: r) S P := k
theorem g1 {a0 : Option D} {x : Option D} {d : D} {r : DSt} {P : DSt → Sto → Prop} {tb : Tb} (k : P (a0 :: some d :: r) S) : mG tb (.nm 1) d (a0 :: x :: r) S P := k
theorem g2 {a0 a1 : Option D} {x : Option D} {d : D} {r : DSt} {P : DSt → Sto → Prop} {tb : Tb} (k : P (a0 :: a1 :: some d :: r) S) : mG tb (.nm 2) d (a0 :: a1 :: x :: r) S P := k
theorem g3 {a0 a1 a2 : Option D} {x : Option D} {d : D} {r : DSt} {P : DSt → Sto → Prop} {tb : Tb} (k : P (a0 :: a1 :: a2 :: some d :: r) S) : mG tb (.nm 3) d (a0 :: a1 :: a2 :: x :: r) S P := k
theorem g4 {a0 a1 a2 a3 : Option D} {x : Option D} {d : D} {r : DSt} {P : DSt → Sto → Prop} {tb : Tb} (k : P (a0 :: a1 :: a2 :: a3 :: some d :: r) S) : mG tb (.nm 4) d (a0 :: a1 :: a2 :: a3 :: x :: r) S P := k
theorem g5 {a0 a1 a2 a3 a4 : Option D} {x : Option D} {d : D} {r : DSt} {P : DSt → Sto → Prop} {tb : Tb} (k : P (a0 :: a1 :: a2 :: a3 :: a4 :: some d :: r) S) : mG tb (.nm 5) d (a0 :: a1 :: a2 :: a3 :: a4 :: x :: r) S P := k
theorem g6 {a0 a1 a2 a3 a4 a5 : Option D} {x : Option D} {d : D} {r : DSt} {P : DSt → Sto → Prop} {tb : Tb} (k : P (a0 :: a1 :: a2 :: a3 :: a4 :: a5 :: some d :: r) S) : mG tb (.nm 6) d (a0 :: a1 :: a2 :: a3 :: a4 :: a5 :: x :: r) S P := k
theorem g7 {a0 a1 a2 a3 a4 a5 a6 : Option D} {x : Option D} {d : D} {r : DSt} {P : DSt → Sto → Prop} {tb : Tb} (k : P (a0 :: a1 :: a2 :: a3 :: a4 :: a5 :: a6 :: some d :: r) S) : mG tb (.nm 7) d (a0 :: a1 :: a2 :: a3 :: a4 :: a5 :: a6 :: x :: r) S P := k
theorem g8 {a0 a1 a2 a3 a4 a5 a6 a7 : Option D} {x : Option D} {d : D} {r : DSt} {P : DSt → Sto → Prop} {tb : Tb} (k : P (a0 :: a1 :: a2 :: a3 :: a4 :: a5 :: a6 :: a7 :: some d :: r) S) : mG tb (.nm 8) d (a0 :: a1 :: a2 :: a3 :: a4 :: a5 :: a6 :: a7 :: x :: r) S P := k
theorem g9 {a0 a1 a2 a3 a4 a5 a6 a7 a8 : Option D} {x : Option D} {d : D} {r : DSt} {P : DSt → Sto → Prop} {tb : Tb} (k : P (a0 :: a1 :: a2 :: a3 :: a4 :: a5 :: a6 :: a7 :: a8 :: some d :: r) S) : mG tb (.nm 9) d (a0 :: a1 :: a2 :: a3 :: a4 :: a5 :: a6 :: a7 :: a8 :: x :: r) S P := k
theorem g10 {a0 a1 a2 a3 a4 a5 a6 a7 a8 a9 : Option D} {x : Option D} {d : D} {r : DSt} {P : DSt → Sto → Prop} {tb : Tb} (k : P (a0 :: a1 :: a2 :: a3 :: a4 :: a5 :: a6 :: a7 :: a8 :: a9 :: some d :: r) S) : mG tb (.nm 10) d (a0 :: a1 :: a2 :: a3 :: a4 :: a5 :: a6 :: a7 :: a8 :: a9 :: x :: r) S P := k
theorem g11 {a0 a1 a2 a3 a4 a5 a6 a7 a8 a9 a10 : Option D} {x : Option D} {d : D} {r : DSt} {P : DSt → Sto → Prop} {tb : Tb} (k : P (a0 :: a1 :: a2 :: a3 :: a4 :: a5 :: a6 :: a7 :: a8 :: a9 :: a10 :: some d :: r) S) : mG tb (.nm 11) d (a0 :: a1 :: a2 :: a3 :: a4 :: a5 :: a6 :: a7 :: a8 :: a9 :: a10 :: x :: r) S P := k
theorem g12 {a0 a1 a2 a3 a4 a5 a6 a7 a8 a9 a10 a11 : Option D} {x : Option D} {d : D} {r : DSt} {P : DSt → Sto → Prop} {tb : Tb} (k : P (a0 :: a1 :: a2 :: a3 :: a4 :: a5 :: a6 :: a7 :: a8 :: a9 :: a10 :: a11 :: some d :: r) S) : mG tb (.nm 12) d (a0 :: a1 :: a2 :: a3 :: a4 :: a5 :: a6 :: a7 :: a8 :: a9 :: a10 :: a11 :: x :: r) S P := k
theorem g13 {a0 a1 a2 a3 a4 a5 a6 a7 a8 a9 a10 a11 a12 : Option D} {x : Option D} {d : D} {r : DSt} {P : DSt → Sto → Prop} {tb : Tb} (k : P (a0 :: a1 :: a2 :: a3 :: a4 :: a5 :: a6 :: a7 :: a8 :: a9 :: a10 :: a11 :: a12 :: some d :: r) S) : mG tb (.nm 13) d (a0 :: a1 :: a2 :: a3 :: a4 :: a5 :: a6 :: a7 :: a8 :: a9 :: a10 :: a11 :: a12 :: x :: r) S P := k
theorem g14 {a0 a1 a2 a3 a4 a5 a6 a7 a8 a9 a10 a11 a12 a13 : Option D} {x : Option D} {d : D} {r : DSt} {P : DSt → Sto → Prop} {tb : Tb} (k : P (a0 :: a1 :: a2 :: a3 :: a4 :: a5 :: a6 :: a7 :: a8 :: a9 :: a10 :: a11 :: a12 :: a13 :: some d :: r) S) : mG tb (.nm 14) d (a0 :: a1 :: a2 :: a3 :: a4 :: a5 :: a6 :: a7 :: a8 :: a9 :: a10 :: a11 :: a12 :: a13 :: x :: r) S P := k
theorem g15 {a0 a1 a2 a3 a4 a5 a6 a7 a8 a9 a10 a11 a12 a13 a14 : Option D} {x : Option D} {d : D} {r : DSt} {P : DSt → Sto → Prop} {tb : Tb} (k : P (a0 :: a1 :: a2 :: a3 :: a4 :: a5 :: a6 :: a7 :: a8 :: a9 :: a10 :: a11 :: a12 :: a13 :: a14 :: some d :: r) S) : mG tb (.nm 15) d (a0 :: a1 :: a2 :: a3 :: a4 :: a5 :: a6 :: a7 :: a8 :: a9 :: a10 :: a11 :: a12 :: a13 :: a14 :: x :: r) S P := k
theorem g16 {a0 a1 a2 a3 a4 a5 a6 a7 a8 a9 a10 a11 a12 a13 a14 a15 : Option D} {x : Option D} {d : D} {r : DSt} {P : DSt → Sto → Prop} {tb : Tb} (k : P (a0 :: a1 :: a2 :: a3 :: a4 :: a5 :: a6 :: a7 :: a8 :: a9 :: a10 :: a11 :: a12 :: a13 :: a14 :: a15 :: some d :: r) S) : mG tb (.nm 16) d (a0 :: a1 :: a2 :: a3 :: a4 :: a5 :: a6 :: a7 :: a8 :: a9 :: a10 :: a11 :: a12 :: a13 :: a14 :: a15 :: x :: r) S P := k
theorem g17 {a0 a1 a2 a3 a4 a5 a6 a7 a8 a9 a10 a11 a12 a13 a14 a15 a16 : Option D} {x : Option D} {d : D} {r : DSt} {P : DSt → Sto → Prop} {tb : Tb} (k : P (a0 :: a1 :: a2 :: a3 :: a4 :: a5 :: a6 :: a7 :: a8 :: a9 :: a10 :: a11 :: a12 :: a13 :: a14 :: a15 :: a16 :: some d :: r) S) : mG tb (.nm 17) d (a0 :: a1 :: a2 :: a3 :: a4 :: a5 :: a6 :: a7 :: a8 :: a9 :: a10 :: a11 :: a12 :: a13 :: a14 :: a15 :: a16 :: x :: r) S P := k
theorem g18 {a0 a1 a2 a3 a4 a5 a6 a7 a8 a9 a10 a11 a12 a13 a14 a15 a16 a17 : Option D} {x : Option D} {d : D} {r : DSt} {P : DSt → Sto → Prop} {tb : Tb} (k : P (a0 :: a1 :: a2 :: a3 :: a4 :: a5 :: a6 :: a7 :: a8 :: a9 :: a10 :: a11 :: a12 :: a13 :: a14 :: a15 :: a16 :: a17 :: some d :: r) S) : mG tb (.nm 18) d (a0 :: a1 :: a2 :: a3 :: a4 :: a5 :: a6 :: a7 :: a8 :: a9 :: a10 :: a11 :: a12 :: a13 :: a14 :: a15 :: a16 :: a17 :: x :: r) S P := k
theorem g19 {a0 a1 a2 a3 a4 a5 a6 a7 a8 a9 a10 a11 a12 a13 a14 a15 a16 a17 a18 : Option D} {x : Option D} {d : D} {r : DSt} {P : DSt → Sto → Prop} {tb : Tb} (k : P (a0 :: a1 :: a2 :: a3 :: a4 :: a5 :: a6 :: a7 :: a8 :: a9 :: a10 :: a11 :: a12 :: a13 :: a14 :: a15 :: a16 :: a17 :: a18 :: some d :: r) S) : mG tb (.nm 19) d (a0 :: a1 :: a2 :: a3 :: a4 :: a5 :: a6 :: a7 :: a8 :: a9 :: a10 :: a11 :: a12 :: a13 :: a14 :: a15 :: a16 :: a17 :: a18 :: x :: r) S P := k
theorem g20 {a0 a1 a2 a3 a4 a5 a6 a7 a8 a9 a10 a11 a12 a13 a14 a15 a16 a17 a18 a19 : Option D} {x : Option D} {d : D} {r : DSt} {P : DSt → Sto → Prop} {tb : Tb} (k : P (a0 :: a1 :: a2 :: a3 :: a4 :: a5 :: a6 :: a7 :: a8 :: a9 :: a10 :: a11 :: a12 :: a13 :: a14 :: a15 :: a16 :: a17 :: a18 :: a19 :: some d :: r) S) : mG tb (.nm 20) d (a0 :: a1 :: a2 :: a3 :: a4 :: a5 :: a6 :: a7 :: a8 :: a9 :: a10 :: a11 :: a12 :: a13 :: a14 :: a15 :: a16 :: a17 :: a18 :: a19 :: x :: r) S P := k
theorem g21 {a0 a1 a2 a3 a4 a5 a6 a7 a8 a9 a10 a11 a12 a13 a14 a15 a16 a17 a18 a19 a20 : Option D} {x : Option D} {d : D} {r : DSt} {P : DSt → Sto → Prop} {tb : Tb} (k : P (a0 :: a1 :: a2 :: a3 :: a4 :: a5 :: a6 :: a7 :: a8 :: a9 :: a10 :: a11 :: a12 :: a13 :: a14 :: a15 :: a16 :: a17 :: a18 :: a19 :: a20 :: some d :: r) S) : mG tb (.nm 21) d (a0 :: a1 :: a2 :: a3 :: a4 :: a5 :: a6 :: a7 :: a8 :: a9 :: a10 :: a11 :: a12 :: a13 :: a14 :: a15 :: a16 :: a17 :: a18 :: a19 :: a20 :: x :: r) S P := k
theorem g22 {a0 a1 a2 a3 a4 a5 a6 a7 a8 a9 a10 a11 a12 a13 a14 a15 a16 a17 a18 a19 a20 a21 : Option D} {x : Option D} {d : D} {r : DSt} {P : DSt → Sto → Prop} {tb : Tb} (k : P (a0 :: a1 :: a2 :: a3 :: a4 :: a5 :: a6 :: a7 :: a8 :: a9 :: a10 :: a11 :: a12 :: a13 :: a14 :: a15 :: a16 :: a17 :: a18 :: a19 :: a20 :: a21 :: some d :: r) S) : mG tb (.nm 22) d (a0 :: a1 :: a2 :: a3 :: a4 :: a5 :: a6 :: a7 :: a8 :: a9 :: a10 :: a11 :: a12 :: a13 :: a14 :: a15 :: a16 :: a17 :: a18 :: a19 :: a20 :: a21 :: x :: r) S P := k
theorem g23 {a0 a1 a2 a3 a4 a5 a6 a7 a8 a9 a10 a11 a12 a13 a14 a15 a16 a17 a18 a19 a20 a21 a22 : Option D} {x : Option D} {d : D} {r : DSt} {P : DSt → Sto → Prop} {tb : Tb} (k : P (a0 :: a1 :: a2 :: a3 :: a4 :: a5 :: a6 :: a7 :: a8 :: a9 :: a10 :: a11 :: a12 :: a13 :: a14 :: a15 :: a16 :: a17 :: a18 :: a19 :: a20 :: a21 :: a22 :: some d :: r) S) : mG tb (.nm 23) d (a0 :: a1 :: a2 :: a3 :: a4 :: a5 :: a6 :: a7 :: a8 :: a9 :: a10 :: a11 :: a12 :: a13 :: a14 :: a15 :: a16 :: a17 :: a18 :: a19 :: a20 :: a21 :: a22 :: x :: r) S P := k
theorem g24 {a0 a1 a2 a3 a4 a5 a6 a7 a8 a9 a10 a11 a12 a13 a14 a15 a16 a17 a18 a19 a20 a21 a22 a23 : Option D} {x : Option D} {d : D} {r : DSt} {P : DSt → Sto → Prop} {tb : Tb} (k : P (a0 :: a1 :: a2 :: a3 :: a4 :: a5 :: a6 :: a7 :: a8 :: a9 :: a10 :: a11 :: a12 :: a13 :: a14 :: a15 :: a16 :: a17 :: a18 :: a19 :: a20 :: a21 :: a22 :: a23 :: some d :: r) S) : mG tb (.nm 24) d (a0 :: a1 :: a2 :: a3 :: a4 :: a5 :: a6 :: a7 :: a8 :: a9 :: a10 :: a11 :: a12 :: a13 :: a14 :: a15 :: a16 :: a17 :: a18 :: a19 :: a20 :: a21 :: a22 :: a23 :: x :: r) S P := k
theorem g25 {a0 a1 a2 a3 a4 a5 a6 a7 a8 a9 a10 a11 a12 a13 a14 a15 a16 a17 a18 a19 a20 a21 a22 a23 a24 : Option D} {x : Option D} {d : D} {r : DSt} {P : DSt → Sto → Prop} {tb : Tb} (k : P (a0 :: a1 :: a2 :: a3 :: a4 :: a5 :: a6 :: a7 :: a8 :: a9 :: a10 :: a11 :: a12 :: a13 :: a14 :: a15 :: a16 :: a17 :: a18 :: a19 :: a20 :: a21 :: a22 :: a23 :: a24 :: some d :: r) S) : mG tb (.nm 25) d (a0 :: a1 :: a2 :: a3 :: a4 :: a5 :: a6 :: a7 :: a8 :: a9 :: a10 :: a11 :: a12 :: a13 :: a14 :: a15 :: a16 :: a17 :: a18 :: a19 :: a20 :: a21 :: a22 :: a23 :: a24 :: x :: r) S P := k
theorem g26 {a0 a1 a2 a3 a4 a5 a6 a7 a8 a9 a10 a11 a12 a13 a14 a15 a16 a17 a18 a19 a20 a21 a22 a23 a24 a25 : Option D} {x : Option D} {d : D} {r : DSt} {P : DSt → Sto → Prop} {tb : Tb} (k : P (a0 :: a1 :: a2 :: a3 :: a4 :: a5 :: a6 :: a7 :: a8 :: a9 :: a10 :: a11 :: a12 :: a13 :: a14 :: a15 :: a16 :: a17 :: a18 :: a19 :: a20 :: a21 :: a22 :: a23 :: a24 :: a25 :: some d :: r) S) : mG tb (.nm 26) d (a0 :: a1 :: a2 :: a3 :: a4 :: a5 :: a6 :: a7 :: a8 :: a9 :: a10 :: a11 :: a12 :: a13 :: a14 :: a15 :: a16 :: a17 :: a18 :: a19 :: a20 :: a21 :: a22 :: a23 :: a24 :: a25 :: x :: r) S P := k
theorem g27 {a0 a1 a2 a3 a4 a5 a6 a7 a8 a9 a10 a11 a12 a13 a14 a15 a16 a17 a18 a19 a20 a21 a22 a23 a24 a25 a26 : Option D} {x : Option D} {d : D} {r : DSt} {P : DSt → Sto → Prop} {tb : Tb} (k : P (a0 :: a1 :: a2 :: a3 :: a4 :: a5 :: a6 :: a7 :: a8 :: a9 :: a10 :: a11 :: a12 :: a13 :: a14 :: a15 :: a16 :: a17 :: a18 :: a19 :: a20 :: a21 :: a22 :: a23 :: a24 :: a25 :: a26 :: some d :: r) S) : mG tb (.nm 27) d (a0 :: a1 :: a2 :: a3 :: a4 :: a5 :: a6 :: a7 :: a8 :: a9 :: a10 :: a11 :: a12 :: a13 :: a14 :: a15 :: a16 :: a17 :: a18 :: a19 :: a20 :: a21 :: a22 :: a23 :: a24 :: a25 :: a26 :: x :: r) S P := k
theorem g28 {a0 a1 a2 a3 a4 a5 a6 a7 a8 a9 a10 a11 a12 a13 a14 a15 a16 a17 a18 a19 a20 a21 a22 a23 a24 a25 a26 a27 : Option D} {x : Option D} {d : D} {r : DSt} {P : DSt → Sto → Prop} {tb : Tb} (k : P (a0 :: a1 :: a2 :: a3 :: a4 :: a5 :: a6 :: a7 :: a8 :: a9 :: a10 :: a11 :: a12 :: a13 :: a14 :: a15 :: a16 :: a17 :: a18 :: a19 :: a20 :: a21 :: a22 :: a23 :: a24 :: a25 :: a26 :: a27 :: some d :: r) S) : mG tb (.nm 28) d (a0 :: a1 :: a2 :: a3 :: a4 :: a5 :: a6 :: a7 :: a8 :: a9 :: a10 :: a11 :: a12 :: a13 :: a14 :: a15 :: a16 :: a17 :: a18 :: a19 :: a20 :: a21 :: a22 :: a23 :: a24 :: a25 :: a26 :: a27 :: x :: r) S P := k
theorem g29 {a0 a1 a2 a3 a4 a5 a6 a7 a8 a9 a10 a11 a12 a13 a14 a15 a16 a17 a18 a19 a20 a21 a22 a23 a24 a25 a26 a27 a28 : Option D} {x : Option D} {d : D} {r : DSt} {P : DSt → Sto → Prop} {tb : Tb} (k : P (a0 :: a1 :: a2 :: a3 :: a4 :: a5 :: a6 :: a7 :: a8 :: a9 :: a10 :: a11 :: a12 :: a13 :: a14 :: a15 :: a16 :: a17 :: a18 :: a19 :: a20 :: a21 :: a22 :: a23 :: a24 :: a25 :: a26 :: a27 :: a28 :: some d :: r) S) : mG tb (.nm 29) d (a0 :: a1 :: a2 :: a3 :: a4 :: a5 :: a6 :: a7 :: a8 :: a9 :: a10 :: a11 :: a12 :: a13 :: a14 :: a15 :: a16 :: a17 :: a18 :: a19 :: a20 :: a21 :: a22 :: a23 :: a24 :: a25 :: a26 :: a27 :: a28 :: x :: r) S P := k
theorem g30 {a0 a1 a2 a3 a4 a5 a6 a7 a8 a9 a10 a11 a12 a13 a14 a15 a16 a17 a18 a19 a20 a21 a22 a23 a24 a25 a26 a27 a28 a29 : Option D} {x : Option D} {d : D} {r : DSt} {P : DSt → Sto → Prop} {tb : Tb} (k : P (a0 :: a1 :: a2 :: a3 :: a4 :: a5 :: a6 :: a7 :: a8 :: a9 :: a10 :: a11 :: a12 :: a13 :: a14 :: a15 :: a16 :: a17 :: a18 :: a19 :: a20 :: a21 :: a22 :: a23 :: a24 :: a25 :: a26 :: a27 :: a28 :: a29 :: some d :: r) S) : mG tb (.nm 30) d (a0 :: a1 :: a2 :: a3 :: a4 :: a5 :: a6 :: a7 :: a8 :: a9 :: a10 :: a11 :: a12 :: a13 :: a14 :: a15 :: a16 :: a17 :: a18 :: a19 :: a20 :: a21 :: a22 :: a23 :: a24 :: a25 :: a26 :: a27 :: a28 :: a29 :: x :: r) S P := k
theorem g31 {a0 a1 a2 a3 a4 a5 a6 a7 a8 a9 a10 a11 a12 a13 a14 a15 a16 a17 a18 a19 a20 a21 a22 a23 a24 a25 a26 a27 a28 a29 a30 : Option D} {x : Option D} {d : D} {r : DSt} {P : DSt → Sto → Prop} {tb : Tb} (k : P (a0 :: a1 :: a2 :: a3 :: a4 :: a5 :: a6 :: a7 :: a8 :: a9 :: a10 :: a11 :: a12 :: a13 :: a14 :: a15 :: a16 :: a17 :: a18 :: a19 :: a20 :: a21 :: a22 :: a23 :: a24 :: a25 :: a26 :: a27 :: a28 :: a29 :: a30 :: some d :: r) S) : mG tb (.nm 31) d (a0 :: a1 :: a2 :: a3 :: a4 :: a5 :: a6 :: a7 :: a8 :: a9 :: a10 :: a11 :: a12 :: a13 :: a14 :: a15 :: a16 :: a17 :: a18 :: a19 :: a20 :: a21 :: a22 :: a23 :: a24 :: a25 :: a26 :: a27 :: a28 :: a29 :: a30 :: x :: r) S P := k
theorem g32 {a0 a1 a2 a3 a4 a5 a6 a7 a8 a9 a10 a11 a12 a13 a14 a15 a16 a17 a18 a19 a20 a21 a22 a23 a24 a25 a26 a27 a28 a29 a30 a31 : Option D} {x : Option D} {d : D} {r : DSt} {P : DSt → Sto → Prop} {tb : Tb} (k : P (a0 :: a1 :: a2 :: a3 :: a4 :: a5 :: a6 :: a7 :: a8 :: a9 :: a10 :: a11 :: a12 :: a13 :: a14 :: a15 :: a16 :: a17 :: a18 :: a19 :: a20 :: a21 :: a22 :: a23 :: a24 :: a25 :: a26 :: a27 :: a28 :: a29 :: a30 :: a31 :: some d :: r) S) : mG tb (.nm 32) d (a0 :: a1 :: a2 :: a3 :: a4 :: a5 :: a6 :: a7 :: a8 :: a9 :: a10 :: a11 :: a12 :: a13 :: a14 :: a15 :: a16 :: a17 :: a18 :: a19 :: a20 :: a21 :: a22 :: a23 :: a24 :: a25 :: a26 :: a27 :: a28 :: a29 :: a30 :: a31 :: x :: r) S P := k
theorem g33 {a0 a1 a2 a3 a4 a5 a6 a7 a8 a9 a10 a11 a12 a13 a14 a15 a16 a17 a18 a19 a20 a21 a22 a23 a24 a25 a26 a27 a28 a29 a30 a31 a32 : Option D} {x : Option D} {d : D} {r : DSt} {P : DSt → Sto → Prop} {tb : Tb} (k : P (a0 :: a1 :: a2 :: a3 :: a4 :: a5 :: a6 :: a7 :: a8 :: a9 :: a10 :: a11 :: a12 :: a13 :: a14 :: a15 :: a16 :: a17 :: a18 :: a19 :: a20 :: a21 :: a22 :: a23 :: a24 :: a25 :: a26 :: a27 :: a28 :: a29 :: a30 :: a31 :: a32 :: some d :: r) S) : mG tb (.nm 33) d (a0 :: a1 :: a2 :: a3 :: a4 :: a5 :: a6 :: a7 :: a8 :: a9 :: a10 :: a11 :: a12 :: a13 :: a14 :: a15 :: a16 :: a17 :: a18 :: a19 :: a20 :: a21 :: a22 :: a23 :: a24 :: a25 :: a26 :: a27 :: a28 :: a29 :: a30 :: a31 :: a32 :: x :: r) S P := k
theorem m_var {i : Nat} {d : D} (h : σ[i]? = some (some d)) (k : K d S) : mE M cu (.var i) σ S K E := ⟨d, h, k⟩
theorem m_cst {d : D} (k : K d S) : mE M cu (.cst d) σ S K E := k
theorem m_tup {es : CEs} (k : mEs M cu es σ S (fun xs S1 => xs.length ≤ sizeLine ∧ K (.tup xs) S1) E) : mE M cu (.tup es) σ S K E := k
theorem m_lst {es : CEs} (k : mEs M cu es σ S (fun xs S1 => xs.length ≤ sizeLine ∧ ∀ p, S1 p = none → K (.ref p) (sup S1 p (.lst xs))) E) : mE M cu (.lst es) σ S K E := k
theorem m_dic (k : ∀ p, S p = none → K (.ref p) (sup S p (.dic []))) : mE M cu .dic0 σ S K E := k
theorem m_op {o : Operator} {a b : CE} (k : mE M cu a σ S (fun x S1 => mE M cu b σ S1 (fun y S2 => opM M o x y S2 K E) E) E) : mE M cu (.op o a b) σ S K E := k
theorem m_cmp {o : CmpOp} {a b : CE} (k : mE M cu a σ S (fun x S1 => mE M cu b σ S1 (fun y S2 => cmpM M o x y S2 K E) E) E) : mE M cu (.cmp o a b) σ S K E := k
theorem m_chn {o o' : CmpOp} {a b c : CE} (k : mE M cu a σ S (fun x S1 => mE M cu b σ S1 (fun y S2 => cmpM M o x y S2 (fun z S3 => ∃ k, z = .bl k ∧ (if k = true then mE M cu c σ S3 (fun w S4 => cmpM M o' y w S4 K E) E else K (.bl false) S3)) E) E) E) : mE M cu (.chn o o' a b c) σ S K E := k
theorem m_and {a b : CE} (k : mE M cu a σ S (fun x S1 => M.tru x S1 (fun k S2 => if k = true then mE M cu b σ S2 K E else K x S2) E) E) : mE M cu (.and a b) σ S K E := k
theorem m_or {a b : CE} (k : mE M cu a σ S (fun x S1 => M.tru x S1 (fun k S2 => if k = true then K x S2 else mE M cu b σ S2 K E) E) E) : mE M cu (.or a b) σ S K E := k
theorem m_not {a : CE} (k : mE M cu a σ S (fun x S1 => M.tru x S1 (fun k S2 => K (.bl (!k)) S2) E) E) : mE M cu (.not a) σ S K E := k
def negK (K : DK) : DK := fun x S => match x with
  | .int i => K (.int (-i)) S
  | _ => False
theorem n_int {K : DK} {i : Int} (k : K (.int (-i)) S) : negK K (.int i) S := k
theorem m_neg {a : CE} (k : mE M cu a σ S (negK K) E) : mE M cu (.neg a) σ S K E := k
theorem m_negc {i : Int} (k : K (.int (-i)) S) : mE M cu (.neg (.cst (.int i))) σ S K E := k
theorem m_ite {c : CT} {a b : CE} (k : mT M cu c σ S (fun c S1 => if c = true then mE M cu a σ S1 K E else mE M cu b σ S1 K E) E) : mE M cu (.ite c a b) σ S K E := k
theorem m_ix {a b : CE} (k : mE M cu a σ S (fun x S1 => mE M cu b σ S1 (fun y S2 => ixD M.own x y S2 K E) E) E) : mE M cu (.ix a b) σ S K E := k
theorem m_sl {a lo hi : CE} (k : mE M cu a σ S (fun x S1 => mE M cu lo σ S1 (fun l S2 => mE M cu hi σ S2 (fun h S3 => slD x l h S3 K) E) E) E) : mE M cu (.sl a lo hi) σ S K E := k
theorem m_att {e : CE} {f : Str} (k : mE M cu e σ S (fun o S1 => attC M cu f o S1 K) E) : mE M cu (.att e f) σ S K E := k
theorem m_call {f : DL.Key} {es : CEs} (k : mEs M cu es σ S (fun ds S1 => callO M.fi M.orc f ds S1 K E) E) : mE M cu (.call f es) σ S K E := k
theorem m_make {c : Str} {es : CEs} (k : mEs M cu es σ S (fun ds S1 => makeO M.tb M.fi M.orc c ds S1 K E) E) : mE M cu (.make c es) σ S K E := k
theorem m_blt {b : Str} {es : CEs} (k : mEs M cu es σ S (fun ds S1 => bltM M b ds S1 K E) E) : mE M cu (.blt b es) σ S K E := k
theorem m_nil (k : KA [] S) : mEs M cu .nil σ S KA E := k
theorem m_cons {e : CE} {es : CEs} (k : mE M cu e σ S (fun x S1 => mEs M cu es σ S1 (fun xs S2 => KA (x :: xs) S2) E) E) : mEs M cu (.cons e es) σ S KA E := k
theorem m_tval {e : CE} (k : mE M cu e σ S (fun x S1 => M.tru x S1 KT E) E) : mT M cu (.val e) σ S KT E := k
theorem m_tcmp {o : CmpOp} {a b : CE} (k : mE M cu a σ S (fun x S1 => mE M cu b σ S1 (fun y S2 => cmpM M o x y S2 (kB KT) E) E) E) : mT M cu (.cmp o a b) σ S KT E := k
theorem m_tchn {o o' : CmpOp} {a b c : CE} (k : mE M cu a σ S (fun x S1 => mE M cu b σ S1 (fun y S2 => cmpM M o x y S2 (fun z S3 => ∃ k, z = .bl k ∧ (if k = true then mE M cu c σ S3 (fun w S4 => cmpM M o' y w S4 (kB KT) E) E else kB KT (.bl false) S3)) E) E) E) : mT M cu (.chn o o' a b c) σ S KT E := k
theorem m_chk {b : Bool} {P Q : Prop} (h : if b = true then P else Q) : ∃ k, D.bl b = D.bl k ∧ (if k = true then P else Q) := ⟨b, rfl, h⟩
theorem m_tand {a b : CT} (k : mT M cu a σ S (fun x S1 => if x = true then mT M cu b σ S1 KT E else KT false S1) E) : mT M cu (.and a b) σ S KT E := k
theorem m_tor {a b : CT} (k : mT M cu a σ S (fun x S1 => if x = true then KT true S1 else mT M cu b σ S1 KT E) E) : mT M cu (.or a b) σ S KT E := k
theorem m_tnot {a : CT} (k : mT M cu a σ S (fun x S1 => KT (!x) S1) E) : mT M cu (.not a) σ S KT E := k
theorem m_tite {c a b : CT} (k : mT M cu c σ S (fun x S1 => if x = true then mT M cu a σ S1 KT E else mT M cu b σ S1 KT E) E) : mT M cu (.ite c a b) σ S KT E := k
theorem t_bl {b : Bool} (k : KT b S) : M.tru (.bl b) S KT E := k
theorem t_non (k : KT false S) : M.tru .non S KT E := k
theorem t_int {i : Int} (k : KT (i != 0) S) : M.tru (.int i) S KT E := k
theorem t_tup {xs : List D} (k : KT (!xs.isEmpty) S) : M.tru (.tup xs) S KT E := k
theorem t_rol {xs : List D} (k : KT (!xs.isEmpty) S) : M.tru (.rol xs) S KT E := k
theorem t_lst {a : Addr} {xs : List D} (h : S a = some (.lst xs)) (k : KT (!xs.isEmpty) S) : M.tru (.ref a) S KT E := by
  show truD _ _ _ _ _
  simp only [truD, h]; exact k
theorem t_slo {a : Addr} {c : Str} {vs : List (Option D)} {ce : ClsE} (h : S a = some (.slo c vs)) (hc : M.tb c = some ce) (hm : ce.meths.contains "__bool__" = true) (k : callO M.fi M.orc (c, some "__bool__") [.ref a] S (kB KT) E) : M.tru (.ref a) S KT E := by
  show truD _ _ _ _ _
  simp only [truD, h]
  exact ⟨c, ⟨a, _, ce, rfl, h, rfl, hc, by simpa using hm⟩, k⟩
theorem m_ssnil (k : nx σ S) : mSs M cu .nil ⟨nx, rt, bk, ct, ex⟩ σ S := k
theorem m_sscons {s : CS} {r : CSs} (k : mS M cu s ⟨mSs M cu r ⟨nx, rt, bk, ct, ex⟩, rt, bk, ct, ex⟩ σ S) : mSs M cu (.cons s r) ⟨nx, rt, bk, ct, ex⟩ σ S := k
theorem m_sret {e : CE} (k : mE M cu e σ S rt (fun c fs S => ex c fs σ S)) : mS M cu (.ret e) ⟨nx, rt, bk, ct, ex⟩ σ S := k
theorem m_sretN (k : rt .non S) : mS M cu .retN ⟨nx, rt, bk, ct, ex⟩ σ S := k
theorem m_spass (k : nx σ S) : mS M cu .pass ⟨nx, rt, bk, ct, ex⟩ σ S := k
theorem m_sbrk (k : bk σ S) : mS M cu .brk ⟨nx, rt, bk, ct, ex⟩ σ S := k
theorem m_scont (k : ct σ S) : mS M cu .cont ⟨nx, rt, bk, ct, ex⟩ σ S := k
theorem m_sexpr {e : CE} (k : mE M cu e σ S (fun _ S1 => nx σ S1) (fun c fs S => ex c fs σ S)) : mS M cu (.expr e) ⟨nx, rt, bk, ct, ex⟩ σ S := k
theorem m_siff {c : CT} {a b : CSs} (k : mT M cu c σ S (fun x S1 => if x = true then mSs M cu a ⟨nx, rt, bk, ct, ex⟩ σ S1 else mSs M cu b ⟨nx, rt, bk, ct, ex⟩ σ S1) (fun c fs S => ex c fs σ S)) : mS M cu (.iff c a b) ⟨nx, rt, bk, ct, ex⟩ σ S := k
theorem m_sasg {e : CE} {g : CG} (k : mE M cu e σ S (fun x S1 => mG M.tb g x σ S1 nx) (fun c fs S => ex c fs σ S)) : mS M cu (.asg e g) ⟨nx, rt, bk, ct, ex⟩ σ S := k
theorem m_spar {i j : Nat} {a b : CE} (k : mE M cu a σ S (fun v S1 => mE M cu b σ S1 (fun w S2 => mG M.tb (.nm i) v σ S2 fun σ3 S3 => mG M.tb (.nm j) w σ3 S3 nx) (fun c fs S => ex c fs σ S)) (fun c fs S => ex c fs σ S)) : mS M cu (.par i j a b) ⟨nx, rt, bk, ct, ex⟩ σ S := by
  refine Eq.mp ?_ k
  show _ = mE M cu a σ S (fun v S1 => mE M cu b σ S1 (fun w S2 => ∃ v' w', [v, w] = [v', w'] ∧ nx ((σ.set i (some v')).set j (some w')) S2) (fun c fs S => ex c fs σ S)) (fun c fs S => ex c fs σ S)
  congr 1
  funext v S1
  congr 1
  funext w S2
  refine propext ⟨fun h => ⟨v, w, rfl, h⟩, fun ⟨v', w', e, h⟩ => ?_⟩
  cases e
  exact h
theorem m_sset {e o : CE} {f : Str} (k : mE M cu e σ S (fun d S1 => mE M cu o σ S1 (fun o S2 => setAD M.tb f o d S2 fun S3 => nx σ S3) (fun c fs S => ex c fs σ S)) (fun c fs S => ex c fs σ S)) : mS M cu (.setA e o f) ⟨nx, rt, bk, ct, ex⟩ σ S := k
theorem m_ssub {e o i : CE} (k : mE M cu e σ S (fun x S1 => mE M cu o σ S1 (fun o S2 => mE M cu i σ S2 (fun i S3 => setD o i x S3 fun S4 => nx σ S4) (fun c fs S => ex c fs σ S)) (fun c fs S => ex c fs σ S)) (fun c fs S => ex c fs σ S)) : mS M cu (.sub e o i) ⟨nx, rt, bk, ct, ex⟩ σ S := k
theorem m_saug {i : Nat} {o : Operator} {e : CE} (k : mE M cu (.var i) σ S (fun x S0 => mE M cu e σ S0 (fun y S1 => inpM o x y S1 (fun z S2 => mG M.tb (.nm i) z σ S2 nx) (fun c fs S => ex c fs σ S)) (fun c fs S => ex c fs σ S)) (fun c fs S => ex c fs σ S)) : mS M cu (.aug i o e) ⟨nx, rt, bk, ct, ex⟩ σ S := k
theorem m_srais {cn f : Str} {e : CE} (k : mE M cu e σ S (fun v S1 => ex cn [(f, v)] σ S1) (fun c fs S => ex c fs σ S)) : mS M cu (.raise cn f e) ⟨nx, rt, bk, ct, ex⟩ σ S := by
  refine Eq.mp ?_ k
  show _ = mE M cu e σ S (fun v S1 => ∃ w, [v] = [w] ∧ ex cn [(f, w)] σ S1) (fun c fs S => ex c fs σ S)
  congr 1
  funext v S1
  exact propext ⟨fun h => ⟨v, rfl, h⟩, fun ⟨w, e, h⟩ => by cases e; exact h⟩
/-- try: b, except c as i: h; c is the class, f its one field -/
theorem m_tryAs {c : Str} {i : Nat} {b h : CSs} (k : mSs M cu b ⟨nx, rt, bk, ct, fun cls fs σ' S' => ∃ b, M.sx cls c = some b ∧ if b = true then suiteD i (fun cu' => mSs { M with fi := fun _ => none } (some cu') h) ⟨nx, rt, bk, ct, ex⟩ cls fs σ' S' else ex cls fs σ' S'⟩ σ S) : mS M cu (.tryAs c i b h) ⟨nx, rt, bk, ct, ex⟩ σ S := k
theorem m_try {b : CSs} {hs : CHs} (k : mSs M cu b ⟨nx, rt, bk, ct, manyD M.sx ⟨nx, rt, bk, ct, ex⟩ (mHs M hs)⟩ σ S) : mS M cu (.try_ b hs) ⟨nx, rt, bk, ct, ex⟩ σ S := k
theorem u_as {i : Nat} {M' : Env1} {h : CSs} {cls : Str} {fs : List (Str × D)} (hne : fs ≠ [])
    (k : ∀ a dd, S a = none → (∀ o, S dd = some o → ∃ fs', o = .exd fs') → Le S (sup S dd (.exd fs)) → mG M'.tb (.nm i) (.ref a) σ (sup S dd (.exd fs)) fun σ' S' => mSs M' (some (a, cls, some dd)) h ⟨fun σ2 S2 => nx (σ2.set i none) S2, rt, fun σ2 S2 => bk (σ2.set i none) S2, fun σ2 S2 => ct (σ2.set i none) S2, noX⟩ σ' S') :
    suiteD i (fun cu' => mSs M' (some cu') h) ⟨nx, rt, bk, ct, ex⟩ cls fs σ S := fun a d ha hd hx => by
  cases d with
  | none => exact absurd (hd rfl) hne
  | some dd => exact k a dd ha (hx dd rfl) (Le.caught hx)
theorem u_no {M' : Env1} {h : CSs} {cls : Str} {fs : List (Str × D)} (k : ∀ a d, Le S (caught S d fs) → mSs M' (some (a, cls, d)) h ⟨nx, rt, bk, ct, noX⟩ σ (caught S d fs)) :
    suite0D (fun cu' => mSs M' (some cu') h) ⟨nx, rt, bk, ct, ex⟩ cls fs σ S := fun a d ha hd hx => k a d (Le.caught hx)
/-- targets -/
theorem g_tup {n : Nat} {gs : CGs} {xs : List D} {P : DSt → Sto → Prop} {tb : Tb} (hn : xs.length = n) (k : mGs tb gs xs σ S P) : mG tb (.tup n gs) (.tup xs) σ S P := ⟨xs, rfl, hn, k⟩
theorem g_nm {i : Nat} {d : D} {P : DSt → Sto → Prop} {tb : Tb} (k : P (σ.set i (some d)) S) : mG tb (.nm i) d σ S P := k
theorem g_lst {n : Nat} {gs : CGs} {a : Addr} {xs : List D} {P : DSt → Sto → Prop} {tb : Tb} (h : S a = some (.lst xs)) (hn : xs.length = n) (k : mGs tb gs xs σ S P) : mG tb (.tup n gs) (.ref a) σ S P := ⟨xs, by simp only [seqOf, h], hn, k⟩
theorem g_att {i : Nat} {f : Str} {o d : D} {P : DSt → Sto → Prop} {tb : Tb} (h : σ[i]? = some (some o)) (k : setAD tb f o d S (fun S' => P σ S')) : mG tb (.att i f) d σ S P := ⟨o, h, k⟩
theorem g_nil {P : DSt → Sto → Prop} {tb : Tb} (k : P σ S) : mGs tb .nil [] σ S P := ⟨rfl, k⟩
theorem g_cons {g : CG} {gs : CGs} {x : D} {xs : List D} {P : DSt → Sto → Prop} {tb : Tb} (k : mG tb g x σ S (fun σ1 S1 => mGs tb gs xs σ1 S1 P)) : mGs tb (.cons g gs) (x :: xs) σ S P := ⟨x, xs, rfl, k⟩
theorem blt_eq (b : Str) (r : DB) (h : ∀ ds S K E, bltM M b ds S K E = r ds S K E) {ds : List D} (k : r ds S K E) : bltM M b ds S K E := by rw [h]; exact k

theorem blt_abs {ds : List D} (k : absD ds S K E) : bltM M "abs" ds S K E := blt_eq "abs" (absD) (fun ds S K E => if_pos rfl) k
theorem blt_int {ds : List D} (k : int1D ds S K E) : bltM M "int" ds S K E := blt_eq "int" (int1D) (fun ds S K E => (if_neg (by decide)).trans <| if_pos rfl) k
theorem blt_bool {ds : List D} (k : boolXD M.tru ds S K E) : bltM M "bool" ds S K E := blt_eq "bool" (boolXD M.tru) (fun ds S K E => (if_neg (by decide)).trans <| (if_neg (by decide)).trans <| if_pos rfl) k
theorem blt_len {ds : List D} (k : lenD ds S K E) : bltM M "len" ds S K E := blt_eq "len" (lenD) (fun ds S K E => (if_neg (by decide)).trans <| (if_neg (by decide)).trans <| (if_neg (by decide)).trans <| if_pos rfl) k
theorem blt_max {ds : List D} (k : (fun ds S K E => max2D ds S K E ∨ maxlD ds S K E) ds S K E) : bltM M "max" ds S K E := blt_eq "max" ((fun ds S K E => max2D ds S K E ∨ maxlD ds S K E)) (fun ds S K E => (if_neg (by decide)).trans <| (if_neg (by decide)).trans <| (if_neg (by decide)).trans <| (if_neg (by decide)).trans <| if_pos rfl) k
theorem blt_min {ds : List D} (k : (fun ds S K E => min2D ds S K E ∨ minlD ds S K E) ds S K E) : bltM M "min" ds S K E := blt_eq "min" ((fun ds S K E => min2D ds S K E ∨ minlD ds S K E)) (fun ds S K E => (if_neg (by decide)).trans <| (if_neg (by decide)).trans <| (if_neg (by decide)).trans <| (if_neg (by decide)).trans <| (if_neg (by decide)).trans <| if_pos rfl) k
theorem blt_sum {ds : List D} (k : sumD ds S K E) : bltM M "sum" ds S K E := blt_eq "sum" (sumD) (fun ds S K E => (if_neg (by decide)).trans <| (if_neg (by decide)).trans <| (if_neg (by decide)).trans <| (if_neg (by decide)).trans <| (if_neg (by decide)).trans <| (if_neg (by decide)).trans <| if_pos rfl) k
theorem blt_all {ds : List D} (k : allD ds S K E) : bltM M "all" ds S K E := blt_eq "all" (allD) (fun ds S K E => (if_neg (by decide)).trans <| (if_neg (by decide)).trans <| (if_neg (by decide)).trans <| (if_neg (by decide)).trans <| (if_neg (by decide)).trans <| (if_neg (by decide)).trans <| (if_neg (by decide)).trans <| if_pos rfl) k
theorem blt_any {ds : List D} (k : anyD ds S K E) : bltM M "any" ds S K E := blt_eq "any" (anyD) (fun ds S K E => (if_neg (by decide)).trans <| (if_neg (by decide)).trans <| (if_neg (by decide)).trans <| (if_neg (by decide)).trans <| (if_neg (by decide)).trans <| (if_neg (by decide)).trans <| (if_neg (by decide)).trans <| (if_neg (by decide)).trans <| if_pos rfl) k
theorem blt_list {ds : List D} (k : listD ds S K E) : bltM M "list" ds S K E := blt_eq "list" (listD) (fun ds S K E => (if_neg (by decide)).trans <| (if_neg (by decide)).trans <| (if_neg (by decide)).trans <| (if_neg (by decide)).trans <| (if_neg (by decide)).trans <| (if_neg (by decide)).trans <| (if_neg (by decide)).trans <| (if_neg (by decide)).trans <| (if_neg (by decide)).trans <| if_pos rfl) k
theorem blt_tuple {ds : List D} (k : tupleD ds S K E) : bltM M "tuple" ds S K E := blt_eq "tuple" (tupleD) (fun ds S K E => (if_neg (by decide)).trans <| (if_neg (by decide)).trans <| (if_neg (by decide)).trans <| (if_neg (by decide)).trans <| (if_neg (by decide)).trans <| (if_neg (by decide)).trans <| (if_neg (by decide)).trans <| (if_neg (by decide)).trans <| (if_neg (by decide)).trans <| (if_neg (by decide)).trans <| if_pos rfl) k
theorem blt_repr {ds : List D} (k : reprD ds S K E) : bltM M "repr" ds S K E := blt_eq "repr" (reprD) (fun ds S K E => (if_neg (by decide)).trans <| (if_neg (by decide)).trans <| (if_neg (by decide)).trans <| (if_neg (by decide)).trans <| (if_neg (by decide)).trans <| (if_neg (by decide)).trans <| (if_neg (by decide)).trans <| (if_neg (by decide)).trans <| (if_neg (by decide)).trans <| (if_neg (by decide)).trans <| (if_neg (by decide)).trans <| if_pos rfl) k
theorem blt_isinstance {ds : List D} (k : isiD M.tb M.tab ds S K E) : bltM M "isinstance" ds S K E := blt_eq "isinstance" (isiD M.tb M.tab) (fun ds S K E => (if_neg (by decide)).trans <| (if_neg (by decide)).trans <| (if_neg (by decide)).trans <| (if_neg (by decide)).trans <| (if_neg (by decide)).trans <| (if_neg (by decide)).trans <| (if_neg (by decide)).trans <| (if_neg (by decide)).trans <| (if_neg (by decide)).trans <| (if_neg (by decide)).trans <| (if_neg (by decide)).trans <| (if_neg (by decide)).trans <| if_pos rfl) k
theorem blt_sorted {ds : List D} (k : sortedD ds S K E) : bltM M "sorted" ds S K E := blt_eq "sorted" (sortedD) (fun ds S K E => (if_neg (by decide)).trans <| (if_neg (by decide)).trans <| (if_neg (by decide)).trans <| (if_neg (by decide)).trans <| (if_neg (by decide)).trans <| (if_neg (by decide)).trans <| (if_neg (by decide)).trans <| (if_neg (by decide)).trans <| (if_neg (by decide)).trans <| (if_neg (by decide)).trans <| (if_neg (by decide)).trans <| (if_neg (by decide)).trans <| (if_neg (by decide)).trans <| if_pos rfl) k
theorem b_abs {i : Int} (k : K (.int (if i < 0 then -i else i)) S) : bltM M "abs" [.int i] S K E := blt_abs ⟨i, rfl, k⟩
theorem b_int {i : Int} (k : K (.int i) S) : bltM M "int" [.int i] S K E := blt_int (.inl ⟨i, rfl, k⟩)
theorem b_intb {b : Bool} (k : K (.int (if b then 1 else 0)) S) : bltM M "int" [.bl b] S K E := blt_int (.inr ⟨b, rfl, k⟩)
theorem b_bool {x : D} (k : M.tru x S (fun b S' => K (.bl b) S') E) : bltM M "bool" [x] S K E := blt_bool ⟨x, rfl, k⟩
theorem b_len {a : Addr} {xs : List D} (h : S a = some (.lst xs)) (k : K (.int xs.length) S) : bltM M "len" [.ref a] S K E := blt_len ⟨_, rfl, .inl ⟨xs, by simp only [itemsD, h], k⟩⟩
theorem b_lenr {xs : List D} (k : K (.int xs.length) S) : bltM M "len" [.rol xs] S K E := blt_len ⟨_, rfl, .inl ⟨xs, rfl, k⟩⟩
theorem b_lent {xs : List D} (k : K (.int xs.length) S) : bltM M "len" [.tup xs] S K E := blt_len ⟨_, rfl, .inl ⟨xs, rfl, k⟩⟩
theorem b_lens {x : Str} (h : x.length ≤ sizeLine) (k : K (.int x.length) S) : bltM M "len" [.str x] S K E := blt_len ⟨_, rfl, .inr ⟨x, rfl, h, k⟩⟩
theorem b_max {i j : Int} (k : K (.int (if j > i then j else i)) S) : bltM M "max" [.int i, .int j] S K E := blt_max (.inl ⟨i, j, rfl, k⟩)
theorem b_min {i j : Int} (k : K (.int (if j < i then j else i)) S) : bltM M "min" [.int i, .int j] S K E := blt_min (.inl ⟨i, j, rfl, k⟩)
theorem b_isi {x y : D} {t c : TyC} {b : Bool} (ht : tyD M.tb S x = some t) (hc : clD y = some c) (hb : M.tab t c = some b) (k : K (.bl b) S) : bltM M "isinstance" [x, y] S K E := blt_isinstance ⟨x, y, t, b, rfl, ht, k, .inl ⟨c, hc, hb⟩⟩
theorem b_repr {d : D} {p : PyData} (h : toPyR S 64 d = some p) (ho : p.showable = true) (hl : p.shown.length ≤ sizeLine) (k : K (.str p.shown) S) : bltM M "repr" [d] S K E := blt_repr ⟨d, p, rfl, h, ⟨ho, hl⟩, k⟩
theorem b_reprd {a : Addr} (h : S a = some (.dic [])) (k : K (.str (PyData.dict []).shown) S) : bltM M "repr" [.ref a] S K E := b_repr (p := .dict []) (by simp only [toPyR, h, mapP, Option.map]) (by decide +kernel) (by decide +kernel) k
theorem b_sorted {a : Addr} {nss : List (List Int)} {d : Nat} (h : S a = some (.lst (nss.map tupI))) (hd : 1 ≤ d) (hl : ∀ ns ∈ nss, ns.length = d) (k : ∀ (mss : List (List Int)) (p : Addr), mss.Perm nss → mss.Pairwise (fun x y => lexI y x = false) → S p = none → K (.ref p) (sup S p (.lst (mss.map tupI)))) : bltM M "sorted" [.ref a] S K E := blt_sorted ⟨a, nss, d, rfl, h, hd, hl, k⟩
theorem b_minl {a : Addr} {ns : List Int} (h : S a = some (.lst (ns.map D.int))) (h0 : 0 < ns.length) (k : ∀ m, m ∈ ns → (∀ y, y ∈ ns → m ≤ y) → K (.int m) S) : bltM M "min" [.ref a] S K E := blt_min (.inr ⟨_, ns, rfl, by simp only [litemsD, h], h0, k⟩)
theorem b_maxl {a : Addr} {ns : List Int} (h : S a = some (.lst (ns.map D.int))) (h0 : 0 < ns.length) (k : ∀ m, m ∈ ns → (∀ y, y ∈ ns → y ≤ m) → K (.int m) S) : bltM M "max" [.ref a] S K E := blt_max (.inr ⟨_, ns, rfl, by simp only [litemsD, h], h0, k⟩)
theorem k_is {x : D} (k : K (.bl (isN x)) S) : cmpM M .Is x .non S K E := ⟨rfl, k⟩
theorem k_isn {x : D} (k : K (.bl (!isN x)) S) : cmpM M .IsNot x .non S K E := ⟨rfl, k⟩
theorem k_lt {i j : Int} (k : K (.bl (decide (i < j))) S) : cmpM M .Lt (.int i) (.int j) S K E := k
theorem k_le {i j : Int} (k : K (.bl (decide (i ≤ j))) S) : cmpM M .LtE (.int i) (.int j) S K E := k
theorem k_gt {i j : Int} (k : K (.bl (decide (j < i))) S) : cmpM M .Gt (.int i) (.int j) S K E := k
theorem k_ge {i j : Int} (k : K (.bl (decide (j ≤ i))) S) : cmpM M .GtE (.int i) (.int j) S K E := k
theorem k_eq {x y : D} {p q : PyData} (hx : toPy S 64 x = some p) (hy : toPy S 64 y = some q) (k : K (.bl (PyData.eqv p q)) S) : cmpM M .Eq x y S K E := by
  show eqDn _ _ _ _ _ _ _
  unfold eqDn; rw [hx, hy]; simpa using k
theorem k_ne {x y : D} {p q : PyData} (hx : toPy S 64 x = some p) (hy : toPy S 64 y = some q) (k : K (.bl (!PyData.eqv p q)) S) : cmpM M .NotEq x y S K E := by
  show eqDn _ _ _ _ _ _ _
  unfold eqDn; rw [hx, hy]; simpa using k
theorem k_eqi {i j : Int} (k : K (.bl (decide (i = j))) S) : cmpM M .Eq (.int i) (.int j) S K E := k_eq rfl rfl k
theorem k_nei {i j : Int} (k : K (.bl (!decide (i = j))) S) : cmpM M .NotEq (.int i) (.int j) S K E := k_ne rfl rfl k
theorem k_eqb {i j : Bool} (k : K (.bl (decide (i = j))) S) : cmpM M .Eq (.bl i) (.bl j) S K E := k_eq rfl rfl k
theorem k_neb {i j : Bool} (k : K (.bl (!decide (i = j))) S) : cmpM M .NotEq (.bl i) (.bl j) S K E := k_ne rfl rfl k
theorem k_eqs {i j : Str} (k : K (.bl (decide (i = j))) S) : cmpM M .Eq (.str i) (.str j) S K E := k_eq rfl rfl k
theorem k_nes {i j : Str} (k : K (.bl (!decide (i = j))) S) : cmpM M .NotEq (.str i) (.str j) S K E := k_ne rfl rfl k
theorem k_eqnn (k : K (.bl true) S) : cmpM M .Eq .non .non S K E := k_eq rfl rfl k
theorem k_eqni {j : Int} (k : K (.bl false) S) : cmpM M .Eq .non (.int j) S K E := k_eq rfl rfl k
theorem k_eqin {j : Int} (k : K (.bl false) S) : cmpM M .Eq (.int j) .non S K E := k_eq rfl rfl k
theorem k_nenn (k : K (.bl false) S) : cmpM M .NotEq .non .non S K E := k_ne rfl rfl k
theorem k_neni {j : Int} (k : K (.bl true) S) : cmpM M .NotEq .non (.int j) S K E := k_ne rfl rfl k
theorem k_nein {j : Int} (k : K (.bl true) S) : cmpM M .NotEq (.int j) .non S K E := k_ne rfl rfl k
theorem k_eqis {i : Int} {x : Str} (k : K (.bl false) S) : cmpM M .Eq (.int i) (.str x) S K E := k_eq rfl rfl k
theorem k_eqsi {i : Int} {x : Str} (k : K (.bl false) S) : cmpM M .Eq (.str x) (.int i) S K E := k_eq rfl rfl k
theorem k_eqns {x : Str} (k : K (.bl false) S) : cmpM M .Eq .non (.str x) S K E := k_eq rfl rfl k
theorem k_eqsn {x : Str} (k : K (.bl false) S) : cmpM M .Eq (.str x) .non S K E := k_eq rfl rfl k
theorem k_neis {i : Int} {x : Str} (k : K (.bl true) S) : cmpM M .NotEq (.int i) (.str x) S K E := k_ne rfl rfl k
theorem k_nesi {i : Int} {x : Str} (k : K (.bl true) S) : cmpM M .NotEq (.str x) (.int i) S K E := k_ne rfl rfl k
theorem k_nens {x : Str} (k : K (.bl true) S) : cmpM M .NotEq .non (.str x) S K E := k_ne rfl rfl k
theorem k_nesn {x : Str} (k : K (.bl true) S) : cmpM M .NotEq (.str x) .non S K E := k_ne rfl rfl k
/-- an instance's == -/
theorem k_eqo {a : Addr} {c : Str} {ob : SO} {ce : ClsE} {y : D} {t : TyC} (h : S a = some ob) (hn : ob.cn = some c) (hc : M.tb c = some ce) (hm : ce.meths.contains "__eq__" = true) (ht : tyD M.tb S y = some t) (k : callO M.fi M.orc (c, some "__eq__") [.ref a, y] S K E) : cmpM M .Eq (.ref a) y S K E := by
  have hi : isIns (S a) = true := by rw [h]; cases ob <;> first | rfl | cases hn
  have e1 : toPy S 64 (.ref a) = none := by
    show (match S a with | some (.lst xs) => _ | _ => none) = none
    rw [h]; cases ob <;> first | rfl | cases hn
  show eqDn _ _ _ _ _ _ _
  unfold eqDn
  rw [e1]
  exact ⟨a, rfl, hi, (if_pos rfl).mpr ⟨c, t, ⟨a, ob, ce, rfl, h, hn, hc, by simpa using hm⟩, ht, k⟩⟩
theorem k_neo {a : Addr} {c : Str} {ob : SO} {ce : ClsE} {y : D} {t : TyC} (h : S a = some ob) (hn : ob.cn = some c) (hc : M.tb c = some ce) (hm : ce.meths.contains "__eq__" = true) (ht : tyD M.tb S y = some t) (k : callO M.fi M.orc (c, some "__eq__") [.ref a, y] S (notK K) E) : cmpM M .NotEq (.ref a) y S K E := by
  have hi : isIns (S a) = true := by rw [h]; cases ob <;> first | rfl | cases hn
  have e1 : toPy S 64 (.ref a) = none := by
    show (match S a with | some (.lst xs) => _ | _ => none) = none
    rw [h]; cases ob <;> first | rfl | cases hn
  show eqDn _ _ _ _ _ _ _
  unfold eqDn
  rw [e1]
  exact ⟨a, rfl, hi, (if_neg (by decide)).mpr <| (if_pos rfl).mpr ⟨c, t, ⟨a, ob, ce, rfl, h, hn, hc, by simpa using hm⟩, ht, k⟩⟩
theorem toPy_ins {a : Addr} {ob : SO} {c : Str} (h : S a = some ob) (hn : ob.cn = some c) {n : Nat} : toPy S n (.ref a) = none := by
  cases n with
  | zero => rfl
  | succ n =>
    show (match S a with | some (.lst xs) => _ | _ => none) = none
    rw [h]; cases ob <;> first | rfl | cases hn
/-- x in instance -/
theorem k_ino {a : Addr} {c : Str} {ob : SO} {ce : ClsE} {x : D} (h : S a = some ob) (hn : ob.cn = some c) (hc : M.tb c = some ce) (hm : ce.meths.contains "__contains__" = true) (k : callO M.fi M.orc (c, some "__contains__") [.ref a, x] S (blK K) E) : cmpM M .In x (.ref a) S K E := by
  have hi : isIns (S a) = true := by rw [h]; cases ob <;> first | rfl | cases hn
  have q : ∃ a', D.ref a = .ref a' ∧ isIns (S a') = true ∧ M.own "__contains__" x (.ref a) S K E := ⟨a, rfl, hi, (if_neg (by decide)).mpr <| (if_neg (by decide)).mpr <| (if_pos rfl).mpr ⟨c, ⟨a, ob, ce, rfl, h, hn, hc, by simpa using hm⟩, k⟩⟩
  show inDn _ _ _ _ _ _ _
  have e1 : toPy S 64 (.ref a) = none := toPy_ins h hn
  cases x <;> (unfold inDn; simp only [e1]; split <;> first | exact q | contradiction)
theorem o_add {i j : Int} (k : K (.int (i + j)) S) : opM M .Add (.int i) (.int j) S K E := k
theorem o_adds {i j : Str} (h : i.length + j.length ≤ sizeLine) (k : K (.str (i ++ j)) S) : opM M .Add (.str i) (.str j) S K E := ⟨h, k⟩
theorem o_addt {i j : List D} (h : i.length + j.length ≤ sizeLine) (k : K (.tup (i ++ j)) S) : opM M .Add (.tup i) (.tup j) S K E := ⟨h, k⟩
theorem o_addl {a b : Addr} {xs ys : List D} (h1 : S a = some (.lst xs)) (h2 : S b = some (.lst ys)) (h : xs.length + ys.length ≤ sizeLine) (k : ∀ p, S p = none → K (.ref p) (sup S p (.lst (xs ++ ys)))) : opM M .Add (.ref a) (.ref b) S K E := by
  show addD M.own (.ref a) (.ref b) S K E
  simp only [addD, h1, h2]
  exact ⟨h, k⟩
theorem o_sub {i j : Int} (k : K (.int (i - j)) S) : opM M .Sub (.int i) (.int j) S K E := ⟨trivial, k⟩
theorem o_mul {i j : Int} (h : CMulD i j) (k : K (.int (i * j)) S) : opM M .Mult (.int i) (.int j) S K E := ⟨h, k⟩
theorem o_div {i j : Int} (h : CDivW i j) (k : K (.int (i / j)) S) : opM M .FloorDiv (.int i) (.int j) S K E := ⟨h, k⟩
theorem o_mod {i j : Int} (h : 0 < j) (k : K (.int (i % j)) S) : opM M .Mod (.int i) (.int j) S K E := ⟨h, k⟩
theorem o_pow {i j : Int} (h : CPow i j) (k : K (.int (i ^ j.toNat)) S) : opM M .Pow (.int i) (.int j) S K E := ⟨h, k⟩
theorem p_add {i j : Int} (k : K (.int (i + j)) S) : inpM .Add (.int i) (.int j) S K E := k
theorem p_sub {i j : Int} (k : K (.int (i - j)) S) : inpM .Sub (.int i) (.int j) S K E := ⟨trivial, k⟩
theorem o_ando {a b : Addr} {c : Str} {ob oc : SO} {ce : ClsE} (h : S a = some ob) (hn : ob.cn = some c) (hc : M.tb c = some ce) (hm : ce.meths.contains "__and__" = true) (h2 : S b = some oc) (hn2 : oc.cn = some c) (k : callO M.fi M.orc (c, some "__and__") [.ref a, .ref b] S K E) : opM M .BitAnd (.ref a) (.ref b) S K E := by
  have hi : isIns (S a) = true := by rw [h]; cases ob <;> first | rfl | cases hn
  exact ⟨a, rfl, hi, (if_neg (by decide)).mpr <| (if_neg (by decide)).mpr <| (if_neg (by decide)).mpr <| (if_neg (by decide)).mpr <| (if_pos (.inr (.inl rfl))).mpr ⟨c, b, oc, ⟨a, ob, ce, rfl, h, hn, hc, by simpa using hm⟩, rfl, h2, hn2, k⟩⟩
theorem x_lst {ow : Own} {a : Addr} {xs : List D} {i : Int} {d : D} (h : S a = some (.lst xs)) (hi : atI xs i = some d) (k : K d S) : ixD ow (.ref a) (.int i) S K E := by
  show ixD2 _ _ _ _ _ _
  simp only [ixD2, seqOf, h]
  exact ⟨d, hi, k⟩
theorem x_tup {ow : Own} {xs : List D} {i : Int} {d : D} (hi : atI xs i = some d) (k : K d S) : ixD ow (.tup xs) (.int i) S K E := ⟨d, hi, k⟩
theorem x_rol {ow : Own} {xs : List D} {i : Int} {d : D} (hi : atI xs i = some d) (k : K d S) : ixD ow (.rol xs) (.int i) S K E := ⟨d, hi, k⟩
theorem s_lst {a : Addr} {xs : List D} {i : Int} {j : Nat} {d : D} {P : Sto → Prop} (h : S a = some (.lst xs)) (hj : ixN xs.length i = some j) (k : P (sup S a (.lst (xs.set j d)))) : setD (.ref a) (.int i) d S P := by
  show (match S a with | some (.lst xs) => _ | _ => False)
  rw [h]
  exact ⟨j, hj, k⟩
theorem a_slo {tb : Tb} {fi : DL.Key → Option FI} {orc : Orc} {a : Addr} {c f : Str} {vs : List (Option D)} {ce : ClsE} {i : Nat} {d : D} (h : S a = some (.slo c vs)) (hc : tb c = some ce) (hp : ce.props.contains f = false) (hs : ce.slo = true) (hi : ixOf f ce.fields = some i) (hv : vs[i]? = some (some d)) (k : K d S) : attD tb fi orc f (.ref a) S K := by
  refine ⟨a, _, c, ce, rfl, h, rfl, hc, ?_⟩
  rw [if_neg (by simpa using hp)]
  exact ⟨hs, i, d, hi, hv, k⟩
theorem a_ins {tb : Tb} {fi : DL.Key → Option FI} {orc : Orc} {a : Addr} {c f : Str} {vs : List (Str × D)} {ce : ClsE} {d : D} (h : S a = some (.ins c vs)) (hc : tb c = some ce) (hp : ce.props.contains f = false) (hs : ce.slo = false) (hi : ce.fields.contains f = true) (hv : vs.lookup f = some d) (k : K d S) : attD tb fi orc f (.ref a) S K := by
  refine ⟨a, _, c, ce, rfl, h, rfl, hc, ?_⟩
  rw [if_neg (by simpa using hp)]
  exact ⟨hs, by simpa using hi, d, hv, k⟩
theorem a_prop {tb : Tb} {fi : DL.Key → Option FI} {orc : Orc} {a : Addr} {c f : Str} {ob : SO} {ce : ClsE} (h : S a = some ob) (hn : ob.cn = some c) (hc : tb c = some ce) (hp : ce.props.contains f = true) (k : callO fi orc (c, some f) [.ref a] S K (fun _ _ _ => False)) : attD tb fi orc f (.ref a) S K := by
  refine ⟨a, ob, c, ce, rfl, h, hn, hc, ?_⟩
  rw [if_pos (by simpa using hp)]
  exact k
theorem a_o {f : Str} {o : D} (k : attD M.tb M.fi M.orc f o S K) : attC M cu f o S K := .inr k
theorem a_e {f c : Str} {a dd : Addr} {d : D} {fs : List (Str × D)} (hf : M.et c = some f) (h : S dd = some (.exd fs)) (hl : fs.lookup f = some d) (k : K d S) : attC M (some (a, c, some dd)) f (.ref a) S K := .inl ⟨a, c, dd, fs, d, rfl, rfl, hf, h, hl, k⟩
theorem sa_slo {tb : Tb} {a : Addr} {c f : Str} {vs : List (Option D)} {ce : ClsE} {i : Nat} {d : D} {P : Sto → Prop} (h : S a = some (.slo c vs)) (hc : tb c = some ce) (hs : ce.slo = true) (hi : ixOf f ce.fields = some i) (k : P (sup S a (.slo c ((vs ++ List.replicate (i + 1 - vs.length) none).set i (some d))))) : setAD tb f (.ref a) d S P :=
  ⟨a, _, c, ce, rfl, h, rfl, hc, hs, i, hi, k⟩
theorem sa_ins {tb : Tb} {a : Addr} {c f : Str} {vs : List (Str × D)} {ce : ClsE} {d : D} {P : Sto → Prop} (h : S a = some (.ins c vs)) (hc : tb c = some ce) (hs : ce.slo = false) (hi : ce.fields.contains f = true) (hl : vs.length < 1000) (k : P (sup S a (.ins c (putD f d vs)))) : setAD tb f (.ref a) d S P :=
  ⟨a, _, c, ce, rfl, h, rfl, hc, hs, by simpa using hi, hl, k⟩
theorem m_callI {i : Nat} {es : CEs} (k : mE M cu (.var i) σ S (fun o S1 => ∃ c, hasM M.tb S1 "__call__" o c ∧ mEs M cu es σ S1 (fun xs S2 => hasM M.tb S2 "__call__" o c ∧ callO M.fi M.orc (c, some "__call__") (o :: xs) S2 K E) E) E) : mE M cu (.callI i es) σ S K E := k
theorem has_m {tb : Tb} {a : Addr} {ob : SO} {c m : Str} {ce : ClsE} (h : S a = some ob) (hn : ob.cn = some c) (hc : tb c = some ce) (hm : ce.meths.contains m = true) : hasM tb S m (.ref a) c := ⟨a, ob, ce, rfl, h, hn, hc, by simpa using hm⟩
theorem LeX.frs {T : Sto} {p q : Addr} {o : SO} (h : S q = none) (l : LeX p S T) : LeX p S (sup T q o) := fun a x n i g => look_ne (ne_new h g) (l a x n i g)
theorem LeX.nw {T : Sto} {p q : Addr} {o : SO} (l : LeX p S T) (h : T q = none) : LeX p S (sup T q o) := fun a x n i g => look_old h (l a x n i g)
theorem LeX.mt {T : Sto} {p : Addr} {o : SO} (l : LeX p S T) : LeX p S (sup T p o) := l.trans .mut
theorem LeX.tr {T U : Sto} {p : Addr} (l : LeX p S T) (l' : Le T U) : LeX p S U := l.trans l'.x
theorem m_methO {e : CE} {m : Str} {es : CEs} (k : mE M cu e σ S (fun o S1 => ∃ a ob, o = .ref a ∧ S1 a = some ob ∧ match ob.cn with
  | some c => (∃ ce, M.tb c = some ce ∧ m ∈ ce.meths ∧ ob.bare m) ∧ mEs M cu es σ S1 (fun xs S2 => callO M.fi M.orc (c, some m) (o :: xs) S2 K E) E
  | none => isLst ob = true ∧ isLm m = true ∧ mEs M cu es σ S1 (fun xs S2 => lmD m (o :: xs) S2 K E) E) E) : mE M cu (.meth e m es) σ S K E := k
theorem mm_slo {a : Addr} {c m : Str} {vs : List (Option D)} {ce : ClsE} {P : Prop} (h : S a = some (.slo c vs)) (hc : M.tb c = some ce) (hm : ce.meths.contains m = true) {es : CEs} (k : mEs M cu es σ S (fun xs S2 => callO M.fi M.orc (c, some m) (.ref a :: xs) S2 K E) E) : ∃ a' ob, D.ref a = .ref a' ∧ S a' = some ob ∧ match ob.cn with
  | some c => (∃ ce, M.tb c = some ce ∧ m ∈ ce.meths ∧ ob.bare m) ∧ mEs M cu es σ S (fun xs S2 => callO M.fi M.orc (c, some m) (.ref a :: xs) S2 K E) E
  | none => isLst ob = true ∧ isLm m = true ∧ mEs M cu es σ S (fun xs S2 => lmD m (.ref a :: xs) S2 K E) E := ⟨a, _, rfl, h, ⟨ce, hc, by simpa using hm, trivial⟩, k⟩
theorem mm_ins {a : Addr} {c m : Str} {vs : List (Str × D)} {ce : ClsE} {P : Prop} (h : S a = some (.ins c vs)) (hc : M.tb c = some ce) (hm : ce.meths.contains m = true) (hb : vs.lookup m = none) {es : CEs} (k : mEs M cu es σ S (fun xs S2 => callO M.fi M.orc (c, some m) (.ref a :: xs) S2 K E) E) : ∃ a' ob, D.ref a = .ref a' ∧ S a' = some ob ∧ match ob.cn with
  | some c => (∃ ce, M.tb c = some ce ∧ m ∈ ce.meths ∧ ob.bare m) ∧ mEs M cu es σ S (fun xs S2 => callO M.fi M.orc (c, some m) (.ref a :: xs) S2 K E) E
  | none => isLst ob = true ∧ isLm m = true ∧ mEs M cu es σ S (fun xs S2 => lmD m (.ref a :: xs) S2 K E) E := ⟨a, _, rfl, h, ⟨ce, hc, by simpa using hm, hb⟩, k⟩
theorem mm_lst {a : Addr} {m : Str} {xs : List D} {P : Prop} (h : S a = some (.lst xs)) (hm : isLm m = true) {es : CEs} (k : mEs M cu es σ S (fun xs S2 => lmD m (.ref a :: xs) S2 K E) E) : ∃ a' ob, D.ref a = .ref a' ∧ S a' = some ob ∧ match ob.cn with
  | some c => (∃ ce, M.tb c = some ce ∧ m ∈ ce.meths ∧ ob.bare m) ∧ mEs M cu es σ S (fun xs S2 => callO M.fi M.orc (c, some m) (.ref a :: xs) S2 K E) E
  | none => isLst ob = true ∧ isLm m = true ∧ mEs M cu es σ S (fun xs S2 => lmD m (.ref a :: xs) S2 K E) E := ⟨a, _, rfl, h, rfl, hm, k⟩
theorem l_app {a : Addr} {xs : List D} {y : D} (h : S a = some (.lst xs)) (hl : xs.length < sizeLine) (k : K .non (sup S a (.lst (xs ++ [y])))) : lmD "append" [.ref a, y] S K E := (if_pos rfl).mpr ⟨a, xs, y, rfl, h, hl, k⟩
theorem c_run {G : Prg} {n : Nat} {key : DL.Key} {ds : List D} {f : FE} (hf : G.fe key = some f) (hl : ds.length = f.fi.ps.length) (k : mCall G n key ds S K E) : callO (G.env (mCall G n)).fi (G.env (mCall G n)).orc key ds S K E := by
  refine ⟨f.fi, ?_, by omega, by omega, ?_⟩
  · show Option.map _ (G.fe key) = _
    rw [hf]
    rfl
  · rw [hl, Nat.sub_self, Nat.sub_zero, List.drop_length, List.append_nil]
    exact k
theorem c_make {G : Prg} {n : Nat} {c : Str} {ce : ClsE} {ds : List D} {f : FE} (hc : G.tb c = some ce) (hf : G.fe (c, some "__init__") = some f) (hl : ds.length + 1 = f.fi.ps.length)
    (k : ∀ x, S x = none → mCall G n (c, some "__init__") (.ref x :: ds) (sup S x (if ce.slo then .slo c [] else .ins c [])) (fun v S' => v = .non ∧ K (.ref x) S') E) : makeO (G.env (mCall G n)).tb (G.env (mCall G n)).fi (G.env (mCall G n)).orc c ds S K E := by
  refine ⟨ce, hc, f.fi, ?_, by omega, by omega, fun x hx => ?_⟩
  · show Option.map _ (G.fe _) = _
    rw [hf]
    rfl
  · have e : f.fi.dfl.drop (f.fi.dfl.length - (f.fi.ps.length - (ds.length + 1))) = [] := by
      rw [hl, Nat.sub_self, Nat.sub_zero, List.drop_length]
    show mCall G n _ (.ref x :: ds ++ _) _ _ _
    rw [e, List.append_nil]
    exact k x hx
theorem l_ext {a b : Addr} {xs ys : List D} (h : S a = some (.lst xs)) (h' : S b = some (.lst ys)) (hl : xs.length + ys.length ≤ sizeLine) (k : K .non (sup S a (.lst (xs ++ ys)))) : lmD "extend" [.ref a, .ref b] S K E := (if_neg (by decide)).mpr <| (if_pos rfl).mpr ⟨a, b, xs, ys, rfl, h, h', hl, k⟩
theorem sl_lst {a : Addr} {xs : List D} {lo hi : D} {l h' : Option Int} (h : S a = some (.lst xs)) (hl : ptD lo = some l) (hh : ptD hi = some h') (k : ∀ p, S p = none → K (.ref p) (sup S p (.lst (cutD xs l h')))) : slD (.ref a) lo hi S K := ⟨l, h', hl, hh, by simp only [h]; exact k⟩
theorem sl_tup {xs : List D} {lo hi : D} {l h' : Option Int} (hl : ptD lo = some l) (hh : ptD hi = some h') (k : K (.tup (cutD xs l h')) S) : slD (.tup xs) lo hi S K := ⟨l, h', hl, hh, k⟩
theorem b_list {d : D} {xs : List D} (h : itemsD S d = some xs) (k : ∀ p, S p = none → K (.ref p) (sup S p (.lst xs))) : bltM M "list" [d] S K E := blt_list ⟨d, xs, rfl, h, k⟩
theorem b_listl {a : Addr} {xs : List D} (h : S a = some (.lst xs)) (k : ∀ p, S p = none → K (.ref p) (sup S p (.lst xs))) : bltM M "list" [.ref a] S K E := b_list (by simp only [itemsD, h]) k
theorem b_tupl {a : Addr} {xs : List D} (h : S a = some (.lst xs)) (k : K (.tup xs) S) : bltM M "tuple" [.ref a] S K E := blt_tuple ⟨_, xs, rfl, by simp only [itemsD, h], k⟩
theorem b_all' {a : Addr} {bs : List Bool} (h : S a = some (.lst (bs.map D.bl))) (k : K (.bl (bs.all id)) S) : bltM M "all" [.ref a] S K E := blt_all ⟨_, bs, rfl, by simp only [litemsD, h], k⟩
theorem b_any' {a : Addr} {bs : List Bool} (h : S a = some (.lst (bs.map D.bl))) (k : K (.bl (bs.any id)) S) : bltM M "any" [.ref a] S K E := blt_any ⟨_, bs, rfl, by simp only [litemsD, h], k⟩
def RngK (vs : List D) (R : ItD → Sto → Prop) (S : Sto) : Prop := (∃ j, vs = [.int j] ∧ okR j ∧ R (itL (rgD 0 j.toNat)) S) ∨ ∃ i j, vs = [.int i, .int j] ∧ okR i ∧ okR j ∧ R (itL (rgD i (j - i).toNat)) S
theorem rng1 {R : ItD → Sto → Prop} {j : Int} (h1 : -(2 ^ 62) ≤ j) (h2 : j < 2 ^ 62) (k : R (itL (rgD 0 j.toNat)) S) : RngK [.int j] R S := .inl ⟨j, rfl, ⟨h1, h2⟩, k⟩
theorem rng2 {R : ItD → Sto → Prop} {i j : Int} (h1 : -(2 ^ 62) ≤ i) (h2 : i < 2 ^ 62) (h3 : -(2 ^ 62) ≤ j) (h4 : j < 2 ^ 62) (k : R (itL (rgD i (j - i).toNat)) S) : RngK [.int i, .int j] R S := .inr ⟨i, j, rfl, ⟨h1, h2⟩, ⟨h3, h4⟩, k⟩
theorem m_iseq {e : CE} {R : ItD → Sto → Prop} (k : mE M cu e σ S (fun d S1 => (itemsD S1 d).isSome = true ∧ R (itOf d) S1) E) : mI M cu (.seq e) σ S R E := k
theorem m_irng {es : CEs} {R : ItD → Sto → Prop} (k : mEs M cu es σ S (fun vs S1 => RngK vs R S1) E) : mI M cu (.rng es) σ S R E := k
theorem m_ienu {es : CEs} {R : ItD → Sto → Prop} (k : mEs M cu es σ S (fun ds S1 => ∃ d, ds = [d] ∧ (litemsD S1 d).isSome = true ∧ R (enuIt d) S1) E) : mI M cu (.enu es) σ S R E := k
theorem q_enu {a : Addr} {xs : List D} {P : D → Prop} (h : S a = some (.lst xs)) (k : P (.ref a)) : ∃ d, [D.ref a] = [d] ∧ (litemsD S d).isSome = true ∧ P d := ⟨_, rfl, by simp only [litemsD, h]; rfl, k⟩
theorem q_lst {a : Addr} {xs : List D} {P : Prop} (h : S a = some (.lst xs)) (k : P) : (itemsD S (.ref a)).isSome = true ∧ P := ⟨by simp only [itemsD, h]; rfl, k⟩
theorem q_tup {xs : List D} {P : Prop} (k : P) : (itemsD S (.tup xs)).isSome = true ∧ P := ⟨rfl, k⟩
theorem q_rol {xs : List D} {P : Prop} (k : P) : (itemsD S (.rol xs)).isSome = true ∧ P := ⟨rfl, k⟩
def ForL (M : Env1) (cu : Option Cur) (it : ItD) (g : CG) (b : CSs) (D0 : DKs) (σ : DSt) (S1 : Sto) : Prop := ∃ W : Nat → Nat → DSt → Sto → Prop, (∃ m, W 0 m σ S1) ∧ ∀ i m σ S, W i m σ S → ∃ xs, it S = some xs ∧
  ((xs.length ≤ i ∧ D0.nx σ S) ∨ ∃ d, xs[i]? = some d ∧ mG M.tb g d σ S fun σ2 S2 => mSs M cu b { D0 with nx := fun σ' S' => ∃ m', m' < m ∧ W (i + 1) m' σ' S', ct := fun σ' S' => ∃ m', m' < m ∧ W (i + 1) m' σ' S', bk := D0.nx } σ2 S2)
theorem m_sfor {it : CI} {g : CG} {b : CSs} (k : mI M cu it σ S (fun it' S1 => ForL M cu it' g b ⟨nx, rt, bk, ct, ex⟩ σ S1) (fun c fs S => ex c fs σ S)) : mS M cu (.for_ it g b) ⟨nx, rt, bk, ct, ex⟩ σ S := k
/-- the items stay: a wish over the turns -/
theorem for_at {it : ItD} {g : CG} {b : CSs} (xs : List D) (W : Nat → DSt → Sto → Prop) (h0 : W 0 σ S) (hx : ∀ i σ S, W i σ S → it S = some xs)
    (turn : ∀ i σ S d (N : DSt → Sto → Prop), W i σ S → xs[i]? = some d → (∀ σ S, W (i + 1) σ S → N σ S) → mG M.tb g d σ S fun σ2 S2 => mSs M cu b ⟨N, rt, nx, N, ex⟩ σ2 S2) (fin : ∀ σ S, W xs.length σ S → nx σ S) :
    ForL M cu it g b ⟨nx, rt, bk, ct, ex⟩ σ S := by
  refine ⟨fun i m σ S => W i σ S ∧ i ≤ xs.length ∧ m = xs.length - i, ⟨_, h0, Nat.zero_le _, rfl⟩, ?_⟩
  rintro i m σ S ⟨hw, hi, rfl⟩
  refine ⟨xs, hx i σ S hw, ?_⟩
  by_cases h : xs.length ≤ i
  · exact .inl ⟨h, fin σ S (by rw [show xs.length = i by omega]; exact hw)⟩
  · have hl : i < xs.length := by omega
    exact .inr ⟨xs[i], by simp [hl], turn i σ S _ _ hw (by simp [hl]) fun σ' S' hw' => ⟨xs.length - (i + 1), by omega, hw', by omega, rfl⟩⟩
theorem m_swhl {c : CT} {b : CSs} (W : Nat → DSt → Sto → Prop) {m : Nat} (h0 : W m σ S)
    (turn : ∀ m σ S (N : DSt → Sto → Prop), W m σ S → (∀ m' σ S, m' < m → W m' σ S → N σ S) → mT M cu c σ S (fun x S1 => if x = true then mSs M cu b ⟨N, rt, nx, N, ex⟩ σ S1 else nx σ S1) (fun c fs S => ex c fs σ S)) :
    mS M cu (.whl c b) ⟨nx, rt, bk, ct, ex⟩ σ S := ⟨W, ⟨m, h0⟩, fun m σ S hw => turn m σ S _ hw fun m' σ' S' hm hw' => ⟨m', hm, hw'⟩⟩
def LcL (M : Env1) (cu : Option Cur) (it : ItD) (g : CG) (tt : Option CT) (e : CE) (vs : List Nat) (σ : DSt) (S1 : Sto) (K : DK) : Prop := ∀ p, S1 p = none → ∃ W : Nat → Nat → Sto → Prop, (∃ m, W 0 m (sup S1 p (.lst []))) ∧ ∀ i m S, W i m S → ∃ xs, it S = some xs ∧
  ((xs.length ≤ i ∧ K (.ref p) S) ∨ ∃ d, xs[i]? = some d ∧ mG M.tb g d (wipeD σ vs) S fun σ2 S2 => dIfs (mO M cu tt) σ2 S2 (fun b S3 => if b = true then mE M cu e σ2 S3 (fun y S4 => ∃ acc, S4 p = some (.lst acc) ∧ acc.length < sizeLine ∧ ∃ m', m' < m ∧ W (i + 1) m' (sup S4 p (.lst (acc ++ [y])))) noE
    else ∃ m', m' < m ∧ W (i + 1) m' S3) noE)
theorem m_comp {it : CI} {g : CG} {tt : Option CT} {e : CE} {vs : List Nat} (k : mI M cu it σ S (fun it' S1 => LcL M cu it' g tt e vs σ S1 K) E) : mE M cu (.comp it g tt e vs) σ S K E := k
theorem d_none {KT : Bool → Sto → Prop} {E : DX} (k : KT true S) : dIfs (mO M cu none) σ S KT E := k
theorem d_some {t : CT} {KT : Bool → Sto → Prop} {E : DX} (k : mT M cu t σ S KT E) : dIfs (mO M cu (some t)) σ S KT E := k
/-- a comprehension over items that stay: a wish over the list made so far -/
theorem lc_at {it : ItD} {g : CG} {tt : Option CT} {e : CE} {vs : List Nat} (xs : List D) (A : Nat → List D → Prop) (hl : xs.length ≤ sizeLine) (h0 : A 0 []) (hx : ∀ S', Le S S' → it S' = some xs)
    (turn : ∀ i d acc S' (Y : D → Sto → Prop) (Z : Sto → Prop), xs[i]? = some d → A i acc → Le S S' → (∀ y S4, Le S' S4 → A (i + 1) (acc ++ [y]) → Y y S4) → (∀ S4, Le S' S4 → A (i + 1) acc → Z S4) →
      mG M.tb g d (wipeD σ vs) S' fun σ2 S2 => dIfs (mO M cu tt) σ2 S2 (fun b S3 => if b = true then mE M cu e σ2 S3 Y noE else Z S3) noE)
    (fin : ∀ p acc S', A xs.length acc → Le S S' → S p = none → S' p = some (.lst acc) → K (.ref p) S') : LcL M cu it g tt e vs σ S K := by
  intro p hp
  refine ⟨fun i m S' => i ≤ xs.length ∧ m = xs.length - i ∧ ∃ acc, A i acc ∧ acc.length ≤ i ∧ S' p = some (.lst acc) ∧ Le S S', ⟨_, Nat.zero_le _, rfl, [], h0, Nat.le_refl _, sup_same, Le.new hp⟩, ?_⟩
  rintro i m S' ⟨hi, rfl, acc, hA, ha, hS, hL⟩
  refine ⟨xs, hx S' hL, ?_⟩
  by_cases h : xs.length ≤ i
  · have e : xs.length = i := by omega
    exact .inl ⟨h, fin p acc S' (by rw [e]; exact hA) hL hp hS⟩
  · have hlt : i < xs.length := by omega
    refine .inr ⟨xs[i], by simp [hlt], turn i _ acc S' _ _ (by simp [hlt]) hA hL (fun y S4 l4 hA' => ?_) (fun S4 l4 hA' => ?_)⟩
    · exact ⟨acc, l4 p _ rfl hS, by omega, _, (by omega : xs.length - (i + 1) < xs.length - i), by omega, rfl, acc ++ [y], hA', by simp; omega, sup_same, fun a o i q => look_ne (by rintro rfl; rw [hp] at q; cases q) (l4 a o i (hL a o i q))⟩
    · exact ⟨_, (by omega : xs.length - (i + 1) < xs.length - i), by omega, rfl, acc, hA', by omega, l4 p _ rfl hS, hL.trans l4⟩
end
end DL

open PySem PySem.Spec PyProof.Rows L2 DL
local macro_rules | `(tactic| walk_at "dl_var") => `(tactic| first | (with_reducible refine v0 ?_) | (with_reducible refine v1 ?_) | (with_reducible refine v2 ?_) | (with_reducible refine v3 ?_) | (with_reducible refine v4 ?_) | (with_reducible refine v5 ?_) | (with_reducible refine v6 ?_) | (with_reducible refine v7 ?_) | (with_reducible refine v8 ?_) | (with_reducible refine v9 ?_) | (with_reducible refine v10 ?_) | (with_reducible refine v11 ?_) | (with_reducible refine v12 ?_) | (with_reducible refine v13 ?_) | (with_reducible refine v14 ?_) | (with_reducible refine v15 ?_) | (with_reducible refine v16 ?_) | (with_reducible refine v17 ?_) | (with_reducible refine v18 ?_) | (with_reducible refine v19 ?_) | (with_reducible refine v20 ?_) | (with_reducible refine v21 ?_) | (with_reducible refine v22 ?_) | (with_reducible refine v23 ?_) | (with_reducible refine v24 ?_) | (with_reducible refine v25 ?_) | (with_reducible refine v26 ?_) | (with_reducible refine v27 ?_) | (with_reducible refine v28 ?_) | (with_reducible refine v29 ?_) | (with_reducible refine v30 ?_) | (with_reducible refine v31 ?_) | (with_reducible refine v32 ?_) | (with_reducible refine v33 ?_))
local macro_rules | `(tactic| walk_at "dl_g") => `(tactic| first | (with_reducible refine g0 ?_) | (with_reducible refine g1 ?_) | (with_reducible refine g2 ?_) | (with_reducible refine g3 ?_) | (with_reducible refine g4 ?_) | (with_reducible refine g5 ?_) | (with_reducible refine g6 ?_) | (with_reducible refine g7 ?_) | (with_reducible refine g8 ?_) | (with_reducible refine g9 ?_) | (with_reducible refine g10 ?_) | (with_reducible refine g11 ?_) | (with_reducible refine g12 ?_) | (with_reducible refine g13 ?_) | (with_reducible refine g14 ?_) | (with_reducible refine g15 ?_) | (with_reducible refine g16 ?_) | (with_reducible refine g17 ?_) | (with_reducible refine g18 ?_) | (with_reducible refine g19 ?_) | (with_reducible refine g20 ?_) | (with_reducible refine g21 ?_) | (with_reducible refine g22 ?_) | (with_reducible refine g23 ?_) | (with_reducible refine g24 ?_) | (with_reducible refine g25 ?_) | (with_reducible refine g26 ?_) | (with_reducible refine g27 ?_) | (with_reducible refine g28 ?_) | (with_reducible refine g29 ?_) | (with_reducible refine g30 ?_) | (with_reducible refine g31 ?_) | (with_reducible refine g32 ?_) | (with_reducible refine g33 ?_))
local macro_rules | `(tactic| walk_at "dl_e") => `(tactic| first | (with_reducible refine m_cst ?_) | (with_reducible refine m_nil ?_) | (with_reducible refine m_cons ?_) | (with_reducible refine m_op ?_) | (with_reducible refine m_cmp ?_) | (with_reducible refine m_att ?_) | (with_reducible refine m_call ?_) | (with_reducible refine m_ix ?_) | (with_reducible refine m_blt ?_) | (with_reducible refine m_and ?_) | (with_reducible refine m_or ?_) | (with_reducible refine m_not ?_) | (with_reducible refine m_negc ?_) | (with_reducible refine m_ite ?_) | (with_reducible refine m_tup ?_) | (with_reducible refine m_lst ?_) | (with_reducible refine m_make ?_) | (with_reducible refine m_methO ?_) | (with_reducible refine m_sl ?_) | (with_reducible refine m_neg ?_) | (with_reducible refine m_chn ?_) | (with_reducible refine m_comp ?_) | (with_reducible refine m_callI ?_))
local macro_rules | `(tactic| walk_at "dl_t") => `(tactic| first | (with_reducible refine m_tcmp ?_) | (with_reducible refine m_tval ?_) | (with_reducible refine m_tand ?_) | (with_reducible refine m_tor ?_) | (with_reducible refine m_tnot ?_) | (with_reducible refine m_tite ?_) | (with_reducible refine m_tchn ?_))
local macro_rules | `(tactic| walk_at "dl_s") => `(tactic| first | (with_reducible refine m_sscons ?_) | (with_reducible refine m_ssnil ?_) | (with_reducible refine m_sasg ?_) | (with_reducible refine m_siff ?_) | (with_reducible refine m_sret ?_) | (with_reducible refine m_sexpr ?_) | (with_reducible refine m_sset ?_) | (with_reducible refine m_ssub ?_) | (with_reducible refine m_spar ?_) | (with_reducible refine m_saug ?_) | (with_reducible refine m_srais ?_) | (with_reducible refine m_sretN ?_) | (with_reducible refine m_scont ?_) | (with_reducible refine m_sbrk ?_) | (with_reducible refine m_spass ?_) | (with_reducible refine m_sfor ?_) | (with_reducible refine m_iseq ?_) | (with_reducible refine m_irng ?_) | (with_reducible refine m_ienu ?_) | (with_reducible refine g_cons ?_) | (with_reducible refine g_nil ?_) | (with_reducible refine m_try ?_) | (with_reducible refine m_tryAs ?_))
local macro_rules | `(tactic| walk_at "dl_v") => `(tactic| first | (with_reducible refine kb_bl ?_) | (with_reducible refine n_int ?_) | (with_reducible refine nk_bl ?_) | (with_reducible refine bk_bl ?_) | (with_reducible refine t_bl ?_) | (with_reducible refine t_non ?_) | (with_reducible refine t_int ?_) | (with_reducible refine t_tup ?_) | (with_reducible refine k_is ?_) | (with_reducible refine k_isn ?_) | (with_reducible refine k_lt ?_) | (with_reducible refine k_le ?_) | (with_reducible refine k_gt ?_) | (with_reducible refine k_ge ?_) | (with_reducible refine k_eqi ?_) | (with_reducible refine k_nei ?_) | (with_reducible refine k_eqnn ?_) | (with_reducible refine k_eqni ?_) | (with_reducible refine k_eqin ?_) | (with_reducible refine k_nenn ?_) | (with_reducible refine k_neni ?_) | (with_reducible refine k_nein ?_) | (with_reducible refine k_eqb ?_) | (with_reducible refine k_neb ?_) | (with_reducible refine k_eqs ?_) | (with_reducible refine k_nes ?_) | (with_reducible refine k_eqis ?_) | (with_reducible refine k_eqsi ?_) | (with_reducible refine k_eqns ?_) | (with_reducible refine k_eqsn ?_) | (with_reducible refine k_neis ?_) | (with_reducible refine k_nesi ?_) | (with_reducible refine k_nens ?_) | (with_reducible refine k_nesn ?_) | (with_reducible refine o_add ?_) | (with_reducible refine o_sub ?_) | (with_reducible refine p_add ?_) | (with_reducible refine p_sub ?_) | (with_reducible refine b_abs ?_) | (with_reducible refine b_int ?_) | (with_reducible refine b_intb ?_) | (with_reducible refine b_bool ?_) | (with_reducible refine b_lenr ?_) | (with_reducible refine b_lent ?_) | (with_reducible refine b_max ?_) | (with_reducible refine b_min ?_) | (with_reducible refine ite_t ?_) | (with_reducible refine ite_f ?_) | (with_reducible refine q_tup ?_) | (with_reducible refine q_rol ?_) | (with_reducible refine d_none ?_) | (with_reducible refine d_some ?_) | (with_reducible refine m_chk ?_))
local macro_rules | `(tactic| walk_at "dl_k") => `(tactic| first | (refine ite_ct (show _ = true from rfl) ?_) | (refine ite_cf (show _ = false from rfl) ?_))
local macro_rules | `(tactic| walk_at "dl_one") => `(tactic| first | walk_at "dl_var" | walk_at "dl_e" | walk_at "dl_t" | walk_at "dl_s" | walk_at "dl_v" | walk_at "dl_g" | walk_at "dl_k" | ((with_reducible refine g_tup ?_ ?_); · rfl) | ((with_reducible show mG _ (CG.att _ _) _ _ _ _); refine g_att rfl ?_) | ((with_reducible show ixD _ (DL.D.tup _) _ _ _ _); refine x_tup rfl ?_) | ((with_reducible refine o_mod ?_ ?_); · decide) | ((with_reducible refine o_pow ?_ ?_); · exact ⟨by decide, by decide, by decide⟩) | (refine And.intro (len_ok (by simp only [List.length_cons, List.length_nil]; omega)) ?_))
local macro_rules | `(tactic| walk_at "dl_if") => `(tactic| first | ((with_reducible refine ite_pt ?_ ?_); · omega) | ((with_reducible refine ite_pf ?_ ?_); · omega) | ((with_reducible refine ite_npt ?_ ?_); · omega) | ((with_reducible refine ite_npf ?_ ?_); · omega))
local macro_rules | `(tactic| walk_at "dl_all") => `(tactic| repeat walk_at "dl_one")
local macro_rules | `(tactic| walk_at "dl_look") => `(tactic| first | assumption | exact sup_same | (refine look_old (by assumption) ?_; walk_at "dl_look") | (refine look_ne (by assumption) ?_; walk_at "dl_look") | (refine look_le (by assumption) rfl ?_; walk_at "dl_look") | (refine look_lx (by assumption) (by first | assumption | exact Ne.symm (by assumption)) rfl ?_; walk_at "dl_look"))
local macro_rules | `(tactic| walk_at "dl_ne") => `(tactic| first | assumption | exact ne_new (by assumption) (by walk_at "dl_look") | exact ne_new' (by assumption) (by walk_at "dl_look"))
local macro_rules | `(tactic| walk_at "dl_go") => `(tactic| repeat (first | walk_at "dl_one" | walk_at "dl_if"))
set_option Elab.async false
set_option linter.all false
set_option maxRecDepth 100000
set_option maxHeartbeats 4000000
namespace LW
open PySem PySem.Spec PyProof.Rows L2 DL

abbrev pP : Program := PySem.Challenge.pw_safeupto_k39_formulas_told
def gkL : List (Str × GK) := [(("is_integer" : Str), GK.fn), (("is_count" : Str), GK.fn), (("SafeError" : Str), (GK.exc "")), (("InvalidNumber" : Str), (GK.exc "value")), (("InvalidPaper" : Str), (GK.exc "value")), (("ENDLESS" : Str), (GK.val (.str "endless"))), (("is_greater" : Str), GK.fn), (("greatest_of" : Str), GK.fn), (("Limit" : Str), GK.cls), (("is_stair" : Str), GK.fn), (("Formula" : Str), GK.cls), (("_law_pool" : Str), GK.fn), (("_law_take" : Str), GK.fn), (("_law_drawn" : Str), GK.fn), (("_law_at" : Str), GK.fn), (("_law_due" : Str), GK.fn), (("_law_refused" : Str), GK.fn), (("_law_number_refused" : Str), GK.fn), (("_law_refusals_right" : Str), GK.fn), (("law" : Str), GK.fn), (("abs" : Str), GK.blt), (("int" : Str), GK.blt), (("bool" : Str), GK.blt), (("len" : Str), GK.blt), (("max" : Str), GK.blt), (("min" : Str), GK.blt), (("all" : Str), GK.blt), (("list" : Str), GK.blt), (("tuple" : Str), GK.blt), (("repr" : Str), GK.blt), (("isinstance" : Str), GK.blt), (("range" : Str), GK.blt), (("sorted" : Str), GK.blt), (("enumerate" : Str), GK.blt)]
def tbL : List (Str × ClsE) := [(("Limit" : Str), (⟨true, ["own_size"], ["size"], ["__init__", "__contains__", "__bool__", "__eq__", "is_within", "__and__"]⟩ : ClsE)), (("Formula" : Str), (⟨false, ["own_firsts", "own_stairs", "own_endless"], ["firsts", "stairs", "endless"], ["__init__", "at", "greatest", "first_above", "__call__", "__or__", "__add__"]⟩ : ClsE))]
def exL : List ExD := [⟨"InvalidNumber", "value", "InvalidNumber.__init__", "not such a number", 0, exPl pP 5 0⟩, ⟨"InvalidPaper", "value", "InvalidPaper.__init__", "not such a paper", 0, exPl pP 6 0⟩]
def isiL : List ((TyC × TyC) × Bool) := [((TyC.b "NoneType", TyC.c "Limit"), false), ((TyC.b "bool", TyC.c "Limit"), false), ((TyC.b "int", TyC.c "Limit"), false), ((TyC.b "str", TyC.c "Limit"), false), ((TyC.b "tuple", TyC.c "Limit"), false), ((TyC.b "list", TyC.c "Limit"), false), ((TyC.b "dict", TyC.c "Limit"), false), ((TyC.c "Limit", TyC.c "Limit"), true), ((TyC.c "Formula", TyC.c "Limit"), false), ((TyC.b "NoneType", TyC.b "bool"), false), ((TyC.b "bool", TyC.b "bool"), true), ((TyC.b "int", TyC.b "bool"), false), ((TyC.b "str", TyC.b "bool"), false), ((TyC.b "tuple", TyC.b "bool"), false), ((TyC.b "list", TyC.b "bool"), false), ((TyC.b "dict", TyC.b "bool"), false), ((TyC.c "Limit", TyC.b "bool"), false), ((TyC.c "Formula", TyC.b "bool"), false), ((TyC.b "NoneType", TyC.b "int"), false), ((TyC.b "bool", TyC.b "int"), true), ((TyC.b "int", TyC.b "int"), true), ((TyC.b "str", TyC.b "int"), false), ((TyC.b "tuple", TyC.b "int"), false), ((TyC.b "list", TyC.b "int"), false), ((TyC.b "dict", TyC.b "int"), false), ((TyC.c "Limit", TyC.b "int"), false), ((TyC.c "Formula", TyC.b "int"), false), ((TyC.b "NoneType", TyC.b "list"), false), ((TyC.b "bool", TyC.b "list"), false), ((TyC.b "int", TyC.b "list"), false), ((TyC.b "str", TyC.b "list"), false), ((TyC.b "tuple", TyC.b "list"), false), ((TyC.b "list", TyC.b "list"), true), ((TyC.b "dict", TyC.b "list"), false), ((TyC.c "Limit", TyC.b "list"), false), ((TyC.c "Formula", TyC.b "list"), false), ((TyC.b "NoneType", TyC.b "tuple"), false), ((TyC.b "bool", TyC.b "tuple"), false), ((TyC.b "int", TyC.b "tuple"), false), ((TyC.b "str", TyC.b "tuple"), false), ((TyC.b "tuple", TyC.b "tuple"), true), ((TyC.b "list", TyC.b "tuple"), false), ((TyC.b "dict", TyC.b "tuple"), false), ((TyC.c "Limit", TyC.b "tuple"), false), ((TyC.c "Formula", TyC.b "tuple"), false)]
def sxL : List ((Str × Str) × Bool) := [((("SafeError" : Str), ("InvalidNumber" : Str)), false), ((("SafeError" : Str), ("InvalidPaper" : Str)), false), ((("InvalidNumber" : Str), ("InvalidNumber" : Str)), true), ((("InvalidNumber" : Str), ("InvalidPaper" : Str)), false), ((("InvalidPaper" : Str), ("InvalidNumber" : Str)), false), ((("InvalidPaper" : Str), ("InvalidPaper" : Str)), true)]
def c_is_integer : CSs := (.cons (.ret (.and (.blt "isinstance" (.cons (.var 0) (.cons (.cst (.ty "int")) .nil))) (.not (.blt "isinstance" (.cons (.var 0) (.cons (.cst (.ty "bool")) .nil)))))) <| .nil)
def e_is_integer : DefE := ⟨("is_integer", none), ⟨⟨["value"], []⟩, ["value"], c_is_integer⟩, dAt pP 1 none ("is_integer", none) "is_integer", 400⟩
def c_is_count : CSs := (.cons (.ret (.and (.call ("is_integer", none) (.cons (.var 0) .nil)) (.cmp .GtE (.var 0) (.cst (.int 0))))) <| .nil)
def e_is_count : DefE := ⟨("is_count", none), ⟨⟨["value"], []⟩, ["value"], c_is_count⟩, dAt pP 2 none ("is_count", none) "is_count", 400⟩
def c_is_greater : CSs := (.cons (.iff (.or (.cmp .Is (.var 0) (.cst .non)) (.cmp .Eq (.var 1) (.cst (.str "endless")))) (.cons (.ret (.cst (.bl false))) <| .nil) (.nil)) <| .cons (.iff (.or (.cmp .Is (.var 1) (.cst .non)) (.cmp .Eq (.var 0) (.cst (.str "endless")))) (.cons (.ret (.cst (.bl true))) <| .nil) (.nil)) <| .cons (.ret (.cmp .Gt (.var 0) (.var 1))) <| .nil)
def e_is_greater : DefE := ⟨("is_greater", none), ⟨⟨["first", "second"], []⟩, ["first", "second"], c_is_greater⟩, dAt pP 9 none ("is_greater", none) "is_greater", 400⟩
def c_greatest_of_L1 : CSs := (.cons (.iff (.val (.call ("is_greater", none) (.cons (.var 2) (.cons (.var 1) .nil)))) (.cons (.asg (.var 2) (.nm 1)) <| .nil) (.nil)) <| .nil)
def c_greatest_of : CSs := (.cons (.asg (.cst .non) (.nm 1)) <| .cons (.for_ (.seq (.var 0)) (.nm 2) c_greatest_of_L1) <| .cons (.ret (.var 1)) <| .nil)
def e_greatest_of : DefE := ⟨("greatest_of", none), ⟨⟨["values"], []⟩, ["values", "found", "value"], c_greatest_of⟩, dAt pP 10 none ("greatest_of", none) "greatest_of", 400⟩
def c_Limit___init__ : CSs := (.cons (.iff (.and (.cmp .IsNot (.var 1) (.cst .non)) (.not (.and (.val (.call ("is_integer", none) (.cons (.var 1) .nil))) (.cmp .GtE (.var 1) (.neg (.cst (.int 1))))))) (.cons (.raise "InvalidNumber" "value" (.var 1)) <| .nil) (.nil)) <| .cons (.setA (.var 1) (.var 0) "own_size") <| .nil)
def e_Limit___init__ : DefE := ⟨("Limit", some "__init__"), ⟨⟨["self", "size"], []⟩, ["self", "size"], c_Limit___init__⟩, dAt pP 12 (some 1) ("Limit", some "__init__") "Limit.__init__", 400⟩
def c_Limit_size : CSs := (.cons (.ret (.att (.var 0) "own_size")) <| .nil)
def e_Limit_size : DefE := ⟨("Limit", some "size"), ⟨⟨["self"], []⟩, ["self"], c_Limit_size⟩, dAt pP 12 (some 2) ("Limit", some "size") "Limit.size", 400⟩
def c_Limit___contains__ : CSs := (.cons (.ret (.and (.call ("is_integer", none) (.cons (.var 1) .nil)) (.or (.cmp .Is (.att (.var 0) "own_size") (.cst .non)) (.cmp .LtE (.var 1) (.att (.var 0) "own_size"))))) <| .nil)
def e_Limit___contains__ : DefE := ⟨("Limit", some "__contains__"), ⟨⟨["self", "value"], []⟩, ["self", "value"], c_Limit___contains__⟩, dAt pP 12 (some 3) ("Limit", some "__contains__") "Limit.__contains__", 400⟩
def c_Limit___bool__ : CSs := (.cons (.ret (.or (.cmp .Is (.att (.var 0) "own_size") (.cst .non)) (.cmp .GtE (.att (.var 0) "own_size") (.cst (.int 0))))) <| .nil)
def e_Limit___bool__ : DefE := ⟨("Limit", some "__bool__"), ⟨⟨["self"], []⟩, ["self"], c_Limit___bool__⟩, dAt pP 12 (some 4) ("Limit", some "__bool__") "Limit.__bool__", 400⟩
def c_Limit___eq__ : CSs := (.cons (.ret (.and (.blt "isinstance" (.cons (.var 1) (.cons (.cst (.glo "Limit")) .nil))) (.cmp .Eq (.att (.var 0) "own_size") (.att (.var 1) "own_size")))) <| .nil)
def e_Limit___eq__ : DefE := ⟨("Limit", some "__eq__"), ⟨⟨["self", "other"], []⟩, ["self", "other"], c_Limit___eq__⟩, dAt pP 12 (some 5) ("Limit", some "__eq__") "Limit.__eq__", 400⟩
def c_Limit_is_within : CSs := (.cons (.ret (.or (.cmp .Is (.att (.var 1) "own_size") (.cst .non)) (.and (.cmp .IsNot (.att (.var 0) "own_size") (.cst .non)) (.cmp .LtE (.att (.var 0) "own_size") (.att (.var 1) "own_size"))))) <| .nil)
def e_Limit_is_within : DefE := ⟨("Limit", some "is_within"), ⟨⟨["self", "other"], []⟩, ["self", "other"], c_Limit_is_within⟩, dAt pP 12 (some 6) ("Limit", some "is_within") "Limit.is_within", 400⟩
def c_Limit___and__ : CSs := (.cons (.ret (.make "Limit" (.cons (.ite (.val (.meth (.var 0) "is_within" (.cons (.var 1) .nil))) (.att (.var 0) "own_size") (.att (.var 1) "own_size")) .nil))) <| .nil)
def e_Limit___and__ : DefE := ⟨("Limit", some "__and__"), ⟨⟨["self", "other"], []⟩, ["self", "other"], c_Limit___and__⟩, dAt pP 12 (some 7) ("Limit", some "__and__") "Limit.__and__", 400⟩
def c_is_stair : CSs := (.cons (.iff (.or (.not (.val (.blt "isinstance" (.cons (.var 0) (.cons (.cst (.ty "tuple")) .nil))))) (.or (.cmp .NotEq (.blt "len" (.cons (.var 0) .nil)) (.cst (.int 4))) (.not (.val (.blt "all" (.cons (.comp (.seq (.var 0)) (.nm 2) none (.call ("is_integer", none) (.cons (.var 2) .nil)) [1, 2]) .nil)))))) (.cons (.ret (.cst (.bl false))) <| .nil) (.nil)) <| .cons (.ret (.and (.cmp .GtE (.ix (.var 0) (.cst (.int 1))) (.cst (.int 1))) (.and (.chn .LtE .Lt (.cst (.int 0)) (.ix (.var 0) (.cst (.int 0))) (.ix (.var 0) (.cst (.int 1)))) (.cmp .GtE (.ix (.var 0) (.cst (.int 3))) (.cst (.int 0)))))) <| .nil)
def e_is_stair : DefE := ⟨("is_stair", none), ⟨⟨["value"], []⟩, ["value", ".0", "one"], c_is_stair⟩, dAt pP 14 none ("is_stair", none) "is_stair", 400⟩
def c_Formula___init__ : CSs := (.cons (.asg (.and (.blt "isinstance" (.cons (.var 1) (.cons (.cst (.ty "list")) .nil))) (.and (.blt "isinstance" (.cons (.var 2) (.cons (.cst (.ty "list")) .nil))) (.or (.cmp .Is (.var 3) (.cst .non)) (.call ("is_count", none) (.cons (.var 3) .nil))))) (.nm 4)) <| .cons (.iff (.or (.not (.val (.var 4))) (.not (.val (.blt "all" (.cons (.comp (.seq (.var 1)) (.nm 6) none (.or (.cmp .Is (.var 6) (.cst .non)) (.call ("is_integer", none) (.cons (.var 6) .nil))) [5, 6]) .nil))))) (.cons (.raise "InvalidPaper" "value" (.tup (.cons (.var 1) (.cons (.var 2) (.cons (.var 3) .nil))))) <| .nil) (.nil)) <| .cons (.iff (.not (.val (.blt "all" (.cons (.comp (.seq (.var 2)) (.nm 6) none (.call ("is_stair", none) (.cons (.var 6) .nil)) [5, 6]) .nil)))) (.cons (.raise "InvalidPaper" "value" (.tup (.cons (.var 1) (.cons (.var 2) (.cons (.var 3) .nil))))) <| .nil) (.nil)) <| .cons (.asg (.tup (.cons (.blt "list" (.cons (.var 1) .nil)) (.cons (.blt "sorted" (.cons (.var 2) .nil)) (.cons (.var 3) .nil)))) (.tup 3 (.cons (.att 0 "own_firsts") (.cons (.att 0 "own_stairs") (.cons (.att 0 "own_endless") .nil))))) <| .nil)
def e_Formula___init__ : DefE := ⟨("Formula", some "__init__"), ⟨⟨["self", "firsts", "stairs", "endless"], []⟩, ["self", "firsts", "stairs", "endless", "is_right", ".0", "one"], c_Formula___init__⟩, dAt pP 15 (some 0) ("Formula", some "__init__") "Formula.__init__", 400⟩
def c_Formula_firsts : CSs := (.cons (.ret (.blt "list" (.cons (.att (.var 0) "own_firsts") .nil))) <| .nil)
def e_Formula_firsts : DefE := ⟨("Formula", some "firsts"), ⟨⟨["self"], []⟩, ["self"], c_Formula_firsts⟩, dAt pP 15 (some 1) ("Formula", some "firsts") "Formula.firsts", 400⟩
def c_Formula_stairs : CSs := (.cons (.ret (.blt "list" (.cons (.att (.var 0) "own_stairs") .nil))) <| .nil)
def e_Formula_stairs : DefE := ⟨("Formula", some "stairs"), ⟨⟨["self"], []⟩, ["self"], c_Formula_stairs⟩, dAt pP 15 (some 2) ("Formula", some "stairs") "Formula.stairs", 400⟩
def c_Formula_endless : CSs := (.cons (.ret (.att (.var 0) "own_endless")) <| .nil)
def e_Formula_endless : DefE := ⟨("Formula", some "endless"), ⟨⟨["self"], []⟩, ["self"], c_Formula_endless⟩, dAt pP 15 (some 3) ("Formula", some "endless") "Formula.endless", 400⟩
def c_Formula_at : CSs := (.cons (.iff (.and (.cmp .IsNot (.att (.var 0) "own_endless") (.cst .non)) (.cmp .GtE (.var 1) (.att (.var 0) "own_endless"))) (.cons (.ret (.cst (.str "endless"))) <| .nil) (.nil)) <| .cons (.iff (.cmp .Lt (.var 1) (.blt "len" (.cons (.att (.var 0) "own_firsts") .nil))) (.cons (.ret (.ix (.att (.var 0) "own_firsts") (.var 1))) <| .nil) (.nil)) <| .cons (.ret (.call ("greatest_of", none) (.cons (.comp (.seq (.att (.var 0) "own_stairs")) (.tup 4 (.cons (.nm 3) (.cons (.nm 4) (.cons (.nm 5) (.cons (.nm 6) .nil))))) (some (.cmp .Eq (.op .Mod (.var 1) (.var 4)) (.var 3))) (.op .Add (.var 5) (.op .Mult (.var 6) (.op .FloorDiv (.var 1) (.var 4)))) [2, 3, 4, 5, 6]) .nil))) <| .nil)
def e_Formula_at : DefE := ⟨("Formula", some "at"), ⟨⟨["self", "count"], []⟩, ["self", "count", ".0", "offset", "period", "value", "gain"], c_Formula_at⟩, dAt pP 15 (some 4) ("Formula", some "at") "Formula.at", 400⟩
def c_Formula_greatest : CSs := (.cons (.iff (.not (.val (.call ("is_count", none) (.cons (.var 1) .nil)))) (.cons (.raise "InvalidNumber" "value" (.var 1)) <| .nil) (.nil)) <| .cons (.ret (.meth (.var 0) "at" (.cons (.var 1) .nil))) <| .nil)
def e_Formula_greatest : DefE := ⟨("Formula", some "greatest"), ⟨⟨["self", "count"], []⟩, ["self", "count"], c_Formula_greatest⟩, dAt pP 15 (some 5) ("Formula", some "greatest") "Formula.greatest", 400⟩
def c_Formula_first_above : CSs := (.cons (.asg (.var 1) (.tup 4 (.cons (.nm 3) (.cons (.nm 4) (.cons (.nm 5) (.cons (.nm 6) .nil)))))) <| .cons (.asg (.blt "max" (.cons (.cst (.int 0)) (.cons (.neg (.op .FloorDiv (.op .Sub (.var 3) (.blt "len" (.cons (.att (.var 0) "own_firsts") .nil))) (.var 4))) .nil))) (.nm 7)) <| .cons (.iff (.cmp .LtE (.op .Add (.var 5) (.op .Mult (.var 6) (.var 7))) (.var 2)) (.cons (.iff (.cmp .Eq (.var 6) (.cst (.int 0))) (.cons (.ret (.cst .non)) <| .nil) (.nil)) <| .cons (.asg (.op .Add (.op .FloorDiv (.op .Sub (.var 2) (.var 5)) (.var 6)) (.cst (.int 1))) (.nm 7)) <| .nil) (.nil)) <| .cons (.ret (.op .Add (.var 3) (.op .Mult (.var 4) (.var 7)))) <| .nil)
def e_Formula_first_above : DefE := ⟨("Formula", some "first_above"), ⟨⟨["self", "stair", "most"], []⟩, ["self", "stair", "most", "offset", "period", "value", "gain", "many"], c_Formula_first_above⟩, dAt pP 15 (some 6) ("Formula", some "first_above") "Formula.first_above", 400⟩
def c_Formula___call___L1 : CSs := (.cons (.asg (.meth (.var 0) "first_above" (.cons (.var 4) (.cons (.var 1) .nil))) (.nm 3)) <| .cons (.iff (.cmp .IsNot (.var 3) (.cst .non)) (.cons (.expr (.meth (.var 2) "append" (.cons (.var 3) .nil))) <| .nil) (.nil)) <| .nil)
def c_Formula___call__ : CSs := (.cons (.iff (.not (.val (.call ("is_integer", none) (.cons (.var 1) .nil)))) (.cons (.raise "InvalidNumber" "value" (.var 1)) <| .nil) (.nil)) <| .cons (.asg (.ite (.cmp .Is (.att (.var 0) "own_endless") (.cst .non)) (.lst .nil) (.lst (.cons (.att (.var 0) "own_endless") .nil))) (.nm 2)) <| .cons (.expr (.meth (.var 2) "extend" (.cons (.sl (.comp (.enu (.cons (.att (.var 0) "own_firsts") .nil)) (.tup 2 (.cons (.nm 3) (.cons (.nm 6) .nil))) (some (.val (.call ("is_greater", none) (.cons (.var 6) (.cons (.var 1) .nil))))) (.var 3) [5, 3, 6]) (.cst .non) (.cst (.int 1))) .nil))) <| .cons (.for_ (.seq (.att (.var 0) "own_stairs")) (.nm 4) c_Formula___call___L1) <| .cons (.ret (.make "Limit" (.cons (.ite (.cmp .NotEq (.var 2) (.lst .nil)) (.op .Sub (.blt "min" (.cons (.var 2) .nil)) (.cst (.int 1))) (.cst .non)) .nil))) <| .nil)
def e_Formula___call__ : DefE := ⟨("Formula", some "__call__"), ⟨⟨["self", "most"], []⟩, ["self", "most", "found", "at", "stair", ".0", "value"], c_Formula___call__⟩, dAt pP 15 (some 7) ("Formula", some "__call__") "Formula.__call__", 400⟩
def c_Formula___or__ : CSs := (.cons (.asg (.comp (.seq (.tup (.cons (.var 0) (.cons (.var 1) .nil)))) (.nm 6) (some (.cmp .IsNot (.att (.var 6) "own_endless") (.cst .non))) (.att (.var 6) "own_endless") [5, 6]) (.nm 2)) <| .cons (.asg (.blt "max" (.cons (.blt "len" (.cons (.att (.var 0) "own_firsts") .nil)) (.cons (.blt "len" (.cons (.att (.var 1) "own_firsts") .nil)) .nil))) (.nm 3)) <| .cons (.asg (.comp (.rng (.cons (.var 3) .nil)) (.nm 7) none (.call ("greatest_of", none) (.cons (.lst (.cons (.meth (.var 0) "at" (.cons (.var 7) .nil)) (.cons (.meth (.var 1) "at" (.cons (.var 7) .nil)) .nil))) .nil)) [5, 7]) (.nm 4)) <| .cons (.asg (.comp (.seq (.var 4)) (.nm 8) none (.ite (.cmp .Eq (.var 8) (.cst (.str "endless"))) (.cst .non) (.var 8)) [5, 8]) (.nm 4)) <| .cons (.ret (.make "Formula" (.cons (.var 4) (.cons (.op .Add (.att (.var 0) "own_stairs") (.att (.var 1) "own_stairs")) (.cons (.ite (.cmp .NotEq (.var 2) (.lst .nil)) (.blt "min" (.cons (.var 2) .nil)) (.cst .non)) .nil))))) <| .nil)
def e_Formula___or__ : DefE := ⟨("Formula", some "__or__"), ⟨⟨["self", "other"], []⟩, ["self", "other", "ends", "many", "firsts", ".0", "one", "at", "value"], c_Formula___or__⟩, dAt pP 15 (some 8) ("Formula", some "__or__") "Formula.__or__", 400⟩
def c_Formula___add__ : CSs := (.cons (.asg (.comp (.seq (.att (.var 0) "own_firsts")) (.nm 5) none (.ite (.cmp .Is (.var 5) (.cst .non)) (.cst .non) (.op .Add (.var 5) (.var 1))) [4, 5]) (.nm 2)) <| .cons (.asg (.comp (.seq (.att (.var 0) "own_stairs")) (.tup 4 (.cons (.nm 6) (.cons (.nm 7) (.cons (.nm 5) (.cons (.nm 8) .nil))))) none (.tup (.cons (.var 6) (.cons (.var 7) (.cons (.op .Add (.var 5) (.var 1)) (.cons (.var 8) .nil))))) [4, 6, 7, 5, 8]) (.nm 3)) <| .cons (.ret (.make "Formula" (.cons (.var 2) (.cons (.var 3) (.cons (.att (.var 0) "own_endless") .nil))))) <| .nil)
def e_Formula___add__ : DefE := ⟨("Formula", some "__add__"), ⟨⟨["self", "number"], []⟩, ["self", "number", "firsts", "stairs", ".0", "value", "offset", "period", "gain"], c_Formula___add__⟩, dAt pP 15 (some 9) ("Formula", some "__add__") "Formula.__add__", 400⟩
def c__law_pool : CSs := (.cons (.asg (.cst (.int 0)) (.nm 2)) <| .cons (.iff (.cmp .Lt (.var 1) (.blt "len" (.cons (.var 0) .nil))) (.cons (.asg (.blt "abs" (.cons (.ix (.var 0) (.var 1)) .nil)) (.nm 2)) <| .nil) (.nil)) <| .cons (.asg (.op .Mod (.blt "int" (.cons (.op .Mult (.op .Add (.op .Add (.op .Add (.op .Mod (.blt "int" (.cons (.var 2) .nil)) (.cst (.int 2147483629))) (.op .Mult (.op .Mult (.cst (.int 7919)) (.var 1)) (.var 1))) (.op .Mult (.cst (.int 31)) (.var 1))) (.cst (.int 17))) (.cst (.int 48271))) .nil)) (.cst (.int 2147483647))) (.nm 3)) <| .cons (.ret (.lst (.cons (.op .Mult (.var 2) (.blt "int" (.cons (.cmp .GtE (.var 2) (.op .Pow (.cst (.int 10)) (.cst (.int 18)))) .nil))) (.cons (.op .Mod (.blt "int" (.cons (.op .Mult (.var 3) (.var 3)) .nil)) (.cst (.int 2147483629))) .nil)))) <| .nil)
def e__law_pool : DefE := ⟨("_law_pool", none), ⟨⟨["_law_script", "_law_k"], []⟩, ["_law_script", "_law_k", "_law_cell", "_law_mixed"], c__law_pool⟩, dAt pP 17 none ("_law_pool", none) "_law_pool", 400⟩
def c__law_take : CSs := (.cons (.iff (.cmp .Gt (.ix (.var 0) (.cst (.int 0))) (.cst (.int 0))) (.cons (.asg (.op .Mod (.blt "int" (.cons (.ix (.var 0) (.cst (.int 0))) .nil)) (.var 1)) (.nm 2)) <| .cons (.sub (.op .FloorDiv (.blt "int" (.cons (.ix (.var 0) (.cst (.int 0))) .nil)) (.var 1)) (.var 0) (.cst (.int 0))) <| .cons (.ret (.var 2)) <| .nil) (.nil)) <| .cons (.sub (.op .Mod (.blt "int" (.cons (.op .Add (.op .Mult (.ix (.var 0) (.cst (.int 1))) (.cst (.int 48271))) (.cst (.int 12345))) .nil)) (.cst (.int 2147483647))) (.var 0) (.cst (.int 1))) <| .cons (.ret (.op .Mod (.blt "int" (.cons (.op .FloorDiv (.op .Mod (.blt "int" (.cons (.op .Mult (.ix (.var 0) (.cst (.int 1))) (.ix (.var 0) (.cst (.int 1)))) .nil)) (.cst (.int 2147483629))) (.cst (.int 64))) .nil)) (.var 1))) <| .nil)
def e__law_take : DefE := ⟨("_law_take", none), ⟨⟨["_law_pool_here", "_law_many"], []⟩, ["_law_pool_here", "_law_many", "_law_found"], c__law_take⟩, dAt pP 18 none ("_law_take", none) "_law_take", 400⟩
def c__law_drawn_L1 : CSs := (.cons (.expr (.meth (.var 1) "append" (.cons (.ite (.cmp .Eq (.call ("_law_take", none) (.cons (.var 0) (.cons (.cst (.int 4)) .nil))) (.cst (.int 0))) (.cst .non) (.op .Sub (.call ("_law_take", none) (.cons (.var 0) (.cons (.cst (.int 20)) .nil))) (.cst (.int 8)))) .nil))) <| .nil)
def c__law_drawn_L2 : CSs := (.cons (.asg (.op .Add (.cst (.int 1)) (.call ("_law_take", none) (.cons (.var 0) (.cons (.cst (.int 4)) .nil)))) (.nm 4)) <| .cons (.expr (.meth (.var 2) "append" (.cons (.tup (.cons (.call ("_law_take", none) (.cons (.var 0) (.cons (.var 4) .nil))) (.cons (.var 4) (.cons (.op .Sub (.call ("_law_take", none) (.cons (.var 0) (.cons (.cst (.int 20)) .nil))) (.cst (.int 10))) (.cons (.call ("_law_take", none) (.cons (.var 0) (.cons (.cst (.int 5)) .nil))) .nil))))) .nil))) <| .nil)
def c__law_drawn : CSs := (.cons (.par 1 2 (.lst .nil) (.lst .nil)) <| .cons (.for_ (.rng (.cons (.call ("_law_take", none) (.cons (.var 0) (.cons (.cst (.int 6)) .nil))) .nil)) (.nm 3) c__law_drawn_L1) <| .cons (.for_ (.rng (.cons (.call ("_law_take", none) (.cons (.var 0) (.cons (.cst (.int 4)) .nil))) .nil)) (.nm 3) c__law_drawn_L2) <| .cons (.ret (.lst (.cons (.var 1) (.cons (.var 2) (.cons (.ite (.cmp .Eq (.call ("_law_take", none) (.cons (.var 0) (.cons (.cst (.int 4)) .nil))) (.cst (.int 0))) (.call ("_law_take", none) (.cons (.var 0) (.cons (.cst (.int 40)) .nil))) (.cst .non)) .nil))))) <| .nil)
def e__law_drawn : DefE := ⟨("_law_drawn", none), ⟨⟨["_law_pool_here"], []⟩, ["_law_pool_here", "_law_firsts", "_law_stairs", "_law_turn", "_law_period"], c__law_drawn⟩, dAt pP 19 none ("_law_drawn", none) "_law_drawn", 400⟩
def c__law_at : CSs := (.cons (.asg (.var 0) (.tup 3 (.cons (.nm 2) (.cons (.nm 3) (.cons (.nm 4) .nil))))) <| .cons (.iff (.and (.cmp .IsNot (.var 4) (.cst .non)) (.cmp .GtE (.var 1) (.var 4))) (.cons (.ret (.cst (.str "endless"))) <| .nil) (.nil)) <| .cons (.iff (.cmp .Lt (.var 1) (.blt "len" (.cons (.var 2) .nil))) (.cons (.ret (.ix (.var 2) (.var 1))) <| .nil) (.nil)) <| .cons (.asg (.comp (.seq (.var 3)) (.tup 4 (.cons (.nm 7) (.cons (.nm 8) (.cons (.nm 9) (.cons (.nm 10) .nil))))) (some (.cmp .Eq (.op .Mod (.var 1) (.var 8)) (.var 7))) (.op .Add (.var 9) (.op .Mult (.var 10) (.op .FloorDiv (.var 1) (.var 8)))) [6, 7, 8, 9, 10]) (.nm 5)) <| .cons (.ret (.ite (.cmp .NotEq (.var 5) (.lst .nil)) (.blt "max" (.cons (.var 5) .nil)) (.cst .non))) <| .nil)
def e__law_at : DefE := ⟨("_law_at", none), ⟨⟨["_law_parts", "_law_count"], []⟩, ["_law_parts", "_law_count", "_law_firsts", "_law_stairs", "_law_last", "_law_found", ".0", "_law_offset", "_law_period", "_law_value", "_law_gain"], c__law_at⟩, dAt pP 20 none ("_law_at", none) "_law_at", 400⟩
def c__law_due_L1 : CSs := (.cons (.asg (.call ("_law_at", none) (.cons (.var 0) (.cons (.var 3) .nil))) (.nm 4)) <| .cons (.iff (.and (.cmp .IsNot (.var 4) (.cst .non)) (.or (.cmp .Eq (.var 4) (.cst (.str "endless"))) (.cmp .Gt (.var 4) (.var 1)))) (.cons (.ret (.op .Sub (.var 3) (.cst (.int 1)))) <| .nil) (.nil)) <| .nil)
def c__law_due : CSs := (.cons (.for_ (.rng (.cons (.var 2) .nil)) (.nm 3) c__law_due_L1) <| .cons (.ret (.cst .non)) <| .nil)
def e__law_due : DefE := ⟨("_law_due", none), ⟨⟨["_law_parts", "_law_most", "_law_length"], []⟩, ["_law_parts", "_law_most", "_law_length", "_law_count", "_law_value"], c__law_due⟩, dAt pP 21 none ("_law_due", none) "_law_due", 400⟩
def c__law_refused : CSs := (.cons (.tryAs "InvalidPaper" 3 (.cons (.expr (.make "Formula" (.cons (.var 0) (.cons (.var 1) (.cons (.var 2) .nil))))) <| .nil) (.cons (.ret (.cmp .Eq (.blt "repr" (.cons (.att (.var 3) "value") .nil)) (.blt "repr" (.cons (.tup (.cons (.var 0) (.cons (.var 1) (.cons (.var 2) .nil)))) .nil)))) <| .nil)) <| .cons (.ret (.cst (.bl false))) <| .nil)
def e__law_refused : DefE := ⟨("_law_refused", none), ⟨⟨["_law_one", "_law_two", "_law_three"], []⟩, ["_law_one", "_law_two", "_law_three", "e"], c__law_refused⟩, dAt pP 22 none ("_law_refused", none) "_law_refused", 400⟩
def c__law_number_refused : CSs := (.cons (.asg (.lst .nil) (.nm 2)) <| .cons (.tryAs "InvalidNumber" 3 (.cons (.expr (.meth (.var 0) "greatest" (.cons (.var 1) .nil))) <| .nil) (.cons (.expr (.meth (.var 2) "append" (.cons (.cmp .Eq (.blt "repr" (.cons (.att (.var 3) "value") .nil)) (.blt "repr" (.cons (.var 1) .nil))) .nil))) <| .nil)) <| .cons (.iff (.cmp .Eq (.var 1) (.neg (.cst (.int 1)))) (.cons (.ret (.cmp .Eq (.var 2) (.lst (.cons (.cst (.bl true)) .nil)))) <| .nil) (.nil)) <| .cons (.tryAs "InvalidNumber" 3 (.cons (.expr (.callI 0 (.cons (.var 1) .nil))) <| .nil) (.cons (.expr (.meth (.var 2) "append" (.cons (.cmp .Eq (.blt "repr" (.cons (.att (.var 3) "value") .nil)) (.blt "repr" (.cons (.var 1) .nil))) .nil))) <| .nil)) <| .cons (.ret (.cmp .Eq (.var 2) (.lst (.cons (.cst (.bl true)) (.cons (.cst (.bl true)) .nil))))) <| .nil)
def e__law_number_refused : DefE := ⟨("_law_number_refused", none), ⟨⟨["_law_made", "_law_odd"], []⟩, ["_law_made", "_law_odd", "_law_found", "e"], c__law_number_refused⟩, dAt pP 23 none ("_law_number_refused", none) "_law_number_refused", 400⟩
def c__law_refusals_right_L1 : CSs := (.cons (.iff (.not (.val (.call ("_law_refused", none) (.cons (.var 0) (.cons (.lst .nil) (.cons (.cst .non) .nil)))))) (.cons (.ret (.cst (.bl false))) <| .nil) (.nil)) <| .nil)
def c__law_refusals_right_L2 : CSs := (.cons (.iff (.not (.val (.call ("_law_refused", none) (.cons (.lst .nil) (.cons (.var 0) (.cons (.cst .non) .nil)))))) (.cons (.ret (.cst (.bl false))) <| .nil) (.nil)) <| .nil)
def c__law_refusals_right_L3 : CSs := (.cons (.iff (.not (.val (.call ("_law_refused", none) (.cons (.lst (.cons (.cst (.int 1)) .nil)) (.cons (.var 0) (.cons (.cst .non) .nil)))))) (.cons (.ret (.cst (.bl false))) <| .nil) (.nil)) <| .nil)
def c__law_refusals_right : CSs := (.cons (.for_ (.seq (.lst (.cons (.cst .non) (.cons (.tup .nil) (.cons (.cst (.int 5)) (.cons (.lst (.cons (.cst (.bl true)) .nil)) (.cons (.lst (.cons (.cst (.str "1")) .nil)) (.cons (.lst (.cons (.lst (.cons (.cst (.int 1)) .nil)) .nil)) (.cons (.lst (.cons .dic0 .nil)) (.cons .dic0 .nil)))))))))) (.nm 0) c__law_refusals_right_L1) <| .cons (.for_ (.seq (.lst (.cons (.cst .non) (.cons (.tup .nil) (.cons (.cst (.int 5)) (.cons (.lst (.cons (.cst .non) .nil)) (.cons (.lst (.cons (.tup (.cons (.cst (.int 0)) (.cons (.cst (.int 1)) (.cons (.cst (.int 2)) .nil)))) .nil)) (.cons (.lst (.cons (.lst (.cons (.cst (.int 0)) (.cons (.cst (.int 1)) (.cons (.cst (.int 2)) (.cons (.cst (.int 3)) .nil))))) .nil)) (.cons (.lst (.cons (.tup (.cons (.cst (.int 1)) (.cons (.cst (.int 1)) (.cons (.cst (.int 0)) (.cons (.cst (.int 0)) .nil))))) .nil)) (.cons (.lst (.cons (.tup (.cons (.neg (.cst (.int 1))) (.cons (.cst (.int 2)) (.cons (.cst (.int 0)) (.cons (.cst (.int 0)) .nil))))) .nil)) (.cons (.lst (.cons (.tup (.cons (.cst (.int 0)) (.cons (.cst (.int 0)) (.cons (.cst (.int 0)) (.cons (.cst (.int 0)) .nil))))) .nil)) .nil))))))))))) (.nm 0) c__law_refusals_right_L2) <| .cons (.for_ (.seq (.lst (.cons (.lst (.cons (.tup (.cons (.cst (.int 0)) (.cons (.cst (.int 1)) (.cons (.cst .non) (.cons (.cst (.int 0)) .nil))))) .nil)) (.cons (.lst (.cons (.tup (.cons (.cst (.int 0)) (.cons (.cst (.int 1)) (.cons (.cst (.int 0)) (.cons (.neg (.cst (.int 1))) .nil))))) .nil)) (.cons (.lst (.cons (.tup (.cons (.cst (.int 0)) (.cons (.cst (.bl true)) (.cons (.cst (.int 0)) (.cons (.cst (.int 0)) .nil))))) .nil)) (.cons (.lst (.cons (.tup (.cons (.cst (.int 0)) (.cons (.cst (.int 1)) (.cons (.cst (.int 0)) (.cons (.cst (.int 0)) .nil))))) (.cons (.cst (.int 5)) .nil))) (.cons (.lst (.cons (.tup (.cons (.cst (.int 0)) (.cons (.cst (.int 1)) (.cons (.cst (.int 0)) (.cons (.cst (.int 0)) (.cons (.cst (.int 0)) .nil)))))) .nil)) .nil))))))) (.nm 0) c__law_refusals_right_L3) <| .cons (.ret (.cmp .Eq (.comp (.seq (.lst (.cons (.neg (.cst (.int 1))) (.cons (.cst (.bl true)) (.cons (.cst (.str "1")) (.cons (.lst (.cons (.cst (.int 1)) .nil)) (.cons (.tup (.cons (.cst (.int 1)) .nil)) .nil))))))) (.nm 0) (some (.not (.val (.call ("_law_refused", none) (.cons (.lst .nil) (.cons (.lst .nil) (.cons (.var 0) .nil))))))) (.var 0) [1, 0]) (.lst .nil))) <| .nil)
def e__law_refusals_right : DefE := ⟨("_law_refusals_right", none), ⟨⟨[], []⟩, ["_law_odd", ".0"], c__law_refusals_right⟩, dAt pP 24 none ("_law_refusals_right", none) "_law_refusals_right", 400⟩
def c_law_L1 : CSs := (.cons (.expr (.meth (.var 7) "append" (.cons (.tup (.cons (.cst (.int 0)) (.cons (.cst (.int 1)) (.cons (.cst (.int 99)) (.cons (.cst (.int 9)) .nil))))) .nil))) <| .nil)
def c_law_L2 : CSs := (.cons (.par 10 11 (.call ("_law_due", none) (.cons (.var 4) (.cons (.var 9) (.cons (.cst (.int 400)) .nil)))) (.att (.callI 6 (.cons (.var 9) .nil)) "size")) <| .cons (.iff (.cmp .NotEq (.var 11) (.var 10)) (.cons (.ret (.cst (.bl false))) <| .nil) (.nil)) <| .nil)
def c_law_L3 : CSs := (.cons (.iff (.not (.val (.call ("_law_number_refused", none) (.cons (.var 6) (.cons (.var 12) .nil))))) (.cons (.ret (.cst (.bl false))) <| .nil) (.nil)) <| .nil)
def c_law_L4 : CSs := (.cons (.asg (.call ("_law_drawn", none) (.cons (.var 2) .nil)) (.nm 4)) <| .cons (.asg (.lst (.cons (.blt "list" (.cons (.ix (.var 4) (.cst (.int 0))) .nil)) (.cons (.blt "list" (.cons (.ix (.var 4) (.cst (.int 1))) .nil)) .nil))) (.nm 5)) <| .cons (.asg (.make "Formula" (.cons (.ix (.var 5) (.cst (.int 0))) (.cons (.ix (.var 5) (.cst (.int 1))) (.cons (.ix (.var 4) (.cst (.int 2))) .nil)))) (.nm 6)) <| .cons (.for_ (.seq (.var 5)) (.nm 7) c_law_L1) <| .cons (.expr (.meth (.att (.var 6) "firsts") "append" (.cons (.cst .non) .nil))) <| .cons (.expr (.meth (.att (.var 6) "stairs") "append" (.cons (.cst .non) .nil))) <| .cons (.iff (.or (.cmp .NotEq (.att (.var 6) "firsts") (.ix (.var 4) (.cst (.int 0)))) (.or (.cmp .NotEq (.att (.var 6) "stairs") (.blt "sorted" (.cons (.ix (.var 4) (.cst (.int 1))) .nil))) (.cmp .NotEq (.att (.var 6) "endless") (.ix (.var 4) (.cst (.int 2)))))) (.cons (.ret (.cst (.bl false))) <| .nil) (.nil)) <| .cons (.iff (.cmp .NotEq (.comp (.rng (.cons (.cst (.int 45)) .nil)) (.nm 14) none (.meth (.var 6) "greatest" (.cons (.var 14) .nil)) [13, 14]) (.comp (.rng (.cons (.cst (.int 45)) .nil)) (.nm 14) none (.call ("_law_at", none) (.cons (.var 4) (.cons (.var 14) .nil))) [13, 14])) (.cons (.ret (.cst (.bl false))) <| .nil) (.nil)) <| .cons (.asg (.op .Add (.op .Pow (.cst (.int 10)) (.cst (.int 29))) (.call ("_law_take", none) (.cons (.var 2) (.cons (.op .Pow (.cst (.int 10)) (.cst (.int 6))) .nil)))) (.nm 8)) <| .cons (.iff (.cmp .NotEq (.meth (.var 6) "greatest" (.cons (.var 8) .nil)) (.call ("_law_at", none) (.cons (.var 4) (.cons (.var 8) .nil)))) (.cons (.ret (.cst (.bl false))) <| .nil) (.nil)) <| .cons (.for_ (.seq (.lst (.cons (.op .Sub (.call ("_law_take", none) (.cons (.var 2) (.cons (.cst (.int 40)) .nil))) (.cst (.int 10))) (.cons (.neg (.cst (.int 20))) (.cons (.cst (.int 60)) .nil))))) (.nm 9) c_law_L2) <| .cons (.for_ (.seq (.lst (.cons (.cst .non) (.cons (.neg (.cst (.int 1))) (.cons (.cst (.bl true)) (.cons (.cst (.str "5")) (.cons (.lst (.cons (.cst (.int 5)) .nil)) (.cons (.tup (.cons (.cst (.int 5)) .nil)) .nil)))))))) (.nm 12) c_law_L3) <| .nil)
def c_law_L5 : CSs := (.cons (.asg (.call ("_law_pool", none) (.cons (.var 0) (.cons (.var 1) .nil))) (.nm 2)) <| .cons (.for_ (.rng (.cons (.cst (.int 6)) .nil)) (.nm 3) c_law_L4) <| .nil)
def c_law : CSs := (.cons (.iff (.not (.val (.call ("_law_refusals_right", none) .nil))) (.cons (.ret (.cst (.bl false))) <| .nil) (.nil)) <| .cons (.for_ (.rng (.cons (.blt "max" (.cons (.cst (.int 1)) (.cons (.blt "min" (.cons (.cst (.int 10)) (.cons (.blt "len" (.cons (.var 0) .nil)) .nil))) .nil))) .nil)) (.nm 1) c_law_L5) <| .cons (.ret (.cst (.bl true))) <| .nil)
def e_law : DefE := ⟨("law", none), ⟨⟨["_law_script"], []⟩, ["_law_script", "_law_k", "_law_pool_here", "_law_turn", "_law_parts", "_law_handed", "_law_made", "_law_row", "_law_great", "_law_most", "_law_due_here", "_law_found", "_law_odd", ".0", "_law_count"], c_law⟩, dAt pP 25 none ("law", none) "law", 400⟩
def pd : PD := ⟨gkL, tbL, [e_is_integer, e_is_count, e_is_greater, e_greatest_of, e_Limit___init__, e_Limit_size, e_Limit___contains__, e_Limit___bool__, e_Limit___eq__, e_Limit_is_within, e_Limit___and__, e_is_stair, e_Formula___init__, e_Formula_firsts, e_Formula_stairs, e_Formula_endless, e_Formula_at, e_Formula_greatest, e_Formula_first_above, e_Formula___call__, e_Formula___or__, e_Formula___add__, e__law_pool, e__law_take, e__law_drawn, e__law_at, e__law_due, e__law_refused, e__law_number_refused, e__law_refusals_right, e_law], exL, isiL, sxL⟩
theorem s_is_integer : FnScope e_is_integer.fe.N e_is_integer.fe.fi.ps e_is_integer.d.scope := ⟨by kernel_rfl, by kernel_rfl, by kernel_rfl, by decide +kernel, by kernel_rfl, by decide +kernel, by decide +kernel⟩
theorem r_is_integer : cSs e_is_integer.m ⟨e_is_integer.fe.N, e_is_integer.d.scope, fun _ => true, pd.prg.gk, true, true⟩ e_is_integer.d.body = some e_is_integer.fe.code := by kernel_rfl
theorem b_is_integer : ∀ (kV doc pm : Value) (an : Option Addr) (cdv ct : Value) (us : List Value), us.length = e_is_integer.fe.fi.ps.length → bindArgs (PySem.W.fnOf e_is_integer.d.name e_is_integer.d.qual e_is_integer.d.params e_is_integer.d.body e_is_integer.d.scope .none kV doc pm an cdv ct) { pos := us } = pure (e_is_integer.fe.fi.ps.zip us) := fun _ _ _ _ _ _ us hl => match us, hl with | [_], _ => rfl
theorem s_is_count : FnScope e_is_count.fe.N e_is_count.fe.fi.ps e_is_count.d.scope := ⟨by kernel_rfl, by kernel_rfl, by kernel_rfl, by decide +kernel, by kernel_rfl, by decide +kernel, by decide +kernel⟩
theorem r_is_count : cSs e_is_count.m ⟨e_is_count.fe.N, e_is_count.d.scope, fun _ => true, pd.prg.gk, true, true⟩ e_is_count.d.body = some e_is_count.fe.code := by kernel_rfl
theorem b_is_count : ∀ (kV doc pm : Value) (an : Option Addr) (cdv ct : Value) (us : List Value), us.length = e_is_count.fe.fi.ps.length → bindArgs (PySem.W.fnOf e_is_count.d.name e_is_count.d.qual e_is_count.d.params e_is_count.d.body e_is_count.d.scope .none kV doc pm an cdv ct) { pos := us } = pure (e_is_count.fe.fi.ps.zip us) := fun _ _ _ _ _ _ us hl => match us, hl with | [_], _ => rfl
theorem s_is_greater : FnScope e_is_greater.fe.N e_is_greater.fe.fi.ps e_is_greater.d.scope := ⟨by kernel_rfl, by kernel_rfl, by kernel_rfl, by decide +kernel, by kernel_rfl, by decide +kernel, by decide +kernel⟩
theorem r_is_greater : cSs e_is_greater.m ⟨e_is_greater.fe.N, e_is_greater.d.scope, fun _ => true, pd.prg.gk, true, true⟩ e_is_greater.d.body = some e_is_greater.fe.code := by kernel_rfl
theorem b_is_greater : ∀ (kV doc pm : Value) (an : Option Addr) (cdv ct : Value) (us : List Value), us.length = e_is_greater.fe.fi.ps.length → bindArgs (PySem.W.fnOf e_is_greater.d.name e_is_greater.d.qual e_is_greater.d.params e_is_greater.d.body e_is_greater.d.scope .none kV doc pm an cdv ct) { pos := us } = pure (e_is_greater.fe.fi.ps.zip us) := fun _ _ _ _ _ _ us hl => match us, hl with | [_, _], _ => rfl
theorem s_greatest_of : FnScope e_greatest_of.fe.N e_greatest_of.fe.fi.ps e_greatest_of.d.scope := ⟨by kernel_rfl, by kernel_rfl, by kernel_rfl, by decide +kernel, by kernel_rfl, by decide +kernel, by decide +kernel⟩
theorem r_greatest_of : cSs e_greatest_of.m ⟨e_greatest_of.fe.N, e_greatest_of.d.scope, fun _ => true, pd.prg.gk, true, true⟩ e_greatest_of.d.body = some e_greatest_of.fe.code := by kernel_rfl
theorem b_greatest_of : ∀ (kV doc pm : Value) (an : Option Addr) (cdv ct : Value) (us : List Value), us.length = e_greatest_of.fe.fi.ps.length → bindArgs (PySem.W.fnOf e_greatest_of.d.name e_greatest_of.d.qual e_greatest_of.d.params e_greatest_of.d.body e_greatest_of.d.scope .none kV doc pm an cdv ct) { pos := us } = pure (e_greatest_of.fe.fi.ps.zip us) := fun _ _ _ _ _ _ us hl => match us, hl with | [_], _ => rfl
theorem s_Limit___init__ : FnScope e_Limit___init__.fe.N e_Limit___init__.fe.fi.ps e_Limit___init__.d.scope := ⟨by kernel_rfl, by kernel_rfl, by kernel_rfl, by decide +kernel, by kernel_rfl, by decide +kernel, by decide +kernel⟩
theorem r_Limit___init__ : cSs e_Limit___init__.m ⟨e_Limit___init__.fe.N, e_Limit___init__.d.scope, fun _ => true, pd.prg.gk, true, true⟩ e_Limit___init__.d.body = some e_Limit___init__.fe.code := by kernel_rfl
theorem b_Limit___init__ : ∀ (kV doc pm : Value) (an : Option Addr) (cdv ct : Value) (us : List Value), us.length = e_Limit___init__.fe.fi.ps.length → bindArgs (PySem.W.fnOf e_Limit___init__.d.name e_Limit___init__.d.qual e_Limit___init__.d.params e_Limit___init__.d.body e_Limit___init__.d.scope .none kV doc pm an cdv ct) { pos := us } = pure (e_Limit___init__.fe.fi.ps.zip us) := fun _ _ _ _ _ _ us hl => match us, hl with | [_, _], _ => rfl
theorem s_Limit_size : FnScope e_Limit_size.fe.N e_Limit_size.fe.fi.ps e_Limit_size.d.scope := ⟨by kernel_rfl, by kernel_rfl, by kernel_rfl, by decide +kernel, by kernel_rfl, by decide +kernel, by decide +kernel⟩
theorem r_Limit_size : cSs e_Limit_size.m ⟨e_Limit_size.fe.N, e_Limit_size.d.scope, fun _ => true, pd.prg.gk, true, true⟩ e_Limit_size.d.body = some e_Limit_size.fe.code := by kernel_rfl
theorem b_Limit_size : ∀ (kV doc pm : Value) (an : Option Addr) (cdv ct : Value) (us : List Value), us.length = e_Limit_size.fe.fi.ps.length → bindArgs (PySem.W.fnOf e_Limit_size.d.name e_Limit_size.d.qual e_Limit_size.d.params e_Limit_size.d.body e_Limit_size.d.scope .none kV doc pm an cdv ct) { pos := us } = pure (e_Limit_size.fe.fi.ps.zip us) := fun _ _ _ _ _ _ us hl => match us, hl with | [_], _ => rfl
theorem s_Limit___contains__ : FnScope e_Limit___contains__.fe.N e_Limit___contains__.fe.fi.ps e_Limit___contains__.d.scope := ⟨by kernel_rfl, by kernel_rfl, by kernel_rfl, by decide +kernel, by kernel_rfl, by decide +kernel, by decide +kernel⟩
theorem r_Limit___contains__ : cSs e_Limit___contains__.m ⟨e_Limit___contains__.fe.N, e_Limit___contains__.d.scope, fun _ => true, pd.prg.gk, true, true⟩ e_Limit___contains__.d.body = some e_Limit___contains__.fe.code := by kernel_rfl
theorem b_Limit___contains__ : ∀ (kV doc pm : Value) (an : Option Addr) (cdv ct : Value) (us : List Value), us.length = e_Limit___contains__.fe.fi.ps.length → bindArgs (PySem.W.fnOf e_Limit___contains__.d.name e_Limit___contains__.d.qual e_Limit___contains__.d.params e_Limit___contains__.d.body e_Limit___contains__.d.scope .none kV doc pm an cdv ct) { pos := us } = pure (e_Limit___contains__.fe.fi.ps.zip us) := fun _ _ _ _ _ _ us hl => match us, hl with | [_, _], _ => rfl
theorem s_Limit___bool__ : FnScope e_Limit___bool__.fe.N e_Limit___bool__.fe.fi.ps e_Limit___bool__.d.scope := ⟨by kernel_rfl, by kernel_rfl, by kernel_rfl, by decide +kernel, by kernel_rfl, by decide +kernel, by decide +kernel⟩
theorem r_Limit___bool__ : cSs e_Limit___bool__.m ⟨e_Limit___bool__.fe.N, e_Limit___bool__.d.scope, fun _ => true, pd.prg.gk, true, true⟩ e_Limit___bool__.d.body = some e_Limit___bool__.fe.code := by kernel_rfl
theorem b_Limit___bool__ : ∀ (kV doc pm : Value) (an : Option Addr) (cdv ct : Value) (us : List Value), us.length = e_Limit___bool__.fe.fi.ps.length → bindArgs (PySem.W.fnOf e_Limit___bool__.d.name e_Limit___bool__.d.qual e_Limit___bool__.d.params e_Limit___bool__.d.body e_Limit___bool__.d.scope .none kV doc pm an cdv ct) { pos := us } = pure (e_Limit___bool__.fe.fi.ps.zip us) := fun _ _ _ _ _ _ us hl => match us, hl with | [_], _ => rfl
theorem s_Limit___eq__ : FnScope e_Limit___eq__.fe.N e_Limit___eq__.fe.fi.ps e_Limit___eq__.d.scope := ⟨by kernel_rfl, by kernel_rfl, by kernel_rfl, by decide +kernel, by kernel_rfl, by decide +kernel, by decide +kernel⟩
theorem r_Limit___eq__ : cSs e_Limit___eq__.m ⟨e_Limit___eq__.fe.N, e_Limit___eq__.d.scope, fun _ => true, pd.prg.gk, true, true⟩ e_Limit___eq__.d.body = some e_Limit___eq__.fe.code := by kernel_rfl
theorem b_Limit___eq__ : ∀ (kV doc pm : Value) (an : Option Addr) (cdv ct : Value) (us : List Value), us.length = e_Limit___eq__.fe.fi.ps.length → bindArgs (PySem.W.fnOf e_Limit___eq__.d.name e_Limit___eq__.d.qual e_Limit___eq__.d.params e_Limit___eq__.d.body e_Limit___eq__.d.scope .none kV doc pm an cdv ct) { pos := us } = pure (e_Limit___eq__.fe.fi.ps.zip us) := fun _ _ _ _ _ _ us hl => match us, hl with | [_, _], _ => rfl
theorem s_Limit_is_within : FnScope e_Limit_is_within.fe.N e_Limit_is_within.fe.fi.ps e_Limit_is_within.d.scope := ⟨by kernel_rfl, by kernel_rfl, by kernel_rfl, by decide +kernel, by kernel_rfl, by decide +kernel, by decide +kernel⟩
theorem r_Limit_is_within : cSs e_Limit_is_within.m ⟨e_Limit_is_within.fe.N, e_Limit_is_within.d.scope, fun _ => true, pd.prg.gk, true, true⟩ e_Limit_is_within.d.body = some e_Limit_is_within.fe.code := by kernel_rfl
theorem b_Limit_is_within : ∀ (kV doc pm : Value) (an : Option Addr) (cdv ct : Value) (us : List Value), us.length = e_Limit_is_within.fe.fi.ps.length → bindArgs (PySem.W.fnOf e_Limit_is_within.d.name e_Limit_is_within.d.qual e_Limit_is_within.d.params e_Limit_is_within.d.body e_Limit_is_within.d.scope .none kV doc pm an cdv ct) { pos := us } = pure (e_Limit_is_within.fe.fi.ps.zip us) := fun _ _ _ _ _ _ us hl => match us, hl with | [_, _], _ => rfl
theorem s_Limit___and__ : FnScope e_Limit___and__.fe.N e_Limit___and__.fe.fi.ps e_Limit___and__.d.scope := ⟨by kernel_rfl, by kernel_rfl, by kernel_rfl, by decide +kernel, by kernel_rfl, by decide +kernel, by decide +kernel⟩
theorem r_Limit___and__ : cSs e_Limit___and__.m ⟨e_Limit___and__.fe.N, e_Limit___and__.d.scope, fun _ => true, pd.prg.gk, true, true⟩ e_Limit___and__.d.body = some e_Limit___and__.fe.code := by kernel_rfl
theorem b_Limit___and__ : ∀ (kV doc pm : Value) (an : Option Addr) (cdv ct : Value) (us : List Value), us.length = e_Limit___and__.fe.fi.ps.length → bindArgs (PySem.W.fnOf e_Limit___and__.d.name e_Limit___and__.d.qual e_Limit___and__.d.params e_Limit___and__.d.body e_Limit___and__.d.scope .none kV doc pm an cdv ct) { pos := us } = pure (e_Limit___and__.fe.fi.ps.zip us) := fun _ _ _ _ _ _ us hl => match us, hl with | [_, _], _ => rfl
theorem s_is_stair : FnScope e_is_stair.fe.N e_is_stair.fe.fi.ps e_is_stair.d.scope := ⟨by kernel_rfl, by kernel_rfl, by kernel_rfl, by decide +kernel, by kernel_rfl, by decide +kernel, by decide +kernel⟩
theorem r_is_stair : cSs e_is_stair.m ⟨e_is_stair.fe.N, e_is_stair.d.scope, fun _ => true, pd.prg.gk, true, true⟩ e_is_stair.d.body = some e_is_stair.fe.code := by kernel_rfl
theorem b_is_stair : ∀ (kV doc pm : Value) (an : Option Addr) (cdv ct : Value) (us : List Value), us.length = e_is_stair.fe.fi.ps.length → bindArgs (PySem.W.fnOf e_is_stair.d.name e_is_stair.d.qual e_is_stair.d.params e_is_stair.d.body e_is_stair.d.scope .none kV doc pm an cdv ct) { pos := us } = pure (e_is_stair.fe.fi.ps.zip us) := fun _ _ _ _ _ _ us hl => match us, hl with | [_], _ => rfl
theorem s_Formula___init__ : FnScope e_Formula___init__.fe.N e_Formula___init__.fe.fi.ps e_Formula___init__.d.scope := ⟨by kernel_rfl, by kernel_rfl, by kernel_rfl, by decide +kernel, by kernel_rfl, by decide +kernel, by decide +kernel⟩
theorem r_Formula___init__ : cSs e_Formula___init__.m ⟨e_Formula___init__.fe.N, e_Formula___init__.d.scope, fun _ => true, pd.prg.gk, true, true⟩ e_Formula___init__.d.body = some e_Formula___init__.fe.code := by kernel_rfl
theorem b_Formula___init__ : ∀ (kV doc pm : Value) (an : Option Addr) (cdv ct : Value) (us : List Value), us.length = e_Formula___init__.fe.fi.ps.length → bindArgs (PySem.W.fnOf e_Formula___init__.d.name e_Formula___init__.d.qual e_Formula___init__.d.params e_Formula___init__.d.body e_Formula___init__.d.scope .none kV doc pm an cdv ct) { pos := us } = pure (e_Formula___init__.fe.fi.ps.zip us) := fun _ _ _ _ _ _ us hl => match us, hl with | [_, _, _, _], _ => rfl
theorem s_Formula_firsts : FnScope e_Formula_firsts.fe.N e_Formula_firsts.fe.fi.ps e_Formula_firsts.d.scope := ⟨by kernel_rfl, by kernel_rfl, by kernel_rfl, by decide +kernel, by kernel_rfl, by decide +kernel, by decide +kernel⟩
theorem r_Formula_firsts : cSs e_Formula_firsts.m ⟨e_Formula_firsts.fe.N, e_Formula_firsts.d.scope, fun _ => true, pd.prg.gk, true, true⟩ e_Formula_firsts.d.body = some e_Formula_firsts.fe.code := by kernel_rfl
theorem b_Formula_firsts : ∀ (kV doc pm : Value) (an : Option Addr) (cdv ct : Value) (us : List Value), us.length = e_Formula_firsts.fe.fi.ps.length → bindArgs (PySem.W.fnOf e_Formula_firsts.d.name e_Formula_firsts.d.qual e_Formula_firsts.d.params e_Formula_firsts.d.body e_Formula_firsts.d.scope .none kV doc pm an cdv ct) { pos := us } = pure (e_Formula_firsts.fe.fi.ps.zip us) := fun _ _ _ _ _ _ us hl => match us, hl with | [_], _ => rfl
theorem s_Formula_stairs : FnScope e_Formula_stairs.fe.N e_Formula_stairs.fe.fi.ps e_Formula_stairs.d.scope := ⟨by kernel_rfl, by kernel_rfl, by kernel_rfl, by decide +kernel, by kernel_rfl, by decide +kernel, by decide +kernel⟩
theorem r_Formula_stairs : cSs e_Formula_stairs.m ⟨e_Formula_stairs.fe.N, e_Formula_stairs.d.scope, fun _ => true, pd.prg.gk, true, true⟩ e_Formula_stairs.d.body = some e_Formula_stairs.fe.code := by kernel_rfl
theorem b_Formula_stairs : ∀ (kV doc pm : Value) (an : Option Addr) (cdv ct : Value) (us : List Value), us.length = e_Formula_stairs.fe.fi.ps.length → bindArgs (PySem.W.fnOf e_Formula_stairs.d.name e_Formula_stairs.d.qual e_Formula_stairs.d.params e_Formula_stairs.d.body e_Formula_stairs.d.scope .none kV doc pm an cdv ct) { pos := us } = pure (e_Formula_stairs.fe.fi.ps.zip us) := fun _ _ _ _ _ _ us hl => match us, hl with | [_], _ => rfl
theorem s_Formula_endless : FnScope e_Formula_endless.fe.N e_Formula_endless.fe.fi.ps e_Formula_endless.d.scope := ⟨by kernel_rfl, by kernel_rfl, by kernel_rfl, by decide +kernel, by kernel_rfl, by decide +kernel, by decide +kernel⟩
theorem r_Formula_endless : cSs e_Formula_endless.m ⟨e_Formula_endless.fe.N, e_Formula_endless.d.scope, fun _ => true, pd.prg.gk, true, true⟩ e_Formula_endless.d.body = some e_Formula_endless.fe.code := by kernel_rfl
theorem b_Formula_endless : ∀ (kV doc pm : Value) (an : Option Addr) (cdv ct : Value) (us : List Value), us.length = e_Formula_endless.fe.fi.ps.length → bindArgs (PySem.W.fnOf e_Formula_endless.d.name e_Formula_endless.d.qual e_Formula_endless.d.params e_Formula_endless.d.body e_Formula_endless.d.scope .none kV doc pm an cdv ct) { pos := us } = pure (e_Formula_endless.fe.fi.ps.zip us) := fun _ _ _ _ _ _ us hl => match us, hl with | [_], _ => rfl
theorem s_Formula_at : FnScope e_Formula_at.fe.N e_Formula_at.fe.fi.ps e_Formula_at.d.scope := ⟨by kernel_rfl, by kernel_rfl, by kernel_rfl, by decide +kernel, by kernel_rfl, by decide +kernel, by decide +kernel⟩
theorem r_Formula_at : cSs e_Formula_at.m ⟨e_Formula_at.fe.N, e_Formula_at.d.scope, fun _ => true, pd.prg.gk, true, true⟩ e_Formula_at.d.body = some e_Formula_at.fe.code := by kernel_rfl
theorem b_Formula_at : ∀ (kV doc pm : Value) (an : Option Addr) (cdv ct : Value) (us : List Value), us.length = e_Formula_at.fe.fi.ps.length → bindArgs (PySem.W.fnOf e_Formula_at.d.name e_Formula_at.d.qual e_Formula_at.d.params e_Formula_at.d.body e_Formula_at.d.scope .none kV doc pm an cdv ct) { pos := us } = pure (e_Formula_at.fe.fi.ps.zip us) := fun _ _ _ _ _ _ us hl => match us, hl with | [_, _], _ => rfl
theorem s_Formula_greatest : FnScope e_Formula_greatest.fe.N e_Formula_greatest.fe.fi.ps e_Formula_greatest.d.scope := ⟨by kernel_rfl, by kernel_rfl, by kernel_rfl, by decide +kernel, by kernel_rfl, by decide +kernel, by decide +kernel⟩
theorem r_Formula_greatest : cSs e_Formula_greatest.m ⟨e_Formula_greatest.fe.N, e_Formula_greatest.d.scope, fun _ => true, pd.prg.gk, true, true⟩ e_Formula_greatest.d.body = some e_Formula_greatest.fe.code := by kernel_rfl
theorem b_Formula_greatest : ∀ (kV doc pm : Value) (an : Option Addr) (cdv ct : Value) (us : List Value), us.length = e_Formula_greatest.fe.fi.ps.length → bindArgs (PySem.W.fnOf e_Formula_greatest.d.name e_Formula_greatest.d.qual e_Formula_greatest.d.params e_Formula_greatest.d.body e_Formula_greatest.d.scope .none kV doc pm an cdv ct) { pos := us } = pure (e_Formula_greatest.fe.fi.ps.zip us) := fun _ _ _ _ _ _ us hl => match us, hl with | [_, _], _ => rfl
theorem s_Formula_first_above : FnScope e_Formula_first_above.fe.N e_Formula_first_above.fe.fi.ps e_Formula_first_above.d.scope := ⟨by kernel_rfl, by kernel_rfl, by kernel_rfl, by decide +kernel, by kernel_rfl, by decide +kernel, by decide +kernel⟩
theorem r_Formula_first_above : cSs e_Formula_first_above.m ⟨e_Formula_first_above.fe.N, e_Formula_first_above.d.scope, fun _ => true, pd.prg.gk, true, true⟩ e_Formula_first_above.d.body = some e_Formula_first_above.fe.code := by kernel_rfl
theorem b_Formula_first_above : ∀ (kV doc pm : Value) (an : Option Addr) (cdv ct : Value) (us : List Value), us.length = e_Formula_first_above.fe.fi.ps.length → bindArgs (PySem.W.fnOf e_Formula_first_above.d.name e_Formula_first_above.d.qual e_Formula_first_above.d.params e_Formula_first_above.d.body e_Formula_first_above.d.scope .none kV doc pm an cdv ct) { pos := us } = pure (e_Formula_first_above.fe.fi.ps.zip us) := fun _ _ _ _ _ _ us hl => match us, hl with | [_, _, _], _ => rfl
theorem s_Formula___call__ : FnScope e_Formula___call__.fe.N e_Formula___call__.fe.fi.ps e_Formula___call__.d.scope := ⟨by kernel_rfl, by kernel_rfl, by kernel_rfl, by decide +kernel, by kernel_rfl, by decide +kernel, by decide +kernel⟩
theorem r_Formula___call__ : cSs e_Formula___call__.m ⟨e_Formula___call__.fe.N, e_Formula___call__.d.scope, fun _ => true, pd.prg.gk, true, true⟩ e_Formula___call__.d.body = some e_Formula___call__.fe.code := by kernel_rfl
theorem b_Formula___call__ : ∀ (kV doc pm : Value) (an : Option Addr) (cdv ct : Value) (us : List Value), us.length = e_Formula___call__.fe.fi.ps.length → bindArgs (PySem.W.fnOf e_Formula___call__.d.name e_Formula___call__.d.qual e_Formula___call__.d.params e_Formula___call__.d.body e_Formula___call__.d.scope .none kV doc pm an cdv ct) { pos := us } = pure (e_Formula___call__.fe.fi.ps.zip us) := fun _ _ _ _ _ _ us hl => match us, hl with | [_, _], _ => rfl
theorem s_Formula___or__ : FnScope e_Formula___or__.fe.N e_Formula___or__.fe.fi.ps e_Formula___or__.d.scope := ⟨by kernel_rfl, by kernel_rfl, by kernel_rfl, by decide +kernel, by kernel_rfl, by decide +kernel, by decide +kernel⟩
theorem r_Formula___or__ : cSs e_Formula___or__.m ⟨e_Formula___or__.fe.N, e_Formula___or__.d.scope, fun _ => true, pd.prg.gk, true, true⟩ e_Formula___or__.d.body = some e_Formula___or__.fe.code := by kernel_rfl
theorem b_Formula___or__ : ∀ (kV doc pm : Value) (an : Option Addr) (cdv ct : Value) (us : List Value), us.length = e_Formula___or__.fe.fi.ps.length → bindArgs (PySem.W.fnOf e_Formula___or__.d.name e_Formula___or__.d.qual e_Formula___or__.d.params e_Formula___or__.d.body e_Formula___or__.d.scope .none kV doc pm an cdv ct) { pos := us } = pure (e_Formula___or__.fe.fi.ps.zip us) := fun _ _ _ _ _ _ us hl => match us, hl with | [_, _], _ => rfl
theorem s_Formula___add__ : FnScope e_Formula___add__.fe.N e_Formula___add__.fe.fi.ps e_Formula___add__.d.scope := ⟨by kernel_rfl, by kernel_rfl, by kernel_rfl, by decide +kernel, by kernel_rfl, by decide +kernel, by decide +kernel⟩
theorem r_Formula___add__ : cSs e_Formula___add__.m ⟨e_Formula___add__.fe.N, e_Formula___add__.d.scope, fun _ => true, pd.prg.gk, true, true⟩ e_Formula___add__.d.body = some e_Formula___add__.fe.code := by kernel_rfl
theorem b_Formula___add__ : ∀ (kV doc pm : Value) (an : Option Addr) (cdv ct : Value) (us : List Value), us.length = e_Formula___add__.fe.fi.ps.length → bindArgs (PySem.W.fnOf e_Formula___add__.d.name e_Formula___add__.d.qual e_Formula___add__.d.params e_Formula___add__.d.body e_Formula___add__.d.scope .none kV doc pm an cdv ct) { pos := us } = pure (e_Formula___add__.fe.fi.ps.zip us) := fun _ _ _ _ _ _ us hl => match us, hl with | [_, _], _ => rfl
theorem s__law_pool : FnScope e__law_pool.fe.N e__law_pool.fe.fi.ps e__law_pool.d.scope := ⟨by kernel_rfl, by kernel_rfl, by kernel_rfl, by decide +kernel, by kernel_rfl, by decide +kernel, by decide +kernel⟩
theorem r__law_pool : cSs e__law_pool.m ⟨e__law_pool.fe.N, e__law_pool.d.scope, fun _ => true, pd.prg.gk, true, true⟩ e__law_pool.d.body = some e__law_pool.fe.code := by kernel_rfl
theorem b__law_pool : ∀ (kV doc pm : Value) (an : Option Addr) (cdv ct : Value) (us : List Value), us.length = e__law_pool.fe.fi.ps.length → bindArgs (PySem.W.fnOf e__law_pool.d.name e__law_pool.d.qual e__law_pool.d.params e__law_pool.d.body e__law_pool.d.scope .none kV doc pm an cdv ct) { pos := us } = pure (e__law_pool.fe.fi.ps.zip us) := fun _ _ _ _ _ _ us hl => match us, hl with | [_, _], _ => rfl
theorem s__law_take : FnScope e__law_take.fe.N e__law_take.fe.fi.ps e__law_take.d.scope := ⟨by kernel_rfl, by kernel_rfl, by kernel_rfl, by decide +kernel, by kernel_rfl, by decide +kernel, by decide +kernel⟩
theorem r__law_take : cSs e__law_take.m ⟨e__law_take.fe.N, e__law_take.d.scope, fun _ => true, pd.prg.gk, true, true⟩ e__law_take.d.body = some e__law_take.fe.code := by kernel_rfl
theorem b__law_take : ∀ (kV doc pm : Value) (an : Option Addr) (cdv ct : Value) (us : List Value), us.length = e__law_take.fe.fi.ps.length → bindArgs (PySem.W.fnOf e__law_take.d.name e__law_take.d.qual e__law_take.d.params e__law_take.d.body e__law_take.d.scope .none kV doc pm an cdv ct) { pos := us } = pure (e__law_take.fe.fi.ps.zip us) := fun _ _ _ _ _ _ us hl => match us, hl with | [_, _], _ => rfl
theorem s__law_drawn : FnScope e__law_drawn.fe.N e__law_drawn.fe.fi.ps e__law_drawn.d.scope := ⟨by kernel_rfl, by kernel_rfl, by kernel_rfl, by decide +kernel, by kernel_rfl, by decide +kernel, by decide +kernel⟩
theorem r__law_drawn : cSs e__law_drawn.m ⟨e__law_drawn.fe.N, e__law_drawn.d.scope, fun _ => true, pd.prg.gk, true, true⟩ e__law_drawn.d.body = some e__law_drawn.fe.code := by kernel_rfl
theorem b__law_drawn : ∀ (kV doc pm : Value) (an : Option Addr) (cdv ct : Value) (us : List Value), us.length = e__law_drawn.fe.fi.ps.length → bindArgs (PySem.W.fnOf e__law_drawn.d.name e__law_drawn.d.qual e__law_drawn.d.params e__law_drawn.d.body e__law_drawn.d.scope .none kV doc pm an cdv ct) { pos := us } = pure (e__law_drawn.fe.fi.ps.zip us) := fun _ _ _ _ _ _ us hl => match us, hl with | [_], _ => rfl
theorem s__law_at : FnScope e__law_at.fe.N e__law_at.fe.fi.ps e__law_at.d.scope := ⟨by kernel_rfl, by kernel_rfl, by kernel_rfl, by decide +kernel, by kernel_rfl, by decide +kernel, by decide +kernel⟩
theorem r__law_at : cSs e__law_at.m ⟨e__law_at.fe.N, e__law_at.d.scope, fun _ => true, pd.prg.gk, true, true⟩ e__law_at.d.body = some e__law_at.fe.code := by kernel_rfl
theorem b__law_at : ∀ (kV doc pm : Value) (an : Option Addr) (cdv ct : Value) (us : List Value), us.length = e__law_at.fe.fi.ps.length → bindArgs (PySem.W.fnOf e__law_at.d.name e__law_at.d.qual e__law_at.d.params e__law_at.d.body e__law_at.d.scope .none kV doc pm an cdv ct) { pos := us } = pure (e__law_at.fe.fi.ps.zip us) := fun _ _ _ _ _ _ us hl => match us, hl with | [_, _], _ => rfl
theorem s__law_due : FnScope e__law_due.fe.N e__law_due.fe.fi.ps e__law_due.d.scope := ⟨by kernel_rfl, by kernel_rfl, by kernel_rfl, by decide +kernel, by kernel_rfl, by decide +kernel, by decide +kernel⟩
theorem r__law_due : cSs e__law_due.m ⟨e__law_due.fe.N, e__law_due.d.scope, fun _ => true, pd.prg.gk, true, true⟩ e__law_due.d.body = some e__law_due.fe.code := by kernel_rfl
theorem b__law_due : ∀ (kV doc pm : Value) (an : Option Addr) (cdv ct : Value) (us : List Value), us.length = e__law_due.fe.fi.ps.length → bindArgs (PySem.W.fnOf e__law_due.d.name e__law_due.d.qual e__law_due.d.params e__law_due.d.body e__law_due.d.scope .none kV doc pm an cdv ct) { pos := us } = pure (e__law_due.fe.fi.ps.zip us) := fun _ _ _ _ _ _ us hl => match us, hl with | [_, _, _], _ => rfl
theorem s__law_refused : FnScope e__law_refused.fe.N e__law_refused.fe.fi.ps e__law_refused.d.scope := ⟨by kernel_rfl, by kernel_rfl, by kernel_rfl, by decide +kernel, by kernel_rfl, by decide +kernel, by decide +kernel⟩
theorem r__law_refused : cSs e__law_refused.m ⟨e__law_refused.fe.N, e__law_refused.d.scope, fun _ => true, pd.prg.gk, true, true⟩ e__law_refused.d.body = some e__law_refused.fe.code := by kernel_rfl
theorem b__law_refused : ∀ (kV doc pm : Value) (an : Option Addr) (cdv ct : Value) (us : List Value), us.length = e__law_refused.fe.fi.ps.length → bindArgs (PySem.W.fnOf e__law_refused.d.name e__law_refused.d.qual e__law_refused.d.params e__law_refused.d.body e__law_refused.d.scope .none kV doc pm an cdv ct) { pos := us } = pure (e__law_refused.fe.fi.ps.zip us) := fun _ _ _ _ _ _ us hl => match us, hl with | [_, _, _], _ => rfl
theorem s__law_number_refused : FnScope e__law_number_refused.fe.N e__law_number_refused.fe.fi.ps e__law_number_refused.d.scope := ⟨by kernel_rfl, by kernel_rfl, by kernel_rfl, by decide +kernel, by kernel_rfl, by decide +kernel, by decide +kernel⟩
theorem r__law_number_refused : cSs e__law_number_refused.m ⟨e__law_number_refused.fe.N, e__law_number_refused.d.scope, fun _ => true, pd.prg.gk, true, true⟩ e__law_number_refused.d.body = some e__law_number_refused.fe.code := by kernel_rfl
theorem b__law_number_refused : ∀ (kV doc pm : Value) (an : Option Addr) (cdv ct : Value) (us : List Value), us.length = e__law_number_refused.fe.fi.ps.length → bindArgs (PySem.W.fnOf e__law_number_refused.d.name e__law_number_refused.d.qual e__law_number_refused.d.params e__law_number_refused.d.body e__law_number_refused.d.scope .none kV doc pm an cdv ct) { pos := us } = pure (e__law_number_refused.fe.fi.ps.zip us) := fun _ _ _ _ _ _ us hl => match us, hl with | [_, _], _ => rfl
theorem s__law_refusals_right : FnScope e__law_refusals_right.fe.N e__law_refusals_right.fe.fi.ps e__law_refusals_right.d.scope := ⟨by kernel_rfl, by kernel_rfl, by kernel_rfl, by decide +kernel, by kernel_rfl, by decide +kernel, by decide +kernel⟩
theorem r__law_refusals_right : cSs e__law_refusals_right.m ⟨e__law_refusals_right.fe.N, e__law_refusals_right.d.scope, fun _ => true, pd.prg.gk, true, true⟩ e__law_refusals_right.d.body = some e__law_refusals_right.fe.code := by kernel_rfl
theorem b__law_refusals_right : ∀ (kV doc pm : Value) (an : Option Addr) (cdv ct : Value) (us : List Value), us.length = e__law_refusals_right.fe.fi.ps.length → bindArgs (PySem.W.fnOf e__law_refusals_right.d.name e__law_refusals_right.d.qual e__law_refusals_right.d.params e__law_refusals_right.d.body e__law_refusals_right.d.scope .none kV doc pm an cdv ct) { pos := us } = pure (e__law_refusals_right.fe.fi.ps.zip us) := fun _ _ _ _ _ _ us hl => match us, hl with | [], _ => rfl
theorem s_law : FnScope e_law.fe.N e_law.fe.fi.ps e_law.d.scope := ⟨by kernel_rfl, by kernel_rfl, by kernel_rfl, by decide +kernel, by kernel_rfl, by decide +kernel, by decide +kernel⟩
theorem r_law : cSs e_law.m ⟨e_law.fe.N, e_law.d.scope, fun _ => true, pd.prg.gk, true, true⟩ e_law.d.body = some e_law.fe.code := by kernel_rfl
theorem b_law : ∀ (kV doc pm : Value) (an : Option Addr) (cdv ct : Value) (us : List Value), us.length = e_law.fe.fi.ps.length → bindArgs (PySem.W.fnOf e_law.d.name e_law.d.qual e_law.d.params e_law.d.body e_law.d.scope .none kV doc pm an cdv ct) { pos := us } = pure (e_law.fe.fi.ps.zip us) := fun _ _ _ _ _ _ us hl => match us, hl with | [_], _ => rfl
theorem reads : pd.Reads where
  sc := List.forall_mem_cons.mpr ⟨s_is_integer, List.forall_mem_cons.mpr ⟨s_is_count, List.forall_mem_cons.mpr ⟨s_is_greater, List.forall_mem_cons.mpr ⟨s_greatest_of, List.forall_mem_cons.mpr ⟨s_Limit___init__, List.forall_mem_cons.mpr ⟨s_Limit_size, List.forall_mem_cons.mpr ⟨s_Limit___contains__, List.forall_mem_cons.mpr ⟨s_Limit___bool__, List.forall_mem_cons.mpr ⟨s_Limit___eq__, List.forall_mem_cons.mpr ⟨s_Limit_is_within, List.forall_mem_cons.mpr ⟨s_Limit___and__, List.forall_mem_cons.mpr ⟨s_is_stair, List.forall_mem_cons.mpr ⟨s_Formula___init__, List.forall_mem_cons.mpr ⟨s_Formula_firsts, List.forall_mem_cons.mpr ⟨s_Formula_stairs, List.forall_mem_cons.mpr ⟨s_Formula_endless, List.forall_mem_cons.mpr ⟨s_Formula_at, List.forall_mem_cons.mpr ⟨s_Formula_greatest, List.forall_mem_cons.mpr ⟨s_Formula_first_above, List.forall_mem_cons.mpr ⟨s_Formula___call__, List.forall_mem_cons.mpr ⟨s_Formula___or__, List.forall_mem_cons.mpr ⟨s_Formula___add__, List.forall_mem_cons.mpr ⟨s__law_pool, List.forall_mem_cons.mpr ⟨s__law_take, List.forall_mem_cons.mpr ⟨s__law_drawn, List.forall_mem_cons.mpr ⟨s__law_at, List.forall_mem_cons.mpr ⟨s__law_due, List.forall_mem_cons.mpr ⟨s__law_refused, List.forall_mem_cons.mpr ⟨s__law_number_refused, List.forall_mem_cons.mpr ⟨s__law_refusals_right, List.forall_mem_cons.mpr ⟨s_law, fun _ h => nomatch h⟩⟩⟩⟩⟩⟩⟩⟩⟩⟩⟩⟩⟩⟩⟩⟩⟩⟩⟩⟩⟩⟩⟩⟩⟩⟩⟩⟩⟩⟩⟩
  code := List.forall_mem_cons.mpr ⟨r_is_integer, List.forall_mem_cons.mpr ⟨r_is_count, List.forall_mem_cons.mpr ⟨r_is_greater, List.forall_mem_cons.mpr ⟨r_greatest_of, List.forall_mem_cons.mpr ⟨r_Limit___init__, List.forall_mem_cons.mpr ⟨r_Limit_size, List.forall_mem_cons.mpr ⟨r_Limit___contains__, List.forall_mem_cons.mpr ⟨r_Limit___bool__, List.forall_mem_cons.mpr ⟨r_Limit___eq__, List.forall_mem_cons.mpr ⟨r_Limit_is_within, List.forall_mem_cons.mpr ⟨r_Limit___and__, List.forall_mem_cons.mpr ⟨r_is_stair, List.forall_mem_cons.mpr ⟨r_Formula___init__, List.forall_mem_cons.mpr ⟨r_Formula_firsts, List.forall_mem_cons.mpr ⟨r_Formula_stairs, List.forall_mem_cons.mpr ⟨r_Formula_endless, List.forall_mem_cons.mpr ⟨r_Formula_at, List.forall_mem_cons.mpr ⟨r_Formula_greatest, List.forall_mem_cons.mpr ⟨r_Formula_first_above, List.forall_mem_cons.mpr ⟨r_Formula___call__, List.forall_mem_cons.mpr ⟨r_Formula___or__, List.forall_mem_cons.mpr ⟨r_Formula___add__, List.forall_mem_cons.mpr ⟨r__law_pool, List.forall_mem_cons.mpr ⟨r__law_take, List.forall_mem_cons.mpr ⟨r__law_drawn, List.forall_mem_cons.mpr ⟨r__law_at, List.forall_mem_cons.mpr ⟨r__law_due, List.forall_mem_cons.mpr ⟨r__law_refused, List.forall_mem_cons.mpr ⟨r__law_number_refused, List.forall_mem_cons.mpr ⟨r__law_refusals_right, List.forall_mem_cons.mpr ⟨r_law, fun _ h => nomatch h⟩⟩⟩⟩⟩⟩⟩⟩⟩⟩⟩⟩⟩⟩⟩⟩⟩⟩⟩⟩⟩⟩⟩⟩⟩⟩⟩⟩⟩⟩⟩
  bd := List.forall_mem_cons.mpr ⟨bd0 rfl (by kernel_rfl) b_is_integer, List.forall_mem_cons.mpr ⟨bd0 rfl (by kernel_rfl) b_is_count, List.forall_mem_cons.mpr ⟨bd0 rfl (by kernel_rfl) b_is_greater, List.forall_mem_cons.mpr ⟨bd0 rfl (by kernel_rfl) b_greatest_of, List.forall_mem_cons.mpr ⟨bd0 rfl (by kernel_rfl) b_Limit___init__, List.forall_mem_cons.mpr ⟨bd0 rfl (by kernel_rfl) b_Limit_size, List.forall_mem_cons.mpr ⟨bd0 rfl (by kernel_rfl) b_Limit___contains__, List.forall_mem_cons.mpr ⟨bd0 rfl (by kernel_rfl) b_Limit___bool__, List.forall_mem_cons.mpr ⟨bd0 rfl (by kernel_rfl) b_Limit___eq__, List.forall_mem_cons.mpr ⟨bd0 rfl (by kernel_rfl) b_Limit_is_within, List.forall_mem_cons.mpr ⟨bd0 rfl (by kernel_rfl) b_Limit___and__, List.forall_mem_cons.mpr ⟨bd0 rfl (by kernel_rfl) b_is_stair, List.forall_mem_cons.mpr ⟨bd0 rfl (by kernel_rfl) b_Formula___init__, List.forall_mem_cons.mpr ⟨bd0 rfl (by kernel_rfl) b_Formula_firsts, List.forall_mem_cons.mpr ⟨bd0 rfl (by kernel_rfl) b_Formula_stairs, List.forall_mem_cons.mpr ⟨bd0 rfl (by kernel_rfl) b_Formula_endless, List.forall_mem_cons.mpr ⟨bd0 rfl (by kernel_rfl) b_Formula_at, List.forall_mem_cons.mpr ⟨bd0 rfl (by kernel_rfl) b_Formula_greatest, List.forall_mem_cons.mpr ⟨bd0 rfl (by kernel_rfl) b_Formula_first_above, List.forall_mem_cons.mpr ⟨bd0 rfl (by kernel_rfl) b_Formula___call__, List.forall_mem_cons.mpr ⟨bd0 rfl (by kernel_rfl) b_Formula___or__, List.forall_mem_cons.mpr ⟨bd0 rfl (by kernel_rfl) b_Formula___add__, List.forall_mem_cons.mpr ⟨bd0 rfl (by kernel_rfl) b__law_pool, List.forall_mem_cons.mpr ⟨bd0 rfl (by kernel_rfl) b__law_take, List.forall_mem_cons.mpr ⟨bd0 rfl (by kernel_rfl) b__law_drawn, List.forall_mem_cons.mpr ⟨bd0 rfl (by kernel_rfl) b__law_at, List.forall_mem_cons.mpr ⟨bd0 rfl (by kernel_rfl) b__law_due, List.forall_mem_cons.mpr ⟨bd0 rfl (by kernel_rfl) b__law_refused, List.forall_mem_cons.mpr ⟨bd0 rfl (by kernel_rfl) b__law_number_refused, List.forall_mem_cons.mpr ⟨bd0 rfl (by kernel_rfl) b__law_refusals_right, List.forall_mem_cons.mpr ⟨bd0 rfl (by kernel_rfl) b_law, fun _ h => nomatch h⟩⟩⟩⟩⟩⟩⟩⟩⟩⟩⟩⟩⟩⟩⟩⟩⟩⟩⟩⟩⟩⟩⟩⟩⟩⟩⟩⟩⟩⟩⟩
end LW

set_option Elab.async false
set_option linter.all false
set_option maxRecDepth 100000
set_option maxHeartbeats 4000000
namespace LW
open PySem PySem.Spec PyProof.Rows L2 DL
abbrev Mn (n : Nat) : Env1 := pd.prg.env (mCall pd.prg n)
theorem fe_is_integer : pd.prg.fe ("is_integer", none) = some e_is_integer.fe := by kernel_rfl
theorem en_is_integer {n : Nat} {a0 : DL.D} {S : Sto} {K : DK} {E : DX} (h : mSs (Mn n) none c_is_integer ⟨fun _ S' => K .non S', K, fun _ _ => False, fun _ _ => False, fun c fs _ S' => E c fs S'⟩ [some a0] S) : mCall pd.prg (n + 1) ("is_integer", none) [a0] S K E := ⟨_, fe_is_integer, rfl, h⟩
theorem cl_is_integer {n : Nat} {a0 : DL.D} {S : Sto} {K : DK} {E : DX} (h : mCall pd.prg n ("is_integer", none) [a0] S K E) : callO (Mn n).fi (Mn n).orc ("is_integer", none) [a0] S K E := c_run fe_is_integer rfl h
theorem fe_is_count : pd.prg.fe ("is_count", none) = some e_is_count.fe := by kernel_rfl
theorem en_is_count {n : Nat} {a0 : DL.D} {S : Sto} {K : DK} {E : DX} (h : mSs (Mn n) none c_is_count ⟨fun _ S' => K .non S', K, fun _ _ => False, fun _ _ => False, fun c fs _ S' => E c fs S'⟩ [some a0] S) : mCall pd.prg (n + 1) ("is_count", none) [a0] S K E := ⟨_, fe_is_count, rfl, h⟩
theorem cl_is_count {n : Nat} {a0 : DL.D} {S : Sto} {K : DK} {E : DX} (h : mCall pd.prg n ("is_count", none) [a0] S K E) : callO (Mn n).fi (Mn n).orc ("is_count", none) [a0] S K E := c_run fe_is_count rfl h
theorem fe_is_greater : pd.prg.fe ("is_greater", none) = some e_is_greater.fe := by kernel_rfl
theorem en_is_greater {n : Nat} {a0 a1 : DL.D} {S : Sto} {K : DK} {E : DX} (h : mSs (Mn n) none c_is_greater ⟨fun _ S' => K .non S', K, fun _ _ => False, fun _ _ => False, fun c fs _ S' => E c fs S'⟩ [some a0, some a1] S) : mCall pd.prg (n + 1) ("is_greater", none) [a0, a1] S K E := ⟨_, fe_is_greater, rfl, h⟩
theorem cl_is_greater {n : Nat} {a0 a1 : DL.D} {S : Sto} {K : DK} {E : DX} (h : mCall pd.prg n ("is_greater", none) [a0, a1] S K E) : callO (Mn n).fi (Mn n).orc ("is_greater", none) [a0, a1] S K E := c_run fe_is_greater rfl h
theorem fe_greatest_of : pd.prg.fe ("greatest_of", none) = some e_greatest_of.fe := by kernel_rfl
theorem en_greatest_of {n : Nat} {a0 : DL.D} {S : Sto} {K : DK} {E : DX} (h : mSs (Mn n) none c_greatest_of ⟨fun _ S' => K .non S', K, fun _ _ => False, fun _ _ => False, fun c fs _ S' => E c fs S'⟩ [some a0, none, none] S) : mCall pd.prg (n + 1) ("greatest_of", none) [a0] S K E := ⟨_, fe_greatest_of, rfl, h⟩
theorem cl_greatest_of {n : Nat} {a0 : DL.D} {S : Sto} {K : DK} {E : DX} (h : mCall pd.prg n ("greatest_of", none) [a0] S K E) : callO (Mn n).fi (Mn n).orc ("greatest_of", none) [a0] S K E := c_run fe_greatest_of rfl h
theorem fe_Limit___init__ : pd.prg.fe ("Limit", some "__init__") = some e_Limit___init__.fe := by kernel_rfl
theorem en_Limit___init__ {n : Nat} {a0 a1 : DL.D} {S : Sto} {K : DK} {E : DX} (h : mSs (Mn n) none c_Limit___init__ ⟨fun _ S' => K .non S', K, fun _ _ => False, fun _ _ => False, fun c fs _ S' => E c fs S'⟩ [some a0, some a1] S) : mCall pd.prg (n + 1) ("Limit", some "__init__") [a0, a1] S K E := ⟨_, fe_Limit___init__, rfl, h⟩
theorem cl_Limit___init__ {n : Nat} {a0 a1 : DL.D} {S : Sto} {K : DK} {E : DX} (h : mCall pd.prg n ("Limit", some "__init__") [a0, a1] S K E) : callO (Mn n).fi (Mn n).orc ("Limit", some "__init__") [a0, a1] S K E := c_run fe_Limit___init__ rfl h
theorem fe_Limit_size : pd.prg.fe ("Limit", some "size") = some e_Limit_size.fe := by kernel_rfl
theorem en_Limit_size {n : Nat} {a0 : DL.D} {S : Sto} {K : DK} {E : DX} (h : mSs (Mn n) none c_Limit_size ⟨fun _ S' => K .non S', K, fun _ _ => False, fun _ _ => False, fun c fs _ S' => E c fs S'⟩ [some a0] S) : mCall pd.prg (n + 1) ("Limit", some "size") [a0] S K E := ⟨_, fe_Limit_size, rfl, h⟩
theorem cl_Limit_size {n : Nat} {a0 : DL.D} {S : Sto} {K : DK} {E : DX} (h : mCall pd.prg n ("Limit", some "size") [a0] S K E) : callO (Mn n).fi (Mn n).orc ("Limit", some "size") [a0] S K E := c_run fe_Limit_size rfl h
theorem fe_Limit___contains__ : pd.prg.fe ("Limit", some "__contains__") = some e_Limit___contains__.fe := by kernel_rfl
theorem en_Limit___contains__ {n : Nat} {a0 a1 : DL.D} {S : Sto} {K : DK} {E : DX} (h : mSs (Mn n) none c_Limit___contains__ ⟨fun _ S' => K .non S', K, fun _ _ => False, fun _ _ => False, fun c fs _ S' => E c fs S'⟩ [some a0, some a1] S) : mCall pd.prg (n + 1) ("Limit", some "__contains__") [a0, a1] S K E := ⟨_, fe_Limit___contains__, rfl, h⟩
theorem cl_Limit___contains__ {n : Nat} {a0 a1 : DL.D} {S : Sto} {K : DK} {E : DX} (h : mCall pd.prg n ("Limit", some "__contains__") [a0, a1] S K E) : callO (Mn n).fi (Mn n).orc ("Limit", some "__contains__") [a0, a1] S K E := c_run fe_Limit___contains__ rfl h
theorem fe_Limit___bool__ : pd.prg.fe ("Limit", some "__bool__") = some e_Limit___bool__.fe := by kernel_rfl
theorem en_Limit___bool__ {n : Nat} {a0 : DL.D} {S : Sto} {K : DK} {E : DX} (h : mSs (Mn n) none c_Limit___bool__ ⟨fun _ S' => K .non S', K, fun _ _ => False, fun _ _ => False, fun c fs _ S' => E c fs S'⟩ [some a0] S) : mCall pd.prg (n + 1) ("Limit", some "__bool__") [a0] S K E := ⟨_, fe_Limit___bool__, rfl, h⟩
theorem cl_Limit___bool__ {n : Nat} {a0 : DL.D} {S : Sto} {K : DK} {E : DX} (h : mCall pd.prg n ("Limit", some "__bool__") [a0] S K E) : callO (Mn n).fi (Mn n).orc ("Limit", some "__bool__") [a0] S K E := c_run fe_Limit___bool__ rfl h
theorem fe_Limit___eq__ : pd.prg.fe ("Limit", some "__eq__") = some e_Limit___eq__.fe := by kernel_rfl
theorem en_Limit___eq__ {n : Nat} {a0 a1 : DL.D} {S : Sto} {K : DK} {E : DX} (h : mSs (Mn n) none c_Limit___eq__ ⟨fun _ S' => K .non S', K, fun _ _ => False, fun _ _ => False, fun c fs _ S' => E c fs S'⟩ [some a0, some a1] S) : mCall pd.prg (n + 1) ("Limit", some "__eq__") [a0, a1] S K E := ⟨_, fe_Limit___eq__, rfl, h⟩
theorem cl_Limit___eq__ {n : Nat} {a0 a1 : DL.D} {S : Sto} {K : DK} {E : DX} (h : mCall pd.prg n ("Limit", some "__eq__") [a0, a1] S K E) : callO (Mn n).fi (Mn n).orc ("Limit", some "__eq__") [a0, a1] S K E := c_run fe_Limit___eq__ rfl h
theorem fe_Limit_is_within : pd.prg.fe ("Limit", some "is_within") = some e_Limit_is_within.fe := by kernel_rfl
theorem en_Limit_is_within {n : Nat} {a0 a1 : DL.D} {S : Sto} {K : DK} {E : DX} (h : mSs (Mn n) none c_Limit_is_within ⟨fun _ S' => K .non S', K, fun _ _ => False, fun _ _ => False, fun c fs _ S' => E c fs S'⟩ [some a0, some a1] S) : mCall pd.prg (n + 1) ("Limit", some "is_within") [a0, a1] S K E := ⟨_, fe_Limit_is_within, rfl, h⟩
theorem cl_Limit_is_within {n : Nat} {a0 a1 : DL.D} {S : Sto} {K : DK} {E : DX} (h : mCall pd.prg n ("Limit", some "is_within") [a0, a1] S K E) : callO (Mn n).fi (Mn n).orc ("Limit", some "is_within") [a0, a1] S K E := c_run fe_Limit_is_within rfl h
theorem fe_Limit___and__ : pd.prg.fe ("Limit", some "__and__") = some e_Limit___and__.fe := by kernel_rfl
theorem en_Limit___and__ {n : Nat} {a0 a1 : DL.D} {S : Sto} {K : DK} {E : DX} (h : mSs (Mn n) none c_Limit___and__ ⟨fun _ S' => K .non S', K, fun _ _ => False, fun _ _ => False, fun c fs _ S' => E c fs S'⟩ [some a0, some a1] S) : mCall pd.prg (n + 1) ("Limit", some "__and__") [a0, a1] S K E := ⟨_, fe_Limit___and__, rfl, h⟩
theorem cl_Limit___and__ {n : Nat} {a0 a1 : DL.D} {S : Sto} {K : DK} {E : DX} (h : mCall pd.prg n ("Limit", some "__and__") [a0, a1] S K E) : callO (Mn n).fi (Mn n).orc ("Limit", some "__and__") [a0, a1] S K E := c_run fe_Limit___and__ rfl h
theorem fe_is_stair : pd.prg.fe ("is_stair", none) = some e_is_stair.fe := by kernel_rfl
theorem en_is_stair {n : Nat} {a0 : DL.D} {S : Sto} {K : DK} {E : DX} (h : mSs (Mn n) none c_is_stair ⟨fun _ S' => K .non S', K, fun _ _ => False, fun _ _ => False, fun c fs _ S' => E c fs S'⟩ [some a0, none, none] S) : mCall pd.prg (n + 1) ("is_stair", none) [a0] S K E := ⟨_, fe_is_stair, rfl, h⟩
theorem cl_is_stair {n : Nat} {a0 : DL.D} {S : Sto} {K : DK} {E : DX} (h : mCall pd.prg n ("is_stair", none) [a0] S K E) : callO (Mn n).fi (Mn n).orc ("is_stair", none) [a0] S K E := c_run fe_is_stair rfl h
theorem fe_Formula___init__ : pd.prg.fe ("Formula", some "__init__") = some e_Formula___init__.fe := by kernel_rfl
theorem en_Formula___init__ {n : Nat} {a0 a1 a2 a3 : DL.D} {S : Sto} {K : DK} {E : DX} (h : mSs (Mn n) none c_Formula___init__ ⟨fun _ S' => K .non S', K, fun _ _ => False, fun _ _ => False, fun c fs _ S' => E c fs S'⟩ [some a0, some a1, some a2, some a3, none, none, none] S) : mCall pd.prg (n + 1) ("Formula", some "__init__") [a0, a1, a2, a3] S K E := ⟨_, fe_Formula___init__, rfl, h⟩
theorem cl_Formula___init__ {n : Nat} {a0 a1 a2 a3 : DL.D} {S : Sto} {K : DK} {E : DX} (h : mCall pd.prg n ("Formula", some "__init__") [a0, a1, a2, a3] S K E) : callO (Mn n).fi (Mn n).orc ("Formula", some "__init__") [a0, a1, a2, a3] S K E := c_run fe_Formula___init__ rfl h
theorem fe_Formula_firsts : pd.prg.fe ("Formula", some "firsts") = some e_Formula_firsts.fe := by kernel_rfl
theorem en_Formula_firsts {n : Nat} {a0 : DL.D} {S : Sto} {K : DK} {E : DX} (h : mSs (Mn n) none c_Formula_firsts ⟨fun _ S' => K .non S', K, fun _ _ => False, fun _ _ => False, fun c fs _ S' => E c fs S'⟩ [some a0] S) : mCall pd.prg (n + 1) ("Formula", some "firsts") [a0] S K E := ⟨_, fe_Formula_firsts, rfl, h⟩
theorem cl_Formula_firsts {n : Nat} {a0 : DL.D} {S : Sto} {K : DK} {E : DX} (h : mCall pd.prg n ("Formula", some "firsts") [a0] S K E) : callO (Mn n).fi (Mn n).orc ("Formula", some "firsts") [a0] S K E := c_run fe_Formula_firsts rfl h
theorem fe_Formula_stairs : pd.prg.fe ("Formula", some "stairs") = some e_Formula_stairs.fe := by kernel_rfl
theorem en_Formula_stairs {n : Nat} {a0 : DL.D} {S : Sto} {K : DK} {E : DX} (h : mSs (Mn n) none c_Formula_stairs ⟨fun _ S' => K .non S', K, fun _ _ => False, fun _ _ => False, fun c fs _ S' => E c fs S'⟩ [some a0] S) : mCall pd.prg (n + 1) ("Formula", some "stairs") [a0] S K E := ⟨_, fe_Formula_stairs, rfl, h⟩
theorem cl_Formula_stairs {n : Nat} {a0 : DL.D} {S : Sto} {K : DK} {E : DX} (h : mCall pd.prg n ("Formula", some "stairs") [a0] S K E) : callO (Mn n).fi (Mn n).orc ("Formula", some "stairs") [a0] S K E := c_run fe_Formula_stairs rfl h
theorem fe_Formula_endless : pd.prg.fe ("Formula", some "endless") = some e_Formula_endless.fe := by kernel_rfl
theorem en_Formula_endless {n : Nat} {a0 : DL.D} {S : Sto} {K : DK} {E : DX} (h : mSs (Mn n) none c_Formula_endless ⟨fun _ S' => K .non S', K, fun _ _ => False, fun _ _ => False, fun c fs _ S' => E c fs S'⟩ [some a0] S) : mCall pd.prg (n + 1) ("Formula", some "endless") [a0] S K E := ⟨_, fe_Formula_endless, rfl, h⟩
theorem cl_Formula_endless {n : Nat} {a0 : DL.D} {S : Sto} {K : DK} {E : DX} (h : mCall pd.prg n ("Formula", some "endless") [a0] S K E) : callO (Mn n).fi (Mn n).orc ("Formula", some "endless") [a0] S K E := c_run fe_Formula_endless rfl h
theorem fe_Formula_at : pd.prg.fe ("Formula", some "at") = some e_Formula_at.fe := by kernel_rfl
theorem en_Formula_at {n : Nat} {a0 a1 : DL.D} {S : Sto} {K : DK} {E : DX} (h : mSs (Mn n) none c_Formula_at ⟨fun _ S' => K .non S', K, fun _ _ => False, fun _ _ => False, fun c fs _ S' => E c fs S'⟩ [some a0, some a1, none, none, none, none, none] S) : mCall pd.prg (n + 1) ("Formula", some "at") [a0, a1] S K E := ⟨_, fe_Formula_at, rfl, h⟩
theorem cl_Formula_at {n : Nat} {a0 a1 : DL.D} {S : Sto} {K : DK} {E : DX} (h : mCall pd.prg n ("Formula", some "at") [a0, a1] S K E) : callO (Mn n).fi (Mn n).orc ("Formula", some "at") [a0, a1] S K E := c_run fe_Formula_at rfl h
theorem fe_Formula_greatest : pd.prg.fe ("Formula", some "greatest") = some e_Formula_greatest.fe := by kernel_rfl
theorem en_Formula_greatest {n : Nat} {a0 a1 : DL.D} {S : Sto} {K : DK} {E : DX} (h : mSs (Mn n) none c_Formula_greatest ⟨fun _ S' => K .non S', K, fun _ _ => False, fun _ _ => False, fun c fs _ S' => E c fs S'⟩ [some a0, some a1] S) : mCall pd.prg (n + 1) ("Formula", some "greatest") [a0, a1] S K E := ⟨_, fe_Formula_greatest, rfl, h⟩
theorem cl_Formula_greatest {n : Nat} {a0 a1 : DL.D} {S : Sto} {K : DK} {E : DX} (h : mCall pd.prg n ("Formula", some "greatest") [a0, a1] S K E) : callO (Mn n).fi (Mn n).orc ("Formula", some "greatest") [a0, a1] S K E := c_run fe_Formula_greatest rfl h
theorem fe_Formula_first_above : pd.prg.fe ("Formula", some "first_above") = some e_Formula_first_above.fe := by kernel_rfl
theorem en_Formula_first_above {n : Nat} {a0 a1 a2 : DL.D} {S : Sto} {K : DK} {E : DX} (h : mSs (Mn n) none c_Formula_first_above ⟨fun _ S' => K .non S', K, fun _ _ => False, fun _ _ => False, fun c fs _ S' => E c fs S'⟩ [some a0, some a1, some a2, none, none, none, none, none] S) : mCall pd.prg (n + 1) ("Formula", some "first_above") [a0, a1, a2] S K E := ⟨_, fe_Formula_first_above, rfl, h⟩
theorem cl_Formula_first_above {n : Nat} {a0 a1 a2 : DL.D} {S : Sto} {K : DK} {E : DX} (h : mCall pd.prg n ("Formula", some "first_above") [a0, a1, a2] S K E) : callO (Mn n).fi (Mn n).orc ("Formula", some "first_above") [a0, a1, a2] S K E := c_run fe_Formula_first_above rfl h
theorem fe_Formula___call__ : pd.prg.fe ("Formula", some "__call__") = some e_Formula___call__.fe := by kernel_rfl
theorem en_Formula___call__ {n : Nat} {a0 a1 : DL.D} {S : Sto} {K : DK} {E : DX} (h : mSs (Mn n) none c_Formula___call__ ⟨fun _ S' => K .non S', K, fun _ _ => False, fun _ _ => False, fun c fs _ S' => E c fs S'⟩ [some a0, some a1, none, none, none, none, none] S) : mCall pd.prg (n + 1) ("Formula", some "__call__") [a0, a1] S K E := ⟨_, fe_Formula___call__, rfl, h⟩
theorem cl_Formula___call__ {n : Nat} {a0 a1 : DL.D} {S : Sto} {K : DK} {E : DX} (h : mCall pd.prg n ("Formula", some "__call__") [a0, a1] S K E) : callO (Mn n).fi (Mn n).orc ("Formula", some "__call__") [a0, a1] S K E := c_run fe_Formula___call__ rfl h
theorem fe_Formula___or__ : pd.prg.fe ("Formula", some "__or__") = some e_Formula___or__.fe := by kernel_rfl
theorem en_Formula___or__ {n : Nat} {a0 a1 : DL.D} {S : Sto} {K : DK} {E : DX} (h : mSs (Mn n) none c_Formula___or__ ⟨fun _ S' => K .non S', K, fun _ _ => False, fun _ _ => False, fun c fs _ S' => E c fs S'⟩ [some a0, some a1, none, none, none, none, none, none, none] S) : mCall pd.prg (n + 1) ("Formula", some "__or__") [a0, a1] S K E := ⟨_, fe_Formula___or__, rfl, h⟩
theorem cl_Formula___or__ {n : Nat} {a0 a1 : DL.D} {S : Sto} {K : DK} {E : DX} (h : mCall pd.prg n ("Formula", some "__or__") [a0, a1] S K E) : callO (Mn n).fi (Mn n).orc ("Formula", some "__or__") [a0, a1] S K E := c_run fe_Formula___or__ rfl h
theorem fe_Formula___add__ : pd.prg.fe ("Formula", some "__add__") = some e_Formula___add__.fe := by kernel_rfl
theorem en_Formula___add__ {n : Nat} {a0 a1 : DL.D} {S : Sto} {K : DK} {E : DX} (h : mSs (Mn n) none c_Formula___add__ ⟨fun _ S' => K .non S', K, fun _ _ => False, fun _ _ => False, fun c fs _ S' => E c fs S'⟩ [some a0, some a1, none, none, none, none, none, none, none] S) : mCall pd.prg (n + 1) ("Formula", some "__add__") [a0, a1] S K E := ⟨_, fe_Formula___add__, rfl, h⟩
theorem cl_Formula___add__ {n : Nat} {a0 a1 : DL.D} {S : Sto} {K : DK} {E : DX} (h : mCall pd.prg n ("Formula", some "__add__") [a0, a1] S K E) : callO (Mn n).fi (Mn n).orc ("Formula", some "__add__") [a0, a1] S K E := c_run fe_Formula___add__ rfl h
theorem fe__law_pool : pd.prg.fe ("_law_pool", none) = some e__law_pool.fe := by kernel_rfl
theorem en__law_pool {n : Nat} {a0 a1 : DL.D} {S : Sto} {K : DK} {E : DX} (h : mSs (Mn n) none c__law_pool ⟨fun _ S' => K .non S', K, fun _ _ => False, fun _ _ => False, fun c fs _ S' => E c fs S'⟩ [some a0, some a1, none, none] S) : mCall pd.prg (n + 1) ("_law_pool", none) [a0, a1] S K E := ⟨_, fe__law_pool, rfl, h⟩
theorem cl__law_pool {n : Nat} {a0 a1 : DL.D} {S : Sto} {K : DK} {E : DX} (h : mCall pd.prg n ("_law_pool", none) [a0, a1] S K E) : callO (Mn n).fi (Mn n).orc ("_law_pool", none) [a0, a1] S K E := c_run fe__law_pool rfl h
theorem fe__law_take : pd.prg.fe ("_law_take", none) = some e__law_take.fe := by kernel_rfl
theorem en__law_take {n : Nat} {a0 a1 : DL.D} {S : Sto} {K : DK} {E : DX} (h : mSs (Mn n) none c__law_take ⟨fun _ S' => K .non S', K, fun _ _ => False, fun _ _ => False, fun c fs _ S' => E c fs S'⟩ [some a0, some a1, none] S) : mCall pd.prg (n + 1) ("_law_take", none) [a0, a1] S K E := ⟨_, fe__law_take, rfl, h⟩
theorem cl__law_take {n : Nat} {a0 a1 : DL.D} {S : Sto} {K : DK} {E : DX} (h : mCall pd.prg n ("_law_take", none) [a0, a1] S K E) : callO (Mn n).fi (Mn n).orc ("_law_take", none) [a0, a1] S K E := c_run fe__law_take rfl h
theorem fe__law_drawn : pd.prg.fe ("_law_drawn", none) = some e__law_drawn.fe := by kernel_rfl
theorem en__law_drawn {n : Nat} {a0 : DL.D} {S : Sto} {K : DK} {E : DX} (h : mSs (Mn n) none c__law_drawn ⟨fun _ S' => K .non S', K, fun _ _ => False, fun _ _ => False, fun c fs _ S' => E c fs S'⟩ [some a0, none, none, none, none] S) : mCall pd.prg (n + 1) ("_law_drawn", none) [a0] S K E := ⟨_, fe__law_drawn, rfl, h⟩
theorem cl__law_drawn {n : Nat} {a0 : DL.D} {S : Sto} {K : DK} {E : DX} (h : mCall pd.prg n ("_law_drawn", none) [a0] S K E) : callO (Mn n).fi (Mn n).orc ("_law_drawn", none) [a0] S K E := c_run fe__law_drawn rfl h
theorem fe__law_at : pd.prg.fe ("_law_at", none) = some e__law_at.fe := by kernel_rfl
theorem en__law_at {n : Nat} {a0 a1 : DL.D} {S : Sto} {K : DK} {E : DX} (h : mSs (Mn n) none c__law_at ⟨fun _ S' => K .non S', K, fun _ _ => False, fun _ _ => False, fun c fs _ S' => E c fs S'⟩ [some a0, some a1, none, none, none, none, none, none, none, none, none] S) : mCall pd.prg (n + 1) ("_law_at", none) [a0, a1] S K E := ⟨_, fe__law_at, rfl, h⟩
theorem cl__law_at {n : Nat} {a0 a1 : DL.D} {S : Sto} {K : DK} {E : DX} (h : mCall pd.prg n ("_law_at", none) [a0, a1] S K E) : callO (Mn n).fi (Mn n).orc ("_law_at", none) [a0, a1] S K E := c_run fe__law_at rfl h
theorem fe__law_due : pd.prg.fe ("_law_due", none) = some e__law_due.fe := by kernel_rfl
theorem en__law_due {n : Nat} {a0 a1 a2 : DL.D} {S : Sto} {K : DK} {E : DX} (h : mSs (Mn n) none c__law_due ⟨fun _ S' => K .non S', K, fun _ _ => False, fun _ _ => False, fun c fs _ S' => E c fs S'⟩ [some a0, some a1, some a2, none, none] S) : mCall pd.prg (n + 1) ("_law_due", none) [a0, a1, a2] S K E := ⟨_, fe__law_due, rfl, h⟩
theorem cl__law_due {n : Nat} {a0 a1 a2 : DL.D} {S : Sto} {K : DK} {E : DX} (h : mCall pd.prg n ("_law_due", none) [a0, a1, a2] S K E) : callO (Mn n).fi (Mn n).orc ("_law_due", none) [a0, a1, a2] S K E := c_run fe__law_due rfl h
theorem fe__law_refused : pd.prg.fe ("_law_refused", none) = some e__law_refused.fe := by kernel_rfl
theorem en__law_refused {n : Nat} {a0 a1 a2 : DL.D} {S : Sto} {K : DK} {E : DX} (h : mSs (Mn n) none c__law_refused ⟨fun _ S' => K .non S', K, fun _ _ => False, fun _ _ => False, fun c fs _ S' => E c fs S'⟩ [some a0, some a1, some a2, none] S) : mCall pd.prg (n + 1) ("_law_refused", none) [a0, a1, a2] S K E := ⟨_, fe__law_refused, rfl, h⟩
theorem cl__law_refused {n : Nat} {a0 a1 a2 : DL.D} {S : Sto} {K : DK} {E : DX} (h : mCall pd.prg n ("_law_refused", none) [a0, a1, a2] S K E) : callO (Mn n).fi (Mn n).orc ("_law_refused", none) [a0, a1, a2] S K E := c_run fe__law_refused rfl h
theorem fe__law_number_refused : pd.prg.fe ("_law_number_refused", none) = some e__law_number_refused.fe := by kernel_rfl
theorem en__law_number_refused {n : Nat} {a0 a1 : DL.D} {S : Sto} {K : DK} {E : DX} (h : mSs (Mn n) none c__law_number_refused ⟨fun _ S' => K .non S', K, fun _ _ => False, fun _ _ => False, fun c fs _ S' => E c fs S'⟩ [some a0, some a1, none, none] S) : mCall pd.prg (n + 1) ("_law_number_refused", none) [a0, a1] S K E := ⟨_, fe__law_number_refused, rfl, h⟩
theorem cl__law_number_refused {n : Nat} {a0 a1 : DL.D} {S : Sto} {K : DK} {E : DX} (h : mCall pd.prg n ("_law_number_refused", none) [a0, a1] S K E) : callO (Mn n).fi (Mn n).orc ("_law_number_refused", none) [a0, a1] S K E := c_run fe__law_number_refused rfl h
theorem fe__law_refusals_right : pd.prg.fe ("_law_refusals_right", none) = some e__law_refusals_right.fe := by kernel_rfl
theorem en__law_refusals_right {n : Nat} {S : Sto} {K : DK} {E : DX} (h : mSs (Mn n) none c__law_refusals_right ⟨fun _ S' => K .non S', K, fun _ _ => False, fun _ _ => False, fun c fs _ S' => E c fs S'⟩ [none, none] S) : mCall pd.prg (n + 1) ("_law_refusals_right", none) [] S K E := ⟨_, fe__law_refusals_right, rfl, h⟩
theorem cl__law_refusals_right {n : Nat} {S : Sto} {K : DK} {E : DX} (h : mCall pd.prg n ("_law_refusals_right", none) [] S K E) : callO (Mn n).fi (Mn n).orc ("_law_refusals_right", none) [] S K E := c_run fe__law_refusals_right rfl h
theorem fe_law : pd.prg.fe ("law", none) = some e_law.fe := by kernel_rfl
theorem en_law {n : Nat} {a0 : DL.D} {S : Sto} {K : DK} {E : DX} (h : mSs (Mn n) none c_law ⟨fun _ S' => K .non S', K, fun _ _ => False, fun _ _ => False, fun c fs _ S' => E c fs S'⟩ [some a0, none, none, none, none, none, none, none, none, none, none, none, none, none, none] S) : mCall pd.prg (n + 1) ("law", none) [a0] S K E := ⟨_, fe_law, rfl, h⟩
theorem cl_law {n : Nat} {a0 : DL.D} {S : Sto} {K : DK} {E : DX} (h : mCall pd.prg n ("law", none) [a0] S K E) : callO (Mn n).fi (Mn n).orc ("law", none) [a0] S K E := c_run fe_law rfl h
theorem tb_Limit : pd.prg.tb "Limit" = some ⟨true, ["own_size"], ["size"], ["__init__", "__contains__", "__bool__", "__eq__", "is_within", "__and__"]⟩ := by kernel_rfl
theorem mk_Limit {n : Nat} {a1 : DL.D} {S : Sto} {K : DK} {E : DX} (h : ∀ x, S x = none → mCall pd.prg n ("Limit", some "__init__") [.ref x, a1] (sup S x (.slo "Limit" [])) (fun v S' => v = .non ∧ K (.ref x) S') E) : makeO (Mn n).tb (Mn n).fi (Mn n).orc "Limit" [a1] S K E := c_make tb_Limit fe_Limit___init__ rfl h
theorem tb_Formula : pd.prg.tb "Formula" = some ⟨false, ["own_firsts", "own_stairs", "own_endless"], ["firsts", "stairs", "endless"], ["__init__", "at", "greatest", "first_above", "__call__", "__or__", "__add__"]⟩ := by kernel_rfl
theorem mk_Formula {n : Nat} {a1 a2 a3 : DL.D} {S : Sto} {K : DK} {E : DX} (h : ∀ x, S x = none → mCall pd.prg n ("Formula", some "__init__") [.ref x, a1, a2, a3] (sup S x (.ins "Formula" [])) (fun v S' => v = .non ∧ K (.ref x) S') E) : makeO (Mn n).tb (Mn n).fi (Mn n).orc "Formula" [a1, a2, a3] S K E := c_make tb_Formula fe_Formula___init__ rfl h
end LW

set_option Elab.async false
set_option linter.all false
set_option maxRecDepth 100000
set_option maxHeartbeats 400000
namespace LW
open PySem PySem.Spec PyProof.Rows L2 DL
section
variable {n : Nat} {S : Sto} {K : DK} {E : DX}
theorem is_integer_ok {d : DL.D} {c : TyC} (ht : tyD pd.prg.tb S d = some c) (b1 b2 : Bool) (h1 : pd.prg.tab c (.b "int") = some b1) (h2 : pd.prg.tab c (.b "bool") = some b2) (h : K (.bl (b1 && !b2)) S) : mCall pd.prg (n + 1) ("is_integer", none) [d] S K E := by
  refine en_is_integer ?_
  unfold c_is_integer
  walk_at "dl_all"
  refine b_isi ht rfl h1 ?_
  walk_at "dl_all"
  cases b1 with
  | false => exact h
  | true =>
    walk_at "dl_all"
    refine b_isi ht rfl h2 ?_
    walk_at "dl_all"
    exact h
theorem is_integer_int {i : Int} (h : K (.bl true) S) : mCall pd.prg (n + 1) ("is_integer", none) [.int i] S K E := is_integer_ok (c := .b "int") rfl true false (by kernel_rfl) (by kernel_rfl) h
/-- a size of a limit -/
def sz : Option Int → DL.D
  | none => .non
  | some i => .int i
def okz (z : Option Int) : Prop := ∀ i, z = some i → -1 ≤ i
theorem init_ok {x : Addr} {z : Option Int} (hz : okz z) (hx : S x = some (.slo "Limit" [])) (h : K .non (sup S x (.slo "Limit" [some (sz z)]))) : mCall pd.prg (n + 2) ("Limit", some "__init__") [.ref x, sz z] S K E := by
  refine en_Limit___init__ ?_
  unfold c_Limit___init__
  cases z with
  | none =>
    unfold sz
    walk_at "dl_all"
    exact sa_slo hx tb_Limit rfl rfl h
  | some i =>
    have hi := hz i rfl
    unfold sz
    walk_at "dl_all"
    refine cl_is_integer (is_integer_int ?_)
    walk_at "dl_all"
    walk_at "dl_if"
    walk_at "dl_all"

    exact sa_slo hx tb_Limit rfl rfl h
theorem init_bad {x : Addr} {d : DL.D} {c : TyC} (ht : tyD pd.prg.tb S d = some c) (b1 b2 : Bool) (h1 : pd.prg.tab c (.b "int") = some b1) (h2 : pd.prg.tab c (.b "bool") = some b2) (hb : (b1 && !b2) = false) (hn : isN d = false) (h : E "InvalidNumber" [("value", d)] S) : mCall pd.prg (n + 2) ("Limit", some "__init__") [.ref x, d] S K E := by
  refine en_Limit___init__ ?_
  unfold c_Limit___init__
  walk_at "dl_all"
  refine ite_ct (by rw [hn]; rfl) ?_
  walk_at "dl_all"
  refine cl_is_integer (is_integer_ok ht b1 b2 h1 h2 ?_)
  rw [hb]
  walk_at "dl_all"
  exact h
theorem init_low {x : Addr} {i : Int} (hi : i < -1) (h : E "InvalidNumber" [("value", .int i)] S) : mCall pd.prg (n + 2) ("Limit", some "__init__") [.ref x, .int i] S K E := by
  refine en_Limit___init__ ?_
  unfold c_Limit___init__
  walk_at "dl_all"
  refine cl_is_integer (is_integer_int ?_)
  walk_at "dl_all"
  walk_at "dl_if"
  walk_at "dl_all"
  exact h

abbrev lim (z : Option Int) : SO := .slo "Limit" [some (sz z)]
theorem make_ok {z : Option Int} (hz : okz z) (h : ∀ x, S x = none → K (.ref x) (sup S x (lim z))) : makeO (Mn (n + 2)).tb (Mn (n + 2)).fi (Mn (n + 2)).orc "Limit" [sz z] S K E := by
  refine mk_Limit fun x hx => init_ok hz sup_same ⟨rfl, ?_⟩
  rw [sup_sup]
  exact h x hx
theorem size_ok {a : Addr} {z : Option Int} (h : S a = some (lim z)) (k : K (sz z) S) : mCall pd.prg (n + 1) ("Limit", some "size") [.ref a] S K E := by
  refine en_Limit_size ?_
  unfold c_Limit_size
  walk_at "dl_all"
  exact a_o (a_slo h tb_Limit rfl rfl rfl rfl k)
def inL (c : Int) : Option Int → Bool
  | none => true
  | some i => decide (c ≤ i)
def trL : Option Int → Bool
  | none => true
  | some i => decide (0 ≤ i)
def wiL : Option Int → Option Int → Bool
  | _, none => true
  | none, some _ => false
  | some i, some j => decide (i ≤ j)
theorem contains_ok {a : Addr} {z : Option Int} {c : Int} (h : S a = some (lim z)) (k : K (.bl (inL c z)) S) : mCall pd.prg (n + 2) ("Limit", some "__contains__") [.ref a, .int c] S K E := by
  refine en_Limit___contains__ ?_
  unfold c_Limit___contains__
  walk_at "dl_all"
  refine cl_is_integer (is_integer_int ?_)
  walk_at "dl_all"
  refine a_o (a_slo h tb_Limit rfl rfl rfl rfl ?_)
  cases z with
  | none =>
    unfold sz
    walk_at "dl_all"
    exact k
  | some i =>
    unfold sz
    walk_at "dl_all"
    refine a_o (a_slo h tb_Limit rfl rfl rfl rfl ?_)
    unfold sz
    walk_at "dl_all"
    exact k
theorem bool_ok {a : Addr} {z : Option Int} (h : S a = some (lim z)) (k : K (.bl (trL z)) S) : mCall pd.prg (n + 1) ("Limit", some "__bool__") [.ref a] S K E := by
  refine en_Limit___bool__ ?_
  unfold c_Limit___bool__
  walk_at "dl_all"
  refine a_o (a_slo h tb_Limit rfl rfl rfl rfl ?_)
  cases z with
  | none =>
    unfold sz
    walk_at "dl_all"
    exact k
  | some i =>
    unfold sz
    walk_at "dl_all"
    refine a_o (a_slo h tb_Limit rfl rfl rfl rfl ?_)
    unfold sz
    walk_at "dl_all"
    exact k
theorem eq_ok {a b : Addr} {z w : Option Int} (h : S a = some (lim z)) (h' : S b = some (lim w)) (k : K (.bl (decide (z = w))) S) : mCall pd.prg (n + 1) ("Limit", some "__eq__") [.ref a, .ref b] S K E := by
  refine en_Limit___eq__ ?_
  unfold c_Limit___eq__
  walk_at "dl_all"
  refine b_isi (b := true) (t := .c "Limit") (c := .c "Limit") (by simp only [tyD, h']; exact congrArg (Option.map _) tb_Limit) rfl (by kernel_rfl) ?_
  walk_at "dl_all"
  refine a_o (a_slo h tb_Limit rfl rfl rfl rfl ?_)
  walk_at "dl_all"
  refine a_o (a_slo h' tb_Limit rfl rfl rfl rfl ?_)
  cases z <;> cases w <;> unfold sz <;> walk_at "dl_all" <;> simpa using k
theorem eq_sz {a : Addr} {z w : Option Int} (k : K (.bl false) S) : mCall pd.prg (n + 1) ("Limit", some "__eq__") [.ref a, sz w] S K E := by
  refine en_Limit___eq__ ?_
  unfold c_Limit___eq__
  walk_at "dl_all"
  cases w with
  | none =>
    refine b_isi (b := false) (t := .b "NoneType") (c := .c "Limit") rfl rfl (by kernel_rfl) ?_
    walk_at "dl_all"
    exact k
  | some w =>
    refine b_isi (b := false) (t := .b "int") (c := .c "Limit") rfl rfl (by kernel_rfl) ?_
    walk_at "dl_all"
    exact k
theorem within_ok {a b : Addr} {z w : Option Int} (h : S a = some (lim z)) (h' : S b = some (lim w)) (k : K (.bl (wiL z w)) S) : mCall pd.prg (n + 1) ("Limit", some "is_within") [.ref a, .ref b] S K E := by
  refine en_Limit_is_within ?_
  unfold c_Limit_is_within
  walk_at "dl_all"
  refine a_o (a_slo h' tb_Limit rfl rfl rfl rfl ?_)
  cases w with
  | none =>
    unfold sz
    walk_at "dl_all"
    exact k
  | some w =>
    unfold sz
    walk_at "dl_all"
    refine a_o (a_slo h tb_Limit rfl rfl rfl rfl ?_)
    cases z with
    | none =>
      unfold sz
      walk_at "dl_all"
      exact k
    | some z =>
      unfold sz
      walk_at "dl_all"
      refine a_o (a_slo h tb_Limit rfl rfl rfl rfl ?_)
      walk_at "dl_all"
      refine a_o (a_slo h' tb_Limit rfl rfl rfl rfl ?_)
      unfold sz
      walk_at "dl_all"
      exact k
def mnL (z w : Option Int) : Option Int := if wiL z w then z else w
theorem and_ok {a b : Addr} {z w : Option Int} (hz : okz z) (hw : okz w) (h : S a = some (lim z)) (h' : S b = some (lim w)) (k : ∀ x, S x = none → K (.ref x) (sup S x (lim (mnL z w)))) : mCall pd.prg (n + 3) ("Limit", some "__and__") [.ref a, .ref b] S K E := by
  refine en_Limit___and__ ?_
  unfold c_Limit___and__
  walk_at "dl_all"
  refine mm_slo (P := True) h tb_Limit rfl ?_
  walk_at "dl_all"
  refine cl_Limit_is_within (within_ok h h' ?_)
  walk_at "dl_all"
  unfold mnL at k
  refine ite_any (fun e => ?_) (fun e => ?_)
  · walk_at "dl_all"
    refine a_o (a_slo h tb_Limit rfl rfl rfl rfl ?_)
    walk_at "dl_all"
    refine make_ok hz ?_
    simpa [e] using k
  · walk_at "dl_all"
    refine a_o (a_slo h' tb_Limit rfl rfl rfl rfl ?_)
    walk_at "dl_all"
    refine make_ok hw ?_
    simpa [e] using k
def poolO (x y : Int) : SO := .lst [.int x, .int y]
def okp (x y : Int) : Prop := 0 ≤ x ∧ 0 ≤ y ∧ y < 2147483647
theorem cmul_l {i j : Int} (h1 : -2 ^ 64 < i) (h2 : i < 2 ^ 64) : CMulD i j := .inl (.inl ⟨h1, h2⟩)
theorem cmul_r {i j : Int} (h1 : -2 ^ 64 < j) (h2 : j < 2 ^ 64) : CMulD i j := .inl (.inr ⟨h1, h2⟩)
theorem pool_ok {ns : List Int} {k : Nat} (hk : k < 64) (h : ∀ p x y, okp x y → S p = none → K (.ref p) (sup S p (poolO x y))) : mCall pd.prg (n + 1) ("_law_pool", none) [.rol (ns.map DL.D.int), .int (k : Nat)] S K E := by
  refine en__law_pool ?_
  unfold c__law_pool
  walk_at "dl_all"
  have go : ∀ c : Int, 0 ≤ c → mSs (Mn n) none (.cons (.asg (.op .Mod (.blt "int" (.cons (.op .Mult (.op .Add (.op .Add (.op .Add (.op .Mod (.blt "int" (.cons (.var 2) .nil)) (.cst (.int 2147483629))) (.op .Mult (.op .Mult (.cst (.int 7919)) (.var 1)) (.var 1))) (.op .Mult (.cst (.int 31)) (.var 1))) (.cst (.int 17))) (.cst (.int 48271))) .nil)) (.cst (.int 2147483647))) (.nm 3)) <| .cons (.ret (.lst (.cons (.op .Mult (.var 2) (.blt "int" (.cons (.cmp .GtE (.var 2) (.op .Pow (.cst (.int 10)) (.cst (.int 18)))) .nil))) (.cons (.op .Mod (.blt "int" (.cons (.op .Mult (.var 3) (.var 3)) .nil)) (.cst (.int 2147483629))) .nil)))) <| .nil) ⟨fun _ S' => K .non S', K, fun _ _ => False, fun _ _ => False, fun c fs _ S' => E c fs S'⟩ [some (.rol (ns.map DL.D.int)), some (.int k), some (.int c), none] S := by
    intro c hc
    have h1 := Int.emod_nonneg c (show (2147483629 : Int) ≠ 0 by decide)
    have h2 := Int.emod_lt_of_pos c (show (0 : Int) < 2147483629 by decide)
    walk_at "dl_all"
    refine o_mul (cmul_l (by omega) (by omega)) ?_
    walk_at "dl_all"
    refine o_mul (cmul_r (by omega) (by omega)) ?_
    walk_at "dl_all"
    refine o_mul (cmul_r (by omega) (by omega)) ?_
    walk_at "dl_all"
    refine o_mul (cmul_r (by omega) (by omega)) ?_
    walk_at "dl_all"
    refine o_mul (cmul_r (by split <;> decide) (by split <;> decide)) ?_
    walk_at "dl_all"
    generalize hm : (c % 2147483629 + 7919 * ↑k * ↑k + 31 * ↑k + 17) * 48271 % 2147483647 = m
    have m1 : 0 ≤ m := by rw [← hm]; exact Int.emod_nonneg _ (by decide)
    have m2 : m < 2147483647 := by rw [← hm]; exact Int.emod_lt_of_pos _ (by decide)
    refine o_mul (cmul_l (by omega) (by omega)) ?_
    walk_at "dl_all"
    intro p hp
    refine h p _ _ ⟨?_, Int.emod_nonneg _ (by decide), Int.lt_trans (Int.emod_lt_of_pos _ (by decide)) (by decide)⟩ hp
    split <;> omega
  refine ite_p (fun e => ?_) (fun e => ?_)
  · walk_at "dl_all"
    rw [List.length_map] at e
    have hk' : k < ns.length := by omega
    refine x_rol (d := .int ns[k]) (by simp [atI, ixN, hk']) ?_
    walk_at "dl_one"; walk_at "dl_one"; walk_at "dl_one"; walk_at "dl_one"
    exact go _ (by split <;> omega)
  · walk_at "dl_one"
    exact go 0 (Int.le_refl _)
theorem take_ok {a : Addr} {x y m : Int} (hp : okp x y) (ha : S a = some (poolO x y)) (hm : 0 < m) (hm2 : m.natAbs.log2 < 9000) (h : ∀ r x' y', 0 ≤ r → r < m → okp x' y' → K (.int r) (sup S a (poolO x' y'))) : mCall pd.prg (n + 1) ("_law_take", none) [.ref a, .int m] S K E := by
  obtain ⟨p1, p2, p3⟩ := hp
  refine en__law_take ?_
  unfold c__law_take
  walk_at "dl_all"
  refine x_lst ha rfl ?_
  walk_at "dl_all"
  refine ite_p (fun e => ?_) (fun e => ?_)
  · walk_at "dl_all"
    refine x_lst ha rfl ?_
    walk_at "dl_all"
    refine o_mod hm ?_
    walk_at "dl_all"
    refine x_lst ha rfl ?_
    walk_at "dl_all"
    refine o_div ⟨hm, hm2⟩ ?_
    walk_at "dl_all"
    refine s_lst ha (j := 0) rfl ?_
    walk_at "dl_all"
    exact h _ _ _ (Int.emod_nonneg _ (by omega)) (Int.emod_lt_of_pos _ hm) ⟨Int.ediv_nonneg p1 (by omega), p2, p3⟩
  · walk_at "dl_all"
    refine x_lst ha rfl ?_
    walk_at "dl_all"
    refine o_mul (cmul_r (by omega) (by omega)) ?_
    walk_at "dl_all"
    generalize hy : (y * 48271 + 12345) % 2147483647 = y'
    have m1 : 0 ≤ y' := by rw [← hy]; exact Int.emod_nonneg _ (by decide)
    have m2 : y' < 2147483647 := by rw [← hy]; exact Int.emod_lt_of_pos _ (by decide)
    refine s_lst ha (j := 1) rfl ?_
    walk_at "dl_all"
    refine x_lst sup_same rfl ?_
    walk_at "dl_all"
    refine x_lst sup_same rfl ?_
    walk_at "dl_all"
    refine o_mul (cmul_l (by omega) (by omega)) ?_
    walk_at "dl_all"
    refine o_div ⟨by decide, by decide⟩ ?_
    walk_at "dl_all"
    refine o_mod hm ?_
    exact h _ _ _ (Int.emod_nonneg _ (by omega)) (Int.emod_lt_of_pos _ hm) ⟨p1, m1, m2⟩
end
end LW

set_option Elab.async false
set_option linter.all false
set_option maxRecDepth 100000
set_option maxHeartbeats 1000000
namespace LW
open PySem PySem.Spec PyProof.Rows L2 DL
/-- a value of a formula -/
inductive Vl where
  | non | int (i : Int) | endl
def vd : Vl → DL.D
  | .non => .non
  | .int i => .int i
  | .endl => .str "endless"
def fv : Option Int → Vl
  | none => .non
  | some i => .int i
theorem vd_fv (z : Option Int) : vd (fv z) = sz z := by cases z <;> rfl
def grt : Vl → Vl → Bool
  | .non, _ => false
  | _, .endl => false
  | _, .non => true
  | .endl, _ => true
  | .int i, .int j => decide (j < i)
def gfold (f : Vl) (xs : List Vl) : Vl := xs.foldl (fun f v => if grt v f then v else f) f
def gmax (xs : List Vl) : Vl := gfold .non xs
structure Sr where
  o : Int
  p : Int
  v : Int
  g : Int
def Sr.l (s : Sr) : List Int := [s.o, s.p, s.v, s.g]
def Sr.ok (s : Sr) : Prop := 1 ≤ s.p ∧ s.p < 2 ^ 64 ∧ 0 ≤ s.o ∧ s.o < s.p ∧ 0 ≤ s.g ∧ s.g < 2 ^ 64
structure Fm where
  fs : List (Option Int)
  ss : List Sr
  e : Option Int
def Fm.ok (F : Fm) : Prop := (∀ s ∈ F.ss, s.ok) ∧ (∀ i, F.e = some i → 0 ≤ i) ∧ F.fs.length < 1000 ∧ F.ss.length < 1000
/-- a stair's value at a count -/
def hit (c : Int) (s : Sr) : Option Int := if c % s.p = s.o then some (s.v + s.g * (c / s.p)) else none
def hits (c : Int) (ss : List Sr) : List Int := ss.filterMap (hit c)
def vat (F : Fm) (c : Int) : Vl := match F.e with
  | some e => if e ≤ c then .endl else vat0 c
  | none => vat0 c
where vat0 (c : Int) : Vl := if c < F.fs.length then fv ((F.fs[c.toNat]?).getD none) else gmax ((hits c F.ss).map .int)
section
variable {n : Nat} {S : Sto} {K : DK} {E : DX}
theorem is_count_int {i : Int} (h : K (.bl (decide (0 ≤ i))) S) : mCall pd.prg (n + 2) ("is_count", none) [.int i] S K E := by
  refine en_is_count ?_
  unfold c_is_count
  walk_at "dl_all"
  refine cl_is_integer (is_integer_int ?_)
  walk_at "dl_all"
  exact h
theorem is_greater_ok {x y : Vl} (h : K (.bl (grt x y)) S) : mCall pd.prg (n + 1) ("is_greater", none) [vd x, vd y] S K E := by
  refine en_is_greater ?_
  unfold c_is_greater
  cases x <;> cases y <;> unfold vd <;> walk_at "dl_all" <;> exact h
theorem gfold_take {xs : List Vl} {i : Nat} {v : Vl} (h : xs[i]? = some v) (f : Vl) : gfold f (xs.take (i + 1)) = if grt v (gfold f (xs.take i)) then v else gfold f (xs.take i) := by
  obtain ⟨h1, h2⟩ := List.getElem?_eq_some_iff.mp h
  rw [List.take_succ_eq_append_getElem h1, h2]
  unfold gfold
  rw [List.foldl_append]
  rfl
theorem greatest_of_ok {a : Addr} {xs : List Vl} (ha : S a = some (.lst (xs.map vd))) (h : K (vd (gmax xs)) S) : mCall pd.prg (n + 2) ("greatest_of", none) [.ref a] S K E := by
  refine en_greatest_of ?_
  unfold c_greatest_of
  walk_at "dl_all"
  refine q_lst ha ?_
  refine for_at (W := fun i σ S' => (∃ o, σ = [some (.ref a), some (vd (gmax (xs.take i))), o]) ∧ S' = S) (xs.map vd) ⟨⟨_, rfl⟩, rfl⟩ (fun i σ S h => by rw [h.2]; simp only [itOf, itemsD, ha]) ?_ ?_
  · rintro i σ S' d N ⟨⟨o, rfl⟩, rfl⟩ hd hN
    rw [List.getElem?_map] at hd
    obtain ⟨v, hv, rfl⟩ := Option.map_eq_some_iff.mp hd
    unfold c_greatest_of_L1
    walk_at "dl_all"
    refine cl_is_greater (is_greater_ok ?_)
    walk_at "dl_all"
    have e := gfold_take hv .non
    refine ite_any (fun q => ?_) (fun q => ?_)
    · walk_at "dl_all"
      refine hN _ _ ⟨⟨some (vd v), ?_⟩, rfl⟩
      show _ = [_, some (vd (gfold .non (xs.take (i + 1)))), _]
      rw [e, show gfold .non (xs.take i) = gmax (xs.take i) from rfl, q]
      rfl
    · walk_at "dl_all"
      refine hN _ _ ⟨⟨some (vd v), ?_⟩, rfl⟩
      show _ = [_, some (vd (gfold .non (xs.take (i + 1)))), _]
      rw [e, show gfold .non (xs.take i) = gmax (xs.take i) from rfl, q]
      rfl
  · rintro σ S' ⟨⟨o, rfl⟩, rfl⟩
    walk_at "dl_all"
    rw [List.length_map, List.take_length]
    exact h
theorem sr_tup {s : Sr} : tupI s.l = .tup [.int s.o, .int s.p, .int s.v, .int s.g] := rfl
theorem tyD_int {S : Sto} {i : Int} : tyD pd.prg.tb S (.int i) = some (.b "int") := rfl
theorem log2_lt {p : Int} (h1 : 1 ≤ p) (h2 : p < 2 ^ 64) : p.natAbs.log2 < 9000 := by
  have h0 : p.natAbs ≠ 0 := by omega
  have := (Nat.log2_lt h0 (k := 64)).mpr (by omega)
  omega
theorem b_all {M : Env1} {a : Addr} {bs : List Bool} (h : S a = some (.lst (bs.map DL.D.bl))) (k : K (.bl (bs.all id)) S) : bltM M "all" [.ref a] S K E := blt_all ⟨_, bs, rfl, by simp only [litemsD, h], k⟩
theorem is_stair_ok {s : Sr} (hs : s.ok) (h : ∀ S', Le S S' → K (.bl true) S') : mCall pd.prg (n + 2) ("is_stair", none) [tupI s.l] S K E := by
  obtain ⟨h1, h2, h3, h4, h5, h6⟩ := hs
  refine en_is_stair ?_
  unfold c_is_stair
  rw [sr_tup]
  walk_at "dl_all"
  refine b_isi (t := .b "tuple") (c := .b "tuple") (b := true) rfl rfl (by kernel_rfl) ?_
  walk_at "dl_all"
  refine lc_at [.int s.o, .int s.p, .int s.v, .int s.g] (fun i acc => acc = (List.replicate i true).map DL.D.bl) (len_ok (by simp)) rfl (fun S' l => rfl) ?_ ?_
  · intro i d acc S' Y Z hd hA l hY hZ
    simp only [wipeD, List.set]
    have hi : ∃ j, d = .int j := by
      match i, hd with
      | 0, hd => cases hd; exact ⟨_, rfl⟩
      | 1, hd => cases hd; exact ⟨_, rfl⟩
      | 2, hd => cases hd; exact ⟨_, rfl⟩
      | 3, hd => cases hd; exact ⟨_, rfl⟩
      | i + 4, hd => cases hd
    obtain ⟨j, rfl⟩ := hi
    walk_at "dl_all"
    refine cl_is_integer (is_integer_int ?_)
    walk_at "dl_all"
    exact hY _ _ .refl (by rw [hA, List.replicate_succ', List.map_append]; rfl)
  · intro p acc S' hA l hp hS
    walk_at "dl_all"
    rw [hA] at hS
    refine b_all hS ?_
    walk_at "dl_go"
    rw [decide_eq_true h5]
    exact h S' l
def fobj (a1 a2 : Addr) (e : Option Int) : SO := .ins "Formula" [("own_firsts", .ref a1), ("own_stairs", .ref a2), ("own_endless", sz e)]
structure FA (S : Sto) (p : Addr) (F : Fm) (a1 a2 : Addr) : Prop where
  o : S p = some (fobj a1 a2 F.e)
  f : S a1 = some (.lst (F.fs.map sz))
  s : S a2 = some (.lst (F.ss.map fun s => tupI s.l))
theorem FA.le {S S' : Sto} {p a1 a2 : Addr} {F : Fm} (h : FA S p F a1 a2) (l : Le S S') : FA S' p F a1 a2 := ⟨look_le l rfl h.o, look_le l rfl h.f, look_le l rfl h.s⟩
theorem at_field {M : Env1} {cu : Option Cur} {S : Sto} {p a1 a2 : Addr} {e : Option Int} {f : Str} {d : DL.D} {K : DK} (hM : M.tb "Formula" = pd.prg.tb "Formula") (h : S p = some (fobj a1 a2 e)) (hf : (["own_firsts", "own_stairs", "own_endless"] : List Str).contains f = true) (hd : List.lookup f [("own_firsts", DL.D.ref a1), ("own_stairs", .ref a2), ("own_endless", sz e)] = some d) (k : K d S) : attC M cu f (.ref p) S K := by
  simp only [List.contains_eq_mem, List.mem_cons, List.not_mem_nil, or_false, decide_eq_true_eq] at hf
  refine a_o (a_ins h (hM.trans tb_Formula) ?_ rfl ?_ hd k)
  · rcases hf with h | h | h <;> subst h <;> decide +kernel
  · rcases hf with h | h | h <;> subst h <;> decide +kernel
theorem at_ok {p a1 a2 : Addr} {F : Fm} {c : Int} (hF : F.ok) (h : FA S p F a1 a2) (hc : 0 ≤ c) (k : ∀ S', Le S S' → K (vd (vat F c)) S') : mCall pd.prg (n + 3) ("Formula", some "at") [.ref p, .int c] S K E := by
  refine en_Formula_at ?_
  unfold c_Formula_at
  obtain ⟨ho, hf, hs⟩ := h
  -- the end, by the stairs or the firsts
  have rest : (∀ S', Le S S' → K (vd (vat.vat0 F c)) S') → mSs (Mn (n + 2)) none (.cons (.iff (.cmp .Lt (.var 1) (.blt "len" (.cons (.att (.var 0) "own_firsts") .nil))) (.cons (.ret (.ix (.att (.var 0) "own_firsts") (.var 1))) <| .nil) (.nil)) <| .cons (.ret (.call ("greatest_of", none) (.cons (.comp (.seq (.att (.var 0) "own_stairs")) (.tup 4 (.cons (.nm 3) (.cons (.nm 4) (.cons (.nm 5) (.cons (.nm 6) .nil))))) (some (.cmp .Eq (.op .Mod (.var 1) (.var 4)) (.var 3))) (.op .Add (.var 5) (.op .Mult (.var 6) (.op .FloorDiv (.var 1) (.var 4)))) [2, 3, 4, 5, 6]) .nil))) <| .nil) ⟨fun _ S' => K .non S', K, fun _ _ => False, fun _ _ => False, fun c fs _ S' => E c fs S'⟩ [some (.ref p), some (.int c), none, none, none, none, none] S := by
    intro k
    unfold vat.vat0 at k
    walk_at "dl_all"
    refine at_field rfl ho rfl rfl ?_
    walk_at "dl_all"
    refine b_len hf ?_
    walk_at "dl_all"
    rw [List.length_map]
    refine ite_p (fun e => ?_) (fun e => ?_)
    · walk_at "dl_all"
      refine at_field rfl ho rfl rfl ?_
      walk_at "dl_all"
      rw [if_pos e] at k
      have hl : c.toNat < F.fs.length := by omega
      refine x_lst hf (d := vd (fv ((F.fs[c.toNat]?).getD none))) ?_ (k S .refl)
      rw [vd_fv]
      simp [atI, ixN, hc, e, hl]
    · rw [if_neg e] at k
      walk_at "dl_all"
      refine at_field rfl ho rfl rfl ?_
      refine q_lst hs ?_
      refine lc_at (F.ss.map fun s => tupI s.l) (fun i acc => acc = (hits c (F.ss.take i)).map DL.D.int) (by rw [List.length_map]; exact len_ok (by have := hF.2.2.2; omega)) rfl (fun S' l => by simp only [itOf, itemsD, look_le l rfl hs]) ?_ ?_
      · intro i d acc S' Y Z hd hA l hY hZ
        rw [List.getElem?_map] at hd
        obtain ⟨s, hs', rfl⟩ := Option.map_eq_some_iff.mp hd
        obtain ⟨q1, q2⟩ := List.getElem?_eq_some_iff.mp hs'
        obtain ⟨z1, z2, z3, z4, z5, z6⟩ := hF.1 s (by rw [← q2]; exact List.getElem_mem q1)
        have et : hits c (F.ss.take (i + 1)) = hits c (F.ss.take i) ++ (hit c s).toList := by
          unfold hits
          rw [List.take_succ_eq_append_getElem q1, q2, List.filterMap_append]
          simp only [List.filterMap_cons, List.filterMap_nil]
          cases hit c s <;> rfl
        rw [sr_tup]
        simp only [wipeD, List.set]
        walk_at "dl_all"
        refine o_mod (by omega) ?_
        walk_at "dl_all"
        refine ite_p (fun e' => ?_) (fun e' => ?_)
        · walk_at "dl_all"
          refine o_div ⟨by omega, log2_lt z1 z2⟩ ?_
          refine o_mul (cmul_l (by omega) (by omega)) ?_
          walk_at "dl_all"
          refine hY _ _ .refl ?_
          rw [et, hA]
          unfold hit
          rw [if_pos e', List.map_append]
          rfl
        · refine hZ _ .refl ?_
          rw [et, hA]
          unfold hit
          rw [if_neg e', List.map_append]
          simp
      · intro q acc S' hA l hp hS
        rw [hA, List.length_map, List.take_length] at hS
        walk_at "dl_all"
        have ex : (hits c F.ss).map DL.D.int = ((hits c F.ss).map Vl.int).map vd := by rw [List.map_map]; rfl
        rw [ex] at hS
        exact cl_greatest_of (greatest_of_ok hS (k S' l))
  unfold vat at k
  walk_at "dl_all"
  refine at_field rfl ho rfl rfl ?_
  walk_at "dl_all"
  cases he : F.e with
  | none =>
    rw [he] at k
    unfold sz
    repeat (first | (with_reducible exact rest k) | walk_at "dl_one")
  | some e =>
    rw [he] at k
    unfold sz
    walk_at "dl_all"
    refine at_field rfl (he ▸ ho) rfl rfl ?_
    unfold sz
    walk_at "dl_all"
    refine ite_p (fun q => ?_) (fun q => ?_)
    · walk_at "dl_all"
      simp only [q, if_true] at k
      exact k S .refl
    · simp only [q, if_false] at k
      repeat (first | (with_reducible exact rest k) | walk_at "dl_one")
end
end LW

set_option Elab.async false
set_option linter.all false
set_option maxRecDepth 100000
set_option maxHeartbeats 1000000
namespace LW
open PySem PySem.Spec PyProof.Rows L2 DL
section
variable {n : Nat} {S : Sto} {K : DK} {E : DX}
theorem mth {M : Env1} {p a1 a2 : Addr} {e : Option Int} {σ : DSt} {cu : Option Cur} {m : Str} {es : CEs} (hM : M.tb "Formula" = pd.prg.tb "Formula") (h : S p = some (fobj a1 a2 e)) (hm : (["__init__", "at", "greatest", "first_above", "__call__", "__or__", "__add__"] : List Str).contains m = true) (hb : List.lookup m [(("own_firsts" : Str), DL.D.ref a1), ("own_stairs", .ref a2), ("own_endless", sz e)] = none) (k : mEs M cu es σ S (fun xs S2 => callO M.fi M.orc ("Formula", some m) (.ref p :: xs) S2 K E) E) : ∃ a' ob, DL.D.ref p = .ref a' ∧ S a' = some ob ∧ match ob.cn with
  | some c => (∃ ce, M.tb c = some ce ∧ m ∈ ce.meths ∧ ob.bare m) ∧ mEs M cu es σ S (fun xs S2 => callO M.fi M.orc (c, some m) (.ref p :: xs) S2 K E) E
  | none => isLst ob = true ∧ isLm m = true ∧ mEs M cu es σ S (fun xs S2 => lmD m (.ref p :: xs) S2 K E) E := mm_ins (P := True) h (hM.trans tb_Formula) hm hb k
theorem firsts_ok {p a1 a2 : Addr} {F : Fm} (h : FA S p F a1 a2) (k : ∀ q, S q = none → K (.ref q) (sup S q (.lst (F.fs.map sz)))) : mCall pd.prg (n + 1) ("Formula", some "firsts") [.ref p] S K E := by
  refine en_Formula_firsts ?_
  unfold c_Formula_firsts
  walk_at "dl_all"
  refine at_field rfl h.o rfl rfl ?_
  walk_at "dl_all"
  exact b_listl h.f k
theorem stairs_ok {p a1 a2 : Addr} {F : Fm} (h : FA S p F a1 a2) (k : ∀ q, S q = none → K (.ref q) (sup S q (.lst (F.ss.map fun s => tupI s.l)))) : mCall pd.prg (n + 1) ("Formula", some "stairs") [.ref p] S K E := by
  refine en_Formula_stairs ?_
  unfold c_Formula_stairs
  walk_at "dl_all"
  refine at_field rfl h.o rfl rfl ?_
  walk_at "dl_all"
  exact b_listl h.s k
theorem endless_ok {p a1 a2 : Addr} {F : Fm} (h : FA S p F a1 a2) (k : K (sz F.e) S) : mCall pd.prg (n + 1) ("Formula", some "endless") [.ref p] S K E := by
  refine en_Formula_endless ?_
  unfold c_Formula_endless
  walk_at "dl_all"
  refine at_field rfl h.o rfl rfl ?_
  exact k
theorem greatest_ok {p a1 a2 : Addr} {F : Fm} {c : Int} (hF : F.ok) (h : FA S p F a1 a2) (hc : 0 ≤ c) (k : ∀ S', Le S S' → K (vd (vat F c)) S') : mCall pd.prg (n + 4) ("Formula", some "greatest") [.ref p, .int c] S K E := by
  refine en_Formula_greatest ?_
  unfold c_Formula_greatest
  walk_at "dl_all"
  refine cl_is_count (is_count_int ?_)
  walk_at "dl_go"
  refine mth rfl h.o rfl rfl ?_
  walk_at "dl_all"
  exact cl_Formula_at (at_ok hF h hc k)
/-- the first count, beyond the firsts, at which a stair is greater -/
def many0 (L : Int) (s : Sr) : Int := if -((s.o - L) / s.p) > 0 then -((s.o - L) / s.p) else 0
def above (L : Int) (most : Int) (s : Sr) : Option Int :=
  if s.v + s.g * many0 L s ≤ most then (if s.g = 0 then none else some (s.o + s.p * ((most - s.v) / s.g + 1))) else some (s.o + s.p * many0 L s)
theorem above_ok {p a1 a2 : Addr} {F : Fm} {s : Sr} {most : Int} (hs : s.ok) (h : FA S p F a1 a2) (k : K (sz (above F.fs.length most s)) S) : mCall pd.prg (n + 1) ("Formula", some "first_above") [.ref p, tupI s.l, .int most] S K E := by
  obtain ⟨h1, h2, h3, h4, h5, h6⟩ := hs
  refine en_Formula_first_above ?_
  unfold c_Formula_first_above
  rw [sr_tup]
  walk_at "dl_all"
  refine at_field rfl h.o rfl rfl ?_
  walk_at "dl_all"
  refine b_len h.f ?_
  walk_at "dl_all"
  refine o_div ⟨by omega, log2_lt h1 h2⟩ ?_
  walk_at "dl_all"
  rw [List.length_map]
  have em : (if -((s.o - (F.fs.length : Int)) / s.p) > 0 then -((s.o - (F.fs.length : Int)) / s.p) else 0) = many0 F.fs.length s := rfl
  rw [em]
  unfold above at k
  refine o_mul (cmul_l (by omega) (by omega)) ?_
  walk_at "dl_all"
  refine ite_p (fun q => ?_) (fun q => ?_)
  · rw [if_pos q] at k
    walk_at "dl_all"
    refine ite_p (fun q2 => ?_) (fun q2 => ?_)
    · rw [if_pos q2] at k
      walk_at "dl_all"
      exact k
    · rw [if_neg q2] at k
      walk_at "dl_all"
      refine o_div ⟨by omega, log2_lt (by omega) h6⟩ ?_
      walk_at "dl_all"
      refine o_mul (cmul_l (by omega) (by omega)) ?_
      walk_at "dl_all"
      exact k
  · rw [if_neg q] at k
    walk_at "dl_all"
    refine o_mul (cmul_l (by omega) (by omega)) ?_
    walk_at "dl_all"
    exact k
theorem toPy_ints {S : Sto} {n : Nat} : ∀ (xs : List Int), mapO (toPy S (n + 1)) (xs.map DL.D.int) = some (xs.map PyData.int)
  | [] => rfl
  | x :: xs => by
    simp only [List.map, mapO, toPy, toPy_ints xs]
theorem toPy_lst {S : Sto} {p : Addr} {xs : List Int} (h : S p = some (.lst (xs.map DL.D.int))) : toPy S 64 (.ref p) = some (.list (xs.map PyData.int)) := by
  simp only [toPy, h, toPy_ints, Option.map]
def ov (most : Int) (z : Option Int) : Bool := grt (fv z) (.int most)
def ovs (most : Int) (fs : List (Option Int)) (i : Nat) : List Nat := (List.range i).filter fun j => ov most ((fs[j]?).getD none)
def cands (F : Fm) (most : Int) : List Int := F.e.toList ++ ((ovs most F.fs F.fs.length).take 1).map (fun (j : Nat) => (j : Int)) ++ F.ss.filterMap (above F.fs.length most)
def IsCall (F : Fm) (most : Int) (z : Option Int) : Prop := (cands F most = [] ∧ z = none) ∨ ∃ m, m ∈ cands F most ∧ (∀ y ∈ cands F most, m ≤ y) ∧ z = some (m - 1)
theorem above_nn {L most : Int} {s : Sr} (hs : s.ok) (hL : 0 ≤ L) {c : Int} (h : above L most s = some c) : 0 ≤ c := by
  obtain ⟨h1, h2, h3, h4, h5, h6⟩ := hs
  have hm : 0 ≤ many0 L s := by unfold many0; split <;> omega
  unfold above at h
  split at h
  · rename_i q
    split at h
    · cases h
    · rename_i q2
      cases h
      have : 0 ≤ (most - s.v) / s.g := by
        refine Int.ediv_nonneg ?_ h5
        have := Int.mul_nonneg h5 hm
        omega
      have := Int.mul_nonneg (show 0 ≤ s.p by omega) (show 0 ≤ (most - s.v) / s.g + 1 by omega)
      omega
  · cases h
    have := Int.mul_nonneg (show 0 ≤ s.p by omega) hm
    omega
theorem cands_nn {F : Fm} (hF : F.ok) {most c : Int} (h : c ∈ cands F most) : 0 ≤ c := by
  unfold cands at h
  simp only [List.mem_append, List.mem_map, List.mem_filterMap, Option.mem_toList] at h
  rcases h with (h | ⟨j, _, rfl⟩) | ⟨s, hs, h⟩
  · exact hF.2.1 c h
  · exact Int.natCast_nonneg j
  · exact above_nn (hF.1 s hs) (Int.natCast_nonneg _) h
theorem cut1 {xs : List DL.D} : DL.cutD xs none (some 1) = xs.take 1 := by
  unfold DL.cutD HT.sIx
  simp
theorem call_ok {p a1 a2 : Addr} {F : Fm} {most : Int} (hF : F.ok) (h : FA S p F a1 a2) (k : ∀ S' r z, Le S S' → okz z → S' r = some (lim z) → IsCall F most z → K (.ref r) S') : mCall pd.prg (n + 4) ("Formula", some "__call__") [.ref p, .int most] S K E := by
  refine en_Formula___call__ ?_
  unfold c_Formula___call__
  walk_at "dl_all"
  refine cl_is_integer (is_integer_int ?_)
  walk_at "dl_all"
  refine at_field rfl h.o rfl rfl ?_
  -- the rest, found at q
  have rest : ∀ (S0 : Sto) (q : Addr), Le S S0 → S q = none → S0 q = some (.lst (F.e.toList.map DL.D.int)) → mSs (Mn (n + 3)) none (.cons (.expr (.meth (.var 2) "extend" (.cons (.sl (.comp (.enu (.cons (.att (.var 0) "own_firsts") .nil)) (.tup 2 (.cons (.nm 3) (.cons (.nm 6) .nil))) (some (.val (.call ("is_greater", none) (.cons (.var 6) (.cons (.var 1) .nil))))) (.var 3) [5, 3, 6]) (.cst .non) (.cst (.int 1))) .nil))) <| .cons (.for_ (.seq (.att (.var 0) "own_stairs")) (.nm 4) c_Formula___call___L1) <| .cons (.ret (.make "Limit" (.cons (.ite (.cmp .NotEq (.var 2) (.lst .nil)) (.op .Sub (.blt "min" (.cons (.var 2) .nil)) (.cst (.int 1))) (.cst .non)) .nil))) <| .nil) ⟨fun _ S' => K .non S', K, fun _ _ => False, fun _ _ => False, fun c fs _ S' => E c fs S'⟩ [some (.ref p), some (.int most), some (.ref q), none, none, none, none] S0 := by
    intro S0 q l0 hq h0
    have hA0 := h.le l0
    walk_at "dl_all"
    refine mm_lst (P := True) h0 rfl ?_
    walk_at "dl_all"
    refine at_field rfl hA0.o rfl rfl ?_
    walk_at "dl_all"
    refine q_enu hA0.f ?_
    refine lc_at (enuL 0 (F.fs.map sz)) (fun i acc => acc = (ovs most F.fs i).map fun (j : Nat) => DL.D.int (j : Int)) (by rw [enuL_len, List.length_map]; exact len_ok (by have := hF.2.2.1; omega)) rfl (fun S' l => by simp only [enuIt, litemsD, look_le l rfl hA0.f, Option.map]) ?_ ?_
    · intro i d acc S' Y Z hd hA l hY hZ
      rw [enuL_get, List.getElem?_map] at hd
      cases hz : F.fs[i]? with
      | none => rw [hz] at hd; simp at hd
      | some z =>
        rw [hz] at hd
        simp only [Option.map, Nat.zero_add, Option.some.injEq] at hd
        subst hd
        have es : ovs most F.fs (i + 1) = ovs most F.fs i ++ (if ov most z then [i] else []) := by
          unfold ovs
          rw [List.range_succ, List.filter_append]
          simp only [List.filter_cons, List.filter_nil, hz, Option.getD]
        simp only [wipeD, List.set]
        walk_at "dl_all"
        rw [← vd_fv]
        refine cl_is_greater (is_greater_ok (x := fv z) (y := .int most) ?_)
        walk_at "dl_all"
        refine ite_any (fun e => ?_) (fun e => ?_)
        · walk_at "dl_all"
          refine hY _ _ .refl ?_
          rw [es, hA, if_pos (show ov most z = true from e), List.map_append]
          rfl
        · refine hZ _ .refl ?_
          rw [es, hA, if_neg (by rw [show ov most z = false from e]; decide), List.append_nil]
    · intro r acc S1 hA l1 hr hS1
      rw [enuL_len, List.length_map] at hA
      walk_at "dl_all"
      refine sl_lst hS1 rfl rfl fun t ht => ?_
      rw [cut1, hA, ← List.map_take]
      have nqt : q ≠ t := ne_new ht (look_le l1 rfl h0)
      have l2 : Le S (sup S1 t (.lst (((ovs most F.fs F.fs.length).take 1).map fun (j : Nat) => DL.D.int (j : Int)))) := (l0.trans l1).trans (.new ht)
      walk_at "dl_all"
      refine l_ext (look_old ht (look_le l1 rfl h0)) sup_same (len_ok ?_) ?_
      · have : ((ovs most F.fs F.fs.length).take 1).length ≤ 1 := List.length_take_le ..
        simp only [List.length_map]
        have : F.e.toList.length ≤ 1 := by cases F.e <;> simp
        omega
      have e0 : F.e.toList.map DL.D.int ++ ((ovs most F.fs F.fs.length).take 1).map (fun (j : Nat) => DL.D.int (j : Int)) = (F.e.toList ++ ((ovs most F.fs F.fs.length).take 1).map (fun (j : Nat) => (j : Int))).map DL.D.int := by
        rw [List.map_append, List.map_map]; rfl
      rw [e0]
      generalize hpre : F.e.toList ++ ((ovs most F.fs F.fs.length).take 1).map (fun (j : Nat) => (j : Int)) = pre
      have hpl : pre.length ≤ 2 := by
        rw [← hpre, List.length_append, List.length_map]
        have : ((ovs most F.fs F.fs.length).take 1).length ≤ 1 := List.length_take_le ..
        have : F.e.toList.length ≤ 1 := by cases F.e <;> simp
        omega
      have l3 : Le S (sup (sup S1 t (.lst (((ovs most F.fs F.fs.length).take 1).map fun (j : Nat) => DL.D.int (j : Int)))) q (.lst (pre.map DL.D.int))) := fun a o i g => look_ne (ne_new hq g) (l2 a o i g)
      have h3 : (sup (sup S1 t (.lst (((ovs most F.fs F.fs.length).take 1).map fun (j : Nat) => DL.D.int (j : Int)))) q (.lst (pre.map DL.D.int))) q = some (.lst (pre.map DL.D.int)) := sup_same
      generalize sup (sup S1 t (.lst (((ovs most F.fs F.fs.length).take 1).map fun (j : Nat) => DL.D.int (j : Int)))) q (.lst (pre.map DL.D.int)) = S3 at l3 h3 ⊢
      clear l1 l2 hS1 ht hr nqt l0 h0 hA0 hA
      walk_at "dl_all"
      refine at_field rfl (h.le l3).o rfl rfl ?_
      refine q_lst (h.le l3).s ?_
      refine for_at (W := fun i σ S' => (∃ o3 o4 o5 o6, σ = [some (.ref p), some (.int most), some (.ref q), o3, o4, o5, o6]) ∧ Le S S' ∧ S' q = some (.lst ((pre ++ (F.ss.take i).filterMap (above F.fs.length most)).map DL.D.int))) (F.ss.map fun s => tupI s.l) ⟨⟨_, _, _, _, rfl⟩, l3, by rw [List.take_zero, List.filterMap_nil, List.append_nil]; exact h3⟩ (fun i σ S' hw => by simp only [itOf, itemsD, (h.le hw.2.1).s]) ?_ ?_
      · rintro i σ S' d N ⟨⟨o3, o4, o5, o6, rfl⟩, l4, h4⟩ hd hN
        rw [List.getElem?_map] at hd
        obtain ⟨s, hs', rfl⟩ := Option.map_eq_some_iff.mp hd
        obtain ⟨q1, q2⟩ := List.getElem?_eq_some_iff.mp hs'
        have et : (F.ss.take (i + 1)).filterMap (above F.fs.length most) = (F.ss.take i).filterMap (above F.fs.length most) ++ (above F.fs.length most s).toList := by
          rw [List.take_succ_eq_append_getElem q1, q2, List.filterMap_append]
          simp only [List.filterMap_cons, List.filterMap_nil]
          cases above F.fs.length most s <;> rfl
        unfold c_Formula___call___L1
        walk_at "dl_all"
        refine mth rfl (h.le l4).o rfl rfl ?_
        walk_at "dl_all"
        refine cl_Formula_first_above (above_ok (hF.1 s (by rw [← q2]; exact List.getElem_mem q1)) (h.le l4) ?_)
        cases ha : above F.fs.length most s with
        | none =>
          unfold sz
          walk_at "dl_all"
          refine hN _ _ ⟨⟨_, _, _, _, rfl⟩, l4, ?_⟩
          rw [et, ha, Option.toList_none, List.append_nil]
          exact h4
        | some c =>
          unfold sz
          walk_at "dl_all"
          refine mm_lst (P := True) h4 rfl ?_
          walk_at "dl_all"
          refine l_app h4 ?_ ?_
          · have := List.length_filterMap_le (above F.fs.length most) (F.ss.take i)
            have : (F.ss.take i).length ≤ F.ss.length := by rw [List.length_take]; omega
            have := hF.2.2.2
            show _ < 16777216
            simp only [List.length_map, List.length_append]
            omega
          walk_at "dl_all"
          refine hN _ _ ⟨⟨_, _, _, _, rfl⟩, fun a o i g => look_ne (ne_new hq g) (l4 a o i g), ?_⟩
          rw [et, ha, ← List.append_assoc, List.map_append (l₁ := pre ++ _)]
          exact sup_same
      · rintro σ S' ⟨⟨o3, o4, o5, o6, rfl⟩, l4, h4⟩
        rw [List.length_map, List.take_length] at h4
        have ec : pre ++ F.ss.filterMap (above F.fs.length most) = cands F most := by unfold cands; rw [hpre]
        rw [ec] at h4
        walk_at "dl_all"
        intro t ht
        have h5 := look_old (x := SO.lst []) ht h4
        have e1 : toPy (sup S' t (.lst [])) 64 (.ref q) = some (.list ((cands F most).map PyData.int)) := toPy_lst h5
        have e2 : toPy (sup S' t (.lst [])) 64 (.ref t) = some (.list []) := toPy_lst (xs := []) sup_same
        refine k_ne e1 e2 ?_
        cases hc : cands F most with
        | nil =>
          rw [hc] at h5
          walk_at "dl_all"
          refine make_ok (z := none) (by intro i e; cases e) fun r hr => ?_
          exact k _ r none ((l4.trans (.new ht)).trans (.new hr)) (by intro i e; cases e) sup_same (.inl ⟨hc, rfl⟩)
        | cons c0 cr =>
          rw [hc] at h5
          walk_at "dl_all"
          refine b_minl h5 (by simp) fun m m1 m2 => ?_
          have mz : okz (some (m - 1)) := by
            intro i e
            cases e
            have := cands_nn hF (most := most) (show m ∈ cands F most by rw [hc]; exact m1)
            omega
          walk_at "dl_all"
          refine make_ok (z := some (m - 1)) mz fun r hr => ?_
          exact k _ r (some (m - 1)) ((l4.trans (.new ht)).trans (.new hr)) mz sup_same (.inr ⟨m, by rw [hc]; exact m1, by rw [hc]; exact m2, rfl⟩)
  cases he : F.e with
  | none =>
    unfold sz
    walk_at "dl_all"
    intro q hq
    repeat (first | exact rest _ q (.new hq) hq (by rw [he]; exact sup_same) | walk_at "dl_one")
  | some e =>
    unfold sz
    walk_at "dl_all"
    refine at_field rfl (he ▸ h.o) rfl rfl ?_
    unfold sz
    walk_at "dl_all"
    intro q hq
    repeat (first | exact rest _ q (.new hq) hq (by rw [he]; exact sup_same) | walk_at "dl_one")
end
end LW

set_option Elab.async false
set_option linter.all false
set_option maxRecDepth 100000
set_option maxHeartbeats 1000000
namespace LW
open PySem PySem.Spec PyProof.Rows L2 DL
section
variable {n : Nat} {S : Sto} {K : DK} {E : DX}
theorem ofL (mss : List (List Int)) (ss : List Sr) (h : mss.Perm (ss.map Sr.l)) : ∃ ss' : List Sr, ss'.Perm ss ∧ mss = ss'.map Sr.l := by
  have inv : ∀ s : Sr, (fun l : List Int => match l with | [o, p, v, g] => (⟨o, p, v, g⟩ : Sr) | _ => ⟨0, 0, 0, 0⟩) s.l = s := fun s => rfl
  refine ⟨mss.map fun l => match l with | [o, p, v, g] => (⟨o, p, v, g⟩ : Sr) | _ => ⟨0, 0, 0, 0⟩, ?_, ?_⟩
  · have q := h.map fun l : List Int => match l with | [o, p, v, g] => (⟨o, p, v, g⟩ : Sr) | _ => ⟨0, 0, 0, 0⟩
    rw [List.map_map] at q
    have e : (ss.map ((fun l : List Int => match l with | [o, p, v, g] => (⟨o, p, v, g⟩ : Sr) | _ => ⟨0, 0, 0, 0⟩) ∘ Sr.l)) = ss := by
      conv => rhs; rw [← List.map_id ss]
      rfl
    rw [e] at q
    exact q
  · have : ∀ l ∈ mss, Sr.l (match l with | [o, p, v, g] => (⟨o, p, v, g⟩ : Sr) | _ => ⟨0, 0, 0, 0⟩) = l := fun l hl => by
      obtain ⟨s, _, e⟩ := List.mem_map.mp (h.mem_iff.mp hl)
      subst e
      rfl
    rw [List.map_map]
    conv => lhs; rw [← List.map_id mss]
    exact List.map_congr_left fun l hl => (this l hl).symm
/-- a comprehension that tells a bool of each item -/
theorem lc_bools {M : Env1} {it : ItD} {i : Nat} {e : CE} {vs : List Nat} {σ : DSt} (xs : List DL.D) (bs : List Bool) (hb : xs.length = bs.length) (hl : xs.length ≤ 1000) (hx : ∀ S', Le S S' → it S' = some xs)
    (he : ∀ (j : Nat) (d : DL.D) (b : Bool) (S' : Sto) (Y : DK), xs[j]? = some d → bs[j]? = some b → Le S S' → (∀ S'', Le S' S'' → Y (.bl b) S'') → mE M none e ((wipeD σ vs).set i (some d)) S' Y noE)
    (fin : ∀ p S', Le S S' → S' p = some (.lst (bs.map DL.D.bl)) → K (.ref p) S') : LcL M none it (.nm i) none e vs σ S K := by
  refine lc_at xs (fun j acc => acc = (bs.take j).map DL.D.bl) (len_ok (by omega)) rfl hx ?_ ?_
  · intro j d acc S' Y Z hd hA l hY hZ
    have hj : j < bs.length := by rw [← hb]; exact (List.getElem?_eq_some_iff.mp hd).1
    have hbj : bs[j]? = some bs[j] := by simp [hj]
    refine g_nm ?_
    refine d_none ?_
    refine ite_t ?_
    refine he j d _ S' _ hd hbj l fun S'' l' => ?_
    refine hY _ _ l' ?_
    rw [hA, List.take_succ_eq_append_getElem hj, List.map_append]
    rfl
  · intro p acc S' hA l hp hS
    rw [hb, List.take_length] at hA
    rw [hA] at hS
    exact fin p S' l hS
theorem fi_good {x b1 b2 : Addr} {F : Fm} (hF : F.ok) (hx : S x = some (.ins "Formula" [])) (h1 : S b1 = some (.lst (F.fs.map sz))) (h2 : S b2 = some (.lst (F.ss.map fun s => tupI s.l)))
    (k : ∀ S' ss' a1 a2, ss'.Perm F.ss → (ss'.map Sr.l).Pairwise (fun x y => lexI y x = false) → FA S' x ⟨F.fs, ss', F.e⟩ a1 a2 → (∀ b o, isX o = false → S b = some o → b ≠ a1 ∧ b ≠ a2) → LeX x S S' → K .non S') : mCall pd.prg (n + 4) ("Formula", some "__init__") [.ref x, .ref b1, .ref b2, sz F.e] S K E := by
  refine en_Formula___init__ ?_
  unfold c_Formula___init__
  walk_at "dl_all"
  refine b_isi (t := .b "list") (c := .b "list") (b := true) (by simp only [tyD, h1]) rfl (by kernel_rfl) ?_
  walk_at "dl_all"
  refine b_isi (t := .b "list") (c := .b "list") (b := true) (by simp only [tyD, h2]) rfl (by kernel_rfl) ?_
  walk_at "dl_all"
  have rest : mSs (Mn (n + 3)) none (.cons (.iff (.or (.not (.val (.var 4))) (.not (.val (.blt "all" (.cons (.comp (.seq (.var 1)) (.nm 6) none (.or (.cmp .Is (.var 6) (.cst .non)) (.call ("is_integer", none) (.cons (.var 6) .nil))) [5, 6]) .nil))))) (.cons (.raise "InvalidPaper" "value" (.tup (.cons (.var 1) (.cons (.var 2) (.cons (.var 3) .nil))))) <| .nil) (.nil)) <| .cons (.iff (.not (.val (.blt "all" (.cons (.comp (.seq (.var 2)) (.nm 6) none (.call ("is_stair", none) (.cons (.var 6) .nil)) [5, 6]) .nil)))) (.cons (.raise "InvalidPaper" "value" (.tup (.cons (.var 1) (.cons (.var 2) (.cons (.var 3) .nil))))) <| .nil) (.nil)) <| .cons (.asg (.tup (.cons (.blt "list" (.cons (.var 1) .nil)) (.cons (.blt "sorted" (.cons (.var 2) .nil)) (.cons (.var 3) .nil)))) (.tup 3 (.cons (.att 0 "own_firsts") (.cons (.att 0 "own_stairs") (.cons (.att 0 "own_endless") .nil))))) <| .nil)
      ⟨fun _ S' => K .non S', K, fun _ _ => False, fun _ _ => False, fun c fs _ S' => E c fs S'⟩ [some (.ref x), some (.ref b1), some (.ref b2), some (sz F.e), some (.bl true), none, none] S := by
    walk_at "dl_all"
    refine q_lst h1 ?_
    refine lc_bools (F.fs.map sz) (List.replicate F.fs.length true) (by simp) (by rw [List.length_map]; have := hF.2.2.1; omega) (fun S' l => by simp only [itOf, itemsD, look_le l rfl h1]) ?_ ?_
    · intro j d b S' Y hd hb l hY
      rw [List.getElem?_map] at hd
      obtain ⟨z, hz, rfl⟩ := Option.map_eq_some_iff.mp hd
      obtain rfl : b = true := by
        obtain ⟨_, e⟩ := List.getElem?_eq_some_iff.mp hb
        simpa using e.symm
      simp only [wipeD, List.set]
      cases z with
      | none =>
        unfold sz
        walk_at "dl_all"
        exact hY _ .refl
      | some z =>
        unfold sz
        walk_at "dl_all"
        refine cl_is_integer (is_integer_int ?_)
        exact hY _ .refl
    intro p1 S1 l1 hp1
    walk_at "dl_all"
    refine b_all hp1 ?_
    rw [show (List.replicate F.fs.length true).all id = true by simp]
    walk_at "dl_all"
    refine q_lst (look_le l1 rfl h2) ?_
    refine lc_bools (F.ss.map fun s => tupI s.l) (List.replicate F.ss.length true) (by simp) (by rw [List.length_map]; have := hF.2.2.2; omega) (fun S' l => by simp only [itOf, itemsD, look_le l rfl (look_le l1 rfl h2)]) ?_ ?_
    · intro j d b S' Y hd hb l hY
      rw [List.getElem?_map] at hd
      obtain ⟨s, hs, rfl⟩ := Option.map_eq_some_iff.mp hd
      obtain ⟨q1, q2⟩ := List.getElem?_eq_some_iff.mp hs
      obtain rfl : b = true := by
        obtain ⟨_, e⟩ := List.getElem?_eq_some_iff.mp hb
        simpa using e.symm
      simp only [wipeD, List.set]
      walk_at "dl_all"
      exact cl_is_stair (is_stair_ok (hF.1 s (by rw [← q2]; exact List.getElem_mem q1)) fun S'' l' => hY _ l')
    intro p2 S2 l2 hp2
    have l02 := l1.trans l2
    walk_at "dl_all"
    refine b_all hp2 ?_
    rw [show (List.replicate F.ss.length true).all id = true by simp]
    walk_at "dl_all"
    refine b_listl (look_le l02 rfl h1) fun a1 n1 => ?_
    walk_at "dl_all"
    have h2' : S2 b2 = some (.lst ((F.ss.map Sr.l).map tupI)) := by rw [List.map_map]; exact look_le l02 rfl h2
    refine b_sorted (d := 4) (look_old n1 h2') (by decide) (fun ns hn => by obtain ⟨s, _, e⟩ := List.mem_map.mp hn; subst e; rfl) fun mss a2 pm so n2 => ?_
    obtain ⟨ss', p', rfl⟩ := ofL mss F.ss pm
    walk_at "dl_all"
    have hx2 : S2 x = some (.ins "Formula" []) := look_le l02 rfl hx
    have na1 : x ≠ a1 := ne_new n1 hx2
    have na2 : x ≠ a2 := ne_new n2 (look_old n1 hx2)
    have n12 : a1 ≠ a2 := ne_new n2 sup_same
    refine sa_ins (look_old n2 (look_old n1 hx2)) tb_Formula rfl (by decide +kernel) (by show 0 < 1000; decide) ?_
    walk_at "dl_all"
    refine sa_ins sup_same tb_Formula rfl (by decide +kernel) (by show 1 < 1000; decide) ?_
    walk_at "dl_all"
    rw [sup_sup]
    refine sa_ins sup_same tb_Formula rfl (by decide +kernel) (by show 2 < 1000; decide) ?_
    walk_at "dl_all"
    rw [sup_sup]
    refine k _ ss' a1 a2 p' so ⟨?_, ?_, ?_⟩ ?_ ?_
    · rw [sup_same]; rfl
    · exact look_ne na1.symm (look_old n2 sup_same)
    · have := List.map_map (f := Sr.l) (g := tupI) (l := ss')
      refine look_ne na2.symm ?_
      rw [sup_same, this]; rfl
    · exact fun b o i g => ⟨ne_new n1 (l02 b o i g), ne_new n2 (look_old n1 (l02 b o i g))⟩
    · exact fun a o na i g => look_ne na (look_old n2 (look_old n1 (l02 a o i g)))
  cases he : F.e with
  | none =>
    rw [he] at rest
    unfold sz at rest ⊢
    repeat (first | exact rest | walk_at "dl_one")
  | some e =>
    rw [he] at rest
    have := hF.2.1 e he
    unfold sz at rest ⊢
    walk_at "dl_all"
    refine cl_is_count (is_count_int ?_)
    rw [decide_eq_true this]
    repeat (first | exact rest | walk_at "dl_one")
end
end LW

set_option Elab.async false
set_option linter.all false
set_option maxRecDepth 100000
set_option maxHeartbeats 1000000
namespace LW
open PySem PySem.Spec PyProof.Rows L2 DL
section
variable {n : Nat} {S : Sto} {K : DK} {E : DX}
/-- is_integer tells b of d, whatever stands -/
def IntB (d : DL.D) (S : Sto) (b : Bool) : Prop := ∀ S', Le S S' → ∃ c b1 b2, tyD pd.prg.tb S' d = some c ∧ pd.prg.tab c (.b "int") = some b1 ∧ pd.prg.tab c (.b "bool") = some b2 ∧ (b1 && !b2) = b
theorem IntB.le {d : DL.D} {S S' : Sto} {b : Bool} (h : IntB d S b) (l : Le S S') : IntB d S' b := fun S2 l2 => h S2 (l.trans l2)
theorem IntB.call {d : DL.D} {b : Bool} (h : IntB d S b) (k : K (.bl b) S) : mCall pd.prg (n + 1) ("is_integer", none) [d] S K E := by
  obtain ⟨c, b1, b2, h1, h2, h3, e⟩ := h S .refl
  refine is_integer_ok h1 b1 b2 h2 h3 ?_
  rw [e]
  exact k
theorem ib_non : IntB .non S false := fun S' _ => ⟨.b "NoneType", false, false, rfl, by kernel_rfl, by kernel_rfl, rfl⟩
theorem ib_bl {b : Bool} : IntB (.bl b) S false := fun S' _ => ⟨.b "bool", true, true, rfl, by kernel_rfl, by kernel_rfl, rfl⟩
theorem ib_int {i : Int} : IntB (.int i) S true := fun S' _ => ⟨.b "int", true, false, rfl, by kernel_rfl, by kernel_rfl, rfl⟩
theorem ib_str {x : Str} : IntB (.str x) S false := fun S' _ => ⟨.b "str", false, false, rfl, by kernel_rfl, by kernel_rfl, rfl⟩
theorem ib_tup {xs : List DL.D} : IntB (.tup xs) S false := fun S' _ => ⟨.b "tuple", false, false, rfl, by kernel_rfl, by kernel_rfl, rfl⟩
theorem ib_lst {a : Addr} {xs : List DL.D} (h : S a = some (.lst xs)) : IntB (.ref a) S false := fun S' l => ⟨.b "list", false, false, by simp only [tyD, look_le l rfl h], by kernel_rfl, by kernel_rfl, rfl⟩
theorem ib_dic {a : Addr} {xs : List (DL.D × DL.D)} (h : S a = some (.dic xs)) : IntB (.ref a) S false := fun S' l => ⟨.b "dict", false, false, by simp only [tyD, look_le l rfl h], by kernel_rfl, by kernel_rfl, rfl⟩
/-- the type of d is no list, no tuple -/
def NoT (T : String) (d : DL.D) (S : Sto) : Prop := ∀ S', Le S S' → ∃ c, tyD pd.prg.tb S' d = some c ∧ pd.prg.tab c (.b T) = some false
theorem nl_non : NoT "list" .non S := fun S' _ => ⟨.b "NoneType", rfl, by kernel_rfl⟩
theorem nl_int {i : Int} : NoT "list" (.int i) S := fun S' _ => ⟨.b "int", rfl, by kernel_rfl⟩
theorem nl_tup {xs : List DL.D} : NoT "list" (.tup xs) S := fun S' _ => ⟨.b "tuple", rfl, by kernel_rfl⟩
theorem nl_dic {a : Addr} {xs : List (DL.D × DL.D)} (h : S a = some (.dic xs)) : NoT "list" (.ref a) S := fun S' l => ⟨.b "dict", by simp only [tyD, look_le l rfl h], by kernel_rfl⟩
theorem nt_non : NoT "tuple" .non S := fun S' _ => ⟨.b "NoneType", rfl, by kernel_rfl⟩
theorem nt_int {i : Int} : NoT "tuple" (.int i) S := fun S' _ => ⟨.b "int", rfl, by kernel_rfl⟩
theorem nt_lst {a : Addr} {xs : List DL.D} (h : S a = some (.lst xs)) : NoT "tuple" (.ref a) S := fun S' l => ⟨.b "list", by simp only [tyD, look_le l rfl h], by kernel_rfl⟩
/-- is_stair tells false of d -/
def StN (d : DL.D) (S : Sto) : Prop := ∀ (n : Nat) (S' : Sto) (K : DK) (E : DX), Le S S' → (∀ S'', Le S' S'' → K (.bl false) S'') → mCall pd.prg (n + 2) ("is_stair", none) [d] S' K E
theorem StN.le {d : DL.D} {S S' : Sto} (h : StN d S) (l : Le S S') : StN d S' := fun n S2 K E l2 k => h n S2 K E (l.trans l2) k
theorem sn_ty {d : DL.D} (h : NoT "tuple" d S) : StN d S := fun n S' K E l k => by
  obtain ⟨c, h1, h2⟩ := h S' l
  refine en_is_stair ?_
  unfold c_is_stair
  walk_at "dl_all"
  refine b_isi (b := false) (c := .b "tuple") h1 rfl h2 ?_
  walk_at "dl_all"
  exact k _ .refl
theorem sn_len {xs : List DL.D} (h : xs.length ≠ 4) : StN (.tup xs) S := fun n S' K E l k => by
  refine en_is_stair ?_
  unfold c_is_stair
  walk_at "dl_all"
  refine b_isi (b := true) (c := .b "tuple") (t := .b "tuple") rfl rfl (by kernel_rfl) ?_
  walk_at "dl_go"
  exact k _ .refl
theorem sn_all {xs : List DL.D} {bs : List Bool} (h4 : xs.length = 4) (hb : xs.length = bs.length) (hi : ∀ (j : Nat) (d : DL.D) (b : Bool), xs[j]? = some d → bs[j]? = some b → IntB d S b) (hf : bs.all id = false) : StN (.tup xs) S := fun n S' K E l k => by
  refine en_is_stair ?_
  unfold c_is_stair
  walk_at "dl_all"
  refine b_isi (b := true) (c := .b "tuple") (t := .b "tuple") rfl rfl (by kernel_rfl) ?_
  walk_at "dl_go"
  refine lc_bools xs bs hb (by omega) (fun S' l => rfl) ?_ ?_
  · intro j d b S2 Y hd hb l2 hY
    simp only [wipeD, List.set]
    walk_at "dl_all"
    exact cl_is_integer (((hi j d b hd hb).le (l.trans l2)).call (hY _ .refl))
  · intro p S2 l2 h2
    walk_at "dl_all"
    refine b_all h2 ?_
    rw [hf]
    walk_at "dl_all"
    exact k _ l2
theorem sn_num {s : Sr} (h : ¬ (1 ≤ s.p ∧ 0 ≤ s.o ∧ s.o < s.p ∧ 0 ≤ s.g)) : StN (tupI s.l) S := fun n S' K E l k => by
  refine en_is_stair ?_
  unfold c_is_stair
  rw [sr_tup]
  walk_at "dl_all"
  refine b_isi (b := true) (c := .b "tuple") (t := .b "tuple") rfl rfl (by kernel_rfl) ?_
  walk_at "dl_go"
  refine lc_bools [.int s.o, .int s.p, .int s.v, .int s.g] [true, true, true, true] rfl (by simp) (fun S' l => rfl) ?_ ?_
  · intro j d b S2 Y hd hb l2 hY
    simp only [wipeD, List.set]
    have q : IntB d S2 b := by
      match j, hd, hb with
      | 0, hd, hb => cases hd; cases hb; exact ib_int
      | 1, hd, hb => cases hd; cases hb; exact ib_int
      | 2, hd, hb => cases hd; cases hb; exact ib_int
      | 3, hd, hb => cases hd; cases hb; exact ib_int
      | j + 4, hd, hb => cases hd
    walk_at "dl_all"
    exact cl_is_integer (q.call (hY _ .refl))
  · intro p S2 l2 h2
    walk_at "dl_all"
    refine b_all h2 ?_
    walk_at "dl_all"
    refine ite_p (fun h1 => ?_) (fun h1 => ?_)
    · walk_at "dl_all"
      refine ite_p (fun h3 => ?_) (fun h3 => ?_)
      · walk_at "dl_all"
        refine ite_p (fun h4 => ?_) (fun h4 => ?_)
        · walk_at "dl_all"
          have := k _ l2
          rw [show decide (0 ≤ s.g) = false from decide_eq_false (by omega)]
          exact k _ l2
        · rw [show decide (s.o < s.p) = false from decide_eq_false (by omega)]
          exact k _ l2
      · walk_at "dl_all"
        exact k _ l2
    · rw [show decide (1 ≤ s.p) = false from decide_eq_false (by omega)]
      exact k _ l2
/-- making ends in the error -/
def FiN (d1 d2 d3 : DL.D) (S : Sto) : Prop := ∀ (n : Nat) (S' : Sto) (x : Addr) (K : DK) (E : DX), Le S S' → (∀ S'', Le S' S'' → E "InvalidPaper" [("value", .tup [d1, d2, d3])] S'') → mCall pd.prg (n + 4) ("Formula", some "__init__") [.ref x, d1, d2, d3] S' K E
theorem fi1 {d1 d2 d3 : DL.D} (h : NoT "list" d1 S) : FiN d1 d2 d3 S := fun n S' x K E l k => by
  obtain ⟨c, h1, h2⟩ := h S' l
  refine en_Formula___init__ ?_
  unfold c_Formula___init__
  walk_at "dl_all"
  refine b_isi (b := false) (c := .b "list") h1 rfl h2 ?_
  walk_at "dl_all"
  exact k _ .refl
theorem isi_lst {M : Env1} {a : Addr} {xs : List DL.D} (hM : M.tb = pd.prg.tb) (hT : M.tab = pd.prg.tab) (h : S a = some (.lst xs)) (k : K (.bl true) S) : bltM M "isinstance" [.ref a, .ty "list"] S K E := by
  refine b_isi (t := .b "list") (c := .b "list") (b := true) (by simp only [tyD, h]) rfl ?_ k
  rw [hT]
  kernel_rfl
theorem fi2 {a : Addr} {xs : List DL.D} {d2 d3 : DL.D} (ha : S a = some (.lst xs)) (h : NoT "list" d2 S) : FiN (.ref a) d2 d3 S := fun n S' x K E l k => by
  obtain ⟨c, h1, h2⟩ := h S' l
  refine en_Formula___init__ ?_
  unfold c_Formula___init__
  walk_at "dl_all"
  refine isi_lst rfl rfl (look_le l rfl ha) ?_
  walk_at "dl_all"
  refine b_isi (b := false) (c := .b "list") h1 rfl h2 ?_
  walk_at "dl_all"
  exact k _ .refl
theorem fi3 {a b : Addr} {xs ys : List DL.D} {d3 : DL.D} (ha : S a = some (.lst xs)) (hb : S b = some (.lst ys)) (hn : isN d3 = false) (h : IntB d3 S false ∨ ∃ i, d3 = .int i ∧ i < 0) : FiN (.ref a) (.ref b) d3 S := fun n S' x K E l k => by
  refine en_Formula___init__ ?_
  unfold c_Formula___init__
  walk_at "dl_all"
  refine isi_lst rfl rfl (look_le l rfl ha) ?_
  walk_at "dl_all"
  refine isi_lst rfl rfl (look_le l rfl hb) ?_
  walk_at "dl_all"
  refine ite_cf hn ?_
  walk_at "dl_all"
  refine cl_is_count ?_
  rcases h with h | ⟨i, rfl, hi⟩
  · refine en_is_count ?_
    unfold c_is_count
    walk_at "dl_all"
    refine cl_is_integer ((h.le l).call ?_)
    walk_at "dl_all"
    exact k _ .refl
  · refine is_count_int ?_
    rw [decide_eq_false (by omega)]
    walk_at "dl_all"
    exact k _ .refl
theorem fi4 {a b : Addr} {xs ys : List DL.D} {bs : List Bool} (ha : S a = some (.lst xs)) (hb : S b = some (.lst ys)) (hl : xs.length = bs.length) (h9 : xs.length ≤ 1000) (hi : ∀ (j : Nat) (d : DL.D) (b : Bool), xs[j]? = some d → bs[j]? = some b → isN d = false ∧ IntB d S b) (hf : bs.all id = false) : FiN (.ref a) (.ref b) .non S := fun n S' x K E l k => by
  refine en_Formula___init__ ?_
  unfold c_Formula___init__
  walk_at "dl_all"
  refine isi_lst rfl rfl (look_le l rfl ha) ?_
  walk_at "dl_all"
  refine isi_lst rfl rfl (look_le l rfl hb) ?_
  walk_at "dl_all"
  refine q_lst (look_le l rfl ha) ?_
  refine lc_bools xs bs hl h9 (fun S' l' => by simp only [itOf, itemsD, look_le l' rfl (look_le l rfl ha)]) ?_ ?_
  · intro j d b S2 Y hd hb l2 hY
    simp only [wipeD, List.set]
    obtain ⟨q1, q2⟩ := hi j d b hd hb
    walk_at "dl_all"
    refine ite_cf q1 ?_
    walk_at "dl_all"
    exact cl_is_integer ((q2.le (l.trans l2)).call (hY _ .refl))
  · intro p S2 l2 h2
    walk_at "dl_all"
    refine b_all h2 ?_
    rw [hf]
    walk_at "dl_all"
    exact k _ l2
theorem fi5 {a b : Addr} {xs ys : List DL.D} {bs : List Bool} (ha : S a = some (.lst xs)) (hb : S b = some (.lst ys)) (h8 : xs.length ≤ 1000) (hx : ∀ (j : Nat) (d : DL.D), xs[j]? = some d → isN d = false ∧ IntB d S true) (hl : ys.length = bs.length) (h9 : ys.length ≤ 1000)
    (hi : ∀ (j : Nat) (d : DL.D) (b : Bool), ys[j]? = some d → bs[j]? = some b → (b = false ∧ StN d S) ∨ (b = true ∧ ∃ s : Sr, s.ok ∧ d = tupI s.l)) (hf : bs.all id = false) : FiN (.ref a) (.ref b) .non S := fun n S' x K E l k => by
  refine en_Formula___init__ ?_
  unfold c_Formula___init__
  walk_at "dl_all"
  refine isi_lst rfl rfl (look_le l rfl ha) ?_
  walk_at "dl_all"
  refine isi_lst rfl rfl (look_le l rfl hb) ?_
  walk_at "dl_all"
  refine q_lst (look_le l rfl ha) ?_
  refine lc_bools xs (List.replicate xs.length true) (by simp) h8 (fun S' l' => by simp only [itOf, itemsD, look_le l' rfl (look_le l rfl ha)]) ?_ ?_
  · intro j d b S2 Y hd hb l2 hY
    obtain rfl : b = true := by
      obtain ⟨_, e⟩ := List.getElem?_eq_some_iff.mp hb
      simpa using e.symm
    simp only [wipeD, List.set]
    obtain ⟨q1, q2⟩ := hx j d hd
    walk_at "dl_all"
    refine ite_cf q1 ?_
    walk_at "dl_all"
    exact cl_is_integer ((q2.le (l.trans l2)).call (hY _ .refl))
  · intro p S2 l2 h2
    walk_at "dl_all"
    refine b_all h2 ?_
    rw [show (List.replicate xs.length true).all id = true by simp]
    walk_at "dl_all"
    have hb2 := look_le l2 rfl (look_le l rfl hb)
    refine q_lst hb2 ?_
    refine lc_bools ys bs hl h9 (fun S' l' => by simp only [itOf, itemsD, look_le l' rfl hb2]) ?_ ?_
    · intro j d b S3 Y hd hbj l3 hY
      simp only [wipeD, List.set]
      walk_at "dl_all"
      rcases hi j d b hd hbj with ⟨rfl, q⟩ | ⟨rfl, s, hs, rfl⟩
      · exact cl_is_stair (q _ _ _ _ ((l.trans l2).trans l3) fun S'' l' => hY _ l')
      · exact cl_is_stair (is_stair_ok hs fun S'' l' => hY _ l')
    · intro p' S3 l3 h3
      walk_at "dl_all"
      refine b_all h3 ?_
      rw [hf]
      walk_at "dl_all"
      exact k _ (l2.trans l3)
theorem refusedF {d1 d2 d3 : DL.D} {p : PyData} (hb : FiN d1 d2 d3 S) (hr : ∀ S', Le S S' → toPyR S' 64 (.tup [d1, d2, d3]) = some p) (h3 : p.showable = true) (h4 : p.shown.length ≤ sizeLine) (h : ∀ S', Le S S' → K (.bl true) S') : mCall pd.prg (n + 5) ("_law_refused", none) [d1, d2, d3] S K E := by
  refine en__law_refused ?_
  unfold c__law_refused
  walk_at "dl_all"
  refine mk_Formula fun x hx => hb n _ _ _ _ (.new hx) fun S2 l2 => ?_
  refine ⟨true, by kernel_rfl, ?_⟩
  walk_at "dl_all"
  refine u_as (by simp) fun a dd ha hd hl => ?_
  have hl' := ((Le.new hx).trans l2).trans hl
  walk_at "dl_all"
  refine a_e (by kernel_rfl) sup_same rfl ?_
  walk_at "dl_all"
  refine b_repr (hr _ hl') h3 h4 ?_
  walk_at "dl_all"
  refine b_repr (hr _ hl') h3 h4 ?_
  walk_at "dl_all"
  simp only [decide_true]
  exact h _ hl'
end
end LW

set_option Elab.async false
set_option linter.all false
set_option maxRecDepth 100000
set_option maxHeartbeats 2000000
namespace LW
open PySem PySem.Spec PyProof.Rows L2 DL
section
variable {n : Nat} {S : Sto} {K : DK} {E : DX}
/-- one of the refused firsts, stairs -/
theorem py3 {S : Sto} {d1 d2 d3 : DL.D} {p1 p2 p3 : PyData} (h1 : toPyR S 63 d1 = some p1) (h2 : toPyR S 63 d2 = some p2) (h3 : toPyR S 63 d3 = some p3) : toPyR S 64 (.tup [d1, d2, d3]) = some (.tuple [p1, p2, p3]) := by
  show (mapO (toPyR S 63) [d1, d2, d3]).map PyData.tuple = _
  simp only [mapO, h1, h2, h3, Option.map]
theorem pyl {S : Sto} {a : Addr} {xs : List DL.D} {ps : List PyData} {n : Nat} (h : S a = some (.lst xs)) (h1 : mapO (toPyR S n) xs = some ps) : toPyR S (n + 1) (.ref a) = some (.list ps) := by
  simp only [toPyR, h, h1, Option.map]
theorem pyd {S : Sto} {a : Addr} {n : Nat} (h : S a = some (.dic [])) : toPyR S (n + 1) (.ref a) = some (.dict []) := by
  simp only [toPyR, h, mapP, Option.map]
/-- d among the firsts -/
theorem r1_ok {d : DL.D} {p : PyData} (hb : ∀ b S', Le S S' → S' b = some (.lst []) → FiN d (.ref b) .non S') (hp : ∀ S', Le S S' → toPyR S' 63 d = some p) (h3 : (PyData.tuple [p, .list [], .none]).showable = true) (h4 : (PyData.tuple [p, .list [], .none]).shown.length ≤ sizeLine)
    {N : DSt → Sto → Prop} {rt : DK} {bk : DSt → Sto → Prop} {ex : DXs} {o : Option DL.D} (h : ∀ S', Le S S' → N [some d, o] S') : mSs (Mn (n + 5)) none c__law_refusals_right_L1 ⟨N, rt, bk, N, ex⟩ [some d, o] S := by
  unfold c__law_refusals_right_L1
  walk_at "dl_all"
  intro b nb
  walk_at "dl_all"
  refine cl__law_refused (refusedF (p := .tuple [p, .list [], .none]) (hb b _ (.new nb) sup_same) (fun S' l => py3 (hp S' ((Le.new nb).trans l)) (pyl (look_le l rfl sup_same) rfl) rfl) h3 h4 fun S' l => ?_)
  walk_at "dl_all"
  exact h S' ((Le.new nb).trans l)
theorem r2_ok {d : DL.D} {p : PyData} (hb : ∀ b S', Le S S' → S' b = some (.lst []) → FiN (.ref b) d .non S') (hp : ∀ S', Le S S' → toPyR S' 63 d = some p) (h3 : (PyData.tuple [.list [], p, .none]).showable = true) (h4 : (PyData.tuple [.list [], p, .none]).shown.length ≤ sizeLine)
    {N : DSt → Sto → Prop} {rt : DK} {bk : DSt → Sto → Prop} {ex : DXs} {o : Option DL.D} (h : ∀ S', Le S S' → N [some d, o] S') : mSs (Mn (n + 5)) none c__law_refusals_right_L2 ⟨N, rt, bk, N, ex⟩ [some d, o] S := by
  unfold c__law_refusals_right_L2
  walk_at "dl_all"
  intro b nb
  walk_at "dl_all"
  refine cl__law_refused (refusedF (p := .tuple [.list [], p, .none]) (hb b _ (.new nb) sup_same) (fun S' l => py3 (pyl (look_le l rfl sup_same) rfl) (hp S' ((Le.new nb).trans l)) rfl) h3 h4 fun S' l => ?_)
  walk_at "dl_all"
  exact h S' ((Le.new nb).trans l)
theorem r3_ok {d : DL.D} {p : PyData} (hb : ∀ b S', Le S S' → S' b = some (.lst [.int 1]) → FiN (.ref b) d .non S') (hp : ∀ S', Le S S' → toPyR S' 63 d = some p) (h3 : (PyData.tuple [.list [.int 1], p, .none]).showable = true) (h4 : (PyData.tuple [.list [.int 1], p, .none]).shown.length ≤ sizeLine)
    {N : DSt → Sto → Prop} {rt : DK} {bk : DSt → Sto → Prop} {ex : DXs} {o : Option DL.D} (h : ∀ S', Le S S' → N [some d, o] S') : mSs (Mn (n + 5)) none c__law_refusals_right_L3 ⟨N, rt, bk, N, ex⟩ [some d, o] S := by
  unfold c__law_refusals_right_L3
  walk_at "dl_all"
  intro b nb
  walk_at "dl_all"
  refine cl__law_refused (refusedF (p := .tuple [.list [.int 1], p, .none]) (hb b _ (.new nb) sup_same) (fun S' l => py3 (pyl (look_le l rfl sup_same) rfl) (hp S' ((Le.new nb).trans l)) rfl) h3 h4 fun S' l => ?_)
  walk_at "dl_all"
  exact h S' ((Le.new nb).trans l)
theorem r4_ok {d : DL.D} {p : PyData} {o : Option DL.D} {x : CE} (hb : ∀ a b S', Le S S' → S' a = some (.lst []) → S' b = some (.lst []) → FiN (.ref a) (.ref b) d S') (hp : ∀ S', Le S S' → toPyR S' 63 d = some p) (h3 : (PyData.tuple [.list [], .list [], p]).showable = true) (h4 : (PyData.tuple [.list [], .list [], p]).shown.length ≤ sizeLine)
    {Y : DK} {Z : Sto → Prop} (h : ∀ S', Le S S' → Z S') : dIfs (mO (Mn (n + 5)) none (some (.not (.val (.call ("_law_refused", none) (.cons (.lst .nil) (.cons (.lst .nil) (.cons (.var 0) .nil)))))))) [some d, o] S (fun b S3 => if b = true then mE (Mn (n + 5)) none x [some d, o] S3 Y noE else Z S3) noE := by
  walk_at "dl_all"
  intro a na
  walk_at "dl_all"
  intro b nb
  walk_at "dl_all"
  have l0 := (Le.new (o := .lst []) na).trans (Le.new (o := .lst []) nb)
  have ea := look_old (x := SO.lst []) nb (sup_same (S := S) (a := a) (o := .lst []))
  refine cl__law_refused (refusedF (p := .tuple [.list [], .list [], p]) (hb a b _ l0 ea sup_same) (fun S' l => py3 (pyl (look_le l rfl ea) rfl) (pyl (look_le l rfl sup_same) rfl) (hp S' (l0.trans l))) h3 h4 fun S' l => ?_)
  walk_at "dl_all"
  exact h S' (l0.trans l)
theorem right_ok (k : ∀ S', Le S S' → K (.bl true) S') : mCall pd.prg (n + 6) ("_law_refusals_right", none) [] S K E := by
  refine en__law_refusals_right ?_
  unfold c__law_refusals_right
  walk_at "dl_all"
  intro p1 n1
  walk_at "dl_all"
  intro p2 n2
  walk_at "dl_all"
  intro p3 n3
  walk_at "dl_all"
  intro p4 n4
  walk_at "dl_all"
  intro p5 n5
  walk_at "dl_all"
  intro p6 n6
  walk_at "dl_all"
  intro p7 n7
  walk_at "dl_all"
  intro q nq
  refine q_lst sup_same ?_
  generalize hS0 : sup _ q _ = S0
  have g1 : S0 p1 = some (.lst [.bl true]) := by rw [← hS0]; walk_at "dl_look"
  have g2 : S0 p2 = some (.lst [.str "1"]) := by rw [← hS0]; walk_at "dl_look"
  have g3 : S0 p3 = some (.lst [.int 1]) := by rw [← hS0]; walk_at "dl_look"
  have g4 : S0 p4 = some (.lst [.ref p3]) := by rw [← hS0]; walk_at "dl_look"
  have g5 : S0 p5 = some (.dic []) := by rw [← hS0]; walk_at "dl_look"
  have g6 : S0 p6 = some (.lst [.ref p5]) := by rw [← hS0]; walk_at "dl_look"
  have g7 : S0 p7 = some (.dic []) := by rw [← hS0]; walk_at "dl_look"
  have gq : S0 q = some (.lst [.non, .tup [], .int 5, .ref p1, .ref p2, .ref p4, .ref p6, .ref p7]) := by rw [← hS0]; exact sup_same
  have l0 : Le S S0 := by
    rw [← hS0]
    exact (((((((Le.new n1).trans (.new n2)).trans (.new n3)).trans (.new n4)).trans (.new n5)).trans (.new n6)).trans (.new n7)).trans (.new nq)
  clear hS0 n1 n2 n3 n4 n5 n6 n7 nq
  refine for_at (W := fun _ σ S' => (∃ o1, σ = [o1, none]) ∧ Le S0 S') [.non, .tup [], .int 5, .ref p1, .ref p2, .ref p4, .ref p6, .ref p7] ⟨⟨_, rfl⟩, .refl⟩ (fun i σ S' hw => by simp only [itOf, itemsD, look_le hw.2 rfl gq]) ?_ ?_
  · rintro i σ S1 d N ⟨⟨o1, rfl⟩, l1⟩ hd hN
    have fin : ∀ S', Le S1 S' → N [some d, none] S' := fun S' l => hN _ _ ⟨⟨_, rfl⟩, l1.trans l⟩
    walk_at "dl_g"
    match i, hd with
    | 0, hd => cases hd; exact r1_ok (p := .none) (fun b S' l e => fi1 nl_non) (fun S' l => rfl) (by decide +kernel) (by decide +kernel) fin
    | 1, hd => cases hd; exact r1_ok (p := .tuple []) (fun b S' l e => fi1 nl_tup) (fun S' l => rfl) (by decide +kernel) (by decide +kernel) fin
    | 2, hd => cases hd; exact r1_ok (p := .int 5) (fun b S' l e => fi1 nl_int) (fun S' l => rfl) (by decide +kernel) (by decide +kernel) fin
    | 3, hd =>
      cases hd
      exact r1_ok (p := .list [.bool true]) (fun b S' l e => fi4 (bs := [false]) (look_le (l1.trans l) rfl g1) e rfl (by simp) (fun j d b hj hb => match j, hj, hb with | 0, hj, hb => by cases hj; cases hb; exact ⟨rfl, ib_bl⟩) rfl) (fun S' l => pyl (look_le (l1.trans l) rfl g1) rfl) (by decide +kernel) (by decide +kernel) fin
    | 4, hd =>
      cases hd
      exact r1_ok (p := .list [.str "1"]) (fun b S' l e => fi4 (bs := [false]) (look_le (l1.trans l) rfl g2) e rfl (by simp) (fun j d b hj hb => match j, hj, hb with | 0, hj, hb => by cases hj; cases hb; exact ⟨rfl, ib_str⟩) rfl) (fun S' l => pyl (look_le (l1.trans l) rfl g2) rfl) (by decide +kernel) (by decide +kernel) fin
    | 5, hd =>
      cases hd
      exact r1_ok (p := .list [.list [.int 1]]) (fun b S' l e => fi4 (bs := [false]) (look_le (l1.trans l) rfl g4) e rfl (by simp) (fun j d b hj hb => match j, hj, hb with | 0, hj, hb => by cases hj; cases hb; exact ⟨rfl, ib_lst (look_le (l1.trans l) rfl g3)⟩) rfl)
        (fun S' l => pyl (look_le (l1.trans l) rfl g4) (by simp only [mapO, pyl (look_le (l1.trans l) rfl g3) (show mapO (toPyR S' 61) [.int 1] = some [.int 1] from rfl)])) (by decide +kernel) (by decide +kernel) fin
    | 6, hd =>
      cases hd
      exact r1_ok (p := .list [.dict []]) (fun b S' l e => fi4 (bs := [false]) (look_le (l1.trans l) rfl g6) e rfl (by simp) (fun j d b hj hb => match j, hj, hb with | 0, hj, hb => by cases hj; cases hb; exact ⟨rfl, ib_dic (look_le (l1.trans l) rfl g5)⟩) rfl)
        (fun S' l => pyl (look_le (l1.trans l) rfl g6) (by simp only [mapO, pyd (look_le (l1.trans l) rfl g5)])) (by decide +kernel) (by decide +kernel) fin
    | 7, hd => cases hd; exact r1_ok (p := .dict []) (fun b S' l e => fi1 (nl_dic (look_le (l1.trans l) rfl g7))) (fun S' l => pyd (look_le (l1.trans l) rfl g7)) (by decide +kernel) (by decide +kernel) fin
    | i + 8, hd => cases hd
  rintro σ S1 ⟨⟨o1, rfl⟩, l1⟩
  replace l0 := l0.trans l1
  clear g1 g2 g3 g4 g5 g6 g7 gq l1
  -- stairs
  walk_at "dl_all"
  intro p1 n1
  walk_at "dl_all"
  intro p2 n2
  walk_at "dl_all"
  intro p3 n3
  walk_at "dl_all"
  intro p4 n4
  walk_at "dl_all"
  intro p5 n5
  walk_at "dl_all"
  intro p6 n6
  walk_at "dl_all"
  intro p7 n7
  walk_at "dl_all"
  intro q nq
  refine q_lst sup_same ?_
  generalize hS0 : sup _ q _ = S2
  have g1 : S2 p1 = some (.lst [.non]) := by rw [← hS0]; walk_at "dl_look"
  have g2 : S2 p2 = some (.lst [.tup [.int 0, .int 1, .int 2]]) := by rw [← hS0]; walk_at "dl_look"
  have g3 : S2 p3 = some (.lst [.int 0, .int 1, .int 2, .int 3]) := by rw [← hS0]; walk_at "dl_look"
  have g4 : S2 p4 = some (.lst [.ref p3]) := by rw [← hS0]; walk_at "dl_look"
  have g5 : S2 p5 = some (.lst [.tup [.int 1, .int 1, .int 0, .int 0]]) := by rw [← hS0]; walk_at "dl_look"
  have g6 : S2 p6 = some (.lst [.tup [.int (-1), .int 2, .int 0, .int 0]]) := by rw [← hS0]; walk_at "dl_look"
  have g7 : S2 p7 = some (.lst [.tup [.int 0, .int 0, .int 0, .int 0]]) := by rw [← hS0]; walk_at "dl_look"
  have gq : S2 q = some (.lst [.non, .tup [], .int 5, .ref p1, .ref p2, .ref p4, .ref p5, .ref p6, .ref p7]) := by rw [← hS0]; exact sup_same
  have l2 : Le S1 S2 := by
    rw [← hS0]
    exact (((((((Le.new n1).trans (.new n2)).trans (.new n3)).trans (.new n4)).trans (.new n5)).trans (.new n6)).trans (.new n7)).trans (.new nq)
  clear hS0 n1 n2 n3 n4 n5 n6 n7 nq
  replace l0 := l0.trans l2
  clear l2
  refine for_at (W := fun _ σ S' => (∃ o1, σ = [o1, none]) ∧ Le S2 S') [.non, .tup [], .int 5, .ref p1, .ref p2, .ref p4, .ref p5, .ref p6, .ref p7] ⟨⟨_, rfl⟩, .refl⟩ (fun i σ S' hw => by simp only [itOf, itemsD, look_le hw.2 rfl gq]) ?_ ?_
  · rintro i σ S1 d N ⟨⟨o1, rfl⟩, l1⟩ hd hN
    have fin : ∀ S', Le S1 S' → N [some d, none] S' := fun S' l => hN _ _ ⟨⟨_, rfl⟩, l1.trans l⟩
    have one : ∀ {p : Addr} {y : DL.D}, S2 p = some (.lst [y]) → (∀ S', Le S2 S' → StN y S') → ∀ b S', Le S1 S' → S' b = some (.lst []) → FiN (.ref b) (.ref p) .non S' := fun {p y} hp hy b S' l e =>
      fi5 (bs := [false]) e (look_le (l1.trans l) rfl hp) (by simp) (fun j d hj => by simp at hj) rfl (by simp) (fun j d b hj hb => match j, hj, hb with | 0, hj, hb => by cases hj; cases hb; exact .inl ⟨rfl, hy S' (l1.trans l)⟩) rfl
    walk_at "dl_g"
    match i, hd with
    | 0, hd => cases hd; exact r2_ok (p := .none) (fun b S' l e => fi2 e nl_non) (fun S' l => rfl) (by decide +kernel) (by decide +kernel) fin
    | 1, hd => cases hd; exact r2_ok (p := .tuple []) (fun b S' l e => fi2 e nl_tup) (fun S' l => rfl) (by decide +kernel) (by decide +kernel) fin
    | 2, hd => cases hd; exact r2_ok (p := .int 5) (fun b S' l e => fi2 e nl_int) (fun S' l => rfl) (by decide +kernel) (by decide +kernel) fin
    | 3, hd => cases hd; exact r2_ok (p := .list [.none]) (one g1 fun S' l => sn_ty nt_non) (fun S' l => pyl (look_le (l1.trans l) rfl g1) rfl) (by decide +kernel) (by decide +kernel) fin
    | 4, hd => cases hd; exact r2_ok (p := .list [.tuple [.int 0, .int 1, .int 2]]) (one g2 fun S' l => sn_len (by decide)) (fun S' l => pyl (look_le (l1.trans l) rfl g2) rfl) (by decide +kernel) (by decide +kernel) fin
    | 5, hd => cases hd; exact r2_ok (p := .list [.list [.int 0, .int 1, .int 2, .int 3]]) (one g4 fun S' l => sn_ty (nt_lst (look_le l rfl g3))) (fun S' l => pyl (look_le (l1.trans l) rfl g4) (by simp only [mapO, pyl (look_le (l1.trans l) rfl g3) (show mapO (toPyR S' 61) [.int 0, .int 1, .int 2, .int 3] = some [.int 0, .int 1, .int 2, .int 3] from rfl)])) (by decide +kernel) (by decide +kernel) fin
    | 6, hd => cases hd; exact r2_ok (p := .list [.tuple [.int 1, .int 1, .int 0, .int 0]]) (one g5 fun S' l => sn_num (s := ⟨1, 1, 0, 0⟩) (by decide)) (fun S' l => pyl (look_le (l1.trans l) rfl g5) rfl) (by decide +kernel) (by decide +kernel) fin
    | 7, hd => cases hd; exact r2_ok (p := .list [.tuple [.int (-1), .int 2, .int 0, .int 0]]) (one g6 fun S' l => sn_num (s := ⟨-1, 2, 0, 0⟩) (by decide)) (fun S' l => pyl (look_le (l1.trans l) rfl g6) rfl) (by decide +kernel) (by decide +kernel) fin
    | 8, hd => cases hd; exact r2_ok (p := .list [.tuple [.int 0, .int 0, .int 0, .int 0]]) (one g7 fun S' l => sn_num (s := ⟨0, 0, 0, 0⟩) (by decide)) (fun S' l => pyl (look_le (l1.trans l) rfl g7) rfl) (by decide +kernel) (by decide +kernel) fin
    | i + 9, hd => cases hd
  rintro σ S3 ⟨⟨o1, rfl⟩, l1⟩
  replace l0 := l0.trans l1
  clear g1 g2 g3 g4 g5 g6 g7 gq l1
  walk_at "dl_all"
  intro p1 n1
  walk_at "dl_all"
  intro p2 n2
  walk_at "dl_all"
  intro p3 n3
  walk_at "dl_all"
  intro p4 n4
  walk_at "dl_all"
  intro p5 n5
  walk_at "dl_all"
  intro q nq
  refine q_lst sup_same ?_
  generalize hS0 : sup _ q _ = S4
  have g1 : S4 p1 = some (.lst [.tup [.int 0, .int 1, .non, .int 0]]) := by rw [← hS0]; walk_at "dl_look"
  have g2 : S4 p2 = some (.lst [.tup [.int 0, .int 1, .int 0, .int (-1)]]) := by rw [← hS0]; walk_at "dl_look"
  have g3 : S4 p3 = some (.lst [.tup [.int 0, .bl true, .int 0, .int 0]]) := by rw [← hS0]; walk_at "dl_look"
  have g4 : S4 p4 = some (.lst [.tup [.int 0, .int 1, .int 0, .int 0], .int 5]) := by rw [← hS0]; walk_at "dl_look"
  have g5 : S4 p5 = some (.lst [.tup [.int 0, .int 1, .int 0, .int 0, .int 0]]) := by rw [← hS0]; walk_at "dl_look"
  have gq : S4 q = some (.lst [.ref p1, .ref p2, .ref p3, .ref p4, .ref p5]) := by rw [← hS0]; exact sup_same
  have l2 : Le S3 S4 := by
    rw [← hS0]
    exact (((((Le.new n1).trans (.new n2)).trans (.new n3)).trans (.new n4)).trans (.new n5)).trans (.new nq)
  clear hS0 n1 n2 n3 n4 n5 nq
  replace l0 := l0.trans l2
  clear l2
  refine for_at (W := fun _ σ S' => (∃ o1, σ = [o1, none]) ∧ Le S4 S') [.ref p1, .ref p2, .ref p3, .ref p4, .ref p5] ⟨⟨_, rfl⟩, .refl⟩ (fun i σ S' hw => by simp only [itOf, itemsD, look_le hw.2 rfl gq]) ?_ ?_
  · rintro i σ S1 d N ⟨⟨o1, rfl⟩, l1⟩ hd hN
    have fin : ∀ S', Le S1 S' → N [some d, none] S' := fun S' l => hN _ _ ⟨⟨_, rfl⟩, l1.trans l⟩
    have one1 : ∀ (S' : Sto) (j : Nat) (d : DL.D), ([.int 1] : List DL.D)[j]? = some d → isN d = false ∧ IntB d S' true := fun S' j d hj => match j, hj with | 0, hj => by cases hj; exact ⟨rfl, ib_int⟩
    have one : ∀ {p : Addr} {y : DL.D}, S4 p = some (.lst [y]) → (∀ S', Le S4 S' → StN y S') → ∀ b S', Le S1 S' → S' b = some (.lst [.int 1]) → FiN (.ref b) (.ref p) .non S' := fun {p y} hp hy b S' l e =>
      fi5 (bs := [false]) e (look_le (l1.trans l) rfl hp) (by simp) (one1 S') rfl (by simp) (fun j d b hj hb => match j, hj, hb with | 0, hj, hb => by cases hj; cases hb; exact .inl ⟨rfl, hy S' (l1.trans l)⟩) rfl
    walk_at "dl_g"
    match i, hd with
    | 0, hd =>
      cases hd
      exact r3_ok (p := .list [.tuple [.int 0, .int 1, .none, .int 0]]) (one g1 fun S' l => sn_all (bs := [true, true, false, true]) rfl rfl (fun j d b hj hb => match j, hj, hb with
        | 0, hj, hb => by cases hj; cases hb; exact ib_int
        | 1, hj, hb => by cases hj; cases hb; exact ib_int
        | 2, hj, hb => by cases hj; cases hb; exact ib_non
        | 3, hj, hb => by cases hj; cases hb; exact ib_int) rfl) (fun S' l => pyl (look_le (l1.trans l) rfl g1) rfl) (by decide +kernel) (by decide +kernel) fin
    | 1, hd => cases hd; exact r3_ok (p := .list [.tuple [.int 0, .int 1, .int 0, .int (-1)]]) (one g2 fun S' l => sn_num (s := ⟨0, 1, 0, -1⟩) (by decide)) (fun S' l => pyl (look_le (l1.trans l) rfl g2) rfl) (by decide +kernel) (by decide +kernel) fin
    | 2, hd =>
      cases hd
      exact r3_ok (p := .list [.tuple [.int 0, .bool true, .int 0, .int 0]]) (one g3 fun S' l => sn_all (bs := [true, false, true, true]) rfl rfl (fun j d b hj hb => match j, hj, hb with
        | 0, hj, hb => by cases hj; cases hb; exact ib_int
        | 1, hj, hb => by cases hj; cases hb; exact ib_bl
        | 2, hj, hb => by cases hj; cases hb; exact ib_int
        | 3, hj, hb => by cases hj; cases hb; exact ib_int) rfl) (fun S' l => pyl (look_le (l1.trans l) rfl g3) rfl) (by decide +kernel) (by decide +kernel) fin
    | 3, hd =>
      cases hd
      exact r3_ok (p := .list [.tuple [.int 0, .int 1, .int 0, .int 0], .int 5]) (fun b S' l e => fi5 (bs := [true, false]) e (look_le (l1.trans l) rfl g4) (by simp) (one1 S') rfl (by simp) (fun j d b hj hb => match j, hj, hb with
        | 0, hj, hb => by cases hj; cases hb; exact .inr ⟨rfl, ⟨0, 1, 0, 0⟩, by unfold Sr.ok; decide, rfl⟩
        | 1, hj, hb => by cases hj; cases hb; exact .inl ⟨rfl, sn_ty nt_int⟩) rfl) (fun S' l => pyl (look_le (l1.trans l) rfl g4) rfl) (by decide +kernel) (by decide +kernel) fin
    | 4, hd => cases hd; exact r3_ok (p := .list [.tuple [.int 0, .int 1, .int 0, .int 0, .int 0]]) (one g5 fun S' l => sn_len (by decide)) (fun S' l => pyl (look_le (l1.trans l) rfl g5) rfl) (by decide +kernel) (by decide +kernel) fin
    | i + 5, hd => cases hd
  rintro σ S5 ⟨⟨o1, rfl⟩, l1⟩
  replace l0 := l0.trans l1
  clear g1 g2 g3 g4 g5 gq l1
  walk_at "dl_all"
  intro p1 n1
  walk_at "dl_all"
  intro q nq
  refine q_lst sup_same ?_
  have g1 : (sup (sup S5 p1 (.lst [.int 1])) q (.lst [.int (-1), .bl true, .str "1", .ref p1, .tup [.int 1]])) p1 = some (.lst [.int 1]) := look_old nq sup_same
  have gq : (sup (sup S5 p1 (.lst [.int 1])) q (.lst [.int (-1), .bl true, .str "1", .ref p1, .tup [.int 1]])) q = some (.lst [.int (-1), .bl true, .str "1", .ref p1, .tup [.int 1]]) := sup_same
  have l2 : Le S5 (sup (sup S5 p1 (.lst [.int 1])) q (.lst [.int (-1), .bl true, .str "1", .ref p1, .tup [.int 1]])) := (Le.new n1).trans (.new nq)
  generalize sup (sup S5 p1 (.lst [.int 1])) q (.lst [.int (-1), .bl true, .str "1", .ref p1, .tup [.int 1]]) = S6 at g1 gq l2 ⊢
  replace l0 := l0.trans l2
  clear l2 n1 nq
  refine lc_at [.int (-1), .bl true, .str "1", .ref p1, .tup [.int 1]] (fun _ acc => acc = []) (len_ok (by simp)) rfl (fun S' l => by simp only [itOf, itemsD, look_le l rfl gq]) ?_ ?_
  · intro i d acc S' Y Z hd hA l hY hZ
    simp only [wipeD, List.set]
    walk_at "dl_g"
    have fin : ∀ S'', Le S' S'' → Z S'' := fun S'' l' => hZ _ l' hA
    match i, hd with
    | 0, hd => cases hd; exact r4_ok (p := .int (-1)) (fun a b S' l e e' => fi3 e e' rfl (.inr ⟨-1, rfl, by decide⟩)) (fun S' l => rfl) (by decide +kernel) (by decide +kernel) fin
    | 1, hd => cases hd; exact r4_ok (p := .bool true) (fun a b S' l e e' => fi3 e e' rfl (.inl ib_bl)) (fun S' l => rfl) (by decide +kernel) (by decide +kernel) fin
    | 2, hd => cases hd; exact r4_ok (p := .str "1") (fun a b S' l e e' => fi3 e e' rfl (.inl ib_str)) (fun S' l => rfl) (by decide +kernel) (by decide +kernel) fin
    | 3, hd => cases hd; exact r4_ok (p := .list [.int 1]) (fun a b S2 l2 e e' => fi3 e e' rfl (.inl (ib_lst (look_le (l.trans l2) rfl g1)))) (fun S2 l2 => pyl (look_le (l.trans l2) rfl g1) rfl) (by decide +kernel) (by decide +kernel) fin
    | 4, hd => cases hd; exact r4_ok (p := .tuple [.int 1]) (fun a b S' l e e' => fi3 e e' rfl (.inl ib_tup)) (fun S' l => rfl) (by decide +kernel) (by decide +kernel) fin
    | i + 5, hd => cases hd
  · intro r acc S' hA l hr hS
    rw [hA] at hS
    walk_at "dl_all"
    intro t nt
    refine k_eq (toPy_lst (xs := []) (look_old nt hS)) (toPy_lst (xs := []) sup_same) ?_
    exact k _ ((l0.trans l).trans (.new nt))
end
end LW

set_option Elab.async false
set_option linter.all false
set_option maxRecDepth 100000
set_option maxHeartbeats 1000000
namespace LW
open PySem PySem.Spec PyProof.Rows L2 DL
/-- the greatest of ints, by the fold -/
theorem gfold_int : ∀ (ns : List Int) (f : Int), ∃ m, gfold (.int f) (ns.map .int) = .int m ∧ (m = f ∨ m ∈ ns) ∧ f ≤ m ∧ ∀ y ∈ ns, y ≤ m
  | [], f => ⟨f, rfl, .inl rfl, Int.le_refl _, fun _ h => by cases h⟩
  | x :: ns, f => by
    have st : gfold (.int f) ((x :: ns).map .int) = gfold (if decide (f < x) = true then .int x else .int f) (ns.map .int) := rfl
    rw [st]
    by_cases h : f < x
    · obtain ⟨m, e, h1, h2, h3⟩ := gfold_int ns x
      rw [if_pos (decide_eq_true h)]
      refine ⟨m, e, ?_, by omega, ?_⟩
      · rcases h1 with h1 | h1
        · exact .inr (by rw [h1]; exact List.mem_cons_self)
        · exact .inr (List.mem_cons_of_mem _ h1)
      · intro y hy
        rcases List.mem_cons.mp hy with e | hy
        · rw [e]; exact h2
        · exact h3 y hy
    · obtain ⟨m, e, h1, h2, h3⟩ := gfold_int ns f
      rw [if_neg (by simpa using h)]
      refine ⟨m, e, ?_, h2, ?_⟩
      · rcases h1 with h1 | h1
        · exact .inl h1
        · exact .inr (List.mem_cons_of_mem _ h1)
      · intro y hy
        rcases List.mem_cons.mp hy with e | hy
        · rw [e]; omega
        · exact h3 y hy
theorem gmax_of {ns : List Int} {m : Int} (h1 : m ∈ ns) (h2 : ∀ y ∈ ns, y ≤ m) : gmax (ns.map .int) = .int m := by
  cases ns with
  | nil => cases h1
  | cons x ns =>
    have e : gmax ((x :: ns).map .int) = gfold (.int x) (ns.map .int) := rfl
    obtain ⟨k, e1, q1, q2, q3⟩ := gfold_int ns x
    rw [e, e1]
    have hk : k ∈ x :: ns := by
      rcases q1 with q | q
      · rw [q]; exact List.mem_cons_self
      · exact List.mem_cons_of_mem _ q
    have a := h2 k hk
    have b : m ≤ k := by
      rcases List.mem_cons.mp h1 with e | h
      · rw [e]; exact q2
      · exact q3 m h
    rw [show k = m by omega]
theorem max_ex : ∀ (ns : List Int), ns ≠ [] → ∃ m ∈ ns, ∀ y ∈ ns, y ≤ m
  | [], h => absurd rfl h
  | x :: ns, _ => by
    obtain ⟨m, e, h1, h2, h3⟩ := gfold_int ns x
    refine ⟨m, ?_, fun y hy => ?_⟩
    · rcases h1 with h | h
      · rw [h]; exact List.mem_cons_self
      · exact List.mem_cons_of_mem _ h
    · rcases List.mem_cons.mp hy with e | hy
      · rw [e]; exact h2
      · exact h3 y hy
theorem gmax_perm {ns ms : List Int} (p : ns.Perm ms) : gmax (ns.map .int) = gmax (ms.map .int) := by
  by_cases h : ns = []
  · subst h; rw [List.nil_perm.mp p]
  · obtain ⟨m, h1, h2⟩ := max_ex ns h
    rw [gmax_of h1 h2, gmax_of (p.mem_iff.mp h1) fun y hy => h2 y (p.mem_iff.mpr hy)]
theorem vat_perm {F : Fm} {ss : List Sr} (p : ss.Perm F.ss) (c : Int) : vat ⟨F.fs, ss, F.e⟩ c = vat F c := by
  have e : vat.vat0 ⟨F.fs, ss, F.e⟩ c = vat.vat0 F c := by
    unfold vat.vat0
    show (if c < F.fs.length then _ else _) = _
    by_cases h : c < F.fs.length
    · rw [if_pos h, if_pos h]
    · rw [if_neg h, if_neg h]
      exact gmax_perm (p.filterMap _)
  unfold vat
  rw [e]
theorem b_maxl' {M : Env1} {S : Sto} {K : DK} {E : DX} {a : Addr} {ns : List Int} (h : S a = some (.lst (ns.map DL.D.int))) (h0 : ns ≠ []) (k : K (vd (gmax (ns.map .int))) S) : bltM M "max" [.ref a] S K E := by
  refine b_maxl h (by cases ns with | nil => exact absurd rfl h0 | cons _ _ => simp) fun m h1 h2 => ?_
  rw [gmax_of h1 h2] at k
  exact k
/-- the drawn parts -/
structure PA (S : Sto) (r : Addr) (F : Fm) (q1 q2 : Addr) : Prop where
  o : S r = some (.lst [.ref q1, .ref q2, sz F.e])
  f : S q1 = some (.lst (F.fs.map sz))
  s : S q2 = some (.lst (F.ss.map fun s => tupI s.l))
theorem PA.le {S S' : Sto} {p a1 a2 : Addr} {F : Fm} (h : PA S p F a1 a2) (l : Le S S') : PA S' p F a1 a2 := ⟨look_le l rfl h.o, look_le l rfl h.f, look_le l rfl h.s⟩
theorem PA.lx {S S' : Sto} {p a1 a2 x : Addr} {F : Fm} (h : PA S p F a1 a2) (l : LeX x S S') (n1 : p ≠ x) (n2 : a1 ≠ x) (n3 : a2 ≠ x) : PA S' p F a1 a2 := ⟨look_lx l n1 rfl h.o, look_lx l n2 rfl h.f, look_lx l n3 rfl h.s⟩
section
variable {n : Nat} {S : Sto} {K : DK} {E : DX}
theorem law_at_ok {r q1 q2 : Addr} {F : Fm} {c : Int} (hF : F.ok) (h : PA S r F q1 q2) (hc : 0 ≤ c) (k : ∀ S', Le S S' → K (vd (vat F c)) S') : mCall pd.prg (n + 1) ("_law_at", none) [.ref r, .int c] S K E := by
  refine en__law_at ?_
  unfold c__law_at
  walk_at "dl_all"
  refine g_lst h.o rfl ?_
  have rest : (∀ S', Le S S' → K (vd (vat.vat0 F c)) S') → mSs (Mn n) none (.cons (.iff (.cmp .Lt (.var 1) (.blt "len" (.cons (.var 2) .nil))) (.cons (.ret (.ix (.var 2) (.var 1))) <| .nil) (.nil)) <| .cons (.asg (.comp (.seq (.var 3)) (.tup 4 (.cons (.nm 7) (.cons (.nm 8) (.cons (.nm 9) (.cons (.nm 10) .nil))))) (some (.cmp .Eq (.op .Mod (.var 1) (.var 8)) (.var 7))) (.op .Add (.var 9) (.op .Mult (.var 10) (.op .FloorDiv (.var 1) (.var 8)))) [6, 7, 8, 9, 10]) (.nm 5)) <| .cons (.ret (.ite (.cmp .NotEq (.var 5) (.lst .nil)) (.blt "max" (.cons (.var 5) .nil)) (.cst .non))) <| .nil)
      ⟨fun _ S' => K .non S', K, fun _ _ => False, fun _ _ => False, fun c fs _ S' => E c fs S'⟩ [some (.ref r), some (.int c), some (.ref q1), some (.ref q2), some (sz F.e), none, none, none, none, none, none] S := by
    intro k
    unfold vat.vat0 at k
    walk_at "dl_all"
    refine b_len h.f ?_
    walk_at "dl_all"
    rw [List.length_map]
    refine ite_p (fun e => ?_) (fun e => ?_)
    · walk_at "dl_all"
      rw [if_pos e] at k
      have hl : c.toNat < F.fs.length := by omega
      refine x_lst h.f (d := vd (fv ((F.fs[c.toNat]?).getD none))) ?_ (k S .refl)
      rw [vd_fv]
      simp [atI, ixN, hc, e, hl]
    · rw [if_neg e] at k
      walk_at "dl_all"
      refine q_lst h.s ?_
      refine lc_at (F.ss.map fun s => tupI s.l) (fun i acc => acc = (hits c (F.ss.take i)).map DL.D.int) (by rw [List.length_map]; exact len_ok (by have := hF.2.2.2; omega)) rfl (fun S' l => by simp only [itOf, itemsD, look_le l rfl h.s]) ?_ ?_
      · intro i d acc S' Y Z hd hA l hY hZ
        rw [List.getElem?_map] at hd
        obtain ⟨s, hs', rfl⟩ := Option.map_eq_some_iff.mp hd
        obtain ⟨q1, q2⟩ := List.getElem?_eq_some_iff.mp hs'
        obtain ⟨z1, z2, z3, z4, z5, z6⟩ := hF.1 s (by rw [← q2]; exact List.getElem_mem q1)
        have et : hits c (F.ss.take (i + 1)) = hits c (F.ss.take i) ++ (hit c s).toList := by
          unfold hits
          rw [List.take_succ_eq_append_getElem q1, q2, List.filterMap_append]
          simp only [List.filterMap_cons, List.filterMap_nil]
          cases hit c s <;> rfl
        rw [sr_tup]
        simp only [wipeD, List.set]
        walk_at "dl_all"
        refine o_mod (by omega) ?_
        walk_at "dl_all"
        refine ite_p (fun e' => ?_) (fun e' => ?_)
        · walk_at "dl_all"
          refine o_div ⟨by omega, log2_lt z1 z2⟩ ?_
          refine o_mul (cmul_l (by omega) (by omega)) ?_
          walk_at "dl_all"
          refine hY _ _ .refl ?_
          rw [et, hA]
          unfold hit
          rw [if_pos e', List.map_append]
          rfl
        · refine hZ _ .refl ?_
          rw [et, hA]
          unfold hit
          rw [if_neg e', List.map_append]
          simp
      · intro q acc S' hA l hp hS
        rw [hA, List.length_map, List.take_length] at hS
        walk_at "dl_all"
        intro t ht
        have h5 := look_old (x := SO.lst []) ht hS
        have l5 := l.trans (Le.new (o := .lst []) ht)
        refine k_ne (toPy_lst h5) (toPy_lst (xs := []) sup_same) ?_
        cases hh : hits c F.ss with
        | nil =>
          rw [hh] at k
          walk_at "dl_all"
          exact k _ l5
        | cons a b =>
          rw [← hh]
          rw [show PyData.eqv (.list ((hits c F.ss).map PyData.int)) (.list (([] : List Int).map PyData.int)) = false by rw [hh]; rfl]
          walk_at "dl_all"
          refine b_maxl' h5 (by rw [hh]; simp) ?_
          exact k _ l5
  unfold vat at k
  walk_at "dl_all"
  cases he : F.e with
  | none =>
    rw [he] at k rest
    unfold sz at rest ⊢
    repeat (first | (with_reducible exact rest k) | walk_at "dl_one")
  | some e =>
    rw [he] at k rest
    unfold sz at rest ⊢
    walk_at "dl_all"
    refine ite_p (fun q => ?_) (fun q => ?_)
    · walk_at "dl_all"
      simp only [q, if_true] at k
      exact k S .refl
    · simp only [q, if_false] at k
      repeat (first | (with_reducible exact rest k) | walk_at "dl_one")
def over (F : Fm) (most c : Int) : Bool := grt (vat F c) (.int most)
def IsDue (F : Fm) (most : Int) (N : Nat) (z : Option Int) : Prop := (∃ c : Nat, c < N ∧ over F most c = true ∧ (∀ c' : Nat, c' < c → over F most c' = false) ∧ z = some ((c : Int) - 1)) ∨ ((∀ c : Nat, c < N → over F most c = false) ∧ z = none)
theorem rgD_get {n i : Nat} {d : DL.D} (h : (rgD 0 n)[i]? = some d) : i < n ∧ d = .int (i : Nat) := by
  unfold rgD at h
  rw [List.getElem?_map] at h
  obtain ⟨j, h1, h2⟩ := Option.map_eq_some_iff.mp h
  obtain ⟨h3, h4⟩ := List.getElem?_eq_some_iff.mp h1
  rw [List.getElem_range] at h4
  subst h4
  exact ⟨by simpa using h3, by rw [← h2, Int.zero_add]⟩
theorem due_ok {r q1 q2 : Addr} {F : Fm} {most : Int} {N : Nat} (hN9 : N < 2 ^ 62) (hF : F.ok) (h : PA S r F q1 q2) (k : ∀ S' z, Le S S' → IsDue F most N z → K (sz z) S') : mCall pd.prg (n + 2) ("_law_due", none) [.ref r, .int most, .int (N : Nat)] S K E := by
  refine en__law_due ?_
  unfold c__law_due
  walk_at "dl_all"
  refine rng1 (by omega) (by omega) ?_
  refine for_at (W := fun i σ S' => (∃ o3 o4, σ = [some (.ref r), some (.int most), some (.int (N : Nat)), o3, o4]) ∧ Le S S' ∧ ∀ c : Nat, c < i → over F most c = false) (rgD 0 (Int.toNat (N : Nat))) ⟨⟨_, _, rfl⟩, .refl, fun c hc => by omega⟩ (fun i σ S hw => rfl) ?_ ?_
  · rintro i σ S' d N' ⟨⟨o3, o4, rfl⟩, l, hw⟩ hd hN
    obtain ⟨hi, rfl⟩ := rgD_get hd
    have hi' : i < N := by simpa using hi
    unfold c__law_due_L1
    walk_at "dl_all"
    refine cl__law_at (law_at_ok hF (h.le l) (by omega) fun S2 l2 => ?_)
    have go : over F most i = false → ∀ o3 o4, N' [some (.ref r), some (.int most), some (.int (N : Nat)), o3, o4] S2 := fun ho o3 o4 => hN _ _ ⟨⟨_, _, rfl⟩, l.trans l2, fun c hc => by
      rcases Nat.lt_or_ge c i with hlt | hge
      · exact hw c hlt
      · rw [show c = i by omega]; exact ho⟩
    have yes : over F most i = true → ∀ S3, Le S2 S3 → K (.int ((i : Nat) - 1)) S3 := fun ho S3 l3 => k S3 (some ((i : Int) - 1)) ((l.trans l2).trans l3) (.inl ⟨i, hi', ho, hw, rfl⟩)
    cases hv : vat F (i : Nat) with
    | non =>
      have ho : over F most i = false := by unfold over; rw [hv]; rfl
      unfold vd
      walk_at "dl_all"
      exact go ho _ _
    | int j =>
      unfold vd
      walk_at "dl_all"
      refine ite_p (fun q => ?_) (fun q => ?_)
      · have ho : over F most i = true := by unfold over; rw [hv]; exact decide_eq_true q
        walk_at "dl_all"
        exact yes ho _ .refl
      · have ho : over F most i = false := by unfold over; rw [hv]; exact decide_eq_false q
        walk_at "dl_all"
        exact go ho _ _
    | endl =>
      have ho : over F most i = true := by unfold over; rw [hv]; rfl
      unfold vd
      walk_at "dl_all"
      exact yes ho _ .refl
  · rintro σ S' ⟨⟨o3, o4, rfl⟩, l, hw⟩
    have e : (rgD 0 (Int.toNat (N : Nat))).length = N := by simp [rgD]
    rw [e] at hw
    walk_at "dl_all"
    exact k S' none l (.inr ⟨hw, rfl⟩)
end
end LW

set_option Elab.async false
set_option linter.all false
set_option maxRecDepth 100000
set_option maxHeartbeats 1000000
namespace LW
open PySem PySem.Spec PyProof.Rows L2 DL
structure Dr (F : Fm) : Prop where
  f5 : F.fs.length ≤ 5
  fv : ∀ z ∈ F.fs, ∀ v, z = some v → -8 ≤ v ∧ v ≤ 11
  s3 : F.ss.length ≤ 3
  sv : ∀ s ∈ F.ss, 1 ≤ s.p ∧ s.p ≤ 4 ∧ 0 ≤ s.o ∧ s.o < s.p ∧ -10 ≤ s.v ∧ s.v ≤ 9 ∧ 0 ≤ s.g ∧ s.g ≤ 4
  ev : ∀ e, F.e = some e → 0 ≤ e ∧ e < 40
theorem Dr.ok {F : Fm} (h : Dr F) : F.ok := ⟨fun s hs => by obtain ⟨a, b, c, d, _, _, e, f⟩ := h.sv s hs; exact ⟨a, by omega, c, d, e, by omega⟩, fun i e => (h.ev i e).1, by have := h.f5; omega, by have := h.s3; omega⟩
section
variable {n : Nat} {S : Sto} {K : DK} {E : DX}
theorem drawn_ok {a : Addr} {x y : Int} (hp : okp x y) (ha : S a = some (poolO x y)) (k : ∀ F r q1 q2 x' y' S', Dr F → PA S' r F q1 q2 → r ≠ a → q1 ≠ a → q2 ≠ a → okp x' y' → S' a = some (poolO x' y') → LeX a S S' → K (.ref r) S') : mCall pd.prg (n + 2) ("_law_drawn", none) [.ref a] S K E := by
  refine en__law_drawn ?_
  unfold c__law_drawn
  walk_at "dl_all"
  intro q1 n1
  walk_at "dl_all"
  intro q2 n2
  walk_at "dl_all"
  have m1 : q1 ≠ a := ne_new' n1 ha
  have m2 : q2 ≠ a := ne_new' n2 (look_old n1 ha)
  have m12 : q1 ≠ q2 := ne_new n2 sup_same
  have f2 : S q2 = none := by
    cases e : S q2 with
    | none => rfl
    | some o => rw [sup_ne m12.symm, e] at n2; cases n2
  have ha' : (sup (sup S q1 (.lst [])) q2 (.lst [])) a = some (poolO x y) := look_ne m2.symm (look_ne m1.symm ha)
  refine cl__law_take (take_ok hp ha' (by decide) (by decide) fun r1 x1 y1 r1l r1h p1 => ?_)
  walk_at "dl_all"
  refine rng1 (by omega) (by omega) ?_
  refine for_at (W := fun i σ S' => ∃ (o3 : Option DL.D) (fs : List (Option Int)) (x y : Int), σ = [some (.ref a), some (.ref q1), some (.ref q2), o3, none] ∧ fs.length = i ∧ (∀ z ∈ fs, ∀ v, z = some v → -8 ≤ v ∧ v ≤ 11) ∧ S' q1 = some (.lst (fs.map sz)) ∧ S' q2 = some (.lst []) ∧ okp x y ∧ S' a = some (poolO x y) ∧ LeX a S S') (rgD 0 r1.toNat)
    ⟨none, [], x1, y1, rfl, rfl, (fun z h => nomatch h), look_ne m1 (look_ne m12 sup_same), look_ne m2 sup_same, p1, sup_same, ((LeX.refl.frs n1).frs f2).mt⟩ (fun i σ S hw => rfl) ?_ ?_
  · rintro i σ S1 d N ⟨o3, fs, x2, y2, rfl, hl, hv, e1, e2, p2, e3, l⟩ hd hN
    obtain ⟨hi, rfl⟩ := rgD_get hd
    have hi6 : i < 6 := by omega
    unfold c__law_drawn_L1
    walk_at "dl_all"
    refine mm_lst (P := True) e1 rfl ?_
    walk_at "dl_all"
    refine cl__law_take (take_ok p2 e3 (by decide) (by decide) fun r2 x3 y3 r2l r2h p3 => ?_)
    have b1 : (sup S1 a (poolO x3 y3)) q1 = some (.lst (fs.map sz)) := look_ne m1 e1
    have b2 : (sup S1 a (poolO x3 y3)) q2 = some (.lst []) := look_ne m2 e2
    have fin : ∀ (z : Option Int) (S2 : Sto) (x y : Int), (∀ v, z = some v → -8 ≤ v ∧ v ≤ 11) → S2 q1 = some (.lst (fs.map sz)) → S2 q2 = some (.lst []) → okp x y → S2 a = some (poolO x y) → LeX a S S2 → N [some (.ref a), some (.ref q1), some (.ref q2), some (.int (i : Nat)), none] (sup S2 q1 (.lst (fs.map sz ++ [sz z]))) := fun z S2 x y hz c1 c2 hp c3 l2 =>
      hN _ _ ⟨_, fs ++ [z], x, y, rfl, by simp [hl], fun z' hz' v e => by
        rcases List.mem_append.mp hz' with h | h
        · exact hv z' h v e
        · rw [List.mem_singleton.mp h] at e; exact hz v e, by rw [List.map_append]; exact sup_same, look_ne m12.symm c2, hp, look_ne m1.symm c3, l2.frs n1⟩
    walk_at "dl_all"
    refine ite_p (fun e => ?_) (fun e => ?_)
    · walk_at "dl_all"
      refine l_app b1 (by show _ < 16777216; rw [List.length_map]; omega) ?_
      walk_at "dl_all"
      exact fin none _ _ _ (fun v h => by cases h) b1 b2 p3 sup_same l.mt
    · walk_at "dl_all"
      refine cl__law_take (take_ok p3 sup_same (by decide) (by decide) fun r3 x4 y4 r3l r3h p4 => ?_)
      rw [sup_sup]
      walk_at "dl_all"
      refine l_app (look_ne m1 e1) (by show _ < 16777216; rw [List.length_map]; omega) ?_
      walk_at "dl_all"
      exact fin (some (r3 - 8)) _ _ _ (fun v h => by cases h; omega) (look_ne m1 e1) (look_ne m2 e2) p4 sup_same l.mt
  rintro σ S1 ⟨o3, fs, x2, y2, rfl, hl, hv, e1, e2, p2, e3, l⟩
  have hl5 : fs.length ≤ 5 := by rw [hl]; simp [rgD]; omega
  clear ha' n2
  walk_at "dl_all"
  refine cl__law_take (take_ok p2 e3 (by decide) (by decide) fun r2 x3 y3 r2l r2h p3 => ?_)
  walk_at "dl_all"
  refine rng1 (by omega) (by omega) ?_
  refine for_at (W := fun i σ S' => ∃ (o3 o4 : Option DL.D) (ss : List Sr) (x y : Int), σ = [some (.ref a), some (.ref q1), some (.ref q2), o3, o4] ∧ ss.length = i ∧ (∀ s ∈ ss, 1 ≤ s.p ∧ s.p ≤ 4 ∧ 0 ≤ s.o ∧ s.o < s.p ∧ -10 ≤ s.v ∧ s.v ≤ 9 ∧ 0 ≤ s.g ∧ s.g ≤ 4) ∧ S' q1 = some (.lst (fs.map sz)) ∧ S' q2 = some (.lst (ss.map fun s => tupI (Sr.l s))) ∧ okp x y ∧ S' a = some (poolO x y) ∧ LeX a S S') (rgD 0 r2.toNat)
    ⟨_, _, [], x3, y3, rfl, rfl, (fun z h => nomatch h), look_ne m1 e1, look_ne m2 e2, p3, sup_same, l.mt⟩ (fun i σ S hw => rfl) ?_ ?_
  · rintro i σ S2 d N ⟨o3, o4, ss, x4, y4, rfl, hl', hv', c1, c2, p4, c3, l2⟩ hd hN
    obtain ⟨hi, rfl⟩ := rgD_get hd
    have hi4 : i < 4 := by omega
    unfold c__law_drawn_L2
    walk_at "dl_all"
    refine cl__law_take (take_ok p4 c3 (by decide) (by decide) fun r3 x5 y5 r3l r3h p5 => ?_)
    walk_at "dl_all"
    refine mm_lst (P := True) (look_ne m2 c2) rfl ?_
    walk_at "dl_all"
    refine cl__law_take (take_ok p5 sup_same (by omega) (log2_lt (by omega) (by omega)) fun r4 x6 y6 r4l r4h p6 => ?_)
    rw [sup_sup]
    walk_at "dl_all"
    refine cl__law_take (take_ok p6 sup_same (by decide) (by decide) fun r5 x7 y7 r5l r5h p7 => ?_)
    rw [sup_sup]
    walk_at "dl_all"
    refine cl__law_take (take_ok p7 sup_same (by decide) (by decide) fun r6 x8 y8 r6l r6h p8 => ?_)
    rw [sup_sup]
    walk_at "dl_all"
    refine l_app (look_ne m2 c2) (by show _ < 16777216; rw [List.length_map]; omega) ?_
    walk_at "dl_all"
    refine hN _ _ ⟨_, _, ss ++ [⟨r4, 1 + r3, r5 - 10, r6⟩], x8, y8, rfl, by simp [hl'], fun s hs => ?_, look_ne m12 (look_ne m1 c1), by rw [List.map_append]; exact sup_same, p8, look_ne m2.symm sup_same, l2.mt.frs f2⟩
    rcases List.mem_append.mp hs with h | h
    · exact hv' s h
    · rw [List.mem_singleton.mp h]
      exact ⟨by show 1 ≤ 1 + r3; omega, by show 1 + r3 ≤ 4; omega, r4l, r4h, by show -10 ≤ r5 - 10; omega, by show r5 - 10 ≤ 9; omega, r6l, by show r6 ≤ 4; omega⟩
  rintro σ S2 ⟨o3, o4, ss, x4, y4, rfl, hl', hv', c1, c2, p4, c3, l2⟩
  have hl3 : ss.length ≤ 3 := by rw [hl']; simp [rgD]; omega
  walk_at "dl_all"
  refine cl__law_take (take_ok p4 c3 (by decide) (by decide) fun r3 x5 y5 r3l r3h p5 => ?_)
  walk_at "dl_all"
  have fin : ∀ (z : Option Int) (S3 : Sto) (x y : Int), (∀ e, z = some e → 0 ≤ e ∧ e < 40) → S3 q1 = some (.lst (fs.map sz)) → S3 q2 = some (.lst (ss.map fun s => tupI (Sr.l s))) → okp x y → S3 a = some (poolO x y) → LeX a S S3 → ∀ r, S3 r = none → K (.ref r) (sup S3 r (.lst [.ref q1, .ref q2, sz z])) := fun z S3 x y hz d1 d2 hp d3 l3 r nr =>
    k ⟨fs, ss, z⟩ r q1 q2 x y _ ⟨hl5, hv, hl3, hv', hz⟩ ⟨sup_same, look_old nr d1, look_old nr d2⟩ (ne_new' nr d3) m1 m2 hp (look_old nr d3) (l3.nw nr)
  refine ite_p (fun e => ?_) (fun e => ?_)
  · walk_at "dl_all"
    refine cl__law_take (take_ok p5 sup_same (by decide) (by decide) fun r4 x6 y6 r4l r4h p6 => ?_)
    rw [sup_sup]
    walk_at "dl_all"
    exact fin (some r4) _ _ _ (fun e h => by cases h; omega) (look_ne m1 c1) (look_ne m2 c2) p6 sup_same l2.mt
  · walk_at "dl_all"
    exact fin none _ _ _ (fun e h => by cases h) (look_ne m1 c1) (look_ne m2 c2) p5 sup_same l2.mt
theorem greatest_bad {p a1 a2 : Addr} {F : Fm} {d : DL.D} (h : FA S p F a1 a2) (hd : IntB d S false ∨ ∃ i, d = .int i ∧ i < 0) (k : E "InvalidNumber" [("value", d)] S) : mCall pd.prg (n + 4) ("Formula", some "greatest") [.ref p, d] S K E := by
  refine en_Formula_greatest ?_
  unfold c_Formula_greatest
  walk_at "dl_all"
  refine cl_is_count ?_
  rcases hd with hd | ⟨i, rfl, hi⟩
  · refine en_is_count ?_
    unfold c_is_count
    walk_at "dl_all"
    refine cl_is_integer (hd.call ?_)
    walk_at "dl_all"
    exact k
  · refine is_count_int ?_
    rw [decide_eq_false (by omega)]
    walk_at "dl_all"
    exact k
theorem call_bad {p : Addr} {d : DL.D} (hd : IntB d S false) (k : E "InvalidNumber" [("value", d)] S) : mCall pd.prg (n + 4) ("Formula", some "__call__") [.ref p, d] S K E := by
  refine en_Formula___call__ ?_
  unfold c_Formula___call__
  walk_at "dl_all"
  refine cl_is_integer (hd.call ?_)
  walk_at "dl_all"
  exact k
theorem num_ok {p a1 a2 : Addr} {F : Fm} {d : DL.D} {pp : PyData} {b : Bool} (h : FA S p F a1 a2) (hd : IntB d S false ∨ ∃ i, d = .int i ∧ i < 0) (hr : ∀ S', Le S S' → toPy S' 64 d = some pp) (h3 : pp.showable = true) (h4 : pp.shown.length ≤ sizeLine) (hb : PyData.eqv pp (.int (-1)) = b) (hbd : b = false → IntB d S false)
    (k : ∀ S', Le S S' → K (.bl true) S') : mCall pd.prg (n + 5) ("_law_number_refused", none) [.ref p, d] S K E := by
  refine en__law_number_refused ?_
  unfold c__law_number_refused
  walk_at "dl_all"
  intro q nq
  walk_at "dl_all"
  have l0 : Le S (sup S q (.lst [])) := .new nq
  refine mth rfl (h.le l0).o rfl rfl ?_
  walk_at "dl_all"
  refine cl_Formula_greatest (greatest_bad (h.le l0) (hd.elim (fun z => .inl (z.le l0)) .inr) ?_)
  refine ⟨true, by kernel_rfl, ?_⟩
  walk_at "dl_all"
  refine u_as (by simp) fun e dd he hdd hl => ?_
  have l1 := l0.trans hl
  have hq1 := look_le hl rfl (sup_same (S := S) (a := q) (o := .lst []))
  walk_at "dl_all"
  refine mm_lst (P := True) hq1 rfl ?_
  walk_at "dl_all"
  refine a_e (by kernel_rfl) sup_same rfl ?_
  walk_at "dl_all"
  refine b_repr (toPyR_of 64 _ _ (hr _ l1)) h3 h4 ?_
  walk_at "dl_all"
  refine b_repr (toPyR_of 64 _ _ (hr _ l1)) h3 h4 ?_
  walk_at "dl_all"
  simp only [decide_true]
  walk_at "dl_all"
  refine l_app hq1 (by decide) ?_
  simp only [List.set, List.nil_append]
  generalize hS2 : sup _ q (.lst [DL.D.bl true]) = S2
  have hq2 : S2 q = some (.lst [.bl true]) := by rw [← hS2]; exact sup_same
  have l2 : Le S S2 := by rw [← hS2]; exact fun x o i g => look_ne (ne_new nq g) (l1 x o i g)
  clear hS2 hq1 hl hdd he l0 l1
  walk_at "dl_all"
  simp only [List.set]
  walk_at "dl_all"
  refine k_eq (y := .int (-1)) (q := .int (-1)) (hr _ l2) rfl ?_
  rw [hb]
  cases b with
  | true =>
    walk_at "dl_all"
    intro t nt
    refine k_eq (p := .list [.bool true]) (q := .list [.bool true]) (by simp only [toPy, look_old nt hq2, mapO, Option.map]) (by simp only [toPy, sup_same, mapO, Option.map]) ?_
    exact k _ (l2.trans (.new nt))
  | false =>
    walk_at "dl_all"
    refine ⟨"Formula", has_m (h.le l2).o rfl tb_Formula rfl, ?_⟩
    walk_at "dl_all"
    refine ⟨has_m (h.le l2).o rfl tb_Formula rfl, cl_Formula___call__ (call_bad ((hbd rfl).le l2) ?_)⟩
    refine ⟨true, by kernel_rfl, ?_⟩
    walk_at "dl_all"
    refine u_as (by simp) fun e dd he hdd hl => ?_
    have l3 := l2.trans hl
    have hq3 := look_le hl rfl hq2
    walk_at "dl_all"
    refine mm_lst (P := True) hq3 rfl ?_
    walk_at "dl_all"
    refine a_e (by kernel_rfl) sup_same rfl ?_
    walk_at "dl_all"
    refine b_repr (toPyR_of 64 _ _ (hr _ l3)) h3 h4 ?_
    walk_at "dl_all"
    refine b_repr (toPyR_of 64 _ _ (hr _ l3)) h3 h4 ?_
    walk_at "dl_all"
    simp only [decide_true]
    walk_at "dl_all"
    refine l_app hq3 (by decide) ?_
    simp only [List.set, List.cons_append, List.nil_append]
    generalize hS4 : sup _ q (.lst [DL.D.bl true, .bl true]) = S4
    have hq4 : S4 q = some (.lst [.bl true, .bl true]) := by rw [← hS4]; exact sup_same
    have l4 : Le S S4 := by rw [← hS4]; exact fun x o i g => look_ne (ne_new nq g) (l3 x o i g)
    clear hS4 hq3 hl hdd he l3
    walk_at "dl_all"
    simp only [List.set]
    walk_at "dl_all"
    intro t nt
    refine k_eq (p := .list [.bool true, .bool true]) (q := .list [.bool true, .bool true]) (by simp only [toPy, look_old nt hq4, mapO, Option.map]) (by simp only [toPy, sup_same, mapO, Option.map]) ?_
    exact k _ (l4.trans (.new nt))
end
end LW

set_option Elab.async false
set_option linter.all false
set_option maxRecDepth 100000
set_option maxHeartbeats 1000000
namespace LW
open PySem PySem.Spec PyProof.Rows L2 DL
def Over (F : Fm) (most c : Int) : Prop := (∃ e, F.e = some e ∧ e ≤ c) ∨ (c < F.fs.length ∧ ov most ((F.fs[c.toNat]?).getD none) = true) ∨ ((F.fs.length : Int) ≤ c ∧ ∃ s ∈ F.ss, c % s.p = s.o ∧ most < s.v + s.g * (c / s.p))
theorem grt_gmax {ns : List Int} {most : Int} : grt (gmax (ns.map .int)) (.int most) = true ↔ ∃ y ∈ ns, most < y := by
  by_cases h : ns = []
  · subst h
    exact ⟨fun h => (by cases h), fun ⟨y, h, _⟩ => (by cases h)⟩
  · obtain ⟨m, h1, h2⟩ := max_ex ns h
    rw [gmax_of h1 h2]
    show decide (most < m) = true ↔ _
    rw [decide_eq_true_iff]
    exact ⟨fun q => ⟨m, h1, q⟩, fun ⟨y, hy, q⟩ => by have := h2 y hy; omega⟩
theorem over0_iff {F : Fm} {most c : Int} : grt (vat.vat0 F c) (.int most) = true ↔ (c < F.fs.length ∧ ov most ((F.fs[c.toNat]?).getD none) = true) ∨ ((F.fs.length : Int) ≤ c ∧ ∃ s ∈ F.ss, c % s.p = s.o ∧ most < s.v + s.g * (c / s.p)) := by
  unfold vat.vat0
  by_cases h : c < F.fs.length
  · rw [if_pos h]
    constructor
    · intro q; exact .inl ⟨h, q⟩
    · rintro (⟨_, q⟩ | ⟨q, _⟩)
      · exact q
      · omega
  · rw [if_neg h, grt_gmax]
    constructor
    · rintro ⟨y, hy, q⟩
      obtain ⟨s, hs, e⟩ := List.mem_filterMap.mp hy
      unfold hit at e
      split at e
      · rename_i e1
        cases e
        exact .inr ⟨by omega, s, hs, e1, q⟩
      · cases e
    · rintro (⟨q, _⟩ | ⟨_, s, hs, e1, q⟩)
      · exact absurd q h
      · refine ⟨_, List.mem_filterMap.mpr ⟨s, hs, ?_⟩, q⟩
        unfold hit
        rw [if_pos e1]
theorem over_iff {F : Fm} {most c : Int} : over F most c = true ↔ Over F most c := by
  unfold over vat Over
  cases he : F.e with
  | none =>
    show grt (vat.vat0 F c) (.int most) = true ↔ _
    rw [over0_iff]
    constructor
    · exact .inr
    · rintro (⟨e, h, _⟩ | h)
      · cases h
      · exact h
  | some e =>
    show grt (if e ≤ c then .endl else vat.vat0 F c) (.int most) = true ↔ _
    by_cases q : e ≤ c
    · rw [if_pos q]
      exact ⟨fun _ => .inl ⟨e, rfl, q⟩, fun _ => rfl⟩
    · rw [if_neg q, over0_iff]
      constructor
      · exact .inr
      · rintro (⟨e', h, q'⟩ | h)
        · cases h; exact absurd q' q
        · exact h
theorem many0_spec {L : Int} {s : Sr} (hs : s.ok) : 0 ≤ many0 L s ∧ L ≤ s.o + s.p * many0 L s ∧ ∀ k, 0 ≤ k → L ≤ s.o + s.p * k → many0 L s ≤ k := by
  obtain ⟨h1, h2, h3, h4, h5, h6⟩ := hs
  unfold many0
  have e1 := Int.mul_ediv_add_emod (s.o - L) s.p
  have e2 := Int.emod_nonneg (s.o - L) (show s.p ≠ 0 by omega)
  have e3 := Int.emod_lt_of_pos (s.o - L) (show 0 < s.p by omega)
  generalize (s.o - L) / s.p = f at *
  generalize (s.o - L) % s.p = r at *
  split
  · rename_i hf
    refine ⟨by omega, by rw [Int.mul_neg]; omega, fun k hk hL => ?_⟩
    have : s.p * (-f) < s.p * (k + 1) := by rw [Int.mul_neg, Int.mul_add]; omega
    have := Int.lt_of_mul_lt_mul_left this (by omega)
    omega
  · rename_i hf
    refine ⟨Int.le_refl _, ?_, fun k hk _ => hk⟩
    have : 0 ≤ s.p * f := Int.mul_nonneg (by omega) (by omega)
    omega
theorem place {s : Sr} (hs : s.ok) (k : Int) : (s.o + s.p * k) % s.p = s.o ∧ (s.o + s.p * k) / s.p = k := by
  obtain ⟨h1, h2, h3, h4, h5, h6⟩ := hs
  constructor
  · rw [Int.add_mul_emod_self_left]
    exact Int.emod_eq_of_lt h3 h4
  · rw [Int.add_mul_ediv_left _ _ (by omega), Int.ediv_eq_zero_of_lt h3 h4]
    omega
theorem placed {s : Sr} (hs : s.ok) {c : Int} (hc : 0 ≤ c) (h : c % s.p = s.o) : c = s.o + s.p * (c / s.p) ∧ 0 ≤ c / s.p := by
  obtain ⟨h1, h2, h3, h4, h5, h6⟩ := hs
  have e1 := Int.mul_ediv_add_emod c s.p
  exact ⟨by omega, Int.ediv_nonneg hc (by omega)⟩
theorem above_spec {L most : Int} {s : Sr} (hs : s.ok) (hL : 0 ≤ L) : (∀ c, above L most s = some c → L ≤ c ∧ c % s.p = s.o ∧ most < s.v + s.g * (c / s.p)) ∧
    ∀ c', L ≤ c' → c' % s.p = s.o → most < s.v + s.g * (c' / s.p) → ∃ c, above L most s = some c ∧ c ≤ c' := by
  have hs' := hs
  obtain ⟨h1, h2, h3, h4, h5, h6⟩ := hs'
  obtain ⟨m1, m2, m3⟩ := many0_spec (L := L) hs
  unfold above
  generalize many0 L s = m0 at *
  have mono : ∀ {a b : Int}, a ≤ b → s.p * a ≤ s.p * b := fun h => Int.mul_le_mul_of_nonneg_left h (by omega)
  by_cases q : s.v + s.g * m0 ≤ most
  · rw [if_pos q]
    by_cases q2 : s.g = 0
    · rw [if_pos q2]
      refine ⟨fun c h => (by cases h), fun c' _ _ h => ?_⟩
      rw [q2, Int.zero_mul] at q h
      omega
    · rw [if_neg q2]
      have g0 : 0 < s.g := by omega
      have e1 := Int.mul_ediv_add_emod (most - s.v) s.g
      have e2 := Int.emod_nonneg (most - s.v) (show s.g ≠ 0 by omega)
      have e3 := Int.emod_lt_of_pos (most - s.v) g0
      generalize (most - s.v) / s.g = f at *
      generalize (most - s.v) % s.g = r at *
      have up : most < s.v + s.g * (f + 1) := by rw [Int.mul_add]; omega
      have mf : m0 ≤ f + 1 := by
        have : s.g * m0 < s.g * (f + 1) := by omega
        have := Int.lt_of_mul_lt_mul_left this (by omega)
        omega
      constructor
      · rintro c ⟨⟩
        obtain ⟨p1, p2⟩ := place hs (f + 1)
        rw [p2]
        have := mono mf
        exact ⟨by omega, p1, up⟩
      · intro c' hL' hp hv
        obtain ⟨z1, z2⟩ := placed hs (by omega) hp
        generalize c' / s.p = k at *
        refine ⟨_, rfl, ?_⟩
        have : s.g * f < s.g * k := by omega
        have := Int.lt_of_mul_lt_mul_left this (by omega)
        have := mono (show f + 1 ≤ k by omega)
        omega
  · rw [if_neg q]
    constructor
    · rintro c ⟨⟩
      obtain ⟨p1, p2⟩ := place hs m0
      rw [p2]
      exact ⟨m2, p1, by omega⟩
    · intro c' hL' hp hv
      obtain ⟨z1, z2⟩ := placed hs (by omega) hp
      generalize c' / s.p = k at *
      refine ⟨_, rfl, ?_⟩
      have := mono (m3 k z2 (by omega))
      omega
theorem ovs_first {most : Int} {fs : List (Option Int)} : (∀ j ∈ (ovs most fs fs.length).take 1, j < fs.length ∧ ov most ((fs[j]?).getD none) = true) ∧ ∀ j : Nat, j < fs.length → ov most ((fs[j]?).getD none) = true → ∃ i ∈ (ovs most fs fs.length).take 1, i ≤ j := by
  have hm : ∀ j, j ∈ ovs most fs fs.length ↔ j < fs.length ∧ ov most ((fs[j]?).getD none) = true := fun j => by unfold ovs; rw [List.mem_filter, List.mem_range]
  have hp : (ovs most fs fs.length).Pairwise (· < ·) := by unfold ovs; exact List.Pairwise.filter _ List.pairwise_lt_range
  generalize ovs most fs fs.length = l at hm hp
  cases l with
  | nil => exact ⟨fun j h => (by cases h), fun j h1 h2 => by have := (hm j).mpr ⟨h1, h2⟩; cases this⟩
  | cons i r =>
    refine ⟨fun j h => ?_, fun j h1 h2 => ⟨i, by simp, ?_⟩⟩
    · have : j = i := by simpa using h
      exact (hm j).mp (by rw [this]; exact List.mem_cons_self)
    · rcases List.mem_cons.mp ((hm j).mpr ⟨h1, h2⟩) with e | h
      · omega
      · have := (List.pairwise_cons.mp hp).1 j h
        omega
theorem mem_cands {F : Fm} {most c : Int} : c ∈ cands F most ↔ F.e = some c ∨ (∃ j ∈ (ovs most F.fs F.fs.length).take 1, (j : Int) = c) ∨ ∃ s ∈ F.ss, above F.fs.length most s = some c := by
  unfold cands
  simp only [List.mem_append, List.mem_map, List.mem_filterMap, Option.mem_toList, or_assoc]
theorem cand_over {F : Fm} (hF : F.ok) {most c : Int} (h : c ∈ cands F most) : Over F most c := by
  rcases mem_cands.mp h with h | ⟨j, hj, rfl⟩ | ⟨s, hs, h⟩
  · exact .inl ⟨c, h, Int.le_refl _⟩
  · obtain ⟨a, b⟩ := ovs_first.1 j hj
    exact .inr (.inl ⟨by omega, by simpa using b⟩)
  · obtain ⟨a, b, d⟩ := (above_spec (hF.1 s hs) (Int.natCast_nonneg _)).1 c h
    exact .inr (.inr ⟨a, s, hs, b, d⟩)
theorem over_cand {F : Fm} (hF : F.ok) {most c : Int} (hc : 0 ≤ c) (h : Over F most c) : ∃ y ∈ cands F most, y ≤ c := by
  rcases h with ⟨e, h1, h2⟩ | ⟨h1, h2⟩ | ⟨h1, s, hs, h2, h3⟩
  · exact ⟨e, mem_cands.mpr (.inl h1), h2⟩
  · obtain ⟨i, hi, hle⟩ := ovs_first.2 c.toNat (by omega) h2
    exact ⟨i, mem_cands.mpr (.inr (.inl ⟨i, hi, rfl⟩)), by omega⟩
  · obtain ⟨y, hy, hle⟩ := (above_spec (hF.1 s hs) (Int.natCast_nonneg _)).2 c h1 h2 h3
    exact ⟨y, mem_cands.mpr (.inr (.inr ⟨s, hs, hy⟩)), hle⟩
theorem cand_bd {F : Fm} (hD : Dr F) {most c : Int} (hm : most ≤ 60) (h : c ∈ cands F most) : c < 400 := by
  rcases mem_cands.mp h with h | ⟨j, hj, rfl⟩ | ⟨s, hs, h⟩
  · have := hD.ev c h; omega
  · obtain ⟨a, _⟩ := ovs_first.1 j hj
    have := hD.f5
    omega
  · obtain ⟨z1, z2, z3, z4, z5, z6, z7, z8⟩ := hD.sv s hs
    obtain ⟨m1, m2, m3⟩ := many0_spec (L := (F.fs.length : Int)) (hD.ok.1 s hs)
    have l5 := hD.f5
    have m5 : many0 (F.fs.length : Int) s ≤ 5 := m3 5 (by omega) (by
      have : s.p * 5 ≥ 5 := by omega
      omega)
    unfold above at h
    split at h
    · rename_i q
      split at h
      · cases h
      · rename_i q2
        cases h
        have k1 : (most - s.v) / s.g ≤ 70 := by
          have e1 := Int.mul_ediv_add_emod (most - s.v) s.g
          have e2 := Int.emod_nonneg (most - s.v) (show s.g ≠ 0 by omega)
          generalize (most - s.v) / s.g = f at *
          refine Int.not_lt.mp fun hf => ?_
          have : s.g * 71 ≤ s.g * f := Int.mul_le_mul_of_nonneg_left (by omega) (by omega)
          omega
        generalize (most - s.v) / s.g = f at *
        have : s.p * (f + 1) ≤ s.p * 71 := Int.mul_le_mul_of_nonneg_left (by omega) (by omega)
        omega
    · cases h
      have : s.p * many0 (F.fs.length : Int) s ≤ s.p * 5 := Int.mul_le_mul_of_nonneg_left m5 (by omega)
      omega
theorem cands_perm {F : Fm} {ss : List Sr} (p : ss.Perm F.ss) {most c : Int} : c ∈ cands ⟨F.fs, ss, F.e⟩ most ↔ c ∈ cands F most := by
  rw [mem_cands, mem_cands]
  refine or_congr Iff.rfl (or_congr Iff.rfl ?_)
  exact ⟨fun ⟨s, hs, e⟩ => ⟨s, p.mem_iff.mp hs, e⟩, fun ⟨s, hs, e⟩ => ⟨s, p.mem_iff.mpr hs, e⟩⟩
theorem call_due {F : Fm} (hD : Dr F) {ss : List Sr} (p : ss.Perm F.ss) {most : Int} (hm : most ≤ 60) {z z' : Option Int} (h : IsCall ⟨F.fs, ss, F.e⟩ most z) (h' : IsDue F most 400 z') : z = z' := by
  have hF := hD.ok
  rcases h with ⟨h1, rfl⟩ | ⟨m, h1, h2, rfl⟩
  · rcases h' with ⟨c, _, ho, _, _⟩ | ⟨_, rfl⟩
    · obtain ⟨y, hy, _⟩ := over_cand hF (Int.natCast_nonneg c) (over_iff.mp ho)
      have := (cands_perm p).mpr hy
      rw [h1] at this
      cases this
    · rfl
  · have h1' := (cands_perm p).mp h1
    have mo := over_iff.mpr (cand_over hF h1')
    have m0 := cands_nn hF h1'
    have m4 := cand_bd hD hm h1'
    obtain ⟨k, rfl⟩ := Int.eq_ofNat_of_zero_le m0
    rcases h' with ⟨c, hc, ho, hn, rfl⟩ | ⟨hn, rfl⟩
    · obtain ⟨y, hy, hle⟩ := over_cand hF (Int.natCast_nonneg c) (over_iff.mp ho)
      have := h2 y ((cands_perm p).mpr hy)
      have : ¬ k < c := fun hlt => by have := hn k hlt; rw [mo] at this; cases this
      congr 1
      omega
    · have := hn k (by omega)
      rw [mo] at this
      cases this
end LW

set_option Elab.async false
set_option linter.all false
set_option maxRecDepth 100000
set_option maxHeartbeats 2000000
namespace LW
open PySem PySem.Spec PyProof.Rows L2 DL
theorem k_nesz {M : Env1} {S : Sto} {K : DK} {E : DX} {z w : Option Int} (k : K (.bl (!decide (z = w))) S) : cmpM M .NotEq (sz z) (sz w) S K E := by
  cases z <;> cases w <;> unfold sz <;> walk_at "dl_all" <;> simpa using k
def pz : Option Int → PyData
  | none => .none
  | some i => .int i
def pv : Vl → PyData
  | .non => .none
  | .int i => .int i
  | .endl => .str "endless"
theorem mapO_of {f : DL.D → Option PyData} {α : Type} {g : α → DL.D} {p : α → PyData} (h : ∀ x, f (g x) = some (p x)) : ∀ xs : List α, mapO f (xs.map g) = some (xs.map p)
  | [] => rfl
  | x :: xs => by simp only [List.map, mapO, h, mapO_of h xs]
theorem toPy_of {S : Sto} {q : Addr} {α : Type} {g : α → DL.D} {p : α → PyData} {xs : List α} (h : ∀ x, toPy S 63 (g x) = some (p x)) (hq : S q = some (.lst (xs.map g))) : toPy S 64 (.ref q) = some (.list (xs.map p)) := by
  simp only [toPy, hq, mapO_of h, Option.map]
theorem toPy_sz {S : Sto} (n : Nat) (z : Option Int) : toPy S (n + 1) (sz z) = some (pz z) := by cases z <;> rfl
theorem toPy_vd {S : Sto} (n : Nat) (z : Vl) : toPy S (n + 1) (vd z) = some (pv z) := by cases z <;> rfl
theorem toPy_tupI {S : Sto} (n : Nat) (ns : List Int) : toPy S (n + 2) (tupI ns) = some (.tuple (ns.map .int)) := by
  show (mapO (toPy S (n + 1)) (ns.map DL.D.int)).map PyData.tuple = _
  rw [mapO_of (p := PyData.int) (fun _ => rfl)]
  rfl
theorem pl_list {ps : List PyData} (h : ∀ p ∈ ps, p.plain = true) : PyData.eqv (.list ps) (.list ps) = true := by
  refine PySem.SeqAt.eqv_refl_plain _ ?_
  simp only [PyData.plain]
  induction ps with
  | nil => rfl
  | cons p ps ih => simp only [PyData.plainAll, h p List.mem_cons_self, ih fun q hq => h q (List.mem_cons_of_mem _ hq), Bool.and_self]
theorem pl_sz (fs : List (Option Int)) : PyData.eqv (.list (fs.map pz)) (.list (fs.map pz)) = true := pl_list fun p hp => by
  obtain ⟨z, _, rfl⟩ := List.mem_map.mp hp
  cases z <;> rfl
theorem pl_vd (vs : List Vl) : PyData.eqv (.list (vs.map pv)) (.list (vs.map pv)) = true := pl_list fun p hp => by
  obtain ⟨z, _, rfl⟩ := List.mem_map.mp hp
  cases z <;> rfl
theorem plainInts : ∀ ns : List Int, PyData.plainAll (ns.map .int) = true
  | [] => rfl
  | n :: ns => by simp only [List.map, PyData.plainAll, PyData.plain, plainInts ns, Bool.and_self]
theorem pl_tup (nss : List (List Int)) : PyData.eqv (.list (nss.map fun ns => .tuple (ns.map .int))) (.list (nss.map fun ns => .tuple (ns.map .int))) = true := pl_list fun p hp => by
  obtain ⟨ns, _, rfl⟩ := List.mem_map.mp hp
  simp only [PyData.plain]
  exact plainInts ns
theorem pv_refl (v : Vl) : PyData.eqv (pv v) (pv v) = true := PySem.SeqAt.eqv_refl_plain _ (by cases v <;> rfl)
/-- the formula and its parts -/
structure T3 (S : Sto) (x r q1 q2 a1 a2 : Addr) (F : Fm) (ss : List Sr) : Prop where
  f : FA S x ⟨F.fs, ss, F.e⟩ a1 a2
  p : PA S r F q1 q2
theorem T3.le {S S' : Sto} {x r q1 q2 a1 a2 : Addr} {F : Fm} {ss : List Sr} (h : T3 S x r q1 q2 a1 a2 F ss) (l : Le S S') : T3 S' x r q1 q2 a1 a2 F ss := ⟨h.f.le l, h.p.le l⟩
structure Ap (b x r q1 q2 a1 a2 : Addr) : Prop where
  x : x ≠ b
  r : r ≠ b
  q1 : q1 ≠ b
  q2 : q2 ≠ b
  a1 : a1 ≠ b
  a2 : a2 ≠ b
theorem T3.upd {S : Sto} {b x r q1 q2 a1 a2 : Addr} {F : Fm} {ss : List Sr} {o : SO} (h : T3 S x r q1 q2 a1 a2 F ss) (n : Ap b x r q1 q2 a1 a2) : T3 (sup S b o) x r q1 q2 a1 a2 F ss := ⟨⟨look_ne n.x h.f.o, look_ne n.a1 h.f.f, look_ne n.a2 h.f.s⟩, ⟨look_ne n.r h.p.o, look_ne n.q1 h.p.f, look_ne n.q2 h.p.s⟩⟩
section
variable {n : Nat} {S : Sto} {K : DK} {E : DX}
theorem mkF_ok {b1 b2 : Addr} {F : Fm} (hF : F.ok) (h1 : S b1 = some (.lst (F.fs.map sz))) (h2 : S b2 = some (.lst (F.ss.map fun s => tupI s.l)))
    (k : ∀ S' x ss' a1 a2, ss'.Perm F.ss → (ss'.map Sr.l).Pairwise (fun x y => lexI y x = false) → FA S' x ⟨F.fs, ss', F.e⟩ a1 a2 → (∀ b o, isX o = false → S b = some o → b ≠ x ∧ b ≠ a1 ∧ b ≠ a2) → Le S S' → K (.ref x) S') : makeO (Mn (n + 4)).tb (Mn (n + 4)).fi (Mn (n + 4)).orc "Formula" [.ref b1, .ref b2, sz F.e] S K E := by
  refine mk_Formula fun x hx => fi_good hF sup_same (look_old hx h1) (look_old hx h2) fun S' ss' a1 a2 p so fa ap l => ⟨rfl, ?_⟩
  exact k S' x ss' a1 a2 p so fa (fun b o i g => ⟨ne_new hx g, ap b o i (look_old hx g)⟩) (fun a o i g => l a o (ne_new hx g) i (look_old hx g))
end
theorem turn_ok {S : Sto} {K : DK} {ex : DXs} {N bk : DSt → Sto → Prop} {s0 o1 o3 o4 o5 o6 o7 o8 o9 o10 o11 o12 o13 o14 : Option DL.D} {a : Addr} {x y : Int} (hp : okp x y) (ha : S a = some (poolO x y))
    (hN : ∀ o4 o5 o6 o7 o8 o9 o10 o11 o12 o13 o14 S' x' y', okp x' y' → S' a = some (poolO x' y') → N [s0, o1, some (.ref a), o3, o4, o5, o6, o7, o8, o9, o10, o11, o12, o13, o14] S') : mSs (Mn 7) none c_law_L4 ⟨N, K, bk, N, ex⟩ [s0, o1, some (.ref a), o3, o4, o5, o6, o7, o8, o9, o10, o11, o12, o13, o14] S := by
  unfold c_law_L4
  walk_at "dl_all"
  refine cl__law_drawn (drawn_ok hp ha fun F r q1 q2 x1 y1 S1 hD hP m1 m2 m3 p1 ha1 l1 => ?_)
  have hF := hD.ok
  clear ha l1 hp x y
  walk_at "dl_all"
  refine x_lst hP.o rfl ?_
  walk_at "dl_all"
  refine b_listl hP.f fun b1 n1 => ?_
  walk_at "dl_all"
  refine x_lst (look_old n1 hP.o) rfl ?_
  walk_at "dl_all"
  refine b_listl (look_old n1 hP.s) fun b2 n2 => ?_
  walk_at "dl_all"
  intro hb nb
  walk_at "dl_all"
  -- the store behind the three lists
  have nb1 : b1 ≠ hb := ne_new nb (look_old n2 sup_same)
  have nb2 : b2 ≠ hb := ne_new nb sup_same
  have n12 : b1 ≠ b2 := ne_new n2 sup_same
  have e1 : (sup (sup (sup S1 b1 (.lst (F.fs.map sz))) b2 (.lst (F.ss.map fun s => tupI s.l))) hb (.lst [.ref b1, .ref b2])) b1 = some (.lst (F.fs.map sz)) := look_ne nb1 (look_ne n12 sup_same)
  have e2 : (sup (sup (sup S1 b1 (.lst (F.fs.map sz))) b2 (.lst (F.ss.map fun s => tupI s.l))) hb (.lst [.ref b1, .ref b2])) b2 = some (.lst (F.ss.map fun s => tupI s.l)) := look_ne nb2 sup_same
  have e3 : (sup (sup (sup S1 b1 (.lst (F.fs.map sz))) b2 (.lst (F.ss.map fun s => tupI s.l))) hb (.lst [.ref b1, .ref b2])) hb = some (.lst [.ref b1, .ref b2]) := sup_same
  have l2 : Le S1 (sup (sup (sup S1 b1 (.lst (F.fs.map sz))) b2 (.lst (F.ss.map fun s => tupI s.l))) hb (.lst [.ref b1, .ref b2])) := ((Le.new n1).trans (.new n2)).trans (.new nb)
  have d1 : a ≠ b1 ∧ r ≠ b1 ∧ q1 ≠ b1 ∧ q2 ≠ b1 := ⟨ne_new n1 ha1, ne_new n1 hP.o, ne_new n1 hP.f, ne_new n1 hP.s⟩
  have d2 : a ≠ b2 ∧ r ≠ b2 ∧ q1 ≠ b2 ∧ q2 ≠ b2 := ⟨ne_new n2 (look_old n1 ha1), ne_new n2 (look_old n1 hP.o), ne_new n2 (look_old n1 hP.f), ne_new n2 (look_old n1 hP.s)⟩
  have hP2 := hP.le l2
  have ha2 := look_le l2 rfl ha1
  generalize sup (sup (sup S1 b1 (.lst (F.fs.map sz))) b2 (.lst (F.ss.map fun s => tupI s.l))) hb (.lst [.ref b1, .ref b2]) = S2 at e1 e2 e3 hP2 ha2 ⊢
  clear n1 n2 nb l2 hP ha1 S1
  refine x_lst e3 rfl ?_
  walk_at "dl_all"
  refine x_lst e3 rfl ?_
  walk_at "dl_all"
  refine x_lst hP2.o rfl ?_
  walk_at "dl_all"
  refine mkF_ok hF e1 e2 fun S3 fm ss a1 a2 pm so fa ap l3 => ?_
  have T := T3.mk fa (hP2.le l3)
  have ha3 := look_le l3 rfl ha2
  have g1 := look_le l3 rfl e1
  have g2 := look_le l3 rfl e2
  have g3 := look_le l3 rfl e3
  have A1 : Ap b1 fm r q1 q2 a1 a2 := ⟨(ap b1 _ rfl e1).1.symm, d1.2.1, d1.2.2.1, d1.2.2.2, (ap b1 _ rfl e1).2.1.symm, (ap b1 _ rfl e1).2.2.symm⟩
  have A2 : Ap b2 fm r q1 q2 a1 a2 := ⟨(ap b2 _ rfl e2).1.symm, d2.2.1, d2.2.2.1, d2.2.2.2, (ap b2 _ rfl e2).2.1.symm, (ap b2 _ rfl e2).2.2.symm⟩
  have AA : Ap a fm r q1 q2 a1 a2 := ⟨(ap a _ rfl ha2).1.symm, m1, m2, m3, (ap a _ rfl ha2).2.1.symm, (ap a _ rfl ha2).2.2.symm⟩
  have n1a := d1.1
  have n2a := d2.1
  clear d1 d2 ap fa hP2 e1 e2 e3 l3 ha2
  walk_at "dl_all"
  refine q_lst g3 ?_
  refine for_at (W := fun i σ S' => (∃ o7, σ = [s0, o1, some (.ref a), o3, some (.ref r), some (.ref hb), some (.ref fm), o7, o8, o9, o10, o11, o12, o13, o14]) ∧ T3 S' fm r q1 q2 a1 a2 F ss ∧ S' a = some (poolO x1 y1) ∧ S' hb = some (.lst [.ref b1, .ref b2]) ∧ (∃ l, S' b1 = some (.lst l) ∧ l.length ≤ 5 + i) ∧ ∃ l, S' b2 = some (.lst l) ∧ l.length ≤ 3 + i) [.ref b1, .ref b2]
    ⟨⟨_, rfl⟩, T, ha3, g3, ⟨_, g1, by rw [List.length_map]; have := hD.f5; omega⟩, _, g2, by rw [List.length_map]; have := hD.s3; omega⟩ (fun i σ S' h => by simp only [itOf, itemsD, h.2.2.2.1]) ?_ ?_
  · rintro i σ S4 d N' ⟨⟨o7, rfl⟩, T4, h1, h2, ⟨k1, h3, h4⟩, k2, h5, h6⟩ hd hN'
    unfold c_law_L1
    match i, hd with
    | 0, hd =>
      cases hd
      walk_at "dl_all"
      refine mm_lst (P := True) h3 rfl ?_
      walk_at "dl_all"
      refine l_app h3 (by show _ < 16777216; omega) ?_
      walk_at "dl_all"
      exact hN' _ _ ⟨⟨_, rfl⟩, T4.upd A1, look_ne n1a h1, look_ne nb1.symm h2, ⟨_, sup_same, by simp; omega⟩, _, look_ne n12.symm h5, by omega⟩
    | 1, hd =>
      cases hd
      walk_at "dl_all"
      refine mm_lst (P := True) h5 rfl ?_
      walk_at "dl_all"
      refine l_app h5 (by show _ < 16777216; omega) ?_
      walk_at "dl_all"
      exact hN' _ _ ⟨⟨_, rfl⟩, T4.upd A2, look_ne n2a h1, look_ne nb2.symm h2, ⟨_, look_ne n12 h3, by omega⟩, _, sup_same, by simp; omega⟩
    | i + 2, hd => cases hd
  rintro σ S4 ⟨⟨o7, rfl⟩, T4, h1, h2, -, -⟩
  clear T ha3 g1 g2 g3 A1 A2 n1a n2a nb1 nb2 n12 h2 S2 S3
  walk_at "dl_all"
  refine a_o (a_prop T4.f.o rfl tb_Formula rfl (cl_Formula_firsts (firsts_ok T4.f fun t1 nt1 => ?_)))
  refine mm_lst (P := True) sup_same rfl ?_
  walk_at "dl_all"
  refine l_app sup_same (by show _ < 16777216; rw [List.length_map]; have := hD.f5; show F.fs.length < _; omega) ?_
  walk_at "dl_all"
  rw [sup_sup]
  have l5 : Le S4 (sup S4 t1 (.lst (F.fs.map sz ++ [.non]))) := .new nt1
  have T5 := T4.le l5
  have h5 := look_le l5 rfl h1
  generalize sup S4 t1 (.lst (F.fs.map sz ++ [.non])) = S5 at T5 h5 ⊢
  clear l5 nt1 T4 h1 S4 t1
  refine a_o (a_prop T5.f.o rfl tb_Formula rfl (cl_Formula_stairs (stairs_ok T5.f fun t1 nt1 => ?_)))
  refine mm_lst (P := True) sup_same rfl ?_
  walk_at "dl_all"
  have ls3 : ss.length ≤ 3 := by rw [pm.length_eq]; exact hD.s3
  refine l_app sup_same (by show _ < 16777216; rw [List.length_map]; show ss.length < _; omega) ?_
  walk_at "dl_all"
  rw [sup_sup]
  have l6 : Le S5 (sup S5 t1 (.lst (ss.map (fun s => tupI s.l) ++ [.non]))) := .new nt1
  have T6 := T5.le l6
  have h6 := look_le l6 rfl h5
  generalize sup S5 t1 (.lst (ss.map (fun s => tupI s.l) ++ [.non])) = S6 at T6 h6 ⊢
  clear l6 nt1 T5 h5 S5 t1
  -- the parts kept
  refine a_o (a_prop T6.f.o rfl tb_Formula rfl (cl_Formula_firsts (firsts_ok T6.f fun t1 nt1 => ?_)))
  have l7 : Le S6 (sup S6 t1 (.lst (F.fs.map sz))) := .new nt1
  have g7 : (sup S6 t1 (.lst (F.fs.map sz))) t1 = some (.lst (F.fs.map sz)) := sup_same
  have T7 := T6.le l7
  have h7 := look_le l7 rfl h6
  walk_at "dl_all"
  generalize sup S6 t1 (.lst (F.fs.map sz)) = S7 at T7 h7 g7 ⊢
  clear l7 nt1 T6 h6
  refine x_lst T7.p.o rfl ?_
  refine k_ne (toPy_of (toPy_sz 62) g7) (toPy_of (toPy_sz 62) T7.p.f) ?_
  rw [pl_sz]
  walk_at "dl_all"
  refine a_o (a_prop T7.f.o rfl tb_Formula rfl (cl_Formula_stairs (stairs_ok T7.f fun t2 nt2 => ?_)))
  have l8 : Le S7 (sup S7 t2 (.lst (ss.map fun s => tupI s.l))) := .new nt2
  have g8 : (sup S7 t2 (.lst (ss.map fun s => tupI s.l))) t2 = some (.lst (ss.map fun s => tupI s.l)) := sup_same
  have T8 := T7.le l8
  have h8 := look_le l8 rfl h7
  walk_at "dl_all"
  generalize sup S7 t2 (.lst (ss.map fun s => tupI s.l)) = S8 at T8 h8 g8 ⊢
  clear l8 nt2 T7 h7 g7 S6 S7
  refine x_lst T8.p.o rfl ?_
  walk_at "dl_all"
  refine b_sorted (nss := F.ss.map Sr.l) (d := 4) (by rw [List.map_map]; exact T8.p.s) (by decide) (fun ns hn => by obtain ⟨s, _, e⟩ := List.mem_map.mp hn; subst e; rfl) fun mss t3 pm3 so3 nt3 => ?_
  obtain rfl : mss = ss.map Sr.l := sorted_uniq (d := 4) (pm3.trans (pm.map Sr.l).symm) (fun ns hn => by
    obtain ⟨s, _, e⟩ := List.mem_map.mp (pm3.mem_iff.mp hn)
    subst e
    rfl) so3 so
  have l9 : Le S8 (sup S8 t3 (.lst ((ss.map Sr.l).map tupI))) := .new nt3
  have T9 := T8.le l9
  have h9 := look_le l9 rfl h8
  have g9 : (sup S8 t3 (.lst ((ss.map Sr.l).map tupI))) t2 = some (.lst ((ss.map Sr.l).map tupI)) := by rw [List.map_map]; exact look_old nt3 g8
  have g9' : (sup S8 t3 (.lst ((ss.map Sr.l).map tupI))) t3 = some (.lst ((ss.map Sr.l).map tupI)) := sup_same
  generalize sup S8 t3 (.lst ((ss.map Sr.l).map tupI)) = S9 at T9 h9 g9 g9' ⊢
  clear l9 nt3 T8 h8 g8 pm3 so3 S8
  refine k_ne (toPy_of (toPy_tupI 61) g9) (toPy_of (toPy_tupI 61) g9') ?_
  rw [pl_tup]
  walk_at "dl_all"
  refine a_o (a_prop T9.f.o rfl tb_Formula rfl (cl_Formula_endless (endless_ok T9.f ?_)))
  walk_at "dl_all"
  refine x_lst T9.p.o rfl ?_
  refine k_nesz ?_
  simp only [decide_true, Bool.not_true]
  walk_at "dl_all"
  clear g9 g9'
  have hF' : Fm.ok ⟨F.fs, ss, F.e⟩ := ⟨fun s hs => hF.1 s (pm.mem_iff.mp hs), hF.2.1, hF.2.2.1, by show ss.length < 1000; omega⟩
  -- the first 45 counts
  refine rng1 (by decide) (by decide) ?_
  refine lc_at (rgD 0 (Int.toNat 45)) (fun i acc => acc = ((List.range i).map fun (c : Nat) => vat F (c : Int)).map vd) (len_ok (by simp [rgD])) rfl (fun S' l => rfl) ?_ ?_
  · intro i d acc S' Y Z hd hA l hY hZ
    obtain ⟨hi, rfl⟩ := rgD_get hd
    simp only [wipeD, List.set]
    walk_at "dl_all"
    refine mth rfl (T9.le l).f.o rfl rfl ?_
    walk_at "dl_all"
    refine cl_Formula_greatest (greatest_ok hF' (T9.le l).f (by omega) fun S'' l' => ?_)
    rw [vat_perm pm]
    refine hY _ _ l' ?_
    rw [hA, List.range_succ, List.map_append, List.map_append]
    rfl
  intro u1 acc S10 hA10 l10 hu1 g10
  have T10 := T9.le l10
  have h10 := look_le l10 rfl h9
  clear T9 h9 l10 hu1 S9
  walk_at "dl_all"
  refine rng1 (by decide) (by decide) ?_
  refine lc_at (rgD 0 (Int.toNat 45)) (fun i acc => acc = ((List.range i).map fun (c : Nat) => vat F (c : Int)).map vd) (len_ok (by simp [rgD])) rfl (fun S' l => rfl) ?_ ?_
  · intro i d acc S' Y Z hd hA l hY hZ
    obtain ⟨hi, rfl⟩ := rgD_get hd
    simp only [wipeD, List.set]
    walk_at "dl_all"
    refine cl__law_at (law_at_ok hF (T10.le l).p (by omega) fun S'' l' => ?_)
    refine hY _ _ l' ?_
    rw [hA, List.range_succ, List.map_append, List.map_append]
    rfl
  intro u2 acc' S11 hA11 l11 hu2 g11
  have T11 := T10.le l11
  have h11 := look_le l11 rfl h10
  replace g10 := look_le l11 rfl g10
  clear T10 h10 l11 hu2 S10
  rw [hA10] at g10
  rw [hA11] at g11
  refine k_ne (toPy_of (toPy_vd 62) g10) (toPy_of (toPy_vd 62) g11) ?_
  rw [pl_vd]
  clear g10 g11 hA10 hA11
  walk_at "dl_all"
  -- a great count
  refine cl__law_take (take_ok p1 h11 (by decide) (by decide) fun r3 x3 y3 r3l r3h p3 => ?_)
  have T12 : T3 (sup S11 a (poolO x3 y3)) fm r q1 q2 a1 a2 F ss := T11.upd AA
  have h12 : (sup S11 a (poolO x3 y3)) a = some (poolO x3 y3) := sup_same
  generalize sup S11 a (poolO x3 y3) = S12 at T12 h12 ⊢
  clear T11 h11 S11 p1
  have g29 : (0 : Int) ≤ 10 ^ Int.toNat 29 := by decide +kernel
  have g30 : (0 : Int) ≤ 10 ^ Int.toNat 29 + r3 := Int.add_nonneg g29 r3l
  walk_at "dl_all"
  generalize (10 : Int) ^ Int.toNat 29 + r3 = gr at g30 ⊢
  refine mth rfl T12.f.o rfl rfl ?_
  walk_at "dl_all"
  refine cl_Formula_greatest (greatest_ok hF' T12.f g30 fun S13 l13 => ?_)
  rw [vat_perm pm]
  have T13 := T12.le l13
  have h13 := look_le l13 rfl h12
  clear T12 h12 l13 S12
  walk_at "dl_all"
  refine cl__law_at (law_at_ok hF T13.p g30 fun S14 l14 => ?_)
  have T14 := T13.le l14
  have h14 := look_le l14 rfl h13
  clear T13 h13 l14 S13
  refine k_ne (toPy_vd 63 _) (toPy_vd 63 _) ?_
  rw [pv_refl]
  walk_at "dl_all"
  -- bounds
  refine cl__law_take (take_ok p3 h14 (by decide) (by decide) fun r4 x4 y4 r4l r4h p4 => ?_)
  have T15 : T3 (sup S14 a (poolO x4 y4)) fm r q1 q2 a1 a2 F ss := T14.upd AA
  have h15 : (sup S14 a (poolO x4 y4)) a = some (poolO x4 y4) := sup_same
  generalize sup S14 a (poolO x4 y4) = S15 at T15 h15 ⊢
  clear T14 h14 S14 p3
  walk_at "dl_all"
  intro t4 nt4
  refine q_lst sup_same ?_
  have T16 : T3 (sup S15 t4 (.lst [.int (r4 - 10), .int (-20), .int 60])) fm r q1 q2 a1 a2 F ss := T15.le (.new nt4)
  have h16 : (sup S15 t4 (.lst [.int (r4 - 10), .int (-20), .int 60])) a = some (poolO x4 y4) := look_old nt4 h15
  have g16 : (sup S15 t4 (.lst [.int (r4 - 10), .int (-20), .int 60])) t4 = some (.lst [.int (r4 - 10), .int (-20), .int 60]) := sup_same
  generalize sup S15 t4 (.lst [.int (r4 - 10), .int (-20), .int 60]) = S16 at T16 h16 g16 ⊢
  clear T15 h15 nt4 S15
  refine for_at (W := fun i σ S' => (∃ o9 o10 o11, σ = [s0, o1, some (.ref a), o3, some (.ref r), some (.ref hb), some (.ref fm), o7, some (.int gr), o9, o10, o11, o12, o13, o14]) ∧ Le S16 S') [.int (r4 - 10), .int (-20), .int 60] ⟨⟨_, _, _, rfl⟩, .refl⟩ (fun i σ S' h => by simp only [itOf, itemsD, look_le h.2 rfl g16]) ?_ ?_
  · rintro i σ S17 d N' ⟨⟨o9, o10, o11, rfl⟩, l17⟩ hd hN'
    have hm : ∃ most : Int, d = .int most ∧ most ≤ 60 := by
      match i, hd with
      | 0, hd => cases hd; exact ⟨_, rfl, by omega⟩
      | 1, hd => cases hd; exact ⟨_, rfl, by decide⟩
      | 2, hd => cases hd; exact ⟨_, rfl, by decide⟩
      | i + 3, hd => cases hd
    obtain ⟨most, rfl, hm⟩ := hm
    have T17 := T16.le l17
    unfold c_law_L2
    walk_at "dl_all"
    refine cl__law_due (due_ok (N := 400) (by decide) hF T17.p fun S18 z l18 hz => ?_)
    have T18 := T17.le l18
    walk_at "dl_all"
    refine ⟨"Formula", has_m T18.f.o rfl tb_Formula rfl, ?_⟩
    walk_at "dl_all"
    refine ⟨has_m T18.f.o rfl tb_Formula rfl, cl_Formula___call__ (call_ok hF' T18.f fun S19 t5 w l19 hw g19 hc => ?_)⟩
    obtain rfl := call_due hD pm hm hc hz
    refine a_o (a_prop g19 rfl tb_Limit rfl (cl_Limit_size (size_ok g19 ?_)))
    walk_at "dl_all"
    refine k_nesz ?_
    simp only [decide_true, Bool.not_true]
    walk_at "dl_all"
    exact hN' _ _ ⟨⟨_, _, _, rfl⟩, (l17.trans l18).trans l19⟩
  rintro σ S17 ⟨⟨o9', o10', o11', rfl⟩, l17⟩
  have T17 := T16.le l17
  have h17 := look_le l17 rfl h16
  clear T16 h16 g16 l17 S16
  walk_at "dl_all"
  intro t5 nt5
  walk_at "dl_all"
  intro t6 nt6
  refine q_lst sup_same ?_
  have l18 : Le S17 (sup (sup S17 t5 (.lst [.int 5])) t6 (.lst [.non, .int (-1), .bl true, .str "5", .ref t5, .tup [.int 5]])) := (Le.new nt5).trans (.new nt6)
  have g5 : (sup (sup S17 t5 (.lst [.int 5])) t6 (.lst [.non, .int (-1), .bl true, .str "5", .ref t5, .tup [.int 5]])) t5 = some (.lst [.int 5]) := look_old nt6 sup_same
  have g6 : (sup (sup S17 t5 (.lst [.int 5])) t6 (.lst [.non, .int (-1), .bl true, .str "5", .ref t5, .tup [.int 5]])) t6 = some (.lst [.non, .int (-1), .bl true, .str "5", .ref t5, .tup [.int 5]]) := sup_same
  have T18 := T17.le l18
  have h18 := look_le l18 rfl h17
  generalize sup (sup S17 t5 (.lst [.int 5])) t6 (.lst [.non, .int (-1), .bl true, .str "5", .ref t5, .tup [.int 5]]) = S18 at T18 h18 g5 g6 ⊢
  clear T17 h17 l18 nt5 nt6 S17
  refine for_at (W := fun i σ S' => (∃ o12, σ = [s0, o1, some (.ref a), o3, some (.ref r), some (.ref hb), some (.ref fm), o7, some (.int gr), o9', o10', o11', o12, o13, o14]) ∧ Le S18 S') [.non, .int (-1), .bl true, .str "5", .ref t5, .tup [.int 5]] ⟨⟨_, rfl⟩, .refl⟩ (fun i σ S' h => by simp only [itOf, itemsD, look_le h.2 rfl g6]) ?_ ?_
  · rintro i σ S19 d N' ⟨⟨o12, rfl⟩, l19⟩ hd hN'
    have T19 := T18.le l19
    have fin : ∀ S', Le S19 S' → N' [s0, o1, some (.ref a), o3, some (.ref r), some (.ref hb), some (.ref fm), o7, some (.int gr), o9', o10', o11', some d, o13, o14] S' := fun S' l => hN' _ _ ⟨⟨_, rfl⟩, l19.trans l⟩
    unfold c_law_L3
    walk_at "dl_all"
    refine cl__law_number_refused ?_
    match i, hd with
    | 0, hd =>
      cases hd
      refine num_ok (pp := .none) (b := false) T19.f (.inl ib_non) (fun S' l => rfl) (by decide +kernel) (by decide +kernel) rfl (fun _ => ib_non) fun S' l => ?_
      walk_at "dl_all"
      exact fin S' l
    | 1, hd =>
      cases hd
      refine num_ok (pp := .int (-1)) (b := true) T19.f (.inr ⟨-1, rfl, by decide⟩) (fun S' l => rfl) (by decide +kernel) (by decide +kernel) rfl (fun h => by cases h) fun S' l => ?_
      walk_at "dl_all"
      exact fin S' l
    | 2, hd =>
      cases hd
      refine num_ok (pp := .bool true) (b := false) T19.f (.inl ib_bl) (fun S' l => rfl) (by decide +kernel) (by decide +kernel) rfl (fun _ => ib_bl) fun S' l => ?_
      walk_at "dl_all"
      exact fin S' l
    | 3, hd =>
      cases hd
      refine num_ok (pp := .str "5") (b := false) T19.f (.inl ib_str) (fun S' l => rfl) (by decide +kernel) (by decide +kernel) rfl (fun _ => ib_str) fun S' l => ?_
      walk_at "dl_all"
      exact fin S' l
    | 4, hd =>
      cases hd
      have g5' := look_le l19 rfl g5
      refine num_ok (pp := .list [.int 5]) (b := false) T19.f (.inl (ib_lst g5')) (fun S' l => by simp only [toPy, look_le l rfl g5', mapO, Option.map]) (by decide +kernel) (by decide +kernel) rfl (fun _ => ib_lst g5') fun S' l => ?_
      walk_at "dl_all"
      exact fin S' l
    | 5, hd =>
      cases hd
      refine num_ok (pp := .tuple [.int 5]) (b := false) T19.f (.inl ib_tup) (fun S' l => rfl) (by decide +kernel) (by decide +kernel) rfl (fun _ => ib_tup) fun S' l => ?_
      walk_at "dl_all"
      exact fin S' l
    | i + 6, hd => cases hd
  · rintro σ S19 ⟨⟨o12, rfl⟩, l19⟩
    walk_at "dl_all"
    exact hN _ _ _ _ _ _ _ _ _ _ _ _ _ _ p4 (look_le l19 rfl h18)
end LW

set_option Elab.async false
set_option linter.all false
set_option maxRecDepth 100000
set_option maxHeartbeats 1000000
namespace LW
open PySem PySem.Spec PyProof.Rows L2 DL
theorem law_ok {ns : List Int} (hn : ns.length ≤ 63) {S : Sto} : mCall pd.prg 8 ("law", none) [.rol (ns.map DL.D.int)] S (fun d _ => d = .bl true) (fun _ _ _ => False) := by
  refine en_law ?_
  unfold c_law
  walk_at "dl_all"
  refine cl__law_refusals_right (right_ok fun S1 _ => ?_)
  walk_at "dl_all"
  generalize hm : (if (if ↑(List.map D.int ns).length < (10 : Int) then ↑(List.map D.int ns).length else (10 : Int)) > 1 then (if ↑(List.map D.int ns).length < (10 : Int) then ↑(List.map D.int ns).length else (10 : Int)) else 1) = m
  have m1 : 0 ≤ m := by rw [← hm]; repeat' split <;> omega
  have m2 : m < 64 := by rw [← hm]; repeat' split <;> omega
  refine rng1 (by omega) (by omega) ?_
  refine for_at (W := fun _ σ S => ∃ o1 o2 o3 o4 o5 o6 o7 o8 o9 o10 o11 o12 o13 o14, σ = [some (.rol (ns.map DL.D.int)), o1, o2, o3, o4, o5, o6, o7, o8, o9, o10, o11, o12, o13, o14]) (rgD 0 m.toNat) ⟨_, _, _, _, _, _, _, _, _, _, _, _, _, _, rfl⟩ (fun i σ S hw => rfl) ?_ ?_
  · rintro i σ S d N ⟨o1, o2, o3, o4, o5, o6, o7, o8, o9, o10, o11, o12, o13, o14, rfl⟩ hd hN
    obtain ⟨hi, rfl⟩ := rgD_get hd
    unfold c_law_L5
    walk_at "dl_all"
    refine cl__law_pool (pool_ok (k := i) (by omega) fun p x y hp hq => ?_)
    walk_at "dl_all"
    refine rng1 (by decide) (by decide) ?_
    refine for_at (W := fun _ σ S => (∃ o1 o3 o4 o5 o6 o7 o8 o9 o10 o11 o12 o13 o14, σ = [some (.rol (ns.map DL.D.int)), o1, some (.ref p), o3, o4, o5, o6, o7, o8, o9, o10, o11, o12, o13, o14]) ∧ ∃ x y, okp x y ∧ S p = some (poolO x y)) (rgD 0 (Int.toNat 6)) ⟨⟨_, _, _, _, _, _, _, _, _, _, _, _, _, rfl⟩, x, y, hp, sup_same⟩ (fun i σ S hw => rfl) ?_ ?_
    · rintro i σ S d N' ⟨⟨o1, o3, o4, o5, o6, o7, o8, o9, o10, o11, o12, o13, o14, rfl⟩, x, y, hp, ha⟩ hd hN'
      obtain ⟨hi, rfl⟩ := rgD_get hd
      walk_at "dl_g"
      exact turn_ok hp ha fun o4 o5 o6 o7 o8 o9 o10 o11 o12 o13 o14 S' x' y' p' a' => hN' _ _ ⟨⟨_, _, _, _, _, _, _, _, _, _, _, _, _, rfl⟩, x', y', p', a'⟩
    · rintro σ S ⟨⟨o1, o3, o4, o5, o6, o7, o8, o9, o10, o11, o12, o13, o14, rfl⟩, x, y, hp, ha⟩
      exact hN _ _ ⟨_, _, _, _, _, _, _, _, _, _, _, _, _, _, rfl⟩
  · rintro σ S ⟨o1, o2, o3, o4, o5, o6, o7, o8, o9, o10, o11, o12, o13, o14, rfl⟩
    walk_at "dl_all"
    rfl
end LW

set_option Elab.async false
set_option linter.all false
set_option maxRecDepth 100000
set_option maxHeartbeats 0
namespace LW
open PySem PySem.Spec PyProof.Rows L2 DL
abbrev R : PySem.W.OpenRow := PySem.W.OpenLaw.row PySem.Challenge.rw_safeupto_k39_formulas_told
theorem run (w : World) : HandSHeadRun.RunEq R (PySem.W.view R.prog [25]) (pd.hook PySem.Challenge.pw_safeupto_k39_formulas_told 6) (pd.ob PySem.Challenge.pw_safeupto_k39_formulas_told 6) 4000 ["is_integer", "is_count", "SafeError", "InvalidNumber", "InvalidPaper", "ENDLESS", "is_greater", "greatest_of", "Limit", "is_stair", "Formula", "_law_pool", "_law_take", "_law_drawn", "_law_at", "_law_due", "_law_refused", "_law_number_refused", "_law_refusals_right"] w := by
  intro os
  kernel_rfl
end LW

set_option Elab.async false
set_option linter.all false
set_option maxRecDepth 100000
set_option maxHeartbeats 0
open PySem PySem.W PySem.Calls PyProof.Rows
theorem LW.plain : ∀ ns : List Int, ns.length ≤ 63 → (∀ k ∈ ns, Builtin.Int.intBits k ≤ 1048576) → DL.mCall LW.pd.prg 8 ("law", none) [.rol (ns.map DL.D.int)] (fun _ => none) (fun d _ => d = .bl true) (fun _ _ _ => False) := fun _ h _ => LW.law_ok h
theorem PySem.Challenge.cw_safeupto_k39_formulas_told_holds : PySem.Challenge.rw_safeupto_k39_formulas_told.Holds := by
  w_on; o_law
  refine HandSHeadRun.head_any (r := OpenLaw.row PySem.Challenge.rw_safeupto_k39_formulas_told) (q := view (OpenLaw.row PySem.Challenge.rw_safeupto_k39_formulas_told).prog [25]) (H := LW.pd.hook PySem.Challenge.pw_safeupto_k39_formulas_told 6) (ob := LW.pd.ob PySem.Challenge.pw_safeupto_k39_formulas_told 6) (M := 4000) (loose := ["is_integer", "is_count", "SafeError", "InvalidNumber", "InvalidPaper", "ENDLESS", "is_greater", "greatest_of", "Limit", "is_stair", "Formula", "_law_pool", "_law_take", "_law_drawn", "_law_at", "_law_due", "_law_refused", "_law_number_refused", "_law_refusals_right"]) (d := HandSHeadRun.topDef (OpenLaw.row PySem.Challenge.rw_safeupto_k39_formulas_told).prog 25) (kwd := []) (fun s => DL.ob_eq s)
    (by kernel_rfl) (fun s => by kernel_rfl) LW.run (by kernel_rfl) (by kernel_rfl) (by kernel_rfl) (by rfl) (by first | assumption | decide +kernel) (by decide +kernel) ⟨rfl, rfl, rfl, rfl, rfl, by decide +kernel⟩ ?hw ?hc
  case hw => w_witness2
  case hc =>
    exact DL.walk_D (l := PySem.Challenge.rw_safeupto_k39_formulas_told) (n := 63) (m := 8) (x := "_law_script") (e := LW.e_law) rfl (by decide) (by kernel_rfl) ⟨⟨rfl, by decide, by decide⟩, rfl⟩ LW.reads (by kernel_rfl) (by kernel_rfl) rfl rfl (DL.hb0 rfl (by kernel_rfl) LW.b_law) LW.plain

