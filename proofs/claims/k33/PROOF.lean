import PyProof.Rows.All
import Wide.All
import OpenK.AllK
import Wide.FinOn
import HandS.ForMost
import HandS.TupAny
import HandS.TupMul
import HandS.Wide
import HandS.IsInst
import HandS.Style
import HandS.Rev
import HandS.RevRange
import HandS.Small
import KE.DataEq
import KE.DataCmp
import KE.SortData
import PyProof.ReprReads
import HandS.TupSets
import KE.KDictKeyed
import HandS.SetFor
import HandS.Zip
import HandS.Conv
import KE.GoesMore
import KE.SortKeyHeap
import HandS.ExcValue
import HandS.SortKw
import HandS.Deep
import PySem.Challenge.RW_anymaze_k33_whole_order_of_mazes
set_option Elab.async false
set_option linter.all false
set_option maxRecDepth 100000
/-! AL: values as trees, mutable objects in an abstract store, over the hand layer. -/
namespace AL
open PySem PySem.Spec PyProof.Rows L2

/-- a value as a tree: tuples by what they hold, mutable objects by their address; rol: a list that nobody changes -/
inductive D where
  | non | bl (b : Bool) | int (i : Int) | str (x : Str) | ref (a : Addr) | ty (n : String) | tup (ds : List D) | rol (ds : List D)

/-- a list that stands still: known to the object, or of the module -/
def SqR (K : PySem.W.Frag) (H : Hp) (a : Addr) (xs : List V) : Prop :=
  (∃ o, H a = some (.frz o (.lst xs))) ∨
    ∃ (o : Obj) (its : Array Value) (n : Nat), K.lookup a = some o ∧ o.cls = .type "list" ∧ o.dict = none ∧ o.data = .seq its n ∧ its.size ≤ sizeLine ∧ Vals xs its.toList
theorem SqR.l {K : PySem.W.Frag} {H : Hp} {a : Addr} {xs : List V} (h : SqR K H a xs) : SqL K H a xs := by
  rcases h with ⟨o, h⟩ | h
  · exact .inl (.inr ⟨o, h⟩)
  · exact .inr h

mutual
/-- the value v is the tree d -/
inductive DV (K : PySem.W.Frag) (H : Hp) : V → D → Prop
  | non : DV K H .non .non
  | bl (b : Bool) : DV K H (.bl b) (.bl b)
  | int (i : Int) : DV K H (.int i) (.int i)
  | str (x : Str) : DV K H (.str x) (.str x)
  | ref (a : Addr) : DV K H (.ref a) (.ref a)
  | ty (n : String) : DV K H (.ty n) (.ty n)
  | tup {a : Addr} {xs : List V} {ds : List D} : SqT K H a xs → DVs K H xs ds → DV K H (.ref a) (.tup ds)
  | rol {a : Addr} {xs : List V} {ds : List D} : SqR K H a xs → DVs K H xs ds → DV K H (.ref a) (.rol ds)
inductive DVs (K : PySem.W.Frag) (H : Hp) : List V → List D → Prop
  | nil : DVs K H [] []
  | cons {v : V} {vs : List V} {d : D} {ds : List D} : DV K H v d → DVs K H vs ds → DVs K H (v :: vs) (d :: ds)
end

/-- named values (attributes) -/
inductive FVs (K : PySem.W.Frag) (H : Hp) : List (Str × V) → List (Str × D) → Prop
  | nil : FVs K H [] []
  | cons {n : Str} {v : V} {vs : List (Str × V)} {d : D} {ds : List (Str × D)} : DV K H v d → FVs K H vs ds → FVs K H ((n, v) :: vs) ((n, d) :: ds)
/-- keyed values -/
inductive KVs (K : PySem.W.Frag) (H : Hp) : List (Key × V) → List (Key × D) → Prop
  | nil : KVs K H [] []
  | cons {n : Key} {v : V} {vs : List (Key × V)} {d : D} {ds : List (Key × D)} : DV K H v d → KVs K H vs ds → KVs K H ((n, v) :: vs) ((n, d) :: ds)

section
variable {K : PySem.W.Frag} {H H' : Hp}
/-- what a tree leans on is kept -/
def TK (K : PySem.W.Frag) (H H' : Hp) : Prop := (∀ a xs, SqT K H a xs → SqT K H' a xs) ∧ ∀ a xs, SqR K H a xs → SqR K H' a xs
mutual
theorem DV.mono (t : TK K H H') : ∀ (d : D) (v : V), DV K H v d → DV K H' v d
  | .non, _, h => by cases h; exact .non
  | .bl b, _, h => by cases h; exact .bl b
  | .int i, _, h => by cases h; exact .int i
  | .str x, _, h => by cases h; exact .str x
  | .ref a, _, h => by cases h; exact .ref a
  | .ty n, _, h => by cases h; exact .ty n
  | .tup ds, _, h => by
    cases h with
    | tup h1 h2 => exact .tup (t.1 _ _ h1) (DVs.mono t ds _ h2)
  | .rol ds, _, h => by
    cases h with
    | rol h1 h2 => exact .rol (t.2 _ _ h1) (DVs.mono t ds _ h2)
theorem DVs.mono (t : TK K H H') : ∀ (ds : List D) (vs : List V), DVs K H vs ds → DVs K H' vs ds
  | [], _, h => by cases h; exact .nil
  | d :: ds, _, h => by
    cases h with
    | cons h1 h2 => exact .cons (DV.mono t d _ h1) (DVs.mono t ds _ h2)
end
theorem FVs.mono (t : TK K H H') {vs : List (Str × V)} {ds : List (Str × D)} (h : FVs K H vs ds) : FVs K H' vs ds := by
  induction h with
  | nil => exact .nil
  | cons h1 _ ih => exact .cons (DV.mono t _ _ h1) ih
theorem KVs.mono (t : TK K H H') {vs : List (Key × V)} {ds : List (Key × D)} (h : KVs K H vs ds) : KVs K H' vs ds := by
  induction h with
  | nil => exact .nil
  | cons h1 _ ih => exact .cons (DV.mono t _ _ h1) ih

theorem DVs.length {vs : List V} {ds : List D} (h : DVs K H vs ds) : vs.length = ds.length := by
  induction ds generalizing vs with
  | nil => cases h; rfl
  | cons d ds ih => cases h with | cons _ h2 => simp [ih h2]
theorem DVs.append {vs ws : List V} {ds es : List D} (h : DVs K H vs ds) (h' : DVs K H ws es) : DVs K H (vs ++ ws) (ds ++ es) := by
  induction ds generalizing vs with
  | nil => cases h; exact h'
  | cons d ds ih => cases h with | cons h1 h2 => exact .cons h1 (ih h2)
theorem DVs.take {vs : List V} {ds : List D} (n : Nat) (h : DVs K H vs ds) : DVs K H (vs.take n) (ds.take n) := by
  induction n generalizing vs ds with
  | zero => exact .nil
  | succ n ih =>
    cases ds with
    | nil => cases h; exact .nil
    | cons d ds => cases h with | cons h1 h2 => exact .cons h1 (ih h2)
theorem DVs.drop {vs : List V} {ds : List D} (n : Nat) (h : DVs K H vs ds) : DVs K H (vs.drop n) (ds.drop n) := by
  induction n generalizing vs ds with
  | zero => exact h
  | succ n ih =>
    cases ds with
    | nil => cases h; exact .nil
    | cons d ds => cases h with | cons h1 h2 => exact ih h2
theorem DVs.get {vs : List V} {ds : List D} {i : Nat} {d : D} (h : DVs K H vs ds) (e : ds[i]? = some d) : ∃ v, vs[i]? = some v ∧ DV K H v d := by
  induction i generalizing vs ds with
  | zero =>
    cases ds with
    | nil => simp at e
    | cons d' ds =>
      cases h with
      | cons h1 h2 =>
        simp at e; subst e
        exact ⟨_, rfl, h1⟩
  | succ i ih =>
    cases ds with
    | nil => simp at e
    | cons d' ds =>
      cases h with
      | cons h1 h2 =>
        obtain ⟨v, e1, e2⟩ := ih h2 (by simpa using e)
        exact ⟨v, by simpa using e1, e2⟩
theorem DVs.getV {vs : List V} {ds : List D} {i : Nat} {v : V} (h : DVs K H vs ds) (e : vs[i]? = some v) : ∃ d, ds[i]? = some d ∧ DV K H v d := by
  induction i generalizing vs ds with
  | zero =>
    cases ds with
    | nil => cases h; simp at e
    | cons d' ds =>
      cases h with
      | cons h1 h2 =>
        simp at e; subst e
        exact ⟨_, rfl, h1⟩
  | succ i ih =>
    cases ds with
    | nil => cases h; simp at e
    | cons d' ds =>
      cases h with
      | cons h1 h2 =>
        obtain ⟨v, e1, e2⟩ := ih h2 (by simpa using e)
        exact ⟨v, by simpa using e1, e2⟩
theorem DVs.set {vs : List V} {ds : List D} {v : V} {d : D} (i : Nat) (h : DVs K H vs ds) (r : DV K H v d) : DVs K H (vs.set i v) (ds.set i d) := by
  induction i generalizing vs ds with
  | zero =>
    cases ds with
    | nil => cases h; exact .nil
    | cons d' ds => cases h with | cons h1 h2 => exact .cons r h2
  | succ i ih =>
    cases ds with
    | nil => cases h; exact .nil
    | cons d' ds => cases h with | cons h1 h2 => exact .cons h1 (ih h2)
theorem DVs.reverse {vs : List V} {ds : List D} (h : DVs K H vs ds) : DVs K H vs.reverse ds.reverse := by
  induction ds generalizing vs with
  | nil => cases h; exact .nil
  | cons d ds ih =>
    cases h with
    | cons h1 h2 =>
      rw [List.reverse_cons, List.reverse_cons]
      exact (ih h2).append (.cons h1 .nil)
theorem DVs.one {v : V} {d : D} (h : DV K H v d) : DVs K H [v] [d] := .cons h .nil
theorem DVs.ints : ∀ ns : List Int, DVs K H (ns.map V.int) (ns.map D.int)
  | [] => .nil
  | n :: ns => .cons (.int n) (DVs.ints ns)
theorem DVs.strs : ∀ ns : List Str, DVs K H (ns.map V.str) (ns.map D.str)
  | [] => .nil
  | n :: ns => .cons (.str n) (DVs.strs ns)
theorem DVs.strs_inv : ∀ {ns : List Str} {vs : List V}, DVs K H vs (ns.map D.str) → vs = ns.map V.str
  | [], _, h => by cases h; rfl
  | n :: ns, _, h => by
    cases h with
    | cons h1 h2 => cases h1; rw [DVs.strs_inv h2]; rfl
theorem DVs.ints_inv : ∀ {ns : List Int} {vs : List V}, DVs K H vs (ns.map D.int) → vs = ns.map V.int
  | [], _, h => by cases h; rfl
  | n :: ns, _, h => by
    cases h with
    | cons h1 h2 => cases h1; rw [DVs.ints_inv h2]; rfl
theorem DVs.bls_inv : ∀ {ns : List Bool} {vs : List V}, DVs K H vs (ns.map D.bl) → vs = ns.map V.bl
  | [], _, h => by cases h; rfl
  | n :: ns, _, h => by
    cases h with
    | cons h1 h2 => cases h1; rw [DVs.bls_inv h2]; rfl
theorem FVs.look {vs : List (Str × V)} {ds : List (Str × D)} {f : Str} {d : D} (h : FVs K H vs ds) (e : ds.lookup f = some d) : ∃ v, vs.lookup f = some v ∧ DV K H v d := by
  induction h with
  | nil => simp at e
  | cons h1 _ ih =>
    rename_i n v vs d' ds _
    rw [List.lookup_cons] at e ⊢
    by_cases q : (f == n) = true
    · rw [q] at e ⊢
      cases e
      exact ⟨_, rfl, h1⟩
    · have q' : (f == n) = false := by simpa using q
      rw [q'] at e ⊢
      exact ih e
theorem FVs.lookN {vs : List (Str × V)} {ds : List (Str × D)} {f : Str} (h : FVs K H vs ds) (e : ds.lookup f = none) : vs.lookup f = none := by
  induction h with
  | nil => rfl
  | cons h1 _ ih =>
    rename_i n v vs d' ds _
    rw [List.lookup_cons] at e ⊢
    by_cases q : (f == n) = true
    · rw [q] at e; cases e
    · have q' : (f == n) = false := by simpa using q
      rw [q'] at e ⊢
      exact ih e
end

/-- a mutable object -/
inductive Ob where
  | lst (ds : List D)
  | ins (C : Addr) (fs : List (Str × D))
  | dik (kvs : List (Key × D))
abbrev Sto := Addr → Option Ob
def put (S : Sto) (a : Addr) (o : Ob) : Sto := fun b => if b = a then some o else S b
theorem put_same {S : Sto} {a : Addr} {o : Ob} : put S a o a = some o := by unfold put; rw [if_pos rfl]
theorem put_ne {S : Sto} {a b : Addr} {o : Ob} (h : b ≠ a) : put S a o b = S b := by unfold put; rw [if_neg h]
theorem put_put {S : Sto} {a : Addr} {o u : Ob} : put (put S a o) a u = put S a u := by
  funext b; unfold put; split <;> rfl
abbrev Lc := List (Option D)

def ObR (K : PySem.W.Frag) (H : Hp) (a : Addr) : Ob → Prop
  | .lst ds => ∃ vs, H a = some (.lst vs) ∧ DVs K H vs ds
  | .ins C fs => ∃ dx vs, H a = some (.ins C dx vs) ∧ FVs K H vs fs
  | .dik kvs => ∃ vs, H a = some (.dK vs) ∧ KVs K H vs kvs
/-- the store is held -/
def SR (K : PySem.W.Frag) (S : Sto) (H : Hp) : Prop := ∀ a o, S a = some o → ObR K H a o
/-- the slots are held -/
def LR (K : PySem.W.Frag) (H : Hp) (l : Lc) (σ : L2.St) : Prop := l.length = σ.length ∧ ∀ (i : Nat) (d : D), l[i]? = some (some d) → ∃ v, σ[i]? = some (some v) ∧ DV K H v d
/-- what is not in the store stays, and does not come into it -/
def FW (S : Sto) (H : Hp) (S' : Sto) (H' : Hp) : Prop := ∀ b o, H b = some o → S b = none → H' b = some o ∧ S' b = none

section
variable {K : PySem.W.Frag} {S S1 S2 S' : Sto} {H H1 H2 H' : Hp} {a : Addr} {o : Ob} {l : Lc} {σ : L2.St}
theorem FW.refl : FW S H S H := fun _ _ h e => ⟨h, e⟩
theorem FW.trans (h1 : FW S H S1 H1) (h2 : FW S1 H1 S2 H2) : FW S H S2 H2 := fun b o h e => let ⟨p, q⟩ := h1 b o h e; h2 b o p q
theorem ObR.mut (h : ObR K H a o) : Mut (H a) := by
  cases o with
  | lst ds => obtain ⟨vs, e, _⟩ := h; rw [e]; trivial
  | ins C fs => obtain ⟨dx, vs, e, _⟩ := h; rw [e]; trivial
  | dik kvs => obtain ⟨vs, e, _⟩ := h; rw [e]; trivial
theorem ObR.some (h : ObR K H a o) : ∃ u, H a = Option.some u := by
  cases o with
  | lst ds => obtain ⟨vs, e, _⟩ := h; exact ⟨_, e⟩
  | ins C fs => obtain ⟨dx, vs, e, _⟩ := h; exact ⟨_, e⟩
  | dik kvs => obtain ⟨vs, e, _⟩ := h; exact ⟨_, e⟩
theorem SR.out (r : SR K S H) (h : ¬ Mut (H a)) : S a = none := by
  cases e : S a with
  | none => rfl
  | some o => exact absurd (r a o e).mut h
theorem SR.fresh (r : SR K S H) (h : H a = none) : S a = none := by
  cases e : S a with
  | none => rfl
  | some o => obtain ⟨u, q⟩ := (r a o e).some; rw [h] at q; cases q
theorem FW.tk (r : SR K S H) (f : FW S H S' H') : TK K H H' := by
  refine ⟨fun a xs h => ?_, fun a xs h => ?_⟩
  · rcases h with (h | ⟨o, h⟩) | h
    · exact .inl (.inl (f a _ h (r.out (by rw [h]; exact fun z => z))).1)
    · exact .inl (.inr ⟨o, (f a _ h (r.out (by rw [h]; exact fun z => z))).1⟩)
    · exact .inr h
  · rcases h with ⟨o, h⟩ | h
    · exact .inl ⟨o, (f a _ h (r.out (by rw [h]; exact fun z => z))).1⟩
    · exact .inr h
theorem LR.mono (t : TK K H H') (h : LR K H l σ) : LR K H' l σ := ⟨h.1, fun i d e => let ⟨v, q, r⟩ := h.2 i d e; ⟨v, q, DV.mono t _ _ r⟩⟩
theorem ObR.mono (t : TK K H H') (e : H' a = H a) (h : ObR K H a o) : ObR K H' a o := by
  cases o with
  | lst ds => obtain ⟨vs, q, r⟩ := h; exact ⟨vs, e.trans q, DVs.mono t _ _ r⟩
  | ins C fs => obtain ⟨dx, vs, q, r⟩ := h; exact ⟨dx, vs, e.trans q, r.mono t⟩
  | dik kvs => obtain ⟨vs, q, r⟩ := h; exact ⟨vs, e.trans q, r.mono t⟩
/-- a new object that is not in the store (a tuple) -/
theorem FW.upd {u : HO} (h : H a = none) : FW S H S (upd H a u) := fun b o e q => ⟨by rw [upd_ne (ne_of_none e h)]; exact e, q⟩
theorem SR.upd {u : HO} (r : SR K S H) (h : H a = none) : SR K S (upd H a u) := fun b o e => by
  obtain ⟨w, hw⟩ := (r b o e).some
  exact (r b o e).mono (FW.upd h |>.tk r) (by rw [upd_ne (ne_of_none hw h)])
/-- a new object of the store -/
theorem FW.new {u : HO} (h : H a = none) : FW S H (put S a o) (L2.upd H a u) := fun b w e q => by
  have n := ne_of_none e h
  exact ⟨by rw [upd_ne n]; exact e, by rw [put_ne n]; exact q⟩
theorem SR.new {u : HO} (r : SR K S H) (h : H a = none) (ho : ObR K (L2.upd H a u) a o) : SR K (put S a o) (L2.upd H a u) := fun b w e => by
  by_cases q : b = a
  · subst q; rw [put_same] at e; cases e; exact ho
  · rw [put_ne q] at e
    exact r.upd h b w e
/-- an object of the store is changed -/
theorem FW.chg {u : HO} {o0 : Ob} (h : S a = some o0) : FW S H (put S a o) (L2.upd H a u) := fun b w e q => by
  have n : b ≠ a := fun z => by subst z; rw [h] at q; cases q
  exact ⟨by rw [upd_ne n]; exact e, by rw [put_ne n]; exact q⟩
theorem SR.chg {u : HO} {o0 : Ob} (r : SR K S H) (h : S a = some o0) (ho : ObR K (L2.upd H a u) a o) : SR K (put S a o) (L2.upd H a u) := fun b w e => by
  by_cases q : b = a
  · subst q; rw [put_same] at e; cases e; exact ho
  · rw [put_ne q] at e
    exact (r b w e).mono (FW.chg (o := o) (u := u) h |>.tk r) (by rw [upd_ne q])
theorem LR.set {v : V} {d : D} (i : Nat) (h : LR K H l σ) (r : DV K H v d) : LR K H (l.set i (some d)) (σ.set i (some v)) := by
  refine ⟨by simp [h.1], fun j e q => ?_⟩
  by_cases hj : i = j
  · subst hj
    by_cases hi : i < l.length
    · rw [List.getElem?_set_self hi] at q
      cases q
      exact ⟨v, List.getElem?_set_self (h.1 ▸ hi), r⟩
    · rw [List.getElem?_eq_none (by simpa using hi)] at q; cases q
  · rw [List.getElem?_set_ne hj] at q
    obtain ⟨w, q1, q2⟩ := h.2 j e q
    exact ⟨w, by rw [List.getElem?_set_ne hj]; exact q1, q2⟩
end

/-! ### judgements -/
abbrev DK := D → Sto → Prop
abbrev TEa := Lc → Sto → DK → Prop
abbrev TTa := Lc → Sto → (Bool → Sto → Prop) → Prop
abbrev TAa := Lc → Sto → (List D → Sto → Prop) → Prop
structure EndsA where
  nx : Lc → Sto → Prop
  rt : DK
  bk : Lc → Sto → Prop := fun _ _ => False
  ct : Lc → Sto → Prop := fun _ _ => False
abbrev TSa := EndsA → Lc → Sto → Prop

def LE (K : PySem.W.Frag) (t : TEa) : TE := fun σ H Qc => ∃ l S Q, LR K H l σ ∧ SR K S H ∧ t l S Q ∧ ∀ d S' v H', Q d S' → SR K S' H' → FW S H S' H' → DV K H' v d → Qc v H'
def LT (K : PySem.W.Frag) (t : TTa) : TT := fun σ H Qc => ∃ l S Q, LR K H l σ ∧ SR K S H ∧ t l S Q ∧ ∀ b S' H', Q b S' → SR K S' H' → FW S H S' H' → Qc b H'
def LA (K : PySem.W.Frag) (t : TAa) : TA := fun σ H Qc => ∃ l S Q, LR K H l σ ∧ SR K S H ∧ t l S Q ∧ ∀ ds S' vs H', Q ds S' → SR K S' H' → FW S H S' H' → DVs K H' vs ds → Qc vs H'
def LS (K : PySem.W.Frag) (t : TSa) : TS := fun Dc σ H => ∃ l S D, LR K H l σ ∧ SR K S H ∧ t D l S ∧
  (∀ l' S' σ' H', D.nx l' S' → LR K H' l' σ' → SR K S' H' → FW S H S' H' → Dc.nx σ' H') ∧
  (∀ d S' v H', D.rt d S' → SR K S' H' → FW S H S' H' → DV K H' v d → Dc.rt v H') ∧
  (∀ l' S' σ' H', D.bk l' S' → LR K H' l' σ' → SR K S' H' → FW S H S' H' → Dc.bk σ' H') ∧
  (∀ l' S' σ' H', D.ct l' S' → LR K H' l' σ' → SR K S' H' → FW S H S' H' → Dc.ct σ' H')
def AE (X : Cx) (e : Expr) (t : TEa) : Prop := PE X e (LE X.K t)
def AT (X : Cx) (e : Expr) (t : TTa) : Prop := PT X e (LT X.K t)
def AA (X : Cx) (es : List Expr) (t : TAa) : Prop := PA X es (LA X.K t)
def AS (X : Cx) (st : Stmt) (t : TSa) : Prop := PS X st (LS X.K t)
def ASs (X : Cx) (st : List Stmt) (t : TSa) : Prop := PSs X st (LS X.K t)

section
variable {X : Cx}
theorem PE.imp {e : Expr} {t u : TE} (h : PE X e t) (i : ∀ σ H Q, u σ H Q → t σ H Q) : PE X e u := ⟨fun pins s σ H Q I q => h.run pins s σ H Q I (i _ _ _ q)⟩
theorem PT.imp {e : Expr} {t u : TT} (h : PT X e t) (i : ∀ σ H Q, u σ H Q → t σ H Q) : PT X e u := ⟨fun pins s σ H Q I q => h.run pins s σ H Q I (i _ _ _ q)⟩
theorem PA.imp {e : List Expr} {t u : TA} (h : PA X e t) (i : ∀ σ H Q, u σ H Q → t σ H Q) : PA X e u := ⟨fun pos pins s σ H Q I q => h.run pos pins s σ H Q I (i _ _ _ q)⟩
theorem PS.imp {e : Stmt} {t u : TS} (h : PS X e t) (i : ∀ D σ H, u D σ H → t D σ H) : PS X e u := ⟨fun pins s σ H D I q => h.run pins s σ H D I (i _ _ _ q)⟩
theorem PSs.imp {e : List Stmt} {t u : TS} (h : PSs X e t) (i : ∀ D σ H, u D σ H → t D σ H) : PSs X e u := ⟨fun pins s σ H D I q => h.run pins s σ H D I (i _ _ _ q)⟩
theorem PW.imp {e : Expr} {t u : TT} (h : PW X e t) (i : ∀ σ H Q, u σ H Q → t σ H Q) : PW X e u := ⟨fun wh pins s σ H Q I q => h.run wh pins s σ H Q I (i _ _ _ q)⟩
end

section
variable {K : PySem.W.Frag} {l : Lc} {S : Sto} {σ : L2.St} {H : Hp}
/-- run a part: what follows has the new heap, with the frame from here -/
theorem LE.go {t : TEa} {Q : DK} {Qc : VK} (r : LR K H l σ) (s : SR K S H) (h : t l S Q)
    (k : ∀ d S' v H', Q d S' → LR K H' l σ → SR K S' H' → FW S H S' H' → DV K H' v d → Qc v H') : LE K t σ H Qc :=
  ⟨l, S, Q, r, s, h, fun d S' v H' q s' f dv => k d S' v H' q (r.mono (f.tk s)) s' f dv⟩
theorem LT.go {t : TTa} {Q : Bool → Sto → Prop} {Qc : Bool → Hp → Prop} (r : LR K H l σ) (s : SR K S H) (h : t l S Q)
    (k : ∀ d S' H', Q d S' → LR K H' l σ → SR K S' H' → FW S H S' H' → Qc d H') : LT K t σ H Qc :=
  ⟨l, S, Q, r, s, h, fun d S' H' q s' f => k d S' H' q (r.mono (f.tk s)) s' f⟩
theorem LA.go {t : TAa} {Q : List D → Sto → Prop} {Qc : List V → Hp → Prop} (r : LR K H l σ) (s : SR K S H) (h : t l S Q)
    (k : ∀ d S' v H', Q d S' → LR K H' l σ → SR K S' H' → FW S H S' H' → DVs K H' v d → Qc v H') : LA K t σ H Qc :=
  ⟨l, S, Q, r, s, h, fun d S' v H' q s' f dv => k d S' v H' q (r.mono (f.tk s)) s' f dv⟩
end

/-! ### names, constants -/
def aVar (i : Nat) : TEa := fun l S Q => match l[i]? with | some (some d) => Q d S | _ => False
def aC (d : D) : TEa := fun _ S Q => Q d S
section
variable {X : Cx} {pos : Pos}
theorem ae_var (i : Nat) {x : Str} (hN : X.N[i]? = some x := by rfl) (hv : Vis X.env.scope x := by first | exact Or.inl rfl | exact Or.inr (Or.inl rfl) | exact Or.inr (Or.inr rfl)) (hd : (x == ("__debug__" : Str)) = false := by decide)
    (hcd : (x == ("__classdict__" : Str)) = false := by decide) : AE X (.Name x pos) (aVar i) := by
  refine PE.imp (pe_var hN hv hd hcd) fun σ H Qc ⟨l, S, Q, r, s, h, k⟩ => ?_
  unfold aVar at h
  split at h
  · rename_i d e
    obtain ⟨v, e1, e2⟩ := r.2 i d e
    exact ⟨v, e1, k d S v H h s .refl e2⟩
  · exact h.elim
theorem ae_int {i j} : AE X (.Constant (.int i) j pos) (aC (.int i)) := PE.imp pe_int fun _ H _ ⟨_, S, _, _, s, h, k⟩ => k _ S _ H h s .refl (.int i)
theorem ae_bl {i j} : AE X (.Constant (.bool i) j pos) (aC (.bl i)) := PE.imp pe_bl fun _ H _ ⟨_, S, _, _, s, h, k⟩ => k _ S _ H h s .refl (.bl i)
theorem ae_non {j} : AE X (.Constant .none j pos) (aC .non) := PE.imp pe_non fun _ H _ ⟨_, S, _, _, s, h, k⟩ => k _ S _ H h s .refl .non
theorem ae_str {i j} : AE X (.Constant (.str i) j pos) (aC (.str i)) := PE.imp pe_str fun _ H _ ⟨_, S, _, _, s, h, k⟩ => k _ S _ H h s .refl (.str i)
/-- a module's constant: a flat value -/
theorem ae_glob {x : Str} {v : V} {d : D} {u : Value} (hg : Gl X x) (hm : X.mg x = some u) (r : RelV v u) (dv : ∀ H, DV X.K H v d) (hd : (x == ("__debug__" : Str)) = false := by decide) : AE X (.Name x pos) (aC d) :=
  PE.imp (pe_glob hg hm r hd) fun _ H _ ⟨_, S, _, _, s, h, k⟩ => k _ S _ H h s .refl (dv H)
end

/-! ### argument lists, tuples, lists -/
def aNil : TAa := fun _ S Q => Q [] S
def aCons (ta : TEa) (tr : TAa) : TAa := fun l S Q => ta l S fun x S1 => tr l S1 fun xs S2 => Q (x :: xs) S2
def aTup (t : TAa) : TEa := fun l S Q => t l S fun xs S1 => xs.length ≤ sizeLine ∧ Q (.tup xs) S1
def aLst (t : TAa) : TEa := fun l S Q => t l S fun xs S1 => xs.length ≤ sizeLine ∧ ∀ p, S1 p = none → Q (.ref p) (put S1 p (.lst xs))
section
variable {X : Cx} {pos : Pos} {e : Expr} {es : List Expr} {te : TEa} {t : TAa}
theorem aa_nil : AA X [] aNil := PA.imp pa_nil fun _ H _ ⟨_, S, _, _, s, h, k⟩ => k _ S _ H h s .refl .nil
theorem aa_cons (ha : AE X e te) (hr : AA X es t) (hs : starEach (e :: es) X.env = (false, eval e X.env) :: starEach es X.env := by rfl) : AA X (e :: es) (aCons te t) := by
  refine PA.imp (pa_cons ha hr hs) fun σ H Qc ⟨l, S, Q, r, s, h, k⟩ => ?_
  refine LE.go r s h fun d S1 v H1 q1 r1 s1 f1 dv => ?_
  refine LA.go r1 s1 q1 fun ds S2 vs H2 q2 r2 s2 f2 dvs => ?_
  exact k _ S2 _ H2 q2 s2 (f1.trans f2) (.cons (DV.mono (f2.tk s1) _ _ dv) dvs)
theorem ae_tup {x1} (h : AA X es t) : AE X (.Tuple es x1 pos) (aTup t) := by
  refine PE.imp (pe_tup h) fun σ H Qc ⟨l, S, Q, r, s, h, k⟩ => ?_
  refine LA.go r s h fun d S1 v H1 ⟨z, q1⟩ r1 s1 f1 dv => ?_
  refine ⟨by rw [dv.length]; exact z, fun p hp => ?_⟩
  have f2 : FW S1 H1 S1 (upd H1 p (.tup v)) := FW.upd hp
  exact k _ S1 _ _ q1 (s1.upd hp) (f1.trans f2) (.tup (SqT.of upd_same) (DVs.mono (f2.tk s1) _ _ dv))
theorem ae_lst (h : AA X es t) : AE X (.List es pos) (aLst t) := by
  refine PE.imp (pe_lst h) fun σ H Qc ⟨l, S, Q, r, s, h, k⟩ => ?_
  refine LA.go r s h fun d S1 v H1 ⟨z, q1⟩ r1 s1 f1 dv => ?_
  refine ⟨by rw [dv.length]; exact z, fun p hp => ?_⟩
  have f2 : FW S1 H1 (put S1 p (.lst d)) (upd H1 p (.lst v)) := FW.new hp
  exact k _ _ _ _ (q1 p (s1.fresh hp)) (s1.new hp ⟨v, upd_same, DVs.mono (f2.tk s1) _ _ dv⟩) (f1.trans f2) (.ref p)
end

/-! ### operations by values -/
abbrev R2a := D → D → Sto → DK → Prop
def LO (K : PySem.W.Frag) (r : R2a) : R2 := fun x y H Qc => ∃ d e S Q, DV K H x d ∧ DV K H y e ∧ SR K S H ∧ r d e S Q ∧ ∀ d' S' v H', Q d' S' → SR K S' H' → FW S H S' H' → DV K H' v d' → Qc v H'
def LU (K : PySem.W.Frag) (r : D → Sto → DK → Prop) : V → Hp → VK → Prop := fun x H Qc => ∃ d S Q, DV K H x d ∧ SR K S H ∧ r d S Q ∧ ∀ d' S' v H', Q d' S' → SR K S' H' → FW S H S' H' → DV K H' v d' → Qc v H'
def LC (K : PySem.W.Frag) (r : List D → Sto → DK → Prop) : List V → Hp → VK → Prop := fun xs H Qc => ∃ ds S Q, DVs K H xs ds ∧ SR K S H ∧ r ds S Q ∧ ∀ d' S' v H', Q d' S' → SR K S' H' → FW S H S' H' → DV K H' v d' → Qc v H'
def LM (K : PySem.W.Frag) (r : D → List D → Sto → DK → Prop) : V → List V → Hp → VK → Prop := fun x xs H Qc => ∃ d ds S Q, DV K H x d ∧ DVs K H xs ds ∧ SR K S H ∧ r d ds S Q ∧ ∀ d' S' v H', Q d' S' → SR K S' H' → FW S H S' H' → DV K H' v d' → Qc v H'
def OA (X : Cx) (f : Value → Value → Sem Value) (r : R2a) : Prop := OpR X f (LO X.K r)
def UA (X : Cx) (f : Value → Sem Value) (r : D → Sto → DK → Prop) : Prop := UnR X f (LU X.K r)
def CA (X : Cx) (f : Value) (r : List D → Sto → DK → Prop) : Prop := CallR X f (LC X.K r)
def MA (X : Cx) (id : String) (r : D → List D → Sto → DK → Prop) : Prop := MtR X id (LM X.K r)
def IA (X : Cx) (r : R2a) : Prop := IxR X (LO X.K r)
def aOp (r : R2a) (ta tb : TEa) : TEa := fun l S Q => ta l S fun x S1 => tb l S1 fun y S2 => r x y S2 Q
def aUn (r : D → Sto → DK → Prop) (ta : TEa) : TEa := fun l S Q => ta l S fun x S1 => r x S1 Q
def aCall (r : List D → Sto → DK → Prop) (t : TAa) : TEa := fun l S Q => t l S fun xs S1 => r xs S1 Q
/-- the value is a bool, as a test -/
def aTest (t : TEa) : TTa := fun l S Q => t l S fun x S1 => match x with | .bl b => Q b S1 | _ => False
section
variable {X : Cx} {pos : Pos} {a b c e : Expr} {es : List Expr} {ta tb tc te : TEa} {t : TAa} {r r' : R2a}
theorem op_lift {ta tb : TEa} {r : R2a} {K : PySem.W.Frag} : ∀ σ H Q, LE K (aOp r ta tb) σ H Q → tOp (LO K r) (LE K ta) (LE K tb) σ H Q := fun σ H Qc ⟨l, S, Q, r, s, h, k⟩ => by
  refine LE.go r s h fun d S1 v H1 q1 r1 s1 f1 dv => ?_
  refine LE.go r1 s1 q1 fun d2 S2 v2 H2 q2 r2 s2 f2 dv2 => ?_
  exact ⟨d, d2, S2, Q, DV.mono (f2.tk s1) _ _ dv, dv2, s2, q2, fun d' S' v' H' q s' f' dv' => k d' S' v' H' q s' (f1.trans (f2.trans f')) dv'⟩
theorem ae_op {op : Operator} (ho : OA X (binaryOp op) r) (ha : AE X a ta) (hb : AE X b tb) : AE X (.BinOp a op b pos) (aOp r ta tb) := PE.imp (pe_op ho ha hb) op_lift
theorem ae_cmp {op : CmpOp} (ho : OA X (compareOp op) r) (ha : AE X a ta) (hb : AE X b tb) (hm : behindInMarks op b = false := by first | rfl | exact nomark _) : AE X (.Compare a [op] [b] pos) (aOp r ta tb) := PE.imp (pe_cmpR ho ha hb hm) op_lift
theorem test_lift {t : TEa} {K : PySem.W.Frag} : ∀ σ H Q, LT K (aTest t) σ H Q → tTest (LE K t) σ H Q := fun σ H Qc ⟨l, S, Q, r, s, h, k⟩ => by
  refine LE.go r s h fun d S1 v H1 q1 r1 s1 f1 dv => ?_
  cases d with
  | bl b => cases dv; exact ⟨b, rfl, k b S1 H1 q1 s1 f1⟩
  | non => exact q1.elim
  | int _ => exact q1.elim
  | str _ => exact q1.elim
  | ref _ => exact q1.elim
  | ty _ => exact q1.elim
  | tup _ => exact q1.elim
  | rol _ => exact q1.elim
theorem tTest.imp {t u : TE} (i : ∀ σ H Q, u σ H Q → t σ H Q) : ∀ σ H Q, tTest u σ H Q → tTest t σ H Q := fun σ H Q h => i _ _ _ h
theorem at_cmp {op : CmpOp} (ho : OA X (compareOp op) r) (ha : AE X a ta) (hb : AE X b tb) (hm : behindInMarks op b = false := by first | rfl | exact nomark _) : AT X (.Compare a [op] [b] pos) (aTest (aOp r ta tb)) :=
  PT.imp (pt_cmpR ho ha hb hm) fun σ H Q h => tTest.imp op_lift _ _ _ (test_lift _ _ _ h)
/-- an expression that gives a bool, as a test -/
theorem at_val (h : AE X e te) (he : ∀ whole, isTrue e X.env whole = (do let v ← whole; standAt e.pos; holding [v] (truthy v)) := by intro _; rfl) : AT X e (aTest te) :=
  PT.imp (pt_val h he) fun σ H Q h => test_lift _ _ _ h
theorem ae_un {op : UnaryOp} {r : D → Sto → DK → Prop} (ho : UA X (unaryOp op) r) (ha : AE X a ta) : AE X (.UnaryOp op a pos) (aUn r ta) := by
  refine PE.imp (pe_un ho ha) fun σ H Qc ⟨l, S, Q, r, s, h, k⟩ => ?_
  refine LE.go r s h fun d S1 v H1 q1 r1 s1 f1 dv => ?_
  exact ⟨d, S1, Q, dv, s1, q1, fun d' S' v' H' q s' f' dv' => k d' S' v' H' q s' (f1.trans f') dv'⟩
theorem ae_ix {r : R2a} (hr : IA X r) (ha : AE X a ta) (hb : AE X b tb) (hs : PlainIx b := by intro _ _; rfl) : AE X (.Subscript a b pos) (aOp r ta tb) := PE.imp (pe_ix hr ha hb hs) op_lift
/-- a op b op' c -/
def aChain (r r' : R2a) (ta tb tc : TEa) : TEa := fun l S Q => ta l S fun x S1 => tb l S1 fun y S2 => r x y S2 fun z S3 => match z with
  | .bl true => tc l S3 fun w S4 => r' y w S4 Q
  | .bl false => Q (.bl false) S3
  | _ => False
theorem chain_lift {K : PySem.W.Frag} : ∀ σ H Q, LE K (aChain r r' ta tb tc) σ H Q → tChain (LO K r) (LO K r') (LE K ta) (LE K tb) (LE K tc) σ H Q := fun σ H Qc ⟨l, S, Q, r, s, h, k⟩ => by
  refine LE.go r s h fun d S1 v H1 q1 r1 s1 f1 dv => ?_
  refine LE.go r1 s1 q1 fun d2 S2 v2 H2 q2 r2 s2 f2 dv2 => ?_
  refine ⟨d, d2, S2, _, DV.mono (f2.tk s1) _ _ dv, dv2, s2, q2, fun d' S' v' H' q s' f' dv' => ?_⟩
  cases d' with
  | bl b =>
    cases dv'
    refine ⟨b, rfl, ?_⟩
    cases b with
    | true =>
      rw [if_pos rfl]
      refine LE.go (r2.mono (f'.tk s2)) s' q fun d4 S4 v4 H4 q4 r4 s4 f4 dv4 => ?_
      exact ⟨d2, d4, S4, Q, DV.mono (f4.tk s') _ _ (DV.mono (f'.tk s2) _ _ dv2), dv4, s4, q4, fun d5 S5 v5 H5 q5 s5 f5 dv5 => k d5 S5 v5 H5 q5 s5 (f1.trans (f2.trans (f'.trans (f4.trans f5)))) dv5⟩
    | false =>
      rw [if_neg Bool.false_ne_true]
      exact k _ S' _ H' q s' (f1.trans (f2.trans f')) (.bl false)
  | non => exact q.elim
  | int _ => exact q.elim
  | str _ => exact q.elim
  | ref _ => exact q.elim
  | ty _ => exact q.elim
  | tup _ => exact q.elim
  | rol _ => exact q.elim
theorem ae_chain {op op' : CmpOp} (ho : OA X (compareOp op) r) (ho' : OA X (compareOp op') r') (ha : AE X a ta) (hb : AE X b tb) (hc : AE X c tc)
    (hm : lastMarks [op, op'] [b, c] = false := by with_unfolding_all rfl) : AE X (.Compare a [op, op'] [b, c] pos) (aChain r r' ta tb tc) := PE.imp (pe_chain ho ho' ha hb hc hm) chain_lift
theorem at_chain {op op' : CmpOp} (ho : OA X (compareOp op) r) (ho' : OA X (compareOp op') r') (ha : AE X a ta) (hb : AE X b tb) (hc : AE X c tc)
    (hm : lastMarks [op, op'] [b, c] = false := by with_unfolding_all rfl) : AT X (.Compare a [op, op'] [b, c] pos) (aTest (aChain r r' ta tb tc)) :=
  PT.imp (pt_chain ho ho' ha hb hc hm) fun σ H Q h => tTest.imp chain_lift _ _ _ (test_lift _ _ _ h)

/-! ### and, or, not -/
variable {tA tB : TTa} {rest : List Expr}
def aAnd (t u : TTa) : TTa := fun l S Q => t l S fun c S1 => if c = true then u l S1 Q else Q false S1
def aOr (t u : TTa) : TTa := fun l S Q => t l S fun c S1 => if c = true then Q true S1 else u l S1 Q
def aNot (t : TTa) : TTa := fun l S Q => t l S fun c S1 => Q (!c) S1
def AW (X : Cx) (e : Expr) (t : TTa) : Prop := PW X e (LT X.K t)
theorem AW.at (h : AW X e tA) : AT X e tA := PW.pt h
theorem aw_and1 (ha : AT X a tA) : AW X (.BoolOp .And [a] pos) tA := pw_and1 ha
theorem aw_or1 (ha : AT X a tA) : AW X (.BoolOp .Or [a] pos) tA := pw_or1 ha
theorem aw_and (ha : AT X a tA) (hb : AW X (.BoolOp .And (b :: rest) pos) tB) : AW X (.BoolOp .And (a :: b :: rest) pos) (aAnd tA tB) := by
  refine PW.imp (pw_and ha hb) fun σ H Qc ⟨l, S, Q, r, s, h, k⟩ => ?_
  refine LT.go r s h fun d S1 H1 q1 r1 s1 f1 => ?_
  cases d with
  | true =>
    rw [if_pos rfl] at q1 ⊢
    exact LT.go r1 s1 q1 fun d2 S2 H2 q2 r2 s2 f2 => k d2 S2 H2 q2 s2 (f1.trans f2)
  | false =>
    rw [if_neg Bool.false_ne_true] at q1 ⊢
    exact k _ S1 H1 q1 s1 f1
theorem aw_or (ha : AT X a tA) (hb : AW X (.BoolOp .Or (b :: rest) pos) tB) : AW X (.BoolOp .Or (a :: b :: rest) pos) (aOr tA tB) := by
  refine PW.imp (pw_or ha hb) fun σ H Qc ⟨l, S, Q, r, s, h, k⟩ => ?_
  refine LT.go r s h fun d S1 H1 q1 r1 s1 f1 => ?_
  cases d with
  | false =>
    rw [if_neg Bool.false_ne_true] at q1 ⊢
    exact LT.go r1 s1 q1 fun d2 S2 H2 q2 r2 s2 f2 => k d2 S2 H2 q2 s2 (f1.trans f2)
  | true =>
    rw [if_pos rfl] at q1 ⊢
    exact k _ S1 H1 q1 s1 f1
theorem at_not (ha : AT X a tA) : AT X (.UnaryOp .Not a pos) (aNot tA) := by
  refine PT.imp (pt_not ha) fun σ H Qc ⟨l, S, Q, r, s, h, k⟩ => ?_
  exact LT.go r s h fun d S1 H1 q1 r1 s1 f1 => k _ S1 H1 q1 s1 f1
/-- as values, where all but the last are bools -/
def aAndV (ta tb : TEa) : TEa := fun l S Q => ta l S fun x S1 => match x with | .bl true => tb l S1 Q | .bl false => Q (.bl false) S1 | _ => False
def aOrV (ta tb : TEa) : TEa := fun l S Q => ta l S fun x S1 => match x with | .bl false => tb l S1 Q | .bl true => Q (.bl true) S1 | _ => False
def aNotV (ta : TEa) : TEa := fun l S Q => ta l S fun x S1 => match x with | .bl b => Q (.bl (!b)) S1 | _ => False
theorem ae_one {op} (h : AE X a ta) : AE X (.BoolOp op [a] pos) ta := pe_one h
theorem ae_and (ha : AE X a ta) (hb : AE X (.BoolOp .And (b :: rest) pos) tb) : AE X (.BoolOp .And (a :: b :: rest) pos) (aAndV ta tb) := by
  refine PE.imp (pe_and ha hb) fun σ H Qc ⟨l, S, Q, r, s, h, k⟩ => ?_
  refine LE.go r s h fun d S1 v H1 q1 r1 s1 f1 dv => ?_
  cases d with
  | bl c =>
    cases dv
    refine ⟨c, rfl, ?_⟩
    cases c with
    | true => rw [if_pos rfl]; exact LE.go r1 s1 q1 fun d2 S2 v2 H2 q2 r2 s2 f2 dv2 => k d2 S2 v2 H2 q2 s2 (f1.trans f2) dv2
    | false => rw [if_neg Bool.false_ne_true]; exact k _ S1 _ H1 q1 s1 f1 (.bl _)
  | non => exact q1.elim
  | int _ => exact q1.elim
  | str _ => exact q1.elim
  | ref _ => exact q1.elim
  | ty _ => exact q1.elim
  | tup _ => exact q1.elim
  | rol _ => exact q1.elim
theorem ae_or (ha : AE X a ta) (hb : AE X (.BoolOp .Or (b :: rest) pos) tb) : AE X (.BoolOp .Or (a :: b :: rest) pos) (aOrV ta tb) := by
  refine PE.imp (pe_or ha hb) fun σ H Qc ⟨l, S, Q, r, s, h, k⟩ => ?_
  refine LE.go r s h fun d S1 v H1 q1 r1 s1 f1 dv => ?_
  cases d with
  | bl c =>
    cases dv
    refine ⟨c, rfl, ?_⟩
    cases c with
    | false => rw [if_neg Bool.false_ne_true]; exact LE.go r1 s1 q1 fun d2 S2 v2 H2 q2 r2 s2 f2 dv2 => k d2 S2 v2 H2 q2 s2 (f1.trans f2) dv2
    | true => rw [if_pos rfl]; exact k _ S1 _ H1 q1 s1 f1 (.bl _)
  | non => exact q1.elim
  | int _ => exact q1.elim
  | str _ => exact q1.elim
  | ref _ => exact q1.elim
  | ty _ => exact q1.elim
  | tup _ => exact q1.elim
  | rol _ => exact q1.elim
theorem ae_not (ha : AE X a ta) : AE X (.UnaryOp .Not a pos) (aNotV ta) := by
  refine PE.imp (pe_not ha) fun σ H Qc ⟨l, S, Q, r, s, h, k⟩ => ?_
  refine LE.go r s h fun d S1 v H1 q1 r1 s1 f1 dv => ?_
  cases d with
  | bl c => cases dv; exact ⟨c, rfl, k _ S1 _ H1 q1 s1 f1 (.bl _)⟩
  | non => exact q1.elim
  | int _ => exact q1.elim
  | str _ => exact q1.elim
  | ref _ => exact q1.elim
  | ty _ => exact q1.elim
  | tup _ => exact q1.elim
  | rol _ => exact q1.elim
def aIf (t : TTa) (ta tb : TEa) : TEa := fun l S Q => t l S fun c S1 => if c = true then ta l S1 Q else tb l S1 Q
theorem ae_if (hc : AT X c tA) (ha : AE X a ta) (hb : AE X b tb) : AE X (.IfExp c a b pos) (aIf tA ta tb) := by
  refine PE.imp (pe_ifExp hc ha hb) fun σ H Qc ⟨l, S, Q, r, s, h, k⟩ => ?_
  refine LT.go r s h fun d S1 H1 q1 r1 s1 f1 => ?_
  cases d with
  | true => rw [if_pos rfl] at q1 ⊢; exact LE.go r1 s1 q1 fun d2 S2 v2 H2 q2 r2 s2 f2 dv2 => k d2 S2 v2 H2 q2 s2 (f1.trans f2) dv2
  | false => rw [if_neg Bool.false_ne_true] at q1 ⊢; exact LE.go r1 s1 q1 fun d2 S2 v2 H2 q2 r2 s2 f2 dv2 => k d2 S2 v2 H2 q2 s2 (f1.trans f2) dv2
end

/-! ### calls of built-ins by name -/
section
variable {X : Cx} {x : Str} {p pos apos cpos : Pos} {e o : Expr} {es : List Expr} {t : TAa} {to : TEa} {id T : String} {r : List D → Sto → DK → Prop}
theorem callB_lift {K : PySem.W.Frag} : ∀ σ H Q, LE K (aCall r t) σ H Q → tCB (LC K r) (LA K t) σ H Q := fun σ H Qc ⟨l, S, Q, r, s, h, k⟩ => by
  refine LA.go r s h fun d S1 v H1 q1 r1 s1 f1 dv => ?_
  exact ⟨d, S1, Q, dv, s1, q1, fun d' S' v' H' q s' f' dv' => k d' S' v' H' q s' (f1.trans f') dv'⟩
theorem ae_callB (hc : CA X (.builtin id) r) (hg : Gl X x) (hm : X.mg x = none) (hv : bootBuiltins x = some (.builtin id)) (ha : AA X (e :: es) t) (hn : x ≠ "__name__" := by decide) (hdb : (x == ("__debug__" : Str)) = false := by decide)
    (he : starEach (e :: es) X.env = (false, eval e X.env) :: starEach es X.env := by rfl) (hpl : (backTo pos (starEach es X.env)).any (·.1) = false := by rfl) : AE X (.Call (.Name x p) (e :: es) [] pos) (aCall r t) :=
  PE.imp (pe_callB hc hg hm hv ha hn hdb he hpl) callB_lift
theorem ae_callTy (hc : CA X (.type T) r) (hg : Gl X x) (hm : X.mg x = none) (hv : bootBuiltins x = some (.type T)) (ha : AA X (e :: es) t) (hn : x ≠ "__name__" := by decide) (hdb : (x == ("__debug__" : Str)) = false := by decide)
    (he : starEach (e :: es) X.env = (false, eval e X.env) :: starEach es X.env := by rfl) (hpl : (backTo pos (starEach es X.env)).any (·.1) = false := by rfl) : AE X (.Call (.Name x p) (e :: es) [] pos) (aCall r t) :=
  PE.imp (pe_callTy hc hg hm hv ha hn hdb he hpl) callB_lift
end

/-! ### statements -/
def aNext : TSa := fun D l S => D.nx l S
def aSeq (t u : TSa) : TSa := fun D l S => t { D with nx := u D } l S
def aBreak : TSa := fun D l S => D.bk l S
def aCont : TSa := fun D l S => D.ct l S
def aDrop (te : TEa) : TSa := fun D l S => te l S fun _ S1 => D.nx l S1
def aRet (te : TEa) : TSa := fun D l S => te l S D.rt
def aRetN : TSa := fun D _ S => D.rt .non S
def aIfS (c : TTa) (t u : TSa) : TSa := fun D l S => c l S fun b S1 => if b = true then t D l S1 else u D l S1
def aNever : TSa := fun _ _ _ => False
section
variable {X : Cx} {st : Stmt} {rest : List Stmt} {t u : TSa} {e c : Expr} {te : TEa} {tA : TTa} {pos : Pos}
/-- what a statement's part reaches, taken on from a later point -/
theorem LS.go {K : PySem.W.Frag} {D : EndsA} {Dc : Ends} {S0 S : Sto} {H0 H : Hp} {l : Lc} {σ : L2.St} (r : LR K H l σ) (s : SR K S H) (f : FW S0 H0 S H) (h : t D l S)
    (k1 : ∀ l' S' σ' H', D.nx l' S' → LR K H' l' σ' → SR K S' H' → FW S0 H0 S' H' → Dc.nx σ' H')
    (k2 : ∀ d S' v H', D.rt d S' → SR K S' H' → FW S0 H0 S' H' → DV K H' v d → Dc.rt v H')
    (k3 : ∀ l' S' σ' H', D.bk l' S' → LR K H' l' σ' → SR K S' H' → FW S0 H0 S' H' → Dc.bk σ' H')
    (k4 : ∀ l' S' σ' H', D.ct l' S' → LR K H' l' σ' → SR K S' H' → FW S0 H0 S' H' → Dc.ct σ' H') : LS K t Dc σ H :=
  ⟨l, S, D, r, s, h, fun l' S' σ' H' q a b f' => k1 l' S' σ' H' q a b (f.trans f'), fun d S' v H' q b f' dv => k2 d S' v H' q b (f.trans f') dv,
    fun l' S' σ' H' q a b f' => k3 l' S' σ' H' q a b (f.trans f'), fun l' S' σ' H' q a b f' => k4 l' S' σ' H' q a b (f.trans f')⟩
theorem ass_nil : ASs X [] aNext := PSs.imp pss_nil fun Dc σ H ⟨l, S, D, r, s, h, k1, _, _, _⟩ => k1 l S σ H h r s .refl
theorem ass_cons (h1 : AS X st t) (h2 : ASs X rest u) : ASs X (st :: rest) (aSeq t u) := by
  refine PSs.imp (pss_cons h1 h2) fun Dc σ H ⟨l, S, D, r, s, h, k1, k2, k3, k4⟩ => ?_
  refine ⟨l, S, _, r, s, h, fun l' S' σ' H' q a b f' => ?_, k2, k3, k4⟩
  exact LS.go a b f' q k1 k2 k3 k4
theorem ass_one (h1 : AS X st t) : ASs X [st] t := pss_one h1
theorem as_pass : AS X (.Pass pos) aNext := PS.imp ps_pass fun Dc σ H ⟨l, S, D, r, s, h, k1, _, _, _⟩ => k1 l S σ H h r s .refl
theorem as_break : AS X (.Break pos) aBreak := PS.imp ps_break fun Dc σ H ⟨l, S, D, r, s, h, _, _, k3, _⟩ => k3 l S σ H h r s .refl
theorem as_continue : AS X (.Continue pos) aCont := PS.imp ps_continue fun Dc σ H ⟨l, S, D, r, s, h, _, _, _, k4⟩ => k4 l S σ H h r s .refl
theorem as_doc {x j pos'} : AS X (.Expr (.Constant (.str x) j pos) pos') aNext := PS.imp ps_doc fun Dc σ H ⟨l, S, D, r, s, h, k1, _, _, _⟩ => k1 l S σ H h r s .refl
theorem as_expr (he : AE X e te) (hs : swapsWith e none pos.line X.env = pure false := by rfl) : AS X (.Expr e pos) (aDrop te) := by
  refine PS.imp (ps_expr he hs) fun Dc σ H ⟨l, S, D, r, s, h, k1, _, _, _⟩ => ?_
  exact LE.go r s h fun d S1 v H1 q1 r1 s1 f1 dv => k1 l S1 σ H1 q1 r1 s1 f1
theorem as_ret (he : AE X e te) : AS X (.Return (some e) pos) (aRet te) := by
  refine PS.imp (ps_ret he) fun Dc σ H ⟨l, S, D, r, s, h, _, k2, _, _⟩ => ?_
  exact LE.go r s h fun d S1 v H1 q1 r1 s1 f1 dv => k2 d S1 v H1 q1 s1 f1 dv
theorem as_retN : AS X (.Return none pos) aRetN := PS.imp ps_retN fun Dc σ H ⟨l, S, D, r, s, h, _, k2, _, _⟩ => k2 _ S _ H h s .refl .non
theorem as_if {a b : List Stmt} (hc : AT X c tA) (ha : ASs X a t) (hb : ASs X b u) : AS X (.If c a b pos) (aIfS tA t u) := by
  refine PS.imp (ps_if hc ha hb) fun Dc σ H ⟨l, S, D, r, s, h, k1, k2, k3, k4⟩ => ?_
  refine LT.go r s h fun d S1 H1 q1 r1 s1 f1 => ?_
  cases d with
  | true => rw [if_pos rfl] at q1 ⊢; exact LS.go r1 s1 f1 q1 k1 k2 k3 k4
  | false => rw [if_neg Bool.false_ne_true] at q1 ⊢; exact LS.go r1 s1 f1 q1 k1 k2 k3 k4
theorem as_never : AS X st aNever := PS.imp ps_never fun Dc σ H ⟨_, _, _, _, _, h, _⟩ => h.elim
theorem ass_never {sts : List Stmt} : ASs X sts aNever := PSs.imp pss_never fun Dc σ H ⟨_, _, _, _, _, h, _⟩ => h.elim
end

/-! ### targets -/
inductive Pat where
  | nm (i : Nat) | tp (ps : List Pat)
mutual
/-- the slots behind the assignment of d to a pattern -/
def Pat.bind : Pat → D → Lc → (Lc → Prop) → Prop
  | .nm i, d, l, Q => Q (l.set i (some d))
  | .tp ps, .tup ds, l, Q => ps.length = ds.length ∧ Pat.binds ps ds l Q
  | .tp _, _, _, _ => False
def Pat.binds : List Pat → List D → Lc → (Lc → Prop) → Prop
  | [], [], l, Q => Q l
  | p :: ps, d :: ds, l, Q => Pat.bind p d l fun l' => Pat.binds ps ds l' Q
  | _, _, _, _ => False
end
abbrev TGa := D → Lc → Sto → (Lc → Sto → Prop) → Prop
def LG (K : PySem.W.Frag) (t : TGa) : TG := fun v σ H Qc => ∃ d l S Q, DV K H v d ∧ LR K H l σ ∧ SR K S H ∧ t d l S Q ∧ ∀ l' S' σ' H', Q l' S' → LR K H' l' σ' → SR K S' H' → FW S H S' H' → Qc σ' H'
def AG (X : Cx) (e : Expr) (t : TGa) : Prop := PG X e (LG X.K t)
abbrev TGsa := List D → Lc → Sto → (Lc → Sto → Prop) → Prop
def LGs (K : PySem.W.Frag) (t : TGsa) : TGs := fun vs σ H Qc => ∃ ds l S Q, DVs K H vs ds ∧ LR K H l σ ∧ SR K S H ∧ t ds l S Q ∧ ∀ l' S' σ' H', Q l' S' → LR K H' l' σ' → SR K S' H' → FW S H S' H' → Qc σ' H'
def AGs (X : Cx) (e : List Expr) (t : TGsa) : Prop := PGs X e (LGs X.K t)
def gNm (i : Nat) : TGa := fun d l S Q => Q (l.set i (some d)) S
def gNilA : TGsa := fun ds l S Q => match ds with | [] => Q l S | _ => False
def gConsA (t : TGa) (u : TGsa) : TGsa := fun ds l S Q => match ds with | d :: r => t d l S fun l' S' => u r l' S' Q | [] => False
def gTp (n : Nat) (t : TGsa) : TGa := fun d l S Q => match d with | .tup ds => ds.length = n ∧ t ds l S Q | _ => False
section
variable {X : Cx} {pos : Pos}
theorem PG.imp {e : Expr} {t u : TG} (h : PG X e t) (i : ∀ v σ H Q, u v σ H Q → t v σ H Q) : PG X e u := ⟨fun pins s σ H v w Q I r q => h.run pins s σ H v w Q I r (i _ _ _ _ q)⟩
theorem PGs.imp {e : List Expr} {t u : TGs} (h : PGs X e t) (i : ∀ v σ H Q, u v σ H Q → t v σ H Q) : PGs X e u := ⟨fun pins s σ H v w Q I r q => h.run pins s σ H v w Q I r (i _ _ _ _ q)⟩
theorem ag_name (i : Nat) {x : Str} (hN : X.N.Nodup) (hi : X.N[i]? = some x := by rfl) (hx : Loc X.env.scope x := by first | exact .inl rfl | exact .inr rfl) (hf : X.fn x = true ∨ X.env.scope.names.lookup x = some .local := by first | exact .inl rfl | exact .inr rfl | assumption) : AG X (.Name x pos) (gNm i) :=
  PG.imp (pg_name hN hi hx hf) fun v σ H Qc ⟨d, l, S, Q, dv, r, s, h, k⟩ => k _ S _ H h (r.set i dv) s .refl
theorem ags_nil : AGs X [] gNilA := PGs.imp pgs_nil fun vs σ H Qc ⟨ds, l, S, Q, dv, r, s, h, k⟩ => by
  cases ds with
  | nil => cases dv; exact ⟨rfl, k l S σ H h r s .refl⟩
  | cons _ _ => exact h.elim
theorem ags_cons {e : Expr} {es : List Expr} {t : TGa} {u : TGsa} (h1 : AG X e t) (h2 : AGs X es u)
    (hs : (assignEach (e :: es) X.env).map (·.2) = assign e X.env :: (assignEach es X.env).map (·.2) := by rfl) : AGs X (e :: es) (gConsA t u) := by
  refine PGs.imp (pgs_cons h1 h2 hs) fun vs σ H Qc ⟨ds, l, S, Q, dv, r, s, h, k⟩ => ?_
  cases ds with
  | nil => exact h.elim
  | cons d ds =>
    cases dv with
    | cons dv1 dv2 =>
      refine ⟨_, _, rfl, d, l, S, _, dv1, r, s, h, fun l' S' σ' H' q r' s' f => ?_⟩
      exact ⟨ds, l', S', Q, DVs.mono (f.tk s) _ _ dv2, r', s', q, fun l2 S2 σ2 H2 q2 r2 s2 f2 => k l2 S2 σ2 H2 q2 r2 s2 (f.trans f2)⟩
theorem ag_tup {es : List Expr} {k : Nat} {t : TGsa} {n : Nat} (hc : X.calm = true) (h : AGs X es t)
    (hn : (assignEach es X.env).length = n := by rfl) (hst : (assignEach es X.env).findIdx? (·.1) = none := by rfl) : AG X (.Tuple es k pos) (gTp n t) := by
  refine PG.imp (pg_tup hc h hn hst) fun v σ H Qc ⟨d, l, S, Q, dv, r, s, h, k⟩ => ?_
  unfold gTp at h
  split at h
  · cases dv with
    | tup h1 h2 =>
      obtain ⟨h3, h4⟩ := h
      exact ⟨_, _, rfl, h1, h2.length.trans h3, _, l, S, Q, h2, r, s, h4, k⟩
  · exact h.elim
def aAsg (te : TEa) (g : TGa) : TSa := fun D l S => te l S fun x S1 => g x l S1 D.nx
theorem asg_lift {te : TEa} {g : TGa} {K : PySem.W.Frag} : ∀ D σ H, LS K (aAsg te g) D σ H → tAsg (LE K te) (LG K g) D σ H := fun Dc σ H ⟨l, S, D, r, s, h, k1, _, _, _⟩ => by
  refine LE.go r s h fun d S1 v H1 q1 r1 s1 f1 dv => ?_
  exact ⟨d, l, S1, _, dv, r1, s1, q1, fun l' S' σ' H' q r' s' f' => k1 l' S' σ' H' q r' s' (f1.trans f')⟩
theorem as_asg {tg e : Expr} {te : TEa} {g : TGa} (he : AE X e te) (hg : AG X tg g) (hs : swapsWithSole [tg] e pos.line X.env = pure false := by rfl) (hw : swappedStores [tg] e X.env = pure none := by rfl)
    (h1 : (assignEach [tg] X.env).map (·.2) = [assign tg X.env] := by rfl) : AS X (.Assign [tg] e pos) (aAsg te g) := PS.imp (ps_asg he hg hs hw h1) asg_lift
theorem as_set (i : Nat) {x : Str} {e : Expr} {te : TEa} {pos' : Pos} (hN : X.N.Nodup) (he : AE X e te) (hi : X.N[i]? = some x := by rfl) (hx : Loc X.env.scope x := by first | exact .inl rfl | exact .inr rfl) (hs : swapsWith e (some (.Name x pos')) pos.line X.env = pure false := by rfl) (hf : X.fn x = true ∨ X.env.scope.names.lookup x = some .local := by first | exact .inl rfl | exact .inr rfl | assumption) :
    AS X (.Assign [.Name x pos'] e pos) (aAsg te (gNm i)) := by
  refine PS.imp (ps_set hN hi hx he hs hf) fun Dc σ H ⟨l, S, D, r, s, h, k1, _, _, _⟩ => ?_
  exact LE.go r s h fun d S1 v H1 q1 r1 s1 f1 dv => k1 _ S1 _ H1 q1 (r1.set i dv) s1 f1
/-- a, b = x, y: two different plain local names -/
def aPar (i j : Nat) (ta : TAa) : TSa := fun D l S => ta l S fun vs S1 => match vs with | [v, w] => D.nx ((l.set i (some v)).set j (some w)) S1 | _ => False
theorem as_par (i j : Nat) {x y : Str} {a b : Expr} {ta : TAa} {px py pt : Pos} {kt k2 pt2} (hc : X.calm = true) (hN : X.N.Nodup) (ha : AA X [a, b] ta) (hi : X.N[i]? = some x := by rfl) (hj : X.N[j]? = some y := by rfl) (hij : i ≠ j := by decide)
    (hx : X.env.scope.names.lookup x = some .local := by rfl) (hy : X.env.scope.names.lookup y = some .local := by rfl)
    (hw : swappedStores [.Tuple [.Name x px, .Name y py] kt pt] (.Tuple [a, b] k2 pt2) X.env = pure (some [x, y]) := by rfl)
    (hs : swapsWithSole [.Tuple [.Name x px, .Name y py] kt pt] (.Tuple [a, b] k2 pt2) pos.line X.env = pure false := by rfl) :
    AS X (.Assign [.Tuple [.Name x px, .Name y py] kt pt] (.Tuple [a, b] k2 pt2) pos) (aPar i j ta) := by
  refine PS.imp (ps_par hc hN hi hj hij hx hy ha hw hs) fun Dc σ H ⟨l, S, D, r, s, h, k1, _, _, _⟩ => ?_
  refine LA.go r s h fun d S1 v H1 q1 r1 s1 f1 dv => ?_
  cases dv with
  | nil => exact q1.elim
  | cons d1 dv =>
    cases dv with
    | nil => exact q1.elim
    | cons d2 dv =>
      cases dv with
      | nil => exact ⟨_, _, rfl, k1 _ S1 _ H1 q1 ((r1.set i d1).set j d2) s1 f1⟩
      | cons _ _ => exact q1.elim
/-- x op= e -/
def LIp (K : PySem.W.Frag) (r : R2a) : TIp := LO K r
def aAug (i : Nat) (te : TEa) (r : R2a) : TSa := fun D l S => match l[i]? with | some (some x) => te l S fun y S1 => r x y S1 fun z S2 => D.nx (l.set i (some z)) S2 | _ => False
theorem as_aug (i : Nat) {x : Str} {e : Expr} {te : TEa} {op : Operator} {ra : R2a} {pos' : Pos} (hN : X.N.Nodup) (he : AE X e te) (ho : OA X (inplaceOp op) ra) (hi : X.N[i]? = some x := by rfl) (hx : Loc X.env.scope x := by first | exact .inl rfl | exact .inr rfl) (hf : X.fn x = true ∨ X.env.scope.names.lookup x = some .local := by first | exact .inl rfl | exact .inr rfl | assumption) :
    AS X (.AugAssign (.Name x pos') op e pos) (aAug i te ra) := by
  refine PS.imp (ps_aug (ti := LO X.K ra) hN hi hx he ho hf) fun Dc σ H ⟨l, S, D, r, s, h, k1, _, _, _⟩ => ?_
  unfold aAug at h
  split at h
  · rename_i d e
    obtain ⟨v, e1, e2⟩ := r.2 i d e
    refine ⟨v, e1, ?_⟩
    refine LE.go r s h fun d2 S1 v2 H1 q1 r1 s1 f1 dv2 => ?_
    exact ⟨d, d2, S1, _, DV.mono (f1.tk s) _ _ e2, dv2, s1, q1, fun d3 S3 v3 H3 q3 s3 f3 dv3 => k1 _ S3 _ H3 q3 ((r1.mono (f3.tk s1)).set i dv3) s3 (f1.trans f3)⟩
  · exact h.elim
end
end AL

namespace AL
open PySem PySem.Spec PyProof.Rows L2

/-! ### what is walked -/
/-- the items, what must stay so, the store -/
abbrev TIa := Lc → Sto → (List D → (Sto → Prop) → Sto → Prop) → Prop
def ItOk (K : PySem.W.Frag) (S1 : Sto) (H1 : Hp) (ds : List D) (st : Sto → Prop) (J : It) : Prop :=
  ∀ i S H, SR K S H → FW S1 H1 S H → st S → (∀ d, ds[i]? = some d → J.go i H ∧ ∀ x H', J.yld i H x H' → DV K H' x d ∧ SR K S H' ∧ FW S H S H') ∧ (ds.length ≤ i → J.stop i H)
def LI (K : PySem.W.Frag) (t : TIa) : TI := fun σ H R => ∃ l S Q, LR K H l σ ∧ SR K S H ∧ t l S Q ∧ ∀ ds st S1 J H1, Q ds st S1 → SR K S1 H1 → FW S H S1 H1 → ItOk K S1 H1 ds st J → R J H1
def AI (X : Cx) (tg iter : Expr) (t : TIa) : Prop := PI X tg iter (LI X.K t)
theorem PI.imp {X : Cx} {tg iter : Expr} {t u : TI} (h : PI X tg iter t) (i : ∀ σ H R, u σ H R → t σ H R) : PI X tg iter u := ⟨fun pins s σ H R I q => h.run pins s σ H R I (i _ _ _ q)⟩

def forA (st : Sto → Prop) (g : TGa) (tb : TSa) : List D → EndsA → Lc → Sto → Prop
  | [], D, l, S => st S ∧ D.nx l S
  | d :: ds, D, l, S => st S ∧ g d l S fun l' S' => tb { D with nx := fun l2 S2 => forA st g tb ds D l2 S2, ct := fun l2 S2 => forA st g tb ds D l2 S2, bk := D.nx } l' S'
def aFor (ti : TIa) (g : TGa) (tb : TSa) : TSa := fun D l S => ti l S fun ds st S1 => forA st g tb ds D l S1
theorem forA_st {st : Sto → Prop} {g : TGa} {tb : TSa} {ds : List D} {D : EndsA} {l : Lc} {S : Sto} (h : forA st g tb ds D l S) : st S := by
  cases ds with
  | nil => exact h.1
  | cons _ _ => exact h.1
section
variable {X : Cx} {pos : Pos}
theorem as_for {tg iter : Expr} {body : List Stmt} {ti : TIa} {g : TGa} {tb : TSa} (hp : PassesOwn (model X.prog X.w) X.A X.env X.xe) (hc : X.calm = true) (hi : AI X tg iter ti) (hg : AG X tg g) (hb : ASs X body tb)
    (hs : ∀ x, foldedSetIterable iter X.env x = pure x := by intro _; rfl) : AS X (.For tg iter body [] pos) (aFor ti g tb) := by
  refine PS.imp (ps_for hp hc hi hg hb hs) fun Dc σ H ⟨l, S, D, r, s, h, k1, k2, k3, k4⟩ => ?_
  refine ⟨l, S, _, r, s, h, fun ds st S1 J H1 q s1 f1 it => ?_⟩
  refine ⟨fun i m σ' H' => ∃ l' S', m = ds.length - i ∧ i ≤ ds.length ∧ LR X.K H' l' σ' ∧ SR X.K S' H' ∧ FW S1 H1 S' H' ∧ forA st g tb (ds.drop i) D l' S',
    ⟨_, l, S1, rfl, Nat.zero_le _, r.mono (f1.tk s), s1, .refl, q⟩, ?_⟩
  rintro i m σ' H' ⟨l', S', rfl, hi', r', s', f', h'⟩
  have hst := forA_st h'
  obtain ⟨i1, i2⟩ := it i S' H' s' f' hst
  by_cases hlt : i < ds.length
  · have e : ds.drop i = ds[i] :: ds.drop (i + 1) := List.drop_eq_getElem_cons hlt
    rw [e] at h'
    obtain ⟨_, h'⟩ := h'
    obtain ⟨go, yl⟩ := i1 ds[i] (by simp [hlt])
    refine .inr ⟨go, fun σ2 H2 => ∃ l2 S2, LR X.K H2 l2 σ2 ∧ SR X.K S2 H2 ∧ FW S1 H1 S2 H2 ∧ forA st g tb (ds.drop (i + 1)) D l2 S2, fun σ2 H2 ⟨l2, S2, r2, s2, f2, h2⟩ => ⟨ds.length - (i + 1), by omega, l2, S2, rfl, hlt, r2, s2, f2, h2⟩, fun x H2 y => ?_⟩
    obtain ⟨dv, s2, f2⟩ := yl x H2 y
    refine ⟨ds[i], l', S', _, dv, r'.mono (f2.tk s'), s2, h', fun l3 S3 σ3 H3 q3 r3 s3 f3 => ?_⟩
    have fA : FW S1 H1 S3 H3 := f'.trans (f2.trans f3)
    have fB : FW S H S3 H3 := f1.trans fA
    refine ⟨l3, S3, _, r3, s3, q3, fun l4 S4 σ4 H4 q4 r4 s4 f4 => ⟨l4, S4, r4, s4, fA.trans f4, q4⟩, fun d4 S4 v4 H4 q4 s4 f4 dv4 => k2 d4 S4 v4 H4 q4 s4 (fB.trans f4) dv4,
      fun l4 S4 σ4 H4 q4 r4 s4 f4 => k1 l4 S4 σ4 H4 q4 r4 s4 (fB.trans f4), fun l4 S4 σ4 H4 q4 r4 s4 f4 => ⟨l4, S4, r4, s4, fA.trans f4, q4⟩⟩
  · have e : ds.drop i = [] := List.drop_eq_nil_of_le (by omega)
    rw [e] at h'
    exact .inl ⟨i2 (by omega), k1 l' S' σ' H' h'.2 r' s' (f1.trans f')⟩

/-! ### while -/
def aWhile (c : TTa) (tb : TSa) : TSa := fun D l S => ∃ W : Nat → Lc → Sto → Prop, (∃ m, W m l S) ∧ ∀ m l S, W m l S →
  c l S fun b S1 => if b = true then tb { D with nx := fun l' S' => ∃ m', m' < m ∧ W m' l' S', ct := fun l' S' => ∃ m', m' < m ∧ W m' l' S', bk := D.nx } l S1 else D.nx l S1
theorem as_while {c : Expr} {body : List Stmt} {tc : TTa} {tb : TSa} (hp : PassesOwn (model X.prog X.w) X.A X.env X.xe) (hc : AT X c tc) (hb : ASs X body tb) : AS X (.While c body [] pos) (aWhile tc tb) := by
  refine PS.imp (ps_while hp hc hb) fun Dc σ H ⟨l, S, D, r, s, h, k1, k2, k3, k4⟩ => ?_
  obtain ⟨W, ⟨m0, w0⟩, turn⟩ := h
  refine ⟨fun m σ' H' => ∃ l' S', W m l' S' ∧ LR X.K H' l' σ' ∧ SR X.K S' H' ∧ FW S H S' H', ⟨m0, l, S, w0, r, s, .refl⟩, ?_⟩
  rintro m σ' H' ⟨l', S', w', r', s', f'⟩
  refine LT.go r' s' (turn m l' S' w') fun b S1 H1 q1 r1 s1 f1 => ?_
  cases b with
  | true =>
    rw [if_pos rfl] at q1 ⊢
    refine ⟨fun σ2 H2 => ∃ m', m' < m ∧ ∃ l2 S2, W m' l2 S2 ∧ LR X.K H2 l2 σ2 ∧ SR X.K S2 H2 ∧ FW S H S2 H2, fun σ2 H2 z => z, ?_⟩
    have again : ∀ l4 S4 σ4 H4, (∃ m', m' < m ∧ W m' l4 S4) → LR X.K H4 l4 σ4 → SR X.K S4 H4 → FW S H S4 H4 → ∃ m', m' < m ∧ ∃ l2 S2, W m' l2 S2 ∧ LR X.K H4 l2 σ4 ∧ SR X.K S2 H4 ∧ FW S H S2 H4 :=
      fun l4 S4 σ4 H4 ⟨m', hm, w4⟩ r4 s4 f4 => ⟨m', hm, l4, S4, w4, r4, s4, f4⟩
    exact LS.go r1 s1 (f'.trans f1) q1 again k2 k1 again
  | false =>
    rw [if_neg Bool.false_ne_true] at q1 ⊢
    exact k1 l' S1 σ' H1 q1 r1 s1 (f'.trans f1)
end

/-! ### sources -/
def iLst (te : TEa) : TIa := fun l S R => te l S fun x S1 => match x with
  | .ref a => ∃ ds, S1 a = some (.lst ds) ∧ R ds (fun S' => S' a = some (.lst ds)) S1
  | _ => False
def iTupA (te : TEa) : TIa := fun l S R => te l S fun x S1 => match x with
  | .tup ds => R ds (fun _ => True) S1
  | _ => False
def intsD (lo : Int) (n : Nat) : List D := (List.range n).map fun (i : Nat) => D.int (lo + i)
def iRg1 (ta : TAa) : TIa := fun l S R => ta l S fun xs S1 => match xs with
  | [.int j] => (-(2 ^ 62) ≤ j ∧ j < 2 ^ 62) ∧ R (intsD 0 j.toNat) (fun _ => True) S1
  | _ => False
def iRg2 (ta : TAa) : TIa := fun l S R => ta l S fun xs S1 => match xs with
  | [.int i, .int j] => (-(2 ^ 62) ≤ i ∧ i < 2 ^ 62 ∧ -(2 ^ 62) ≤ j ∧ j < 2 ^ 62) ∧ R (intsD i (j - i).toNat) (fun _ => True) S1
  | _ => False
theorem intsD_get {lo : Int} {n i : Nat} {d : D} (h : (intsD lo n)[i]? = some d) : i < n ∧ d = .int (lo + i) := by
  unfold intsD at h
  rw [List.getElem?_map] at h
  by_cases hi : i < n
  · rw [List.getElem?_range hi] at h
    cases h
    exact ⟨hi, rfl⟩
  · rw [List.getElem?_eq_none (by simpa using hi)] at h; cases h
theorem intsD_len {lo : Int} {n : Nat} : (intsD lo n).length = n := by simp [intsD]
section
variable {X : Cx} {pos p : Pos} {tg : Expr}
theorem ai_list {e : Expr} {te : TEa} (he : AE X e te) : AI X tg e (iLst te) := by
  refine PI.imp (pi_list he) fun σ H R ⟨l, S, Q, r, s, h, k⟩ => ?_
  refine LE.go r s h fun d S1 v H1 q1 r1 s1 f1 dv => ?_
  split at q1
  · rename_i a
    cases dv
    obtain ⟨ds, e, q1⟩ := q1
    obtain ⟨vs, hv, dvs⟩ := s1 a _ e
    refine ⟨a, rfl, ⟨vs, SqL.of hv⟩, k ds _ S1 _ H1 q1 s1 f1 fun i S2 H2 s2 f2 st => ?_⟩
    obtain ⟨vs2, hv2, dvs2⟩ := s2 a _ st
    refine ⟨fun d e => ?_, fun hi => ⟨vs2, SqL.of hv2, by rw [dvs2.length]; exact hi⟩⟩
    obtain ⟨x, ex, dx⟩ := dvs2.get e
    refine ⟨⟨vs2, x, SqL.of hv2, ex⟩, fun x' H3 ⟨e3, y⟩ => ?_⟩
    subst e3
    have e4 := y vs2 (SqL.of hv2)
    rw [ex] at e4
    cases e4
    exact ⟨dx, s2, .refl⟩
  · exact q1.elim
theorem ai_tup {e : Expr} {te : TEa} (he : AE X e te) : AI X tg e (iTupA te) := by
  refine PI.imp (pi_tup he) fun σ H R ⟨l, S, Q, r, s, h, k⟩ => ?_
  refine LE.go r s h fun d S1 v H1 q1 r1 s1 f1 dv => ?_
  split at q1
  · rename_i ds
    cases dv with
    | tup h1 h2 =>
      rename_i a vs
      refine ⟨a, rfl, ⟨vs, h1⟩, k ds _ S1 _ H1 q1 s1 f1 fun i S2 H2 s2 f2 st => ?_⟩
      have t := f2.tk s1
      have h1' := t.1 _ _ h1
      have h2' := DVs.mono t _ _ h2
      refine ⟨fun d e => ?_, fun hi => ⟨vs, h1', by rw [h2.length]; exact hi⟩⟩
      obtain ⟨x, ex, dx⟩ := h2'.get e
      refine ⟨⟨vs, x, h1', ex⟩, fun x' H3 ⟨e3, y⟩ => ?_⟩
      subst e3
      have e4 := y vs h1'
      rw [ex] at e4
      cases e4
      exact ⟨dx, s2, .refl⟩
  · exact q1.elim
theorem itr_ok {K : PySem.W.Frag} {S1 : Sto} {H1 : Hp} {lo : Int} {n : Nat} : ItOk K S1 H1 (intsD lo n) (fun _ => True) (Itr lo n) := fun i S H s f _ => by
  refine ⟨fun d e => ?_, fun hi => by rw [intsD_len] at hi; exact hi⟩
  obtain ⟨hi, rfl⟩ := intsD_get e
  exact ⟨hi, fun x H' ⟨e1, e2⟩ => by subst e1 e2; exact ⟨.int _, s, .refl⟩⟩
theorem ai_range1 {a : Expr} {ta : TAa} (hg : Gl X "range") (hm : X.mg "range" = none) (ha : AA X [a] ta) (hs : starEach [a] X.env = [(false, eval a X.env)] := by rfl) : AI X tg (.Call (.Name "range" p) [a] [] pos) (iRg1 ta) := by
  refine PI.imp (pi_range1 hg hm ha hs) fun σ H R ⟨l, S, Q, r, s, h, k⟩ => ?_
  refine LA.go r s h fun d S1 v H1 q1 r1 s1 f1 dv => ?_
  split at q1
  · rename_i j
    cases dv with
    | cons d1 d2 =>
      cases d1; cases d2
      exact ⟨j, rfl, q1.1.1, q1.1.2, k _ _ S1 _ H1 q1.2 s1 f1 itr_ok⟩
  · exact q1.elim
theorem ai_range2 {a b : Expr} {ta : TAa} (hg : Gl X "range") (hm : X.mg "range" = none) (ha : AA X [a, b] ta) (hs : starEach [a, b] X.env = [(false, eval a X.env), (false, eval b X.env)] := by rfl) (hs2 : starEach [b] X.env = [(false, eval b X.env)] := by rfl) :
    AI X tg (.Call (.Name "range" p) [a, b] [] pos) (iRg2 ta) := by
  refine PI.imp (pi_range2 hg hm ha hs hs2) fun σ H R ⟨l, S, Q, r, s, h, k⟩ => ?_
  refine LA.go r s h fun d S1 v H1 q1 r1 s1 f1 dv => ?_
  split at q1
  · rename_i i j
    cases dv with
    | cons d1 dv =>
      cases dv with
      | cons d2 dv =>
        cases dv; cases d1; cases d2
        exact ⟨i, j, rfl, q1.1, k _ _ S1 _ H1 q1.2 s1 f1 itr_ok⟩
  · exact q1.elim
end

/-! ### list comprehensions -/
abbrev ownIx (own : List (Str × Nat)) : List Nat := own.map (·.2)
def wipeA (l : Lc) : List Nat → Lc
  | [] => l
  | v :: vs => (wipeA l vs).set v none
section
variable {K : PySem.W.Frag} {H : Hp} {l : Lc} {σ : L2.St}
theorem LR.wipe (r : LR K H l σ) : ∀ vs, LR K H (wipeA l vs) (wipe σ vs)
  | [] => r
  | v :: vs => by
    have ih := LR.wipe r vs
    refine ⟨by unfold wipeA L2.wipe; simp [ih.1], fun i d e => ?_⟩
    unfold wipeA at e
    by_cases hv : v = i
    · subst hv
      by_cases hl : v < (wipeA l vs).length
      · rw [List.getElem?_set_self hl] at e; cases e
      · rw [List.getElem?_eq_none (by simpa using hl)] at e; cases e
    · rw [List.getElem?_set_ne hv] at e
      obtain ⟨x, e1, e2⟩ := ih.2 i d e
      exact ⟨x, by unfold L2.wipe; rw [List.getElem?_set_ne hv]; exact e1, e2⟩
theorem wipe_set {v : Option V} : ∀ {vs : List Nat} {σ : L2.St} {i : Nat}, i ∈ vs → wipe (σ.set i v) vs = wipe σ vs
  | w :: vs, σ, i, h => by
    unfold L2.wipe
    by_cases e : i ∈ vs
    · rw [wipe_set e]
    · have hw : i = w := by
        rcases List.mem_cons.mp h with q | q
        · exact q
        · exact absurd q e
      subst hw
      have aux : ∀ (vs : List Nat) (σ : L2.St), i ∉ vs → wipe (σ.set i v) vs = (wipe σ vs).set i v := by
        intro vs
        induction vs with
        | nil => intro σ _; rfl
        | cons u us ih =>
          intro σ hn
          simp only [List.mem_cons, not_or] at hn
          unfold L2.wipe
          rw [ih σ hn.2, List.set_comm _ _ hn.1]
      rw [aux vs σ e, List.set_set]
theorem wipe_wipe (σ : L2.St) : ∀ vs us : List Nat, (∀ v ∈ us, v ∈ vs) → wipe (wipe σ us) vs = wipe σ vs
  | vs, [], _ => rfl
  | vs, u :: us, h => by
    show wipe ((wipe σ us).set u none) vs = _
    rw [wipe_set (h u List.mem_cons_self), wipe_wipe σ vs us fun v hv => h v (List.mem_cons_of_mem _ hv)]
end
/-- a target whose slots are among vs -/
def LGo (K : PySem.W.Frag) (t : TGa) (vs : List Nat) : TG := fun v σ H Qc => ∃ d l S Q, DV K H v d ∧ LR K H l σ ∧ SR K S H ∧ t d l S Q ∧ ∀ l' S' σ' H', Q l' S' → LR K H' l' σ' → SR K S' H' → FW S H S' H' → wipe σ' vs = wipe σ vs → Qc σ' H'
def AGo (X : Cx) (e : Expr) (t : TGa) (vs : List Nat) : Prop := PG X e (LGo X.K t vs)
def LGso (K : PySem.W.Frag) (t : TGsa) (vs : List Nat) : TGs := fun v σ H Qc => ∃ d l S Q, DVs K H v d ∧ LR K H l σ ∧ SR K S H ∧ t d l S Q ∧ ∀ l' S' σ' H', Q l' S' → LR K H' l' σ' → SR K S' H' → FW S H S' H' → wipe σ' vs = wipe σ vs → Qc σ' H'
def AGso (X : Cx) (e : List Expr) (t : TGsa) (vs : List Nat) : Prop := PGs X e (LGso X.K t vs)
section
variable {X : Cx} {pos : Pos} {vs : List Nat}
theorem ago_name (i : Nat) {x : Str} (hN : X.N.Nodup) (hv : i ∈ vs := by decide) (hi : X.N[i]? = some x := by rfl) (hx : Loc X.env.scope x := by first | exact .inl rfl | exact .inr rfl) (hf : X.fn x = true ∨ X.env.scope.names.lookup x = some .local := by first | exact .inl rfl | exact .inr rfl | assumption) : AGo X (.Name x pos) (gNm i) vs :=
  PG.imp (pg_name hN hi hx hf) fun v σ H Qc ⟨d, l, S, Q, dv, r, s, h, k⟩ => k _ S _ H h (r.set i dv) s .refl (wipe_set hv)
theorem agso_nil : AGso X [] gNilA vs := PGs.imp pgs_nil fun vs σ H Qc ⟨ds, l, S, Q, dv, r, s, h, k⟩ => by
  cases ds with
  | nil => cases dv; exact ⟨rfl, k l S σ H h r s .refl rfl⟩
  | cons _ _ => exact h.elim
theorem agso_cons {e : Expr} {es : List Expr} {t : TGa} {u : TGsa} (h1 : AGo X e t vs) (h2 : AGso X es u vs)
    (hs : (assignEach (e :: es) X.env).map (·.2) = assign e X.env :: (assignEach es X.env).map (·.2) := by rfl) : AGso X (e :: es) (gConsA t u) vs := by
  refine PGs.imp (pgs_cons h1 h2 hs) fun vs σ H Qc ⟨ds, l, S, Q, dv, r, s, h, k⟩ => ?_
  cases ds with
  | nil => exact h.elim
  | cons d ds =>
    cases dv with
    | cons dv1 dv2 =>
      refine ⟨_, _, rfl, d, l, S, _, dv1, r, s, h, fun l' S' σ' H' q r' s' f w => ?_⟩
      exact ⟨ds, l', S', Q, DVs.mono (f.tk s) _ _ dv2, r', s', q, fun l2 S2 σ2 H2 q2 r2 s2 f2 w2 => k l2 S2 σ2 H2 q2 r2 s2 (f.trans f2) (w2.trans w)⟩
theorem ago_tup {es : List Expr} {k : Nat} {t : TGsa} {n : Nat} (hc : X.calm = true) (h : AGso X es t vs)
    (hn : (assignEach es X.env).length = n := by rfl) (hst : (assignEach es X.env).findIdx? (·.1) = none := by rfl) : AGo X (.Tuple es k pos) (gTp n t) vs := by
  refine PG.imp (pg_tup hc h hn hst) fun v σ H Qc ⟨d, l, S, Q, dv, r, s, h, k⟩ => ?_
  unfold gTp at h
  split at h
  · cases dv with
    | tup h1 h2 =>
      obtain ⟨h3, h4⟩ := h
      exact ⟨_, _, rfl, h1, h2.length.trans h3, _, l, S, Q, h2, r, s, h4, k⟩
  · exact h.elim
end
def ATs (X : Cx) (ifs : List Expr) (t : TTa) : Prop := PTs X ifs (LT X.K t)
def aYes : TTa := fun _ S Q => Q true S
theorem PTs.imp {X : Cx} {e : List Expr} {t u : TT} (h : PTs X e t) (i : ∀ σ H Q, u σ H Q → t σ H Q) : PTs X e u := ⟨fun pins s σ H Q I q => h.run pins s σ H Q I (i _ _ _ q)⟩
theorem ats_nil {X : Cx} : ATs X [] aYes := PTs.imp pts_nil fun _ H _ ⟨_, S, _, _, s, h, k⟩ => k _ S H h s .refl
theorem ats_one {X : Cx} {c : Expr} {t : TTa} (h : AT X c t) : ATs X [c] t := pts_one h

def lcA (st : Sto → Prop) (g : TGa) (tt : TTa) (te : TEa) (l : Lc) (Q : List D → Sto → Prop) : List D → List D → Sto → Prop
  | [], acc, S => st S ∧ Q acc S
  | d :: ds, acc, S => st S ∧ g d l S fun l2 S2 => tt l2 S2 fun b S3 =>
    if b = true then te l2 S3 fun y S4 => acc.length < sizeLine ∧ lcA st g tt te l Q ds (acc ++ [y]) S4 else lcA st g tt te l Q ds acc S3
theorem lcA_st {st : Sto → Prop} {g : TGa} {tt : TTa} {te : TEa} {l : Lc} {Q : List D → Sto → Prop} {ds acc : List D} {S : Sto} (h : lcA st g tt te l Q ds acc S) : st S := by
  cases ds with
  | nil => exact h.1
  | cons _ _ => exact h.1
def aLc (ti : TIa) (g : TGa) (tt : TTa) (te : TEa) (vs : List Nat) : TEa := fun l S Q => ti l S fun ds st S1 =>
  lcA st g tt te (wipeA l vs) (fun acc S2 => ∀ p, S2 p = none → Q (.ref p) (put S2 p (.lst acc))) ds [] S1
theorem TK.lst {K : PySem.W.Frag} {H : Hp} {a : Addr} {xs ys : List V} (h : H a = some (.lst xs)) : TK K H (upd H a (.lst ys)) := by
  refine ⟨fun b zs q => ?_, fun b zs q => ?_⟩
  · rcases q with (q | ⟨o, q⟩) | q
    · exact .inl (.inl (by rw [upd_ne (ne_of q h (by intro z; cases z))]; exact q))
    · exact .inl (.inr ⟨o, by rw [upd_ne (ne_of q h (by intro z; cases z))]; exact q⟩)
    · exact .inr q
  · rcases q with ⟨o, q⟩ | q
    · exact .inl ⟨o, by rw [upd_ne (ne_of q h (by intro z; cases z))]; exact q⟩
    · exact .inr q
section
variable {X : Cx} {pos : Pos}
theorem lc_lift {K : PySem.W.Frag} {ti : TIa} {g : TGa} {tt : TTa} {te : TEa} {vs : List Nat} : ∀ σ H Q, LE K (aLc ti g tt te vs) σ H Q → tLc (LI K ti) (LGo K g vs) (LT K tt) (LE K te) vs σ H Q := fun σ H Qc ⟨l, S, Q, r, s, h, k⟩ => by
  refine ⟨l, S, _, r, s, h, fun ds st S1 J H1 q s1 f1 it => fun a ha => ?_⟩
  refine ⟨fun i m H' => ∃ S' acc vacc, m = ds.length - i ∧ i ≤ ds.length ∧ H' a = some (.lst vacc) ∧ DVs K H' vacc acc ∧ S' a = none ∧ SR K S' H' ∧ FW S1 H1 S' H' ∧ lcA st g tt te (wipeA l vs) (fun acc S2 => ∀ p, S2 p = none → Q (.ref p) (put S2 p (.lst acc))) (ds.drop i) acc S',
    ⟨_, S1, [], [], rfl, Nat.zero_le _, upd_same, .nil, s1.fresh ha, s1.upd ha, FW.upd ha, q⟩, ?_⟩
  rintro i m H' ⟨S', acc, vacc, rfl, hi', hH, dva, hS, s', f', h'⟩
  obtain ⟨i1, i2⟩ := it i S' H' s' f' (lcA_st h')
  by_cases hlt : i < ds.length
  · have e : ds.drop i = ds[i] :: ds.drop (i + 1) := List.drop_eq_getElem_cons hlt
    rw [e] at h'
    obtain ⟨_, h'⟩ := h'
    obtain ⟨go, yl⟩ := i1 ds[i] (by simp [hlt])
    refine .inr ⟨go, fun H2 => ∃ S2 acc vacc, H2 a = some (.lst vacc) ∧ DVs K H2 vacc acc ∧ S2 a = none ∧ SR K S2 H2 ∧ FW S1 H1 S2 H2 ∧ lcA st g tt te (wipeA l vs) (fun acc S2 => ∀ p, S2 p = none → Q (.ref p) (put S2 p (.lst acc))) (ds.drop (i + 1)) acc S2,
      fun H2 ⟨S2, acc, vacc, z⟩ => ⟨ds.length - (i + 1), by omega, S2, acc, vacc, rfl, hlt, z⟩, fun x H2 y => ?_⟩
    obtain ⟨dv, s2, f2⟩ := yl x H2 y
    have r2 : LR K H2 (wipeA l vs) (wipe σ vs) := ((r.mono (f1.tk s)).mono ((f'.trans f2).tk s1)).wipe vs
    refine ⟨ds[i], wipeA l vs, S', _, dv, r2, s2, h', fun l3 S3 σ3 H3 q3 r3 s3 f3 w3 => ⟨w3.trans (wipe_wipe σ vs vs fun _ z => z), ?_⟩⟩
    refine LT.go r3 s3 q3 fun b S4 H4 q4 r4 s4 f4 => ?_
    have fA : FW S' H' S4 H4 := f2.trans (f3.trans f4)
    obtain ⟨a1, a2⟩ := fA a _ hH hS
    cases b with
    | true =>
      rw [if_pos rfl] at q4 ⊢
      refine LE.go r4 s4 q4 fun yd S5 yv H5 ⟨q5, q6⟩ r5 s5 f5 dv5 => ?_
      have fB := fA.trans f5
      obtain ⟨b1, b2⟩ := fB a _ hH hS
      refine ⟨vacc, b1, by rw [dva.length]; exact q5, ?_⟩
      have tk : TK K H5 (upd H5 a (.lst (vacc ++ [yv]))) := TK.lst b1
      refine ⟨S5, acc ++ [yd], vacc ++ [yv], upd_same, (DVs.mono tk _ _ ((DVs.mono (fB.tk s') _ _ dva).append (.one dv5))), b2, ?_, ?_, q6⟩
      · intro c w hc
        have n : c ≠ a := fun z => by subst z; rw [b2] at hc; cases hc
        exact (s5 c w hc).mono tk (by rw [upd_ne n])
      · intro c w hc hc2
        have n : c ≠ a := fun z => by subst z; rw [ha] at hc; cases hc
        obtain ⟨c1, c2⟩ := (f'.trans fB) c w hc hc2
        exact ⟨by rw [upd_ne n]; exact c1, c2⟩
    | false =>
      rw [if_neg Bool.false_ne_true] at q4 ⊢
      exact ⟨S4, acc, vacc, a1, DVs.mono (fA.tk s') _ _ dva, a2, s4, f'.trans fA, q4⟩
  · have e : ds.drop i = [] := List.drop_eq_nil_of_le (by omega)
    rw [e] at h'
    refine .inl ⟨i2 (by omega), ?_⟩
    refine k _ (put S' a (.lst acc)) _ H' (h'.2 a hS) ?_ ?_ (.ref a)
    · intro b w hb
      by_cases n : b = a
      · subst n; rw [put_same] at hb; cases hb; exact ⟨vacc, hH, dva⟩
      · rw [put_ne n] at hb; exact s' b w hb
    · intro b w hb hb2
      obtain ⟨c1, c2⟩ := f1 b w hb hb2
      obtain ⟨d1, d2⟩ := f' b w c1 c2
      exact ⟨d1, by rw [put_ne (ne_of_none c1 ha)]; exact d2⟩
theorem ae_lc {elt tg iter : Expr} {ifs : List Expr} {scope : Scope} {own : List (Str × Nat)} {ti : TIa} {g : TGa} {tt : TTa} {te : TEa} (hc : X.calm = true) (hN : X.N.Nodup) (hi : AI X tg iter ti) (ok : BlkOk X.N X.env.scope scope own)
    (hg : ∀ (s : Shared) (H : Hp) (C : Addr) (cl : List (Str × Addr)) (fp : List Addr), AGo (X.blk s H scope (compEnvC scope cl C X.env) fp) tg g (ownIx own)) (ht : ∀ (s : Shared) (H : Hp) (C : Addr) (cl : List (Str × Addr)) (fp : List Addr), ATs (X.blk s H scope (compEnvC scope cl C X.env) fp) ifs tt)
    (he : ∀ (s : Shared) (H : Hp) (C : Addr) (cl : List (Str × Addr)) (fp : List Addr), AE (X.blk s H scope (compEnvC scope cl C X.env) fp) elt te) (hs : ∀ x, foldedSetIterable iter X.env x = pure x := by intro _; rfl) :
    AE X (.ListComp elt [⟨tg, iter, ifs, 0⟩] scope pos) (aLc ti g tt te (ownIx own)) := PE.imp (pe_lc (g := LGo X.K g (ownIx own)) (tt := LT X.K tt) (te := LE X.K te) hc hN hi ok hg ht he hs) lc_lift
theorem as_setLc (i : Nat) {y : Str} {py spos : Pos} {elt tg iter : Expr} {ifs : List Expr} {scope : Scope} {own : List (Str × Nat)} {ti : TIa} {g : TGa} {tt : TTa} {te : TEa} (hc : X.calm = true) (hN : X.N.Nodup) (hi : AI X tg iter ti) (ok : BlkOk X.N X.env.scope scope own)
    (hg : ∀ (s : Shared) (H : Hp) (C : Addr) (cl : List (Str × Addr)) (fp : List Addr), AGo (X.blk s H scope (compEnvC scope cl C X.env) fp) tg g (ownIx own)) (ht : ∀ (s : Shared) (H : Hp) (C : Addr) (cl : List (Str × Addr)) (fp : List Addr), ATs (X.blk s H scope (compEnvC scope cl C X.env) fp) ifs tt)
    (he : ∀ (s : Shared) (H : Hp) (C : Addr) (cl : List (Str × Addr)) (fp : List Addr), AE (X.blk s H scope (compEnvC scope cl C X.env) fp) elt te)
    (hsw : swapsWith (.ListComp elt [⟨tg, iter, ifs, 0⟩] scope pos) (some (.Name y py)) spos.line X.env = pure true)
    (hy : X.N[i]? = some y := by rfl) (hyl : X.env.scope.names.lookup y = some .local := by rfl) (hs : ∀ x, foldedSetIterable iter X.env x = pure x := by intro _; rfl) :
    AS X (.Assign [.Name y py] (.ListComp elt [⟨tg, iter, ifs, 0⟩] scope pos) spos) (aAsg (aLc ti g tt te (ownIx own)) (gNm i)) := by
  refine PS.imp (ps_setLc (g := LGo X.K g (ownIx own)) (tt := LT X.K tt) (te := LE X.K te) hc hN hy hyl hsw hi ok hg ht he hs) fun Dc σ H ⟨l, S, D, r, s, h, k1, _, _, _⟩ => ?_
  exact lc_lift _ _ _ (LE.go r s h fun d S1 v H1 q1 r1 s1 f1 dv => k1 _ S1 _ H1 q1 (r1.set i dv) s1 f1)
end

/-! ### defs, where no guard is up (for repr) -/
abbrev Spa := List D → Sto → DK → Prop
def LF (K : PySem.W.Frag) (n : Nat) (F : Spa) : Sp := fun vs H Q _ => vs.length = n ∧ ∃ ds S Qa, DVs K H vs ds ∧ SR K S H ∧ F ds S Qa ∧ ∀ d S' v H', Qa d S' → SR K S' H' → FW S H S' H' → DV K H' v d → Q v H'
def startA (N : List Str) (ds : List D) : Lc := ds.map some ++ List.replicate (N.length - ds.length) none
/-- a body's reading as a def's -/
def semA (N : List Str) (t : TSa) : Spa := fun ds S Q => t { nx := fun _ S' => Q .non S', rt := Q } (startA N ds) S
theorem LR.start {K : PySem.W.Frag} {H : Hp} {N : List Str} {vs : List V} {ds : List D} (h : DVs K H vs ds) : LR K H (startA N ds) (L2.start N vs) := by
  have hl := h.length
  refine ⟨by simp [startA, L2.start, hl], fun i d e => ?_⟩
  unfold startA at e
  by_cases hi : i < ds.length
  · rw [List.getElem?_append_left (by simpa using hi), List.getElem?_map] at e
    cases q : ds[i]? with
    | none => rw [q] at e; cases e
    | some d' =>
      rw [q] at e
      have e' : d' = d := Option.some.inj (Option.some.inj e)
      subst e'
      obtain ⟨v, e1, e2⟩ := h.get q
      exact ⟨v, by unfold L2.start; rw [List.getElem?_append_left (by simpa [hl] using hi), List.getElem?_map, e1]; rfl, e2⟩
  · rw [List.getElem?_append_right (by simpa using hi), List.getElem?_replicate] at e
    split at e <;> cases e

/-- room for k calls, no guard up -/
structure RoomG (k : Nat) (A : Around) : Prop where
  r : Room k A
  g : A.guards = some []
theorem RoomG.mono {j k : Nat} {A : Around} (h : RoomG k A) (e : j ≤ k) : RoomG j A := ⟨h.r.mono e, h.g⟩
/-- the def at f keeps sp wherever there is such room -/
structure FnG (P : Program) (w : World) (K : PySem.W.Frag) (mg : Str → Option Value) (base : Heap) (CX : CXT) (k : Nat) (f : Addr) (fd : FuncData)
    (ps : List Str) (sp : Sp) : Prop where
  len : ∀ vs H Q E, sp vs H Q E → vs.length = ps.length
  run : ∀ (A : Around) (outer : List Env) (s : Shared) (H : Hp) (args : Args) (us : List Value) (vs : List V) (Q : VK) (E : XK),
    RoomG k A → Env0 P w K mg base A outer s H → BindsTo s fd args (ps.zip us) → Vals vs us → sp vs H Q E →
      codeAny (model P w) A (.call (.ref f) args) (CR CX outer P w H s Q E) s
section
variable {P : Program} {w : World} {K : PySem.W.Frag} {mg : Str → Option Value} {base : Heap} {CX : CXT}
theorem FnOk.g {k : Nat} {f : Addr} {fd : FuncData} {ps : List Str} {sp : Sp} (F : FnOk P w K mg base CX k f fd ps sp) : FnG P w K mg base CX k f fd ps sp :=
  ⟨F.len, fun A outer s H args us vs Q E hr => F.run A outer s H args us vs Q E hr.r⟩
theorem FnG.mono {j k : Nat} {f : Addr} {fd : FuncData} {ps : List Str} {sp : Sp} (F : FnG P w K mg base CX j f fd ps sp) (h : j ≤ k) : FnG P w K mg base CX k f fd ps sp :=
  ⟨F.len, fun A outer s H args us vs Q E hr => F.run A outer s H args us vs Q E (hr.mono h)⟩
theorem FnG.imp {k : Nat} {f : Addr} {fd : FuncData} {ps : List Str} {sp sp' : Sp} (F : FnG P w K mg base CX k f fd ps sp)
    (h : ∀ vs H Q E, sp' vs H Q E → sp vs H Q E) : FnG P w K mg base CX k f fd ps sp' :=
  ⟨fun vs H Q E q => F.len vs H Q E (h _ _ _ _ q),
    fun A outer s H args us vs Q E hr he hb hv hs => F.run A outer s H args us vs Q E hr he hb hv (h _ _ _ _ hs)⟩
/-- THE RULE for a def of the text by its body -/
theorem fg_of {x qual : Str} {st : Stmt} {f : Addr} {fd : FuncData} {N ps : List Str} {k : Nat} {sp : Sp} (F : Fun K x qual st f fd) (Sc : FnScope N ps (defScope st))
    (len : ∀ vs H Q E, sp vs H Q E → vs.length = ps.length)
    (hbody : ∀ (cdv : Value) (A : Around) (outer : List Env) (s : Shared) (H : Hp) (vs : List V) (Q : VK) (E : XK),
      RoomG k (A.deeper (envOfC qual (defScope st) s.heap.objs.size f cdv)) → sp vs H Q E →
        ∃ t, PSs (cxOf CX P w K mg base N qual (defScope st) f cdv A outer s H E) (defBody st) t ∧ t { nx := fun _ H' => Q .non H', rt := Q } (L2.start N vs) H) :
    FnG P w K mg base CX (k + 1) f fd ps sp := by
  obtain ⟨oc, od, kV, doc, pm, an, cdv, ct, osl, rfl, lk, hcd⟩ := F.ex
  constructor
  · exact len
  intro A outer s H args us vs Q E hr e0 hb r hsp
  have hlen := len _ _ _ _ hsp
  have kin : K.In s.heap := e0.mod.kin.keeps fun b o e => (e0.bs b o e).1
  have nol : s.heap.NoLimit := e0.mod.nolimit.keeps fun b o e => (e0.bs b o e).1
  have kinds : ∀ y ∈ ps.zip us, (defScope st).names.lookup y.1 = some .local ∨
      ((defScope st).names.lookup y.1 = some .cell ∧ ((cellsFrom (s.heap.objs.size + 1) (defScope st).names []).lookup y.1).isSome = true) := by
    rintro ⟨n, v⟩ hy
    rcases Sc.par n (List.of_mem_zip hy).1 with q | q
    · exact .inl q
    · exact .inr ⟨q, PySem.W.cellsFrom_some _ _ _ (.inl q)⟩
  refine codeAny_call_function hr.r.depth (kin _ _ lk) rfl Sc.co Sc.gen rfl (PySem.W.codeRec_of kin hcd) (hb _ _ _ _ ?_)
  refine wpAny_newFunctionEnv_cells Sc.kind kinds ?_
  intro env he s1 x1
  subst he
  refine ⟨nol.keeps x1.toInCall.keep, codeAny_func ?_⟩
  obtain ⟨t, ht, hq⟩ := hbody cdv A outer s H vs Q E ⟨hr.r.deeper _, hr.g⟩ hsp
  have I := inv_start (E := E) (CX := CX) Sc hr.r.hd e0 hlen r x1
  refine wpAny_mono (ht.run [] s1 _ H _ I hq) ?_ (fun e s' hs => hs)
  intro fl s' hs
  cases fl with
  | ret u => obtain ⟨v, σ', H', J, rv, q⟩ := hs; exact ⟨v, H', J.os, J.bare, J.base, J.hok, rv, q⟩
  | next => obtain ⟨σ', H', J, q⟩ := hs; exact ⟨V.non, H', J.os, J.bare, J.base, J.hok, rfl, q⟩
  | brk => obtain ⟨_, _, _, q⟩ := hs; exact q.elim
  | cont => obtain ⟨_, _, _, q⟩ := hs; exact q.elim
/-- a def that raises nothing keeps its body's reading -/
theorem fa_of {x qual : Str} {st : Stmt} {f : Addr} {fd : FuncData} {N ps : List Str} {k : Nat} {t : TSa} (F : Fun K x qual st f fd) (Sc : FnScope N ps (defScope st))
    (hbody : ∀ (cdv : Value) (A : Around) (outer : List Env) (s : Shared) (H : Hp) (E : XK), RoomG k (A.deeper (envOfC qual (defScope st) s.heap.objs.size f cdv)) →
      ASs (cxOf CX0 P w K mg base N qual (defScope st) f cdv A outer s H E).nox (defBody st) t) :
    FnG P w K mg base CX0 (k + 1) f fd ps (LF K ps.length (semA N t)) := by
  refine fg_of F Sc (fun vs H Q E h => h.1) (fun cdv A outer s H vs Q E hr h => ?_)
  obtain ⟨_, ds, S, Qa, dvs, sr, hF, k⟩ := h
  refine ⟨_, (hbody cdv A outer s H E hr).nox, startA N ds, S, _, LR.start dvs, sr, hF, fun l' S' σ' H' q r' s' f' => k _ S' _ H' q s' f' .non, fun d S' v H' q s' f' dv => k d S' v H' q s' f' dv, fun _ _ _ _ q => q.elim, fun _ _ _ _ q => q.elim⟩
theorem LF.imp {n : Nat} {F G : Spa} (h : ∀ ds S Q, ds.length = n → G ds S Q → F ds S Q) : ∀ vs H Q E, LF K n G vs H Q E → LF K n F vs H Q E :=
  fun vs H Q E ⟨hl, ds, S, Qa, dvs, sr, g, k⟩ => ⟨hl, ds, S, Qa, dvs, sr, h _ _ _ (dvs.length.symm.trans hl) g, k⟩
theorem fa_imp {f : Addr} {fd : FuncData} {ps : List Str} {n k : Nat} {F G : Spa} (h : FnG P w K mg base CX0 k f fd ps (LF K n F)) (i : ∀ ds S Q, ds.length = n → G ds S Q → F ds S Q) : FnG P w K mg base CX0 k f fd ps (LF K n G) :=
  h.imp (LF.imp i)
end
def aFn (n : Nat) (F : Spa) (t : TAa) : TEa := fun l S Q => t l S fun xs S1 => xs.length = n ∧ F xs S1 Q
section
variable {X : Cx} {k n : Nat} {f : Addr} {fd : FuncData} {ps : List Str} {F : Spa} {x : Str} {p pos : Pos} {e : Expr} {es : List Expr} {t : TAa} {CX : CXT} {sp : Sp} {E : XK}
theorem runG {pins : List (Addr × Obj)} {σ : L2.St} {H : Hp} {s : Shared} {Q : VK} {us : List Value} {vs : List V} (G : FnG X.prog X.w X.K X.mg X.base CX k f fd ps sp) (hr : RoomG k X.A)
    (hb : Binds X.K fd ps []) (hx : Passes CX X E) (I : Inv X pins σ H s) (r : Vals vs us) (h : sp vs H Q E) :
    wpAny (model X.prog X.w) X.A (call (.ref f) us) (EP X pins σ Q) X.xe s := by
  have hl : (us ++ []).length = ps.length := by rw [List.append_nil, ← r.length]; exact G.len _ _ _ _ h
  have hb' := hb s us I.kIn hl
  rw [List.append_nil] at hb'
  refine wpAny_call (codeAny_mono (G.run X.A X.stack s H ⟨us, []⟩ us vs Q E hr I.env0 hb' r h) ?_)
  rintro (er | fl) s' hq
  · exact hx pins σ H s er s' I hq
  · cases fl with
    | ret u => exact I.after hq
    | next => exact hq.elim
    | brk => exact hq.elim
    | cont => exact hq.elim
theorem pe_callG (G : FnG X.prog X.w X.K X.mg X.base CX k f fd ps sp) (hr : RoomG k X.A) (hg : Gl X x) (hm : X.mg x = some (.ref f)) (hk : PySem.W.keepIn X.K (.ref f) = true)
    (hb : Binds X.K fd ps []) (hx : Passes CX X E) {t : TA} (ha : PA X (e :: es) t) (hdb : (x == ("__debug__" : Str)) = false := by decide)
    (he : starEach (e :: es) X.env = (false, eval e X.env) :: starEach es X.env := by rfl) (hpl : (backTo pos (starEach es X.env)).any (·.1) = false := by rfl) :
    PE X (.Call (.Name x p) (e :: es) [] pos) (fun σ H Q => t σ H fun vs H1 => sp vs H1 Q E) := by
  constructor
  intro pins s σ H Q I h
  refine wpAny_Call_Name_kw (ld_glob I hg hm ?_ hdb)
  refine PySem.W.callWith_K (h₀ := X.base) I.ok.mod.kin hk (thn (ha.run pos pins s σ H _ I h) ?_) he hpl
  rintro us s1 ⟨vs, H1, I1, r, q⟩
  exact ⟨I1.kIn, runG G hr hb hx I1 r q⟩
theorem ae_call (G : FnG X.prog X.w X.K X.mg X.base CX0 k f fd ps (LF X.K n F)) (hr : RoomG k X.A) (hg : Gl X x) (hm : X.mg x = some (.ref f)) (hk : PySem.W.keepIn X.K (.ref f) = true) (hb : Binds X.K fd ps [])
    (ha : AA X (e :: es) t) (hdb : (x == ("__debug__" : Str)) = false := by decide) (he : starEach (e :: es) X.env = (false, eval e X.env) :: starEach es X.env := by rfl) (hpl : (backTo pos (starEach es X.env)).any (·.1) = false := by rfl) :
    AE X (.Call (.Name x p) (e :: es) [] pos) (aFn n F t) := by
  refine PE.imp (pe_callG (E := E0) G hr hg hm hk hb pass0 ha hdb he hpl) fun σ H Qc ⟨l, S, Q, r, s, h, k⟩ => ?_
  refine LA.go r s h fun d S1 v H1 ⟨q0, q1⟩ r1 s1 f1 dv => ?_
  exact ⟨dv.length.trans q0, d, S1, Q, dv, s1, q1, fun d' S' v' H' q s' f' dv' => k d' S' v' H' q s' (f1.trans f') dv'⟩
end
end AL

namespace AL
open PySem PySem.Spec PyProof.Rows L2

/-! ### trees as data -/
mutual
inductive Pd (S : Sto) : D → PyData → Prop
  | non : Pd S .non .none
  | bl (b : Bool) : Pd S (.bl b) (.bool b)
  | int (i : Int) : Pd S (.int i) (.int i)
  | str (x : Str) : Pd S (.str x) (.str x)
  | tup {ds : List D} {ps : List PyData} : PdAll S ds ps → Pd S (.tup ds) (.tuple ps)
  | lst {a : Addr} {ds : List D} {ps : List PyData} : S a = some (.lst ds) → PdAll S ds ps → Pd S (.ref a) (.list ps)
inductive PdAll (S : Sto) : List D → List PyData → Prop
  | nil : PdAll S [] []
  | cons {d : D} {ds : List D} {p : PyData} {ps : List PyData} : Pd S d p → PdAll S ds ps → PdAll S (d :: ds) (p :: ps)
end
section
variable {X : Cx} {pins : List (Addr × Obj)} {σ : L2.St} {H : Hp} {s : Shared} {S : Sto}
mutual
theorem rd (I : Inv X pins σ H s) (sr : SR X.K S H) : ∀ (p : PyData) (d : D) (v : V) (u : Value), Pd S d p → DV X.K H v d → RelV v u → ∃ as, Reads s.heap u p as
  | .none, _, _, _, h, dv, r => by cases h; cases dv; cases r; exact ⟨_, Reads.none⟩
  | .bool b, _, _, _, h, dv, r => by cases h; cases dv; cases r; exact ⟨_, Reads.bool b⟩
  | .int i, _, _, _, h, dv, r => by cases h; cases dv; obtain ⟨t, rfl⟩ := r; exact ⟨_, Reads.int i t⟩
  | .str x, _, _, _, h, dv, r => by cases h; cases dv; obtain ⟨t, rfl⟩ := r; exact ⟨_, Reads.str x t⟩
  | .list ps, _, _, _, h, dv, r => by
    cases h with
    | lst h1 h2 =>
      cases dv; cases r
      obtain ⟨vs, hv, dvs⟩ := sr _ _ h1
      obtain ⟨its, rv, ⟨o, n, ho, hc, _, hd⟩, _⟩ := I.list (SqL.of hv)
      obtain ⟨as, hr⟩ := rdAll I sr ps _ _ its h2 dvs rv
      exact ⟨_, Reads.list ho hc hd hr⟩
  | .tuple ps, _, _, _, h, dv, r => by
    cases h with
    | tup h2 =>
      cases dv with
      | tup h3 dvs =>
        cases r
        obtain ⟨its, rv, ⟨o, ho, hc, n, hd⟩, _⟩ := I.tuple h3
        obtain ⟨as, hr⟩ := rdAll I sr ps _ _ its h2 dvs rv
        exact ⟨_, Reads.tuple ho hc hd hr⟩
  | .dict _, _, _, _, h, _, _ => by cases h
theorem rdAll (I : Inv X pins σ H s) (sr : SR X.K S H) : ∀ (ps : List PyData) (ds : List D) (vs : List V) (us : List Value), PdAll S ds ps → DVs X.K H vs ds → Vals vs us → ∃ as, ReadsAll s.heap us ps as
  | [], _, _, _, h, dv, r => by cases h; cases dv; cases r; exact ⟨_, ReadsAll.nil⟩
  | p :: ps, _, _, _, h, dv, r => by
    cases h with
    | cons h1 h2 =>
      cases dv with
      | cons d1 d2 =>
        cases r with
        | cons r1 r2 =>
          obtain ⟨as, q1⟩ := rd I sr p _ _ _ h1 d1 r1
          obtain ⟨bs, q2⟩ := rdAll I sr ps _ _ _ h2 d2 r2
          exact ⟨_, ReadsAll.cons q1 q2⟩
end
end
mutual
/-- a tree without objects, as data -/
def D.py : D → PyData
  | .non => .none | .bl b => .bool b | .int i => .int i | .str x => .str x | .tup ds => .tuple (D.pys ds) | .ref _ => .none | .ty _ => .none | .rol _ => .none
def D.pys : List D → List PyData
  | [] => []
  | d :: ds => D.py d :: D.pys ds
end
mutual
def D.pure : D → Bool
  | .non => true | .bl _ => true | .int _ => true | .str _ => true | .tup ds => D.pures ds | .ref _ => false | .ty _ => false | .rol _ => false
def D.pures : List D → Bool
  | [] => true
  | d :: ds => D.pure d && D.pures ds
end
mutual
theorem Pd.of {S : Sto} : ∀ d : D, d.pure = true → Pd S d d.py
  | .non, _ => .non
  | .bl b, _ => .bl b
  | .int i, _ => .int i
  | .str x, _ => .str x
  | .tup ds, h => .tup (PdAll.of ds (by simpa [D.pure] using h))
  | .ref _, h => by simp [D.pure] at h
  | .ty _, h => by simp [D.pure] at h
  | .rol _, h => by simp [D.pure] at h
theorem PdAll.of {S : Sto} : ∀ ds : List D, D.pures ds = true → PdAll S ds (D.pys ds)
  | [], _ => .nil
  | d :: ds, h => by
    rw [D.pures, Bool.and_eq_true] at h
    exact .cons (Pd.of d h.1) (PdAll.of ds h.2)
end
theorem D.pys_map : ∀ ds : List D, D.pys ds = ds.map D.py
  | [] => rfl
  | d :: ds => by rw [D.pys, D.pys_map ds]; rfl
theorem D.pures_all : ∀ ds : List D, D.pures ds = ds.all D.pure
  | [] => rfl
  | d :: ds => by rw [D.pures, D.pures_all ds]; rfl
theorem Pd.list {S : Sto} {a : Addr} {ds : List D} (h : S a = some (.lst ds)) (p : D.pures ds = true) : Pd S (.ref a) (.list (D.pys ds)) := .lst h (PdAll.of ds p)

section
variable {K : PySem.W.Frag} {S : Sto} {H : Hp} {p : Addr} {vs : List V} {ds : List D}
theorem newTup (sr : SR K S H) (hp : H p = none) (h : DVs K H vs ds) : SR K S (upd H p (.tup vs)) ∧ FW S H S (upd H p (.tup vs)) ∧ DV K (upd H p (.tup vs)) (.ref p) (.tup ds) := by
  have f : FW S H S (upd H p (.tup vs)) := FW.upd hp
  exact ⟨sr.upd hp, f, .tup (SqT.of upd_same) (DVs.mono (f.tk sr) _ _ h)⟩
theorem newLst (sr : SR K S H) (hp : H p = none) (h : DVs K H vs ds) : SR K (put S p (.lst ds)) (upd H p (.lst vs)) ∧ FW S H (put S p (.lst ds)) (upd H p (.lst vs)) ∧ DV K (upd H p (.lst vs)) (.ref p) (.ref p) := by
  have f : FW S H (put S p (.lst ds)) (upd H p (.lst vs)) := FW.new hp
  exact ⟨sr.new hp ⟨vs, upd_same, DVs.mono (f.tk sr) _ _ h⟩, f, .ref p⟩
theorem setLst {es : List D} (sr : SR K S H) (hp : S p = some (.lst es)) (h : DVs K H vs ds) : SR K (put S p (.lst ds)) (upd H p (.lst vs)) ∧ FW S H (put S p (.lst ds)) (upd H p (.lst vs)) := by
  have f : FW S H (put S p (.lst ds)) (upd H p (.lst vs)) := FW.chg hp
  exact ⟨sr.chg hp ⟨vs, upd_same, DVs.mono (f.tk sr) _ _ h⟩, f⟩
end
theorem beq_dec {a b : Str} : (a == b) = decide (a = b) := rfl
/-! ### + - * ** // % -/
def addA : R2a := fun x y S Q => match x, y with
  | .int i, .int j => Q (.int (i + j)) S
  | .str a, .str b => a.length + b.length ≤ sizeLine ∧ Q (.str (a ++ b)) S
  | .tup a, .tup b => a.length + b.length ≤ sizeLine ∧ Q (.tup (a ++ b)) S
  | .ref p, .ref q => match S p, S q with
    | some (.lst a), some (.lst b) => a.length + b.length ≤ sizeLine ∧ ∀ r, S r = none → Q (.ref r) (put S r (.lst (a ++ b)))
    | _, _ => False
  | _, _ => False
def subA : R2a := fun x y S Q => match x, y with | .int i, .int j => Q (.int (i - j)) S | _, _ => False
/-- one factor within 64 bits -/
def mulA : R2a := fun x y S Q => match x, y with
  | .int i, .int j => ((-(2 ^ 64) < i ∧ i < 2 ^ 64) ∨ (-(2 ^ 64) < j ∧ j < 2 ^ 64)) ∧ Q (.int (i * j)) S
  | .ref p, .int k => match S p with
    | some (.lst a) => k < 2 ^ 63 ∧ -(2 ^ 63) ≤ k ∧ a.length * k.toNat ≤ sizeLine ∧ ∀ r, S r = none → Q (.ref r) (put S r (.lst (List.replicate k.toNat a).flatten))
    | _ => False
  | .tup a, .int k => a ≠ [] ∧ 2 ≤ k ∧ k ≤ 1000 ∧ a.length ≤ 1000 ∧ Q (.tup (List.replicate k.toNat a).flatten) S
  | _, _ => False
def mulW : R2a := fun x y S Q => match x, y with | .int i, .int j => CMulW i j ∧ Q (.int (i * j)) S | _, _ => False
def modA : R2a := fun x y S Q => match x, y with | .int i, .int j => 0 < j ∧ Q (.int (i % j)) S | _, _ => False
def divW : R2a := fun x y S Q => match x, y with | .int i, .int j => CDivW i j ∧ Q (.int (i / j)) S | _, _ => False
def powA : R2a := fun x y S Q => match x, y with | .int i, .int j => CPow i j ∧ Q (.int (i ^ j.toNat)) S | _, _ => False
section
variable {X : Cx}
theorem DVs.nil_iff {K : PySem.W.Frag} {H : Hp} {vs : List V} {ds : List D} (h : DVs K H vs ds) : vs = [] ↔ ds = [] := by
  cases h <;> simp
theorem DVs.rep {K : PySem.W.Frag} {H : Hp} {vs : List V} {ds : List D} (h : DVs K H vs ds) : ∀ k : Nat, DVs K H (List.replicate k vs).flatten (List.replicate k ds).flatten
  | 0 => .nil
  | k + 1 => by
    rw [List.replicate_succ, List.replicate_succ, List.flatten_cons, List.flatten_cons]
    exact h.append (DVs.rep h k)
/-- an operation of ints -/
theorem oaI {f : Value → Value → Sem Value} {C : Int → Int → Prop} {g : Int → Int → Int} (h : OpR X f (rI C fun i j => .int (g i j))) :
    OA X f (fun x y S Q => match x, y with | .int i, .int j => C i j ∧ Q (.int (g i j)) S | _, _ => False) := by
  intro pins s σ H x y v u Qc I rx ry ⟨d, e, S, Q, dx, dy, sr, q, k⟩
  cases d <;> cases e <;> first
    | exact q.elim
    | (cases dx; cases dy; exact h pins s σ H _ _ v u Qc I rx ry ⟨_, _, rfl, rfl, q.1, k _ S _ H q.2 sr .refl (.int _)⟩)
theorem oaI0 {f : Value → Value → Sem Value} {g : Int → Int → Int} (h : OpR X f (rI0 fun i j => .int (g i j))) :
    OA X f (fun x y S Q => match x, y with | .int i, .int j => Q (.int (g i j)) S | _, _ => False) := by
  intro pins s σ H x y v u Qc I rx ry ⟨d, e, S, Q, dx, dy, sr, q, k⟩
  cases d <;> cases e <;> first
    | exact q.elim
    | (cases dx; cases dy; exact h pins s σ H _ _ v u Qc I rx ry ⟨_, _, rfl, rfl, k _ S _ H q sr .refl (.int _)⟩)
theorem oa_sub : OA X (binaryOp .Sub) subA := oaI0 op_sub
theorem oa_mod : OA X (binaryOp .Mod) modA := oaI op_mod
theorem oa_divW : OA X (binaryOp .FloorDiv) divW := oaI op_fdivW
theorem oa_pow : OA X (binaryOp .Pow) powA := oaI op_pow
theorem oa_mulW : OA X (binaryOp .Mult) mulW := oaI op_mulW
theorem oa_isub : OA X (inplaceOp .Sub) subA := oaI0 iop_sub
theorem oa_add : OA X (binaryOp .Add) addA := by
  intro pins s σ H x y v u Qc I rx ry ⟨d, e, S, Q, dx, dy, sr, q, k⟩
  unfold addA at q
  split at q
  · cases dx; cases dy; exact op_add pins s σ H _ _ v u Qc I rx ry ⟨_, _, rfl, rfl, k _ S _ H q sr .refl (.int _)⟩
  · cases dx; cases dy; exact op_add_str pins s σ H _ _ v u Qc I rx ry ⟨_, _, rfl, rfl, q.1, k _ S _ H q.2 sr .refl (.str _)⟩
  · rename_i a b
    cases dx with
    | tup h1 h2 =>
      cases dy with
      | tup h3 h4 =>
        refine op_catA pins s σ H _ _ v u Qc I rx ry ⟨_, _, _, _, rfl, rfl, h1, h3, by rw [h2.length, h4.length]; exact q.1, fun e => ?_, fun e e2 => ?_, fun e e2 p hp => ?_⟩
        · have : a = [] := h2.nil_iff.mp e
          subst this
          exact k _ S _ H q.2 sr .refl (.tup h3 h4)
        · have : b = [] := h4.nil_iff.mp e2
          subst this
          rw [List.append_nil] at q
          exact k _ S _ H q.2 sr .refl (.tup h1 h2)
        · obtain ⟨a1, a2, a3⟩ := newTup sr hp (h2.append h4)
          exact k _ S _ _ q.2 a1 a2 a3
  · rename_i p q'
    split at q
    · rename_i a b e1 e2
      cases dx; cases dy
      obtain ⟨va, ha, dva⟩ := sr _ _ e1
      obtain ⟨vb, hb, dvb⟩ := sr _ _ e2
      refine op_cat pins s σ H _ _ v u Qc I rx ry ⟨_, _, _, _, rfl, rfl, ha, hb, by rw [dva.length, dvb.length]; exact q.1, fun r hr => ?_⟩
      obtain ⟨a1, a2, a3⟩ := newLst sr hr (dva.append dvb)
      exact k _ _ _ _ (q.2 r (sr.fresh hr)) a1 a2 a3
    · exact q.elim
  · exact q.elim
def iaddA : R2a := fun x y S Q => match x, y with
  | .int i, .int j => Q (.int (i + j)) S
  | .str a, .str b => a.length + b.length ≤ sizeLine ∧ Q (.str (a ++ b)) S
  | _, _ => False
theorem oa_iadd : OA X (inplaceOp .Add) iaddA := by
  intro pins s σ H x y v u Qc I rx ry ⟨d, e, S, Q, dx, dy, sr, q, k⟩
  unfold iaddA at q
  split at q
  · cases dx; cases dy; exact iop_add pins s σ H _ _ v u Qc I rx ry ⟨_, _, rfl, rfl, k _ S _ H q sr .refl (.int _)⟩
  · cases dx; cases dy; exact iop_add_str pins s σ H _ _ v u Qc I rx ry ⟨_, _, rfl, rfl, q.1, k _ S _ H q.2 sr .refl (.str _)⟩
  · exact q.elim
theorem oa_mul : OA X (binaryOp .Mult) mulA := by
  intro pins s σ H x y v u Qc I rx ry ⟨d, e, S, Q, dx, dy, sr, q, k⟩
  unfold mulA at q
  split at q
  · cases dx; cases dy; exact op_mul pins s σ H _ _ v u Qc I rx ry ⟨_, _, rfl, rfl, q.1.elim (fun z => .inl z) (fun z => .inr z), k _ S _ H q.2 sr .refl (.int _)⟩
  · split at q
    · rename_i a e1
      cases dx; cases dy
      obtain ⟨va, ha, dva⟩ := sr _ _ e1
      refine op_rep pins s σ H _ _ v u Qc I rx ry ⟨_, _, _, rfl, rfl, ha, q.2.1, q.1, by rw [dva.length]; exact q.2.2.1, fun r hr => ?_⟩
      obtain ⟨a1, a2, a3⟩ := newLst sr hr (dva.rep _)
      exact k _ _ _ _ (q.2.2.2 r (sr.fresh hr)) a1 a2 a3
    · exact q.elim
  · cases dx with
    | tup h1 h2 =>
      cases dy
      refine op_repT pins s σ H _ _ v u Qc I rx ry ⟨_, _, _, rfl, rfl, h1, fun e => q.1 (h2.nil_iff.mp e), q.2.1, q.2.2.1, by rw [h2.length]; exact q.2.2.2.1, fun r hr => ?_⟩
      obtain ⟨a1, a2, a3⟩ := newTup sr hr (h2.rep _)
      exact k _ S _ _ q.2.2.2.2 a1 a2 a3
  · exact q.elim
def negA : D → Sto → DK → Prop := fun x S Q => match x with | .int i => Q (.int (-i)) S | _ => False
theorem ua_neg : UA X (unaryOp .USub) negA := by
  intro pins s σ H x v Qc I rx ⟨d, S, Q, dx, sr, q, k⟩
  cases d <;> first
    | exact q.elim
    | (cases dx; exact un_neg pins s σ H _ v Qc I rx ⟨_, rfl, k _ S _ H q sr .refl (.int _)⟩)

/-! ### comparisons -/
/-- the C stack has room for data of depth 190 -/
theorem units190 {k : Nat} {A : Around} (h : RoomG k A) {n : Nat} (hn : n ≤ 190) : A.units + 1 + n < cLine := by have := h.r.un; omega
def eqA : R2a := fun x y S Q => match x, y with
  | .int i, .int j => Q (.bl (decide (i = j))) S
  | .str i, .str j => Q (.bl (decide (i = j))) S
  | x, y => ∃ p q, Pd S x p ∧ Pd S y q ∧ p.plain = true ∧ q.plain = true ∧ min p.depth q.depth ≤ 190 ∧ Q (.bl (PyData.eqv p q)) S
def neA : R2a := fun x y S Q => match x, y with
  | .int i, .int j => Q (.bl (!decide (i = j))) S
  | .str i, .str j => Q (.bl (!decide (i = j))) S
  | x, y => ∃ p q, Pd S x p ∧ Pd S y q ∧ p.plain = true ∧ q.plain = true ∧ min p.depth q.depth ≤ 190 ∧ Q (.bl (!PyData.eqv p q)) S
theorem dec_v {i j : Int} : decide (V.int i = V.int j) = decide (i = j) := decide_eq_decide.mpr ⟨fun e => V.int.inj e, fun e => by rw [e]⟩
theorem dec_s {i j : Str} : decide (V.str i = V.str j) = decide (i = j) := decide_eq_decide.mpr ⟨fun e => V.str.inj e, fun e => by rw [e]⟩
theorem oa_eq {k : Nat} (hr : RoomG k X.A) : OA X (compareOp .Eq) eqA := by
  intro pins s σ H x y v u Qc I rx ry ⟨d, e, S, Q, dx, dy, sr, q, k⟩
  unfold eqA at q
  split at q
  · cases dx; cases dy
    obtain ⟨t, rfl⟩ := rx
    obtain ⟨t', rfl⟩ := ry
    exact eq_int ⟨.bl _, H, I, rfl, k _ S _ H (by rw [Bool.beq_eq_decide_eq]; exact q) sr .refl (.bl _)⟩
  · cases dx; cases dy
    obtain ⟨t, rfl⟩ := rx
    obtain ⟨t', rfl⟩ := ry
    exact eq_str ⟨.bl _, H, I, rfl, k _ S _ H (by rw [beq_dec]; exact q) sr .refl (.bl _)⟩
  · obtain ⟨p, p', h1, h2, h3, h4, h5, q⟩ := q
    obtain ⟨as, r1⟩ := rd I sr p _ _ _ h1 dx rx
    obtain ⟨bs, r2⟩ := rd I sr p' _ _ _ h2 dy ry
    exact PySem.SeqAt.eq_plain r1 r2 h3 h4 (by have := units190 hr h5; omega) ⟨.bl _, H, I, rfl, k _ S _ H q sr .refl (.bl _)⟩
theorem oa_ne {k : Nat} (hr : RoomG k X.A) : OA X (compareOp .NotEq) neA := by
  intro pins s σ H x y v u Qc I rx ry ⟨d, e, S, Q, dx, dy, sr, q, k⟩
  unfold neA at q
  split at q
  · cases dx; cases dy
    obtain ⟨t, rfl⟩ := rx
    obtain ⟨t', rfl⟩ := ry
    exact ne_int ⟨.bl _, H, I, rfl, k _ S _ H (by rw [bne, Bool.beq_eq_decide_eq]; exact q) sr .refl (.bl _)⟩
  · cases dx; cases dy
    obtain ⟨t, rfl⟩ := rx
    obtain ⟨t', rfl⟩ := ry
    exact ne_str ⟨.bl _, H, I, rfl, k _ S _ H (by rw [bne, beq_dec]; exact q) sr .refl (.bl _)⟩
  · obtain ⟨p, p', h1, h2, h3, h4, h5, q⟩ := q
    obtain ⟨as, r1⟩ := rd I sr p _ _ _ h1 dx rx
    obtain ⟨bs, r2⟩ := rd I sr p' _ _ _ h2 dy ry
    exact PySem.SeqAt.ne_plain r1 r2 h3 h4 (by have := units190 hr h5; omega) ⟨.bl _, H, I, rfl, k _ S _ H q sr .refl (.bl _)⟩
def cmpA (pi : Int → Int → Bool) (pd : PyData → PyData → Bool) : R2a := fun x y S Q => match x, y with
  | .int i, .int j => Q (.bl (pi i j)) S
  | x, y => ∃ p q, Pd S x p ∧ Pd S y q ∧ PySem.W.alike p q = true ∧ p ≠ .none ∧ min p.depth q.depth ≤ 190 ∧ Q (.bl (pd p q)) S
abbrev ltA : R2a := cmpA (fun i j => decide (i < j)) (fun p q => PySem.W.dataLt p q)
abbrev gtA : R2a := cmpA (fun i j => decide (j < i)) (fun p q => PySem.W.dataLt q p)
abbrev leA : R2a := cmpA (fun i j => decide (i ≤ j)) (fun p q => !PySem.W.dataLt q p)
abbrev geA : R2a := cmpA (fun i j => decide (j ≤ i)) (fun p q => !PySem.W.dataLt p q)
theorem oa_cmp {k : Nat} (hr : RoomG k X.A) {op : CmpOp} {pi : Int → Int → Bool} {pd : PyData → PyData → Bool}
    (hi : ∀ (i j : Int) (t u : Tok) (Q : Value → Shared → Prop) (s : Shared), Q (.bool (pi i j)) s → wpAny (model X.prog X.w) X.A (compareOp op (.int i t) (.int j u)) Q X.xe s)
    (hd : ∀ (a b : Value) (p q : PyData) (as bs : List Addr) (Q : Value → Shared → Prop) (s : Shared), Reads s.heap a p as → Reads s.heap b q bs → PySem.W.alike p q = true → p ≠ .none → X.A.units + min p.depth q.depth < cLine → Q (.bool (pd p q)) s →
      wpAny (model X.prog X.w) X.A (compareOp op a b) Q X.xe s) : OA X (compareOp op) (cmpA pi pd) := by
  intro pins s σ H x y v u Qc I rx ry ⟨d, e, S, Q, dx, dy, sr, q, k⟩
  unfold cmpA at q
  split at q
  · cases dx; cases dy
    obtain ⟨t, rfl⟩ := rx
    obtain ⟨t', rfl⟩ := ry
    exact hi _ _ _ _ _ _ ⟨.bl _, H, I, rfl, k _ S _ H q sr .refl (.bl _)⟩
  · obtain ⟨p, p', h1, h2, h3, h4, h5, q⟩ := q
    obtain ⟨as, r1⟩ := rd I sr p _ _ _ h1 dx rx
    obtain ⟨bs, r2⟩ := rd I sr p' _ _ _ h2 dy ry
    exact hd _ _ _ _ _ _ _ _ r1 r2 h3 h4 (by have := units190 hr h5; omega) ⟨.bl _, H, I, rfl, k _ S _ H q sr .refl (.bl _)⟩
theorem oa_lt {k : Nat} (hr : RoomG k X.A) : OA X (compareOp .Lt) ltA := oa_cmp hr (fun _ _ _ _ _ _ h => lt_int h) fun _ _ _ _ _ _ _ _ r1 r2 h1 h2 h3 q => PySem.W.lt_data r1 r2 h1 h2 h3 q
theorem oa_gt {k : Nat} (hr : RoomG k X.A) : OA X (compareOp .Gt) gtA := oa_cmp hr (fun _ _ _ _ _ _ h => gt_int h) fun _ _ _ _ _ _ _ _ r1 r2 h1 h2 h3 q => PySem.W.gt_data r1 r2 h1 h2 h3 q
theorem oa_le {k : Nat} (hr : RoomG k X.A) : OA X (compareOp .LtE) leA := oa_cmp hr (fun _ _ _ _ _ _ h => le_int h) fun _ _ _ _ _ _ _ _ r1 r2 h1 h2 h3 q => PySem.W.le_data r1 r2 h1 h2 h3 q
theorem oa_ge {k : Nat} (hr : RoomG k X.A) : OA X (compareOp .GtE) geA := oa_cmp hr (fun _ _ _ _ _ _ h => ge_int h) fun _ _ _ _ _ _ _ _ r1 r2 h1 h2 h3 q => PySem.W.ge_data r1 r2 h1 h2 h3 q
def isNonD : D → Bool | .non => true | _ => false
def isNA (neg : Bool) : R2a := fun x y S Q => match y with | .non => Q (.bl (neg != isNonD x)) S | _ => False
theorem DV.isNon {K : PySem.W.Frag} {H : Hp} {v : V} {d : D} (h : DV K H v d) : decide (v = .non) = isNonD d := by cases h <;> rfl
theorem oa_isN : OA X (compareOp .Is) (isNA false) := by
  intro pins s σ H x y v u Qc I rx ry ⟨d, e, S, Q, dx, dy, sr, q, k⟩
  unfold isNA at q
  split at q
  · cases dy
    exact op_isN pins s σ H _ _ v u Qc I rx ry ⟨rfl, k _ S _ H (by rw [dx.isNon]; simpa using q) sr .refl (.bl _)⟩
  · exact q.elim
theorem oa_notN : OA X (compareOp .IsNot) (isNA true) := by
  intro pins s σ H x y v u Qc I rx ry ⟨d, e, S, Q, dx, dy, sr, q, k⟩
  unfold isNA at q
  split at q
  · cases dy
    exact op_notN pins s σ H _ _ v u Qc I rx ry ⟨rfl, k _ S _ H (by rw [dx.isNon]; simpa using q) sr .refl (.bl _)⟩
  · exact q.elim
/-! ### in, not in -/
def inA (neg : Bool) : R2a := fun x y S Q => match x, y with
  | .str i, .str j => Q (.bl (neg != !(Builtin.Str.occurrences j i 0 j.length 1).isEmpty)) S
  | x, .tup ds => ∃ p ps, Pd S x p ∧ PdAll S ds ps ∧ p.plain = true ∧ PyData.plainAll ps = true ∧ min (PyData.depthAll ps) p.depth ≤ 190 ∧ Q (.bl (neg != ps.any fun y => PyData.eqv y p)) S
  | x, .ref a => match S a with
    | some (.lst ds) => ∃ p ps, Pd S x p ∧ PdAll S ds ps ∧ p.plain = true ∧ PyData.plainAll ps = true ∧ min (PyData.depthAll ps) p.depth ≤ 190 ∧ Q (.bl (neg != ps.any fun y => PyData.eqv y p)) S
    | _ => False
  | _, _ => False
theorem oa_in {k : Nat} (hr : RoomG k X.A) : OA X (compareOp .In) (inA false) := by
  intro pins s σ H x y v u Qc I rx ry ⟨d, e, S, Q, dx, dy, sr, q, k⟩
  unfold inA at q
  split at q
  · cases dx; cases dy
    exact op_in_str pins s σ H _ _ v u Qc I rx ry ⟨_, _, rfl, rfl, k _ S _ H (by simpa using q) sr .refl (.bl _)⟩
  · obtain ⟨p, ps, h1, h2, h3, h4, h5, q⟩ := q
    obtain ⟨as, r1⟩ := rd I sr p _ _ _ h1 dx rx
    obtain ⟨bs, r2⟩ := rd I sr (.tuple ps) _ _ _ (.tup h2) dy ry
    exact PySem.SeqAt.in_tuple_data r2 r1 h4 h3 (units190 hr h5) ⟨.bl _, H, I, rfl, k _ S _ H (by simpa using q) sr .refl (.bl _)⟩
  · split at q
    · rename_i e1
      obtain ⟨p, ps, h1, h2, h3, h4, h5, q⟩ := q
      obtain ⟨as, r1⟩ := rd I sr p _ _ _ h1 dx rx
      obtain ⟨bs, r2⟩ := rd I sr (.list ps) _ _ _ (.lst e1 h2) dy ry
      exact PySem.SeqAt.in_list_data r2 r1 h4 h3 (units190 hr h5) ⟨.bl _, H, I, rfl, k _ S _ H (by simpa using q) sr .refl (.bl _)⟩
    · exact q.elim
  · exact q.elim
theorem oa_notIn {k : Nat} (hr : RoomG k X.A) : OA X (compareOp .NotIn) (inA true) := by
  intro pins s σ H x y v u Qc I rx ry ⟨d, e, S, Q, dx, dy, sr, q, k⟩
  unfold inA at q
  split at q
  · cases dx; cases dy
    exact op_notin_str pins s σ H _ _ v u Qc I rx ry ⟨_, _, rfl, rfl, k _ S _ H (by simpa using q) sr .refl (.bl _)⟩
  · obtain ⟨p, ps, h1, h2, h3, h4, h5, q⟩ := q
    obtain ⟨as, r1⟩ := rd I sr p _ _ _ h1 dx rx
    obtain ⟨bs, r2⟩ := rd I sr (.tuple ps) _ _ _ (.tup h2) dy ry
    exact PySem.SeqAt.notIn_tuple_data r2 r1 h4 h3 (units190 hr h5) ⟨.bl _, H, I, rfl, k _ S _ H (by simpa using q) sr .refl (.bl _)⟩
  · split at q
    · rename_i e1
      obtain ⟨p, ps, h1, h2, h3, h4, h5, q⟩ := q
      obtain ⟨as, r1⟩ := rd I sr p _ _ _ h1 dx rx
      obtain ⟨bs, r2⟩ := rd I sr (.list ps) _ _ _ (.lst e1 h2) dy ry
      exact PySem.SeqAt.notIn_list_data r2 r1 h4 h3 (units190 hr h5) ⟨.bl _, H, I, rfl, k _ S _ H (by simpa using q) sr .refl (.bl _)⟩
    · exact q.elim
  · exact q.elim
end
end AL

namespace AL
open PySem PySem.Spec PyProof.Rows L2

/-! ### a[i] -/
def kvD (kvs : List (Key × D)) (k : Key) : Option D := (kvs.find? fun kv => decide (kv.1 = k)).map (·.2)
theorem KVs.look {K : PySem.W.Frag} {H : Hp} {vs : List (Key × V)} {ds : List (Key × D)} (k : Key) (h : KVs K H vs ds) :
    (valV vs k = none ∧ kvD ds k = none) ∨ ∃ v d, valV vs k = some v ∧ kvD ds k = some d ∧ DV K H v d := by
  induction h with
  | nil => exact .inl ⟨rfl, rfl⟩
  | cons h1 _ ih =>
    rename_i n v vs d ds _
    unfold valV kvD at ih ⊢
    rw [List.find?_cons, List.find?_cons]
    by_cases e : n = k
    · subst e
      simp only [decide_true, Option.map_some]
      exact .inr ⟨v, d, rfl, rfl, h1⟩
    · simp only [decide_eq_false e]
      exact ih
def keyD : D → Option Key
  | .int i => some (.inl i)
  | .str x => some (.inr x)
  | _ => none
theorem keyD_kV {K : PySem.W.Frag} {H : Hp} {v : V} {d : D} {k : Key} (h : DV K H v d) (e : keyD d = some k) : v = kV k := by
  cases d <;> simp [keyD] at e
  · cases h; subst e; rfl
  · cases h; subst e; rfl
def ixA : R2a := fun x y S Q => match x, y with
  | .tup ds, .int i => match atI ds i with | some d => Q d S | none => False
  | .str z, .int i => z.length ≤ sizeLine ∧ match atI z.cps.toList i with | some c => Q (.str ⟨#[c]⟩) S | none => False
  | .ref a, y => match S a with
    | some (.lst ds) => match y with
      | .int i => match atI ds i with | some d => Q d S | none => False
      | _ => False
    | some (.dik kvs) => match (keyD y).bind (kvD kvs) with | some d => Q d S | none => False
    | _ => False
  | _, _ => False
theorem atI_dv {K : PySem.W.Frag} {H : Hp} {vs : List V} {ds : List D} {i : Int} {d : D} (h : DVs K H vs ds) (e : atI ds i = some d) : ∃ v, atI vs i = some v ∧ DV K H v d := by
  unfold atI at e ⊢
  rw [h.length]
  cases q : ixN ds.length i with
  | none => rw [q] at e; cases e
  | some j =>
    rw [q] at e
    exact h.get e
section
variable {X : Cx}
theorem ix_dik (hu : X.A.units + 1 < cLine) : IxR X (fun x y H Q => ∃ a k kvs v, x = .ref a ∧ y = kV k ∧ H a = some (.dK kvs) ∧ valV kvs k = some v ∧ Q v H) := by
  intro value slice pins s σ H x y v u Q I rx ry h hs
  obtain ⟨a, k, kvs, r, rfl, rfl, hH, hv, q⟩ := h
  obtain rfl : v = Value.ref a := rx
  have g : DGet H a (kV k) (some r) := hv ▸ DGet.k hH
  exact tail_any (dict_typeIs I g) PySem.F.slot_dict_getitem.lookup (d_getItem hu I g ry fun w' s3 I3 rw' => ⟨r, H, I3, rw', q⟩) hs
theorem ia_ix {k : Nat} (hr : RoomG k X.A) : IA X ixA := by
  intro value slice pins s σ H x y v u Qc I rx ry ⟨d, e, S, Q, dx, dy, sr, q, k⟩ hs
  cases d with
  | tup ds =>
    cases e with
    | int i =>
      simp only [ixA] at q
      split at q
      · rename_i d' e'
        cases dx with
        | tup h1 h2 =>
          cases dy
          obtain ⟨z, ez, dz⟩ := atI_dv h2 e'
          exact ix_tup value slice pins s σ H _ _ v u Qc I rx ry ⟨_, _, _, _, rfl, rfl, h1, ez, k _ S _ H q sr .refl dz⟩ hs
      · exact q.elim
    | _ => exact q.elim
  | str z =>
    cases e with
    | int i =>
      simp only [ixA] at q
      obtain ⟨hz, q⟩ := q
      split at q
      · rename_i c e'
        cases dx; cases dy
        exact ix_str value slice pins s σ H _ _ v u Qc I rx ry ⟨_, _, _, rfl, rfl, hz, e', k _ S _ H q sr .refl (.str _)⟩ hs
      · exact q.elim
    | _ => exact q.elim
  | ref a =>
    simp only [ixA] at q
    cases ea : S a with
    | none => rw [ea] at q; exact q.elim
    | some ob =>
      rw [ea] at q
      cases ob with
      | lst ds =>
        cases e with
        | int i =>
          simp only at q
          split at q
          · rename_i d' e'
            cases dx; cases dy
            obtain ⟨vs, hv, dvs⟩ := sr a _ ea
            obtain ⟨z, ez, dz⟩ := atI_dv dvs e'
            exact ix_list value slice pins s σ H _ _ v u Qc I rx ry ⟨_, _, _, _, rfl, rfl, SqL.of hv, ez, k _ S _ H q sr .refl dz⟩ hs
          · exact q.elim
        | _ => exact q.elim
      | dik kvs =>
        simp only at q
        cases dx
        obtain ⟨vs, hv, dvs⟩ := sr a _ ea
        cases ek : keyD e with
        | none => rw [ek] at q; exact q.elim
        | some key =>
          rw [ek] at q
          have e3 := keyD_kV dy ek
          subst e3
          rcases dvs.look key with ⟨_, b⟩ | ⟨v', d2, b1, b2, b3⟩
          · rw [show (some key).bind (kvD kvs) = kvD kvs key from rfl, b] at q; exact q.elim
          · rw [show (some key).bind (kvD kvs) = kvD kvs key from rfl, b2] at q
            exact ix_dik (by have := hr.r.un; omega) value slice pins s σ H _ _ v u Qc I rx ry ⟨_, _, _, _, rfl, rfl, hv, b1, k _ S _ H q sr .refl b3⟩ hs
      | ins C fs => exact q.elim
  | _ => exact q.elim

/-! ### slices -/
def cutD (ds : List D) (lo hi : Option Int) : List D := (ds.drop (HT.sIx ds.length 0 lo)).take (HT.sIx ds.length ds.length hi - HT.sIx ds.length 0 lo)
theorem cutD_dv {K : PySem.W.Frag} {H : Hp} {vs : List V} {ds : List D} {lo hi : Option Int} (h : DVs K H vs ds) : DVs K H (cutV vs lo hi) (cutD ds lo hi) := by
  unfold cutV cutD
  rw [h.length]
  exact (h.drop _).take _
end
abbrev TOa := Lc → Sto → (Option Int → Sto → Prop) → Prop
def LPo (K : PySem.W.Frag) (t : TOa) : TO := fun σ H Qc => ∃ l S Q, LR K H l σ ∧ SR K S H ∧ t l S Q ∧ ∀ o S' H', Q o S' → SR K S' H' → FW S H S' H' → Qc o H'
def APo (X : Cx) (e : Option Expr) (t : TOa) : Prop := PO X e (LPo X.K t)
def aNoPart : TOa := fun _ S Q => Q none S
def aPart (te : TEa) : TOa := fun l S Q => te l S fun x S1 => match x with | .int i => Q (some i) S1 | _ => False
def slA (x : D) (lo hi : Option Int) (S : Sto) (Q : DK) : Prop := match x with
  | .tup ds => Q (.tup (cutD ds lo hi)) S
  | .str z => z.length ≤ sizeLine ∧ Q (.str (cutS z lo hi)) S
  | .rol ds => ∀ p, S p = none → Q (.ref p) (put S p (.lst (cutD ds lo hi)))
  | .ref a => match S a with
    | some (.lst ds) => ∀ p, S p = none → Q (.ref p) (put S p (.lst (cutD ds lo hi)))
    | _ => False
  | _ => False
def aSl (te : TEa) (tl th : TOa) : TEa := fun l S Q => te l S fun x S1 => tl l S1 fun lo S2 => th l S2 fun hi S3 => slA x lo hi S3 Q
theorem PO.imp {X : Cx} {e : Option Expr} {t u : TO} (h : PO X e t) (i : ∀ σ H Q, u σ H Q → t σ H Q) : PO X e u := ⟨fun pins s σ H Q I q => h.run pins s σ H Q I (i _ _ _ q)⟩
section
variable {X : Cx} {e : Expr} {te : TEa} {lo hi : Option Expr} {tl th : TOa} {p2 pos : Pos}
theorem apo_none : APo X none aNoPart := PO.imp po_none fun _ H _ ⟨_, S, _, _, s, h, k⟩ => k _ S H h s .refl
theorem apo_some (h : AE X e te) : APo X (some e) (aPart te) := by
  refine PO.imp (po_some h) fun σ H Qc ⟨l, S, Q, r, s, h, k⟩ => ?_
  refine LE.go r s h fun d S1 v H1 q1 r1 s1 f1 dv => ?_
  split at q1
  · cases dv; exact ⟨_, rfl, k _ S1 H1 q1 s1 f1⟩
  · exact q1.elim
theorem cutV_all (xs : List V) {lo hi : Option Int} (h : HT.sIx xs.length 0 lo = 0 ∧ HT.sIx xs.length xs.length hi = xs.length) : cutV xs lo hi = xs := by
  unfold cutV
  rw [h.1, h.2]
  simp
/-- what a slice of a tree is -/
theorem sl_all : SlR X (fun x lo hi H Qc => ∃ d S Q, DV X.K H x d ∧ SR X.K S H ∧ slA d lo hi S Q ∧ ∀ d' S' v H', Q d' S' → SR X.K S' H' → FW S H S' H' → DV X.K H' v d' → Qc v H') := by
  intro pins s σ H x v vl vu lo hi sl Qc I rx hs pl pu ⟨d, S, Q, dx, sr, q, k⟩
  unfold slA at q
  split at q
  · rename_i ds
    cases dx with
    | tup h1 h2 =>
      refine sl_tupA pins s σ H _ v vl vu lo hi sl Qc I rx hs pl pu ⟨_, _, rfl, h1, fun e => ?_, fun e p hp => ?_⟩
      · refine k _ S _ H q sr .refl ?_
        have z := cutD_dv (lo := lo) (hi := hi) h2
        rw [cutV_all _ e] at z
        exact .tup h1 z
      · obtain ⟨a1, a2, a3⟩ := newTup sr hp (cutD_dv (lo := lo) (hi := hi) h2)
        exact k _ S _ _ q a1 a2 a3
  · cases dx
    exact sl_str pins s σ H _ v vl vu lo hi sl Qc I rx hs pl pu ⟨_, rfl, q.1, k _ S _ H q.2 sr .refl (.str _)⟩
  · cases dx with
    | rol h1 h2 =>
      refine sl_list pins s σ H _ v vl vu lo hi sl Qc I rx hs pl pu ⟨_, _, rfl, h1.l, fun p hp => ?_⟩
      obtain ⟨a1, a2, a3⟩ := newLst sr hp (cutD_dv (lo := lo) (hi := hi) h2)
      exact k _ _ _ _ (q p (sr.fresh hp)) a1 a2 a3
  · rename_i a
    split at q
    · rename_i ds ea
      cases dx
      obtain ⟨vs, hv, dvs⟩ := sr a _ ea
      refine sl_list pins s σ H _ v vl vu lo hi sl Qc I rx hs pl pu ⟨_, _, rfl, SqL.of hv, fun p hp => ?_⟩
      obtain ⟨a1, a2, a3⟩ := newLst sr hp (cutD_dv (lo := lo) (hi := hi) dvs)
      exact k _ _ _ _ (q p (sr.fresh hp)) a1 a2 a3
    · exact q.elim
  · exact q.elim
theorem ae_slice (he : AE X e te) (hl : APo X lo tl) (hh : APo X hi th) : AE X (.Subscript e (.Slice lo hi none p2) pos) (aSl te tl th) := by
  refine PE.imp (pe_slice sl_all he hl hh) fun σ H Qc ⟨l, S, Q, r, s, h, k⟩ => ?_
  refine LE.go r s h fun d S1 v H1 q1 r1 s1 f1 dv => ?_
  refine ⟨l, S1, _, r1, s1, q1, fun o2 S2 H2 q2 s2 f2 => ?_⟩
  refine ⟨l, S2, _, r1.mono (f2.tk s1), s2, q2, fun o3 S3 H3 q3 s3 f3 => ?_⟩
  exact ⟨d, S3, Q, DV.mono ((f2.trans f3).tk s1) _ _ dv, s3, q3, fun d' S' v' H' q s' f' dv' => k d' S' v' H' q s' (f1.trans (f2.trans (f3.trans f'))) dv'⟩
/-- xs[::-1], xs a list -/
def aRevL (te : TEa) : TEa := fun l S Q => te l S fun x S1 => match x with
  | .ref a => match S1 a with
    | some (.lst ds) => ∀ p, S1 p = none → Q (.ref p) (put S1 p (.lst ds.reverse))
    | _ => False
  | _ => False
theorem ae_revL {k : Nat} {p1 p2 p3 pos : Pos} (he : AE X e te) : AE X (.Subscript e (.Slice none none (some (.UnaryOp .USub (.Constant (.int 1) k p1) p2)) p3) pos) (aRevL te) := by
  refine PE.imp (pe_revL he) fun σ H Qc ⟨l, S, Q, r, s, h, k⟩ => ?_
  refine LE.go r s h fun d S1 v H1 q1 r1 s1 f1 dv => ?_
  split at q1
  · split at q1
    · rename_i a ds ea
      cases dv
      obtain ⟨vs, hv, dvs⟩ := s1 _ _ ea
      refine ⟨_, _, rfl, SqL.of hv, fun p hp => ?_⟩
      obtain ⟨a1, a2, a3⟩ := newLst s1 hp dvs.reverse
      exact k _ _ _ _ (q1 p (s1.fresh hp)) a1 (f1.trans a2) a3
    · exact q1.elim
  · exact q1.elim
end

/-! ### xs[i] = v -/
def putD (kvs : List (Key × D)) (k : Key) (v : D) : List (Key × D) :=
  if (kvs.any fun kv => decide (kv.1 = k)) = true then kvs.map (fun kv => if kv.1 = k then (kv.1, v) else kv) else kvs ++ [(k, v)]
def setA : D → D → D → Sto → (Sto → Prop) → Prop := fun o i v S Q => match o with
  | .ref a => match S a with
    | some (.lst ds) => match i with
      | .int k => match ixN ds.length k with | some j => Q (put S a (.lst (ds.set j v))) | none => False
      | _ => False
    | some (.dik kvs) => match keyD i with
      | some k => kvs.length < sizeLine ∧ Q (put S a (.dik (putD kvs k v)))
      | none => False
    | _ => False
  | _ => False
def gSubA (to ti : TEa) : TGa := fun v l S Q => to l S fun o S1 => ti l S1 fun i S2 => setA o i v S2 fun S3 => Q l S3
theorem KVs.any {K : PySem.W.Frag} {H : Hp} {vs : List (Key × V)} {ds : List (Key × D)} (k : Key) (h : KVs K H vs ds) : (vs.any fun kv => decide (kv.1 = k)) = (ds.any fun kv => decide (kv.1 = k)) := by
  induction h with
  | nil => rfl
  | cons _ _ ih => rw [List.any_cons, List.any_cons, ih]
theorem KVs.append {K : PySem.W.Frag} {H : Hp} {vs ws : List (Key × V)} {ds es : List (Key × D)} (h : KVs K H vs ds) (h' : KVs K H ws es) : KVs K H (vs ++ ws) (ds ++ es) := by
  induction h with
  | nil => exact h'
  | cons h1 _ ih => exact .cons h1 ih
theorem KVs.length {K : PySem.W.Frag} {H : Hp} {vs : List (Key × V)} {ds : List (Key × D)} (h : KVs K H vs ds) : vs.length = ds.length := by
  induction h with
  | nil => rfl
  | cons _ _ ih => simp [ih]
theorem KVs.putOld {K : PySem.W.Frag} {H : Hp} {vs : List (Key × V)} {ds : List (Key × D)} {v : V} {d : D} (k : Key) (h : KVs K H vs ds) (r : DV K H v d) :
    KVs K H (vs.map (fun kv => if kv.1 = k then (kv.1, v) else kv)) (ds.map (fun kv => if kv.1 = k then (kv.1, d) else kv)) := by
  induction h with
  | nil => exact .nil
  | cons h1 _ ih =>
    rename_i n v' vs d' ds _
    rw [List.map_cons, List.map_cons]
    by_cases e : n = k
    · simp only [e, if_true]; exact .cons r ih
    · simp only [e, if_false]; exact .cons h1 ih
theorem KVs.put {K : PySem.W.Frag} {H : Hp} {vs : List (Key × V)} {ds : List (Key × D)} {v : V} {d : D} (k : Key) (h : KVs K H vs ds) (r : DV K H v d) : KVs K H (putK vs k v) (putD ds k d) := by
  unfold putK putD
  rw [h.any k]
  split
  · exact h.putOld k r
  · exact h.append (.cons r .nil)
theorem TK.mutd {K : PySem.W.Frag} {H : Hp} {a : Addr} {u : HO} (h : Mut (H a)) : TK K H (upd H a u) := by
  refine ⟨fun b zs q => ?_, fun b zs q => ?_⟩
  · rcases q with (q | ⟨o, q⟩) | q
    · exact .inl (.inl (by rw [upd_ne (fun z => by subst z; rw [q] at h; exact h)]; exact q))
    · exact .inl (.inr ⟨o, by rw [upd_ne (fun z => by subst z; rw [q] at h; exact h)]; exact q⟩)
    · exact .inr q
  · rcases q with ⟨o, q⟩ | q
    · exact .inl ⟨o, by rw [upd_ne (fun z => by subst z; rw [q] at h; exact h)]; exact q⟩
    · exact .inr q
section
variable {X : Cx} {o i : Expr} {to ti : TEa} {pos : Pos}
theorem set_all {k : Nat} (hr : RoomG k X.A) : PSet X (fun o i v H Qc => ∃ do_ di dv S Q, DV X.K H o do_ ∧ DV X.K H i di ∧ DV X.K H v dv ∧ SR X.K S H ∧ setA do_ di dv S Q ∧ ∀ S' H', Q S' → SR X.K S' H' → FW S H S' H' → Qc H') := by
  intro pins s σ H o i v ov iv u Qc I ro ri rv ⟨d1, d2, d3, S, Q, x1, x2, x3, sr, q, k⟩
  cases d1 with
  | ref a =>
    simp only [setA] at q
    cases ea : S a with
    | none => rw [ea] at q; exact q.elim
    | some ob =>
      rw [ea] at q
      cases x1
      cases ob with
      | lst ds =>
        cases d2 with
        | int j =>
          simp only at q
          split at q
          · rename_i j' e'
            cases x2
            obtain ⟨vs, hv, dvs⟩ := sr a _ ea
            refine set_list pins s σ H _ _ _ ov iv u Qc I ro ri rv ⟨_, _, _, j', rfl, rfl, hv, by rw [dvs.length]; exact e', ?_⟩
            obtain ⟨a1, a2⟩ := setLst sr ea (dvs.set j' x3)
            exact k _ _ q a1 a2
          · exact q.elim
        | _ => exact q.elim
      | dik kvs =>
        simp only at q
        cases ek : keyD d2 with
        | none => rw [ek] at q; exact q.elim
        | some key =>
          rw [ek] at q
          have e3 := keyD_kV x2 ek
          subst e3
          obtain ⟨vs, hv, dvs⟩ := sr a _ ea
          refine set_dict (by have := hr.r.un; omega) pins s σ H _ _ _ ov iv u Qc I ro ri rv ⟨a, _, rfl, DPut.k hv (by rw [dvs.length]; exact q.1), ?_⟩
          have f : FW S H (AL.put S a (.dik (putD kvs key d3))) (upd H a (.dK (putK vs key v))) := FW.chg ea
          exact k _ _ q.2 (sr.chg ea ⟨_, upd_same, (dvs.put key x3).mono (f.tk sr)⟩) f
      | ins C fs => exact q.elim
  | _ => exact q.elim
theorem ag_sub {k : Nat} (hr : RoomG k X.A) (ho : AE X o to) (hi : AE X i ti)
    (ha : ∀ v, assign (.Subscript o i pos) X.env v = (do
      let ov ← holding [v] (eval o X.env)
      let iv ← holding [v, ov] (eval i X.env)
      standAt pos
      holding [v, ov, iv] (setItem ov iv v)
      release [v, ov, iv] []) := by intro _; rfl) : AG X (.Subscript o i pos) (gSubA to ti) := by
  refine PG.imp (pg_sub ho hi (set_all hr) ha) fun v σ H Qc ⟨d, l, S, Q, dv, r, s, h, k⟩ => ?_
  refine LE.go r s h fun d1 S1 v1 H1 q1 r1 s1 f1 dv1 => ?_
  refine LE.go r1 s1 q1 fun d2 S2 v2 H2 q2 r2 s2 f2 dv2 => ?_
  have f12 := f1.trans f2
  exact ⟨d1, d2, d, S2, _, DV.mono (f2.tk s1) _ _ dv1, dv2, DV.mono (f12.tk s) _ _ dv, s2, q2, fun S' H' q s' f' => k l S' σ H' q (r2.mono (f'.tk s2)) s' (f12.trans f')⟩
end
end AL

namespace AL
open PySem PySem.Spec PyProof.Rows L2

theorem each_dv {K : PySem.W.Frag} {H : Hp} : ∀ (ds : List D) (vs : List V) (its : List Value), DVs K H vs ds → Vals vs its → PySem.W.EachIs (fun (v : Value) (d : D) => ∃ x, RelV x v ∧ DV K H x d) its ds
  | [], _, _, h, r => by cases h; cases r; exact .nil
  | d :: ds, _, _, h, r => by
    cases h with
    | cons h1 h2 => cases r with | cons r1 r2 => exact .cons ⟨_, r1, h1⟩ (each_dv ds _ _ h2 r2)
theorem each_rd {X : Cx} {pins : List (Addr × Obj)} {σ : L2.St} {H : Hp} {s : Shared} {S : Sto} (I : Inv X pins σ H s) (sr : SR X.K S H) : ∀ (ds : List D) (vs : List V) (its : List Value), D.pures ds = true → DVs X.K H vs ds → Vals vs its →
    PySem.W.EachIs (fun (v : Value) (d : D) => ∃ as, Reads s.heap v d.py as) its ds
  | [], _, _, _, h, r => by cases h; cases r; exact .nil
  | d :: ds, _, _, hp, h, r => by
    rw [D.pures, Bool.and_eq_true] at hp
    cases h with
    | cons h1 h2 => cases r with | cons r1 r2 => exact .cons (rd I sr _ _ _ _ (Pd.of _ hp.1) h1 r1) (each_rd I sr ds _ _ hp.2 h2 r2)
theorem each_out {K : PySem.W.Frag} {H : Hp} {out : List Value} {es : List D} (h : PySem.W.EachIs (fun (v : Value) (d : D) => ∃ x, RelV x v ∧ DV K H x d) out es) : ∃ vo, Vals vo out ∧ DVs K H vo es := by
  induction h with
  | nil => exact ⟨[], .nil, .nil⟩
  | cons h _ ih =>
    obtain ⟨x, r1, d1⟩ := h
    obtain ⟨vo, r2, d2⟩ := ih
    exact ⟨x :: vo, .cons r1 r2, .cons d1 d2⟩
/-! ### built-in calls -/
def lenA : List D → Sto → DK → Prop := fun xs S Q => match xs with
  | [.str x] => x.length ≤ sizeLine ∧ Q (.int x.length) S
  | [.tup ds] => Q (.int ds.length) S
  | [.ref a] => match S a with
    | some (.lst ds) => Q (.int ds.length) S
    | _ => False
  | _ => False
def absA : List D → Sto → DK → Prop := fun xs S Q => match xs with | [.int i] => Q (.int (if i < 0 then -i else i)) S | _ => False
def intA : List D → Sto → DK → Prop := fun xs S Q => match xs with | [.int i] => Q (.int i) S | [.bl k] => Q (.int (if k then 1 else 0)) S | _ => False
def sumA : List D → Sto → DK → Prop := fun xs S Q => match xs with
  | [.ref a] => match S a with
    | some (.lst ds) => ∃ ns : List Int, ds = ns.map D.int ∧ Q (.int ns.sum) S
    | _ => False
  | _ => False
def tupleA : List D → Sto → DK → Prop := fun xs S Q => match xs with
  | [.ref a] => match S a with
    | some (.lst ds) => Q (.tup ds) S
    | _ => False
  | [.tup ds] => Q (.tup ds) S
  | _ => False
def listA : List D → Sto → DK → Prop := fun xs S Q => match xs with
  | [.ref a] => match S a with
    | some (.lst ds) => ∀ p, S p = none → Q (.ref p) (put S p (.lst ds))
    | _ => False
  | [.tup ds] => ∀ p, S p = none → Q (.ref p) (put S p (.lst ds))
  | _ => False
def allA : List D → Sto → DK → Prop := fun xs S Q => match xs with
  | [.ref a] => match S a with
    | some (.lst ds) => ∃ bs : List Bool, ds = bs.map D.bl ∧ Q (.bl (bs.all id)) S
    | _ => False
  | _ => False
def sortedA : List D → Sto → DK → Prop := fun xs S Q => match xs with
  | [.ref a] => match S a with
    | some (.lst ds) => D.pures ds = true ∧ PySem.W.AllAlike (ds.map D.py) ∧ PySem.W.Sortable (ds.map D.py) ∧ (∀ d ∈ ds, d.py.depth ≤ 180) ∧
        ∀ r, S r = none → Q (.ref r) (put S r (.lst (ds.mergeSort (PySem.W.dataLe false D.py))))
    | _ => False
  | _ => False
def reprA : List D → Sto → DK → Prop := fun xs S Q => match xs with
  | [x] => ∃ p, Pd S x p ∧ p.showable = true ∧ p.hasDict = false ∧ p.depth ≤ 190 ∧ p.shown.length ≤ sizeLine ∧ Q (.str p.shown) S
  | _ => False
/-- a value's class by name -/
def tyN (S : Sto) : D → Option String
  | .non => some "NoneType" | .bl _ => some "bool" | .int _ => some "int" | .str _ => some "str" | .tup _ => some "tuple" | .rol _ => none | .ty _ => none
  | .ref a => match S a with | some (.lst _) => some "list" | some (.dik _) => some "dict" | _ => none
def isT (a b : String) : Bool := a == b || (a == "bool" && b == "int")
def isiA : List D → Sto → DK → Prop := fun xs S Q => match xs with
  | [x, .ty n] => match tyN S x with
    | some t => n ∈ ["str", "int", "bool", "tuple", "list", "dict"] ∧ Q (.bl (isT t n)) S
    | none => False
  | [x, .tup [.ty n, .ty m]] => match tyN S x with
    | some t => n ∈ ["str", "int", "bool", "tuple", "list", "dict"] ∧ m ∈ ["str", "int", "bool", "tuple", "list", "dict"] ∧ Q (.bl (isT t n || isT t m)) S
    | none => False
  | _ => False
theorem kitB_isT : ∀ a ∈ ["NoneType", "bool", "int", "str", "tuple", "list", "dict"], ∀ b ∈ ["str", "int", "bool", "tuple", "list", "dict"], kitB a b = some (isT a b) := by decide +kernel
theorem tyN_mem {S : Sto} {d : D} {t : String} (h : tyN S d = some t) : t ∈ ["NoneType", "bool", "int", "str", "tuple", "list", "dict"] := by
  cases d <;> simp [tyN] at h <;> first
    | (subst h; decide)
    | skip
  split at h <;> first
    | (cases h; decide)
    | cases h
section
variable {X : Cx} {pins : List (Addr × Obj)} {σ : L2.St} {H : Hp} {s : Shared} {S : Sto}
theorem tyN_x (sr : SR X.K S H) {d : D} {v : V} {t : String} (h : tyN S d = some t) (dv : DV X.K H v d) : TyX X.K H v (.type t) := by
  cases d with
  | non => cases dv; cases h; exact .base .non
  | bl b => cases dv; cases h; exact .base (.bl b)
  | int i => cases dv; cases h; exact .base (.int i)
  | str x => cases dv; cases h; exact .base (.str x)
  | ty n => cases h
  | rol ds => cases h
  | tup ds =>
    cases h
    cases dv with
    | tup h1 h2 =>
      rcases h1 with (h1 | ⟨o, h1⟩) | ⟨o, its, n, h1, h3, _⟩
      · exact .base (.tup h1)
      · exact .fTuple h1
      · exact .kTuple h1 h3
  | ref a =>
    cases dv
    simp only [tyN] at h
    split at h
    · rename_i e
      cases h
      obtain ⟨vs, hv, _⟩ := sr a _ e
      exact .base (.lst hv)
    · rename_i e
      cases h
      obtain ⟨vs, hv, _⟩ := sr a _ e
      exact .base (.dK hv)
    · cases h
end
section
variable {X : Cx}
theorem ca_len : CA X (.builtin "len") lenA := by
  intro pins s σ H xs us Qc I r ⟨ds, S, Q, dvs, sr, q, k⟩
  unfold lenA at q
  split at q
  · cases dvs with | cons d1 d2 => cases d1; cases d2; exact call_len pins s σ H _ us Qc I r ⟨_, _, rfl, ⟨q.1, rfl⟩, k _ S _ H q.2 sr .refl (.int _)⟩
  · cases dvs with
    | cons d1 d2 =>
      cases d2
      cases d1 with
      | tup h1 h2 => exact call_len pins s σ H _ us Qc I r ⟨_, _, rfl, .inr ⟨_, h1, rfl⟩, by rw [h2.length]; exact k _ S _ H q sr .refl (.int _)⟩
  · split at q
    · rename_i ea
      cases dvs with
      | cons d1 d2 =>
        cases d2; cases d1
        obtain ⟨vs, hv, dv⟩ := sr _ _ ea
        exact call_len pins s σ H _ us Qc I r ⟨_, _, rfl, .inl ⟨_, SqL.of hv, rfl⟩, by rw [dv.length]; exact k _ S _ H q sr .refl (.int _)⟩
    · exact q.elim
  · exact q.elim
theorem ca_abs : CA X (.builtin "abs") absA := by
  intro pins s σ H xs us Qc I r ⟨ds, S, Q, dvs, sr, q, k⟩
  unfold absA at q
  split at q
  · cases dvs with | cons d1 d2 => cases d1; cases d2; exact call_abs pins s σ H _ us Qc I r ⟨_, rfl, k _ S _ H q sr .refl (.int _)⟩
  · exact q.elim
theorem ca_int : CA X (.type "int") intA := by
  intro pins s σ H xs us Qc I r ⟨ds, S, Q, dvs, sr, q, k⟩
  unfold intA at q
  split at q
  · cases dvs with | cons d1 d2 => cases d1; cases d2; exact call_int1 pins s σ H _ us Qc I r (.inl ⟨_, rfl, k _ S _ H q sr .refl (.int _)⟩)
  · cases dvs with | cons d1 d2 => cases d1; cases d2; exact call_int1 pins s σ H _ us Qc I r (.inr ⟨_, rfl, k _ S _ H q sr .refl (.int _)⟩)
  · exact q.elim
theorem ca_sum (hc : X.calm = true) : CA X (.builtin "sum") sumA := by
  intro pins s σ H xs us Qc I r ⟨ds, S, Q, dvs, sr, q, k⟩
  unfold sumA at q
  split at q
  · split at q
    · rename_i ea
      obtain ⟨ns, rfl, q⟩ := q
      cases dvs with
      | cons d1 d2 =>
        cases d2; cases d1
        obtain ⟨vs, hv, dv⟩ := sr _ _ ea
        have := dv.ints_inv
        subst this
        exact cr_sum hc pins s σ H _ us Qc I r ⟨_, ns, rfl, SqL.of hv, k _ S _ H q sr .refl (.int _)⟩
    · exact q.elim
  · exact q.elim
theorem ca_all (hc : X.calm = true) : CA X (.builtin "all") allA := by
  intro pins s σ H xs us Qc I r ⟨ds, S, Q, dvs, sr, q, k⟩
  unfold allA at q
  split at q
  · split at q
    · rename_i ea
      obtain ⟨ns, rfl, q⟩ := q
      cases dvs with
      | cons d1 d2 =>
        cases d2; cases d1
        obtain ⟨vs, hv, dv⟩ := sr _ _ ea
        have := dv.bls_inv
        subst this
        exact cr_all hc pins s σ H _ us Qc I r ⟨_, ns, rfl, SqL.of hv, k _ S _ H q sr .refl (.bl _)⟩
    · exact q.elim
  · exact q.elim
theorem ca_tuple : CA X (.type "tuple") tupleA := by
  intro pins s σ H xs us Qc I r ⟨ds, S, Q, dvs, sr, q, k⟩
  unfold tupleA at q
  split at q
  · split at q
    · rename_i ea
      cases dvs with
      | cons d1 d2 =>
        cases d2; cases d1
        obtain ⟨vs, hv, dv⟩ := sr _ _ ea
        refine call_tuple_of pins s σ H _ us Qc I r ⟨_, _, rfl, .inl ⟨SqL.of hv, fun p hp => ?_⟩⟩
        obtain ⟨a1, a2, a3⟩ := newTup sr hp dv
        exact k _ S _ _ q a1 a2 a3
    · exact q.elim
  · cases dvs with
    | cons d1 d2 =>
      cases d2
      cases d1 with
      | tup h1 h2 => exact call_tuple_of pins s σ H _ us Qc I r ⟨_, _, rfl, .inr ⟨h1, k _ S _ H q sr .refl (.tup h1 h2)⟩⟩
  · exact q.elim
theorem ca_list : CA X (.type "list") listA := by
  intro pins s σ H xs us Qc I r ⟨ds, S, Q, dvs, sr, q, k⟩
  unfold listA at q
  split at q
  · split at q
    · rename_i ea
      cases dvs with
      | cons d1 d2 =>
        cases d2; cases d1
        obtain ⟨vs, hv, dv⟩ := sr _ _ ea
        refine call_list_of pins s σ H _ us Qc I r ⟨_, _, rfl, .inl (SqL.of hv), fun p hp => ?_⟩
        obtain ⟨a1, a2, a3⟩ := newLst sr hp dv
        exact k _ _ _ _ (q p (sr.fresh hp)) a1 a2 a3
    · exact q.elim
  · cases dvs with
    | cons d1 d2 =>
      cases d2
      cases d1 with
      | tup h1 h2 =>
        refine call_list_of pins s σ H _ us Qc I r ⟨_, _, rfl, .inr h1, fun p hp => ?_⟩
        obtain ⟨a1, a2, a3⟩ := newLst sr hp h2
        exact k _ _ _ _ (q p (sr.fresh hp)) a1 a2 a3
  · exact q.elim
theorem ca_isi : CA X (.builtin "isinstance") isiA := by
  intro pins s σ H xs us Qc I r ⟨ds, S, Q, dvs, sr, q, k⟩
  unfold isiA at q
  split at q
  · rename_i x n
    split at q
    · rename_i t et
      cases dvs with
      | cons d1 d2 =>
        cases d2 with
        | cons d2 d3 =>
          cases d3; cases d2
          exact call_isi pins s σ H _ us Qc I r ⟨_, .ty n, .type t, .type n, isT t n, rfl, .ty n, tyN_x sr et d1, kit_ty (kitB_isT t (tyN_mem et) n q.1), k _ S _ H q.2 sr .refl (.bl _)⟩
    · exact q.elim
  · rename_i x n m
    split at q
    · rename_i t et
      cases dvs with
      | cons d1 d2 =>
        cases d2 with
        | cons d2 d3 =>
          cases d3
          cases d2 with
          | tup h1 h2 =>
            cases h2 with
            | cons e1 e2 =>
              cases e2 with
              | cons e2 e3 =>
                cases e1; cases e2; cases e3
                have mem := tyN_mem et
                have kn := kit_ty (K := X.K) (kitB_isT t mem n q.1)
                have km := kit_ty (K := X.K) (kitB_isT t mem m q.2.1)
                have kk : PySem.W.kitAny X.K (.type t) [.type n, .type m] = some (isT t n || isT t m) :=
                  kitAny_cons kn (fun e => kitAny_cons km (fun e2 => by rw [e, e2]; rfl) (fun e2 => by rw [e2]; simp)) (fun e => by rw [e]; rfl)
                obtain ⟨u1, u2, rfl, r1, r2⟩ := vals2 r
                cases r2
                obtain ⟨P, Z, p, hx⟩ := kit_of I r1 (tyN_x sr et d1)
                obtain ⟨its, rv, ⟨⟨oc, od, dt, sl⟩, ho, hc, nn, hd⟩, _⟩ := I.tuple h1
                simp only at hc hd
                subst hc hd
                obtain ⟨u3, u4, rfl, r3, r4⟩ := vals2 rv
                cases r3; cases r4
                exact PySem.W.kia_tup Z I.kIn p ho kk hx fun tk => ⟨.bl _, H, I.tok tk, rfl, k _ S _ H q.2.2 sr .refl (.bl _)⟩
    · exact q.elim
  · exact q.elim
theorem ca_repr {k : Nat} (hr : RoomG k X.A) : CA X (.builtin "repr") reprA := by
  intro pins s σ H xs us Qc I r ⟨ds, S, Q, dvs, sr, q, k⟩
  unfold reprA at q
  split at q
  · obtain ⟨p, h1, h2, h3, h4, h5, q⟩ := q
    cases dvs with
    | cons d1 d2 =>
      cases d2
      obtain ⟨u, rfl, ru⟩ := vals1 r
      obtain ⟨as, rr⟩ := rd I sr p _ _ _ h1 d1 ru
      have fin : ∀ h' t' tk, (∀ b o, s.heap.get? b = some o → h'.get? b = some o) → EP X pins σ Qc (.str p.shown t') { s with heap := h', toks := tk } :=
        fun h' t' tk hk => ⟨.str p.shown, H, I.kept hk, ⟨_, rfl⟩, k _ S _ H q sr .refl (.str _)⟩
      cases rr with
      | none => exact PySem.P.repr_of_none (fin s.heap _ _ fun _ _ e => e)
      | bool b => exact PySem.P.repr_of_bool (fin s.heap _ _ fun _ _ e => e)
      | int i t => exact PySem.P.repr_of_int (by simpa [PyData.showable] using h2) (fin s.heap _ _ fun _ _ e => e)
      | str x t => exact PySem.P.repr_of_str (fin s.heap _ _ fun _ _ e => e) h5
      | list a1 a2 a3 a4 => exact repr_of_reads' (Reads.list a1 a2 a3 a4) h2 (fun z => by rw [h3] at z; cases z) hr.g (by have := hr.r.un; omega) (fun _ _ e => e) (fun h' u tk hk => fin h' u tk hk) h5
      | tuple a1 a2 a3 a4 => exact repr_of_reads' (Reads.tuple a1 a2 a3 a4) h2 (fun z => by rw [h3] at z; cases z) hr.g (by have := hr.r.un; omega) (fun _ _ e => e) (fun h' u tk hk => fin h' u tk hk) h5
      | dict a1 a2 a3 a4 a5 => rw [PyData.hasDict] at h3; cases h3
  · exact q.elim
theorem ca_sorted {k : Nat} (hr : RoomG k X.A) : CA X (.builtin "sorted") sortedA := by
  intro pins s σ H xs us Qc I r ⟨ds, S, Q, dvs, sr, q, k⟩
  unfold sortedA at q
  split at q
  · split at q
    · rename_i ds ea
      obtain ⟨h1, h2, h3, h4, q⟩ := q
      cases dvs with
      | cons d1 d2 =>
        cases d2; cases d1
        obtain ⟨vs, hv, dv⟩ := sr _ _ ea
        obtain ⟨its, rv, hl, hz⟩ := I.list (SqL.of hv)
        obtain ⟨u, rfl, ru⟩ := vals1 r
        cases ru
        have e := each_dv _ _ _ dv rv
        have er := each_rd I sr _ _ _ h1 dv rv
        refine PySem.W.sorted_data hl.isList e er h2 h3 (by rw [← dv.length]; exact hz) (fun d hd => by have := h4 d hd; have := hr.r.un; omega) fun out ho eo => ?_
        obtain ⟨ep, he'⟩ := PyProof.Rows.sortedAll_at s.heap its out.toArray
        obtain ⟨vo, rvo, dvo⟩ := each_out eo
        have hp : H (s.heap.objs.size + 1) = none := I.hok.fresh (Nat.le_succ _)
        obtain ⟨a1, a2, a3⟩ := newLst sr hp dvo
        refine ⟨.ref _, upd H (s.heap.objs.size + 1) (.lst vo), I.laid (t' := s.toks) (fun _ _ => PyProof.Rows.sortedAll_old) (Nat.le_succ _) ⟨?_, out, ep, rvo, he'⟩, rfl, k _ _ _ _ (q _ (sr.fresh hp)) a1 a2 a3⟩
        rw [rvo.length, ho, ← dv.length]; exact hz
    · exact q.elim
  · exact q.elim
end

/-! ### methods of built-in types -/
def tyA (T : String) (x : D) (S : Sto) : Prop := match x with
  | .str _ => T = "str"
  | .ref a => match S a with
    | some (.lst _) => T = "list"
    | some (.dik _) => T = "dict"
    | _ => False
  | _ => False
def aMeth (T : String) (r : D → List D → Sto → DK → Prop) (to : TEa) (t : TAa) : TEa := fun l S Q => to l S fun x S1 => tyA T x S1 ∧ t l S1 fun xs S2 => r x xs S2 Q
theorem tyA_v {K : PySem.W.Frag} {S : Sto} {H : Hp} {T : String} {d : D} {v : V} (sr : SR K S H) (h : tyA T d S) (dv : DV K H v d) : tyV K T v H := by
  cases d with
  | str x => cases dv; exact h
  | ref a =>
    cases dv
    simp only [tyA] at h
    split at h
    · rename_i e
      obtain ⟨vs, hv, _⟩ := sr a _ e
      exact .inl ⟨h, vs, SqL.of hv⟩
    · rename_i e
      obtain ⟨vs, hv, _⟩ := sr a _ e
      exact .inr (.inr (.inl ⟨h, .inl ⟨vs, hv⟩⟩))
    · exact h.elim
  | _ => exact h.elim
section
variable {X : Cx} {o e : Expr} {es : List Expr} {to : TEa} {t : TAa} {name : Str} {apos cpos : Pos} {T id : String} {r : D → List D → Sto → DK → Prop}
theorem ae_meth0 (pa : PlainAttrs T) (slot : Slot T name id) (hty : typeOf (.builtin id) = pure (.type "method_descriptor")) (hm : MA X id r) (ho : AE X o to)
    (hbase : attributeBase o name X.env (eval o X.env) = eval o X.env := by rfl) (hline : (apos.endLine == cpos.line) = true := by rfl) : AE X (.Call (.Attribute o name apos) [] [] cpos) (aMeth T r to aNil) := by
  refine PE.imp (pe_bm0 pa slot hty hm ho hbase hline) fun σ H Qc ⟨l, S, Q, rr, s, h, k⟩ => ?_
  refine LE.go rr s h fun d S1 v H1 ⟨ty, q1⟩ r1 s1 f1 dv => ?_
  exact ⟨tyA_v s1 ty dv, d, [], S1, Q, dv, .nil, s1, q1, fun d' S' v' H' q s' f' dv' => k d' S' v' H' q s' (f1.trans f') dv'⟩
theorem ae_meth (pa : PlainAttrs T) (slot : Slot T name id) (hty : typeOf (.builtin id) = pure (.type "method_descriptor")) (hm : MA X id r) (ho : AE X o to) (ha : AA X (e :: es) t)
    (hbase : attributeBase o name X.env (eval o X.env) = eval o X.env := by rfl)
    (hfew : ((backTo cpos (starEach (e :: es) X.env)).all (fun x => !x.1) && (backToKw cpos (keywordEach [] X.env)).all (fun x => x.1.isSome)
      && decide ((e :: es).length + ([] : List Keyword).length + (if ([] : List Keyword).isEmpty then 0 else 1) < 30)) = true := by rfl)
    (hline : (apos.endLine == cpos.line) = true := by rfl) (hs : starEach (e :: es) X.env = (false, eval e X.env) :: starEach es X.env := by rfl) (hplain : (backTo cpos (starEach es X.env)).any (·.1) = false := by rfl) :
    AE X (.Call (.Attribute o name apos) (e :: es) [] cpos) (aMeth T r to t) := by
  refine PE.imp (pe_bm pa slot hty hm ho ha hbase hfew hline hs hplain) fun σ H Qc ⟨l, S, Q, rr, s, h, k⟩ => ?_
  refine LE.go rr s h fun d S1 v H1 ⟨ty, q1⟩ r1 s1 f1 dv => ?_
  refine ⟨tyA_v s1 ty dv, ?_⟩
  refine LA.go r1 s1 q1 fun ds S2 vs H2 q2 r2 s2 f2 dvs => ?_
  exact ⟨d, ds, S2, Q, DV.mono (f2.tk s1) _ _ dv, dvs, s2, q2, fun d' S' v' H' q s' f' dv' => k d' S' v' H' q s' (f1.trans (f2.trans f')) dv'⟩
end
def appendA : D → List D → Sto → DK → Prop := fun x xs S Q => match x, xs with
  | .ref a, [d] => match S a with
    | some (.lst ds) => ds.length < sizeLine ∧ Q .non (put S a (.lst (ds ++ [d])))
    | _ => False
  | _, _ => False
def extendA : D → List D → Sto → DK → Prop := fun x xs S Q => match x, xs with
  | .ref a, [.ref b] => match S a, S b with
    | some (.lst ds), some (.lst es) => ds.length + es.length ≤ sizeLine ∧ Q .non (put S a (.lst (ds ++ es)))
    | _, _ => False
  | _, _ => False
def popA : D → List D → Sto → DK → Prop := fun x xs S Q => match x, xs with
  | .ref a, [] => match S a with
    | some (.lst ds) => match ds[ds.length - 1]? with
      | some d => Q d (put S a (.lst ds.dropLast))
      | none => False
    | _ => False
  | _, _ => False
def joinA : D → List D → Sto → DK → Prop := fun x xs S Q => match x, xs with
  | .str a, [.ref p] => match S p with
    | some (.lst ds) => ∃ ys : List Str, ds = ys.map D.str ∧ (ys.map (·.length)).sum + ys.length * a.length ≤ 16777216 ∧ Q (.str (Txt.join a ys)) S
    | _ => False
  | _, _ => False
theorem DVs.dropLast {K : PySem.W.Frag} {H : Hp} {vs : List V} {ds : List D} (h : DVs K H vs ds) : DVs K H vs.dropLast ds.dropLast := by
  rw [List.dropLast_eq_take, List.dropLast_eq_take, h.length]
  exact h.take _
section
variable {X : Cx}
theorem ma_append : MA X "list.append" appendA := by
  intro pins s σ H x xs v us Qc I rx rs ⟨d, ds, S, Q, dx, dvs, sr, q, k⟩
  unfold appendA at q
  split at q
  · split at q
    · rename_i ds ea
      cases dx
      obtain ⟨vs, hv, dv⟩ := sr _ _ ea
      cases dvs with
      | cons d1 d2 =>
        cases d2
        refine mt_append pins s σ H _ _ v us Qc I rx rs ⟨_, _, _, rfl, rfl, hv, by rw [dv.length]; exact q.1, ?_⟩
        obtain ⟨a1, a2⟩ := setLst sr ea (dv.append (.one d1))
        exact k _ _ _ _ q.2 a1 a2 .non
    · exact q.elim
  · exact q.elim
theorem ma_extend : MA X "list.extend" extendA := by
  intro pins s σ H x xs v us Qc I rx rs ⟨d, ds, S, Q, dx, dvs, sr, q, k⟩
  unfold extendA at q
  split at q
  · split at q
    · rename_i ds es ea eb
      cases dx
      obtain ⟨vs, hv, dv⟩ := sr _ _ ea
      obtain ⟨ws, hw, dw⟩ := sr _ _ eb
      cases dvs with
      | cons d1 d2 =>
        cases d2; cases d1
        refine mt_extend pins s σ H _ _ v us Qc I rx rs ⟨_, _, _, _, rfl, rfl, hv, hw, by rw [dv.length, dw.length]; exact q.1, ?_⟩
        obtain ⟨a1, a2⟩ := setLst sr ea (dv.append dw)
        exact k _ _ _ _ q.2 a1 a2 .non
    · exact q.elim
  · exact q.elim
theorem ma_pop : MA X "list.pop" popA := by
  intro pins s σ H x xs v us Qc I rx rs ⟨d, ds, S, Q, dx, dvs, sr, q, k⟩
  unfold popA at q
  split at q
  · split at q
    · rename_i ds ea
      split at q
      · rename_i d' e'
        cases dx
        obtain ⟨vs, hv, dv⟩ := sr _ _ ea
        cases dvs
        obtain ⟨y, ey, dy⟩ := dv.get e'
        refine mt_pop pins s σ H _ _ v us Qc I rx rs ⟨_, _, y, rfl, rfl, hv, by rw [dv.length]; exact ey, ?_⟩
        obtain ⟨a1, a2⟩ := setLst sr ea dv.dropLast
        exact k _ _ _ _ q a1 a2 (DV.mono (a2.tk sr) _ _ dy)
      · exact q.elim
    · exact q.elim
  · exact q.elim
theorem ma_join : MA X "str.join" joinA := by
  intro pins s σ H x xs v us Qc I rx rs ⟨d, ds, S, Q, dx, dvs, sr, q, k⟩
  unfold joinA at q
  split at q
  · split at q
    · rename_i ds ea
      obtain ⟨ys, rfl, hz, q⟩ := q
      cases dx
      obtain ⟨vs, hv, dv⟩ := sr _ _ ea
      cases dvs with
      | cons d1 d2 =>
        cases d2; cases d1
        have := dv.strs_inv
        subst this
        exact mt_join pins s σ H _ _ v us Qc I rx rs ⟨_, _, ys, rfl, rfl, .inl (SqL.of hv), hz, k _ S _ H q sr .refl (.str _)⟩
    · exact q.elim
  · exact q.elim
end
end AL

namespace AL
open PySem PySem.Spec PyProof.Rows L2

/-- the tracked heap at the start: the script alone, where it is no object of the module -/
def heap0 (o? : Option Obj) (a : Addr) (vs : Array Value) (ns : List Int) : Hp := match o? with
  | some _ => fun _ => none
  | none => fun b => if b = a then some (.frz { cls := .type "list", data := .seq vs } (.lst (ns.map V.int))) else none
theorem heap0_or {o? : Option Obj} {a b : Addr} {vs : Array Value} {ns : List Int} :
    heap0 o? a vs ns b = none ∨ (o? = none ∧ b = a ∧ heap0 o? a vs ns b = some (.frz { cls := .type "list", data := .seq vs } (.lst (ns.map V.int)))) := by
  cases o? with
  | some _ => exact .inl rfl
  | none =>
    by_cases e : b = a
    · exact .inr ⟨rfl, e, if_pos e⟩
    · exact .inl (if_neg e)
theorem law_run {P : Program} {w : World} {K : PySem.W.Frag} {mg mb : Str → Option Value} {k : Nat} {fa a : Addr} {fd : FuncData} {x : Str} {sp : Sp} {s : Shared} {vs : List Value} {ns : List Int}
    (KX : K.In s.heap) (hns : s.heap.Ns mainGlobals mg) (hb : s.heap.Ns builtinsNs mb) (hbb : ∀ x : Str, x ≠ "__name__" → mb x = bootBuiltins x) (hlim : s.heap.NoLimit) (hg : s.gens = #[])
    (ha : s.heap.get? a = some { cls := .type "list", data := .seq vs.toArray }) (hi : IntsAre vs ns) (hl : ns.length ≤ sizeLine) (hr : RoomG k callerA)
    (F : ∀ base : Heap, K.In base → base.Ns mainGlobals mg → FnG P w K mg base CX0 k fa fd [x] sp) (hbind : ∀ (s : Shared) (u : Value), BindsTo s fd ⟨[u], []⟩ [(x, u)])
    (hsp : ∀ H : Hp, Only H → SqR K H a (ns.map V.int) → sp [.ref a] H (fun v _ => v = .bl true) fun _ _ _ => False) :
    codeAny (model P w) callerA (.call (.ref fa) ⟨[.ref a], []⟩) (fun r s' => r = .ok (.ret (.bool true)) ∧ OldK s.heap s'.heap ∧ s'.os = s.os ∧ AllBare s'.gens) s := by
  have rv := vals_ints hi
  have h0 := fun b => heap0_or (o? := K.lookup a) (a := a) (b := b) (vs := vs.toArray) (ns := ns)
  generalize eH : heap0 (K.lookup a) a vs.toArray ns = H at h0
  have only : Only H := fun b => (h0 b).elim .inl fun ⟨_, _, e⟩ => .inr ⟨_, _, e⟩
  have sq : SqR K H a (ns.map V.int) := by
    cases hk : K.lookup a with
    | some o =>
      have e := KX a o hk
      rw [ha] at e
      cases e
      exact .inr ⟨_, vs.toArray, _, hk, rfl, rfl, rfl, by rw [List.size_toArray, hi.length]; exact hl, by simpa using rv⟩
    | none =>
      rw [hk] at eH
      subst eH
      exact .inl ⟨_, if_pos rfl⟩
  have hok : HOk P w H s.heap := fun b u z => by
    rcases h0 b with e | ⟨_, e, e2⟩
    · rw [e] at z; cases z
    · rw [e2] at z
      cases z
      subst e
      exact ⟨ha, by rw [List.length_map]; exact hl, vs, _, rv, ha⟩
  have free : ∀ {b : Addr} {o : Obj} {es : Array DictEntry} {ep : Nat}, s.heap.get? b = some o → o.data = .dict es ep → H b = none := fun {b o es ep} e d => by
    rcases h0 b with q | ⟨_, q, _⟩
    · exact q
    · subst q
      rw [ha] at e
      cases e
      cases (show Data.seq vs.toArray _ = Data.dict es ep from d)
  have nsB : ∀ {b : Addr} {m : Str → Option Value}, s.heap.Ns b m → (hidT s.heap H).Ns b m := fun {b m} ⟨o, es, ep, e, d, r⟩ => ⟨o, es, ep, hidT_get e (free e d), d, r⟩
  have kB : K.In (hidT s.heap H) := fun b o e => hidT_get (KX b o e) (by
    rcases h0 b with q | ⟨q, q2, _⟩
    · exact q
    · subst q2
      rw [q] at e; cases e)
  have md : Mod K mg (hidT s.heap H) := ⟨kB, nsB hns, ⟨mb, nsB hb, hbb⟩, hlim.elim fun mc h => ⟨mc, nsB h.1, h.2⟩⟩
  have nope : ∀ b : Addr, b ∉ ([] : List Addr) := fun b => by simp
  have e0 : Env0 P w K mg (hidT s.heap H) callerA [] s H := ⟨rfl, md, fun b o e => of_hidT e, Nat.le_of_eq (hidT_size _ _), trivial, fun b hb => absurd hb (nope b), hok, .of_eq hg⟩
  refine codeAny_mono ((F _ kB (nsB hns)).run callerA [] s H ⟨[.ref a], []⟩ [.ref a] [.ref a] _ _ hr e0 (hbind s (.ref a)) (.cons rfl .nil) (hsp H only sq)) fun r s' h => ?_
  cases r with
  | error e => exact False.elim h
  | ok fl =>
    cases fl with
    | next => exact False.elim h
    | brk => exact False.elim h
    | cont => exact False.elim h
    | ret u =>
      obtain ⟨v, H', os, bare, un, hok', r', q⟩ := h
      cases (show v = .bl true from q)
      obtain rfl : u = Value.bool true := r'
      refine ⟨rfl, OldK.of_keep fun b o e => ?_, os, bare⟩
      rcases h0 b with q | ⟨_, _, q⟩
      · exact un.keep b o e q (fun z => absurd z (nope b)) (by simp)
      · obtain ⟨e1, _⟩ := hok b _ q
        obtain ⟨e2, _⟩ := hok' b _ (un.frzs b _ _ q)
        rw [e] at e1
        cases e1
        exact e2
/-- the goal that k_head leaves, from the law's promise over trees -/
theorem walkG {l : PySem.W.OpenLaw} {n k : Nat} {q : Program} {loose : List Str} {XP : (Str → Option Value) → Heap → Prop} {YP : World → Heap → Prop} {d : DefRec} {K : Params → PySem.W.Frag} {F0 : Spa} {x : Str}
    (hn : l.most = some n) (hn2 : n ≤ sizeLine) (hdf : d.params.defaults = []) (hr : RoomG k callerA)
    (hY : ∀ (w : World) (h : Heap), YP w h → (K w.params).In h)
    (F : ∀ (w : World) (mg : Str → Option Value) (fa : Addr) (h : Heap), (K w.params).In h → h.Ns mainGlobals mg → mg d.name = some (.ref fa) →
      ∃ fd : FuncData, (∀ (s : Shared) (u : Value), BindsTo s fd ⟨[u], []⟩ [(x, u)]) ∧
        ∀ base : Heap, (K w.params).In base → base.Ns mainGlobals mg → FnG l.prog w (K w.params) mg base CX0 k fa fd [x] (LF (K w.params) 1 F0))
    (hsp : ∀ (ns : List Int), ns.length ≤ n → F0 [.rol (ns.map D.int)] (fun _ => none) (fun d _ => d = .bl true)) :
    PySem.W.WalkO q loose XP YP l.row.toRowW d [] (fun f vs => PySem.call f vs) := by
  refine Att.attach_call hn hdf fun w s₀ s₁ mg mb fa o pm cd doc a vs ns G Y ho hd hcd hmg hobj hints hlen hg => ?_
  have KX := hY w _ Y
  obtain ⟨fd, hb, hF⟩ := F w mg fa _ KX G.T.g hmg
  refine law_run KX G.T.g G.T.b G.T.builtins G.T.nolimit hg hobj hints (Nat.le_trans hlen hn2) hr hF hb fun H hO hS => ?_
  refine ⟨rfl, [.rol (ns.map D.int)], fun _ => none, _, .cons (.rol hS (DVs.ints ns)) .nil, fun _ _ e => (nomatch e), hsp ns hlen, fun dd S' v H' q _ _ dv => ?_⟩
  have q' : dd = .bl true := q
  subst q'
  cases dv
  rfl
end AL

namespace AL
open PySem PySem.Spec PyProof.Rows L2

/-! ### sets of nested tuples: adding -/
section
variable {P : Program} {w : World} {Kk : Type} [DecidableEq Kk]
/-- what a kind of tuple keys must tell to stand in a set -/
structure SetKey (knd : HeapKind P w Kk) : Prop where
  st : knd.Stays
  cls : ∀ {A : Around} {E : Value → Shared → Prop} {s : Shared} {k : Kk} {a : Addr} {Q : Bool → Shared → Prop}, knd.is s.heap k a → Q false s → wpAny (model P w) A (ofAClassStatement 8 (.ref a)) Q E s
  hbv : ∀ {A : Around} {E : Value → Shared → Prop} {s : Shared} {k : Kk} {a : Addr} {Q : Bool → Shared → Prop}, knd.is s.heap k a → (∀ b, Q b s) → wpAny (model P w) A (hashByValue 8 (.ref a)) Q E s

variable {knd : HeapKind P w Kk}
def Rw (knd : HeapKind P w Kk) (L : List (Addr × Kk)) : List (Int × Value) := L.map fun r => (knd.hash r.2, Value.ref r.1)
/-- the members of the set at a, in the order of their places -/
structure SetOn (knd : HeapKind P w Kk) (h : Heap) (a : Addr) (L : List (Addr × Kk)) (es : Array (Int × Value)) (ep : Nat) (t : SetTable) : Prop where
  obj : ∃ o, h.get? a = some o ∧ o.ExactSet ∧ o.data = .set es ep t
  row : es.toList = Rw knd L
  ok : TabOk t (L.map fun r => knd.hash r.2)
  uni : (L.map (·.2)).Nodup
  key : ∀ r ∈ L, knd.is h r.2 r.1
  ld : w.params.followText "set-order" = true ∨ t.led = true
  free : L.length * 5 < t.mask * 3
  lim : L.length < 64

variable {A : Around} {E : Value → Shared → Prop} {s : Shared} {a : Addr} {L : List (Addr × Kk)} {es : Array (Int × Value)} {ep : Nat} {t : SetTable}
theorem Rw.len : (Rw knd L).length = L.length := by unfold Rw; rw [List.length_map]
theorem Rw.size (h : es.toList = Rw knd L) : es.size = L.length := by rw [← Array.length_toList, h, Rw.len]
theorem Rw.at (h : es.toList = Rw knd L) {i : Nat} {r : Addr × Kk} (e : L[i]? = some r) : es[i]? = some (knd.hash r.2, Value.ref r.1) := by
  rw [← Array.getElem?_toList, h, Rw, List.getElem?_map, e]
  rfl
theorem fits_by (hd : t.dummies = #[]) (h1 : t.place.size = es.size) (h2 : es.size ≤ t.mask) : t.fits es.size = true := by
  unfold SetTable.fits SetTable.fill
  rw [hd, Bool.and_eq_true, beq_iff_eq, decide_eq_true_eq]
  exact ⟨h1, by rw [h1]; exact h2⟩
theorem SetOn.psize (R : SetOn knd s.heap a L es ep t) : t.place.size = es.size := by
  rw [R.ok.sz, List.length_map, Rw.size R.row]
theorem SetOn.fit (R : SetOn knd s.heap a L es ep t) : t.fits es.size = true :=
  fits_by R.ok.dm R.psize (by have := R.free; rw [Rw.size R.row]; omega)
theorem SetOn.noGw (R : SetOn knd s.heap a L es ep t) : ¬ t.gaveWay = true := by
  unfold SetTable.gaveWay
  rw [mask_odd R.ok.mok]
  decide

/-- comparing among keys shows nothing -/
theorem quiet_keys (kk : SetKey knd) {k : Kk} {b : Addr} {Q : Bool → Shared → Prop} (hk : knd.is s.heap k b) {ys : List Value} (hy : ∀ y ∈ ys, ∃ k' c, y = Value.ref c ∧ knd.is s.heap k' c) (h : Q false s) :
    wpAny (model P w) A (searchCouldBeSeen (.ref b) ys) Q E s := by
  unfold searchCouldBeSeen
  refine wpAny_bind ?_
  refine wpAny_forIn_list _ (fun left r s' => r.1 = none ∧ s' = s ∧ ∀ y ∈ left, ∃ k' c, y = Value.ref c ∧ knd.is s.heap k' c) _ ?step ?fin _ _ ⟨rfl, rfl, hy⟩
  case fin =>
    rintro ⟨r1, r2⟩ s' ⟨er, rfl, _⟩
    cases (show r1 = none from er)
    exact wpAny_pure h
  case step =>
    rintro v left r s' ⟨er, rfl, all⟩
    obtain ⟨k', c, rfl, hc⟩ := all v List.mem_cons_self
    have more : ∀ y ∈ left, ∃ k2 c2, y = Value.ref c2 ∧ knd.is s'.heap k2 c2 := fun u hu => all u (List.mem_cons_of_mem _ hu)
    dsimp only
    cases hv : (b == c || (carriedByValue (.ref b) && carriedByValue (.ref c))) with
    | true => exact wp_if_pos rfl (wpAny_pure ⟨rfl, rfl, more⟩)
    | false =>
      refine wp_if_neg Bool.false_ne_true ?_
      refine wpAny_bind (knd.quiet hk ?_)
      refine wp_if_neg (by decide) ?_
      refine wpAny_bind (knd.quiet hc ?_)
      refine wp_if_neg (by decide) ?_
      refine wpAny_bind (kk.cls hk ?_)
      refine wp_if_neg (by decide) ?_
      refine wpAny_bind (kk.cls hc ?_)
      refine wp_if_neg (by decide) ?_
      exact wpAny_pure ⟨rfl, rfl, more⟩
/-- the n-th probe on the way of a hash -/
abbrev prb (m : Nat) (h : Int) (n : Nat) : SetTable.Probe := nth m (runAt m (SetTable.bits h % (m + 1)) (SetTable.bits h)) n
theorem prb_dummy (m : Nat) (h : Int) : ∀ n, (prb m h n).dummy = none
  | 0 => rfl
  | n + 1 => by
    show (nth m _ (n + 1)).dummy = none
    rw [nth_succ]
    have ih := prb_dummy m h n
    unfold adv
    split <;> exact ih
theorem prb_add (m : Nat) (h : Int) (c q : Nat) : nth m (prb m h c) q = prb m h (c + q) := (nth_add m c _ q).symm

/-- the search for a key, from the c-th probe on; K: the first empty slot -/
theorem look_from (kk : SetKey knd) (R : SetOn knd s.heap a L es ep t) {x : Addr} {k : Kk} (hx : knd.is s.heap k x) (hu : knd.room A) {K : Nat} (hKf : K < 10 * SetTable.turns t.mask)
    (hK : way t.mask (knd.hash k) K ∉ t.place.toList) (hKb : ∀ c, c < K → way t.mask (knd.hash k) c ∈ t.place.toList) {Q : SetFound → Shared → Prop}
    (yes : k ∈ L.map (·.2) → Q (.there none) s) (no : k ∉ L.map (·.2) → Q (.free (way t.mask (knd.hash k) K) false) s) :
    ∀ (f c : Nat) (from? : Option SetTable.Probe), from?.getD (t.probeStart (knd.hash k)) = prb t.mask (knd.hash k) c → c ≤ K → K < c + f →
      (∀ (i : Nat) r, L[i]? = some r → r.2 = k → ∃ c', c ≤ c' ∧ c' < K ∧ t.place.toList[i]? = some (way t.mask (knd.hash k) c')) →
      wpAny (model P w) A (setSearchFrom a (.ref x) (knd.hash k) true f from?) Q E s := by
  intro f
  induction f with
  | zero => intro c _ _ h1 h2; omega
  | succ f ih =>
    intro c from? hf hc hlt ahead
    obtain ⟨o, ho, hex, hd⟩ := R.obj
    rw [setSearchFrom_succ]
    refine wpAny_bind (wpAny_setState_of ho hd R.fit ?_)
    dsimp only
    refine wp_if_neg R.noGw ?_
    try refine wpAny_bind (wpAny_pure ?_)
    have ans := go_spec t R.ok.ris R.ok.dm (fun i => (es[i]?.map (·.1)).getD 0) (knd.hash k) (10 * SetTable.turns t.mask) (K - c) (prb t.mask (knd.hash k) c) (prb_dummy _ _ c) (by omega)
      (fun q hq => by rw [prb_add]; exact hKb _ (by omega)) (by rw [prb_add, show c + (K - c) = K by omega]; exact hK)
    rw [← hf] at ans
    have hashOf : ∀ (i : Nat) r, L[i]? = some r → (es[i]?.map (·.1)).getD 0 = knd.hash r.2 := fun i r e => by rw [Rw.at R.row e]; rfl
    have pj : ∀ q, (nth t.mask (from?.getD (t.probeStart (knd.hash k))) q).j = way t.mask (knd.hash k) (c + q) := fun q => by rw [hf, prb_add]
    rcases ans with ⟨q, i, hq, hi, hh, before, e⟩ | ⟨before, e⟩
    · rw [show t.probe (fun i => (es[i]?.map (·.1)).getD 0) (knd.hash k) (from?.getD (t.probeStart (knd.hash k))) = _ from e]
      dsimp only
      rw [pj] at hi
      have hil : i < L.length := by
        have h1 := (List.getElem?_eq_some_iff.mp hi).1
        rw [Array.length_toList, R.psize, Rw.size R.row] at h1
        exact h1
      obtain ⟨r, hr⟩ : ∃ r, L[i]? = some r := ⟨_, List.getElem?_eq_getElem hil⟩
      have hrm := List.mem_of_getElem? hr
      have hrk := R.key r hrm
      have tail : wpAny (model P w) A (searchRest a (.ref x) (knd.hash k) true f es t (nth t.mask (from?.getD (t.probeStart (knd.hash k))) q).j i (nth t.mask (from?.getD (t.probeStart (knd.hash k))) (q + 1))) Q E s := by
        unfold searchRest
        rw [Rw.at R.row hr]
        dsimp only
        refine wpAny_bind (wpAny_holding (knd.eqBool hu hrk hx ?_))
        refine wpAny_bind (wpAny_setState_of ho hd R.fit ?_)
        dsimp only
        by_cases same : r.2 = k
        · refine wp_if_pos (by simp [same]) ?_
          exact wpAny_pure (yes (List.mem_map.mpr ⟨r, hrm, same⟩))
        · refine wp_if_neg (by simp [same]) ?_
          try refine wpAny_bind (wpAny_pure ?_)
          rw [sameMem]
          dsimp only
          have live := slot_live R.ok.ris hi
          rw [pj]
          simp only [if_true, live, Rw.at R.row hr]
          refine wpAny_bind (wpAny_isSame_ref_self (wpAny_bind (wpAny_pure ?_)))
          simp only [if_true]
          refine wp_if_neg (by simp [same]) ?_
          refine ih (c + (q + 1)) _ (by rw [Option.getD_some, hf, prb_add]) (by omega) (by omega) fun i0 r0 e0 k0 => ?_
          obtain ⟨c', c1, c2, c3⟩ := ahead i0 r0 e0 k0
          refine ⟨c', ?_, c2, c3⟩
          rcases Nat.lt_trichotomy c' (c + q) with z | z | z
          · exact absurd ((hashOf i0 r0 e0).trans (congrArg knd.hash k0)) (before (c' - c) i0 (by omega) (by rw [pj, show c + (c' - c) = c' by omega]; exact c3))
          · subst z
            have l2 := slot_live R.ok.ris c3
            rw [live] at l2
            injection l2 with l2
            subst l2
            rw [hr] at e0
            exact absurd ((congrArg Prod.snd (Option.some.inj e0)).trans k0) same
          · omega
      by_cases hl : t.led = true
      · refine wp_if_neg (by simp [hl]) ?_
        try refine wpAny_bind (wpAny_pure ?_)
        exact tail
      · refine wp_if_pos (by simp [hl]) ?_
        refine wpAny_bind (quiet_keys kk hx (fun y hy => ?_) ?_)
        · obtain ⟨u, hu1, rfl⟩ := List.mem_map.mp hy
          have hu2 : u ∈ es.toList := by
            have z : u ∈ es ∧ u.1 = knd.hash k := by simpa using hu1
            exact Array.mem_toList_iff.mpr z.1
          rw [R.row] at hu2
          obtain ⟨r2, h2, rfl⟩ := List.mem_map.mp hu2
          exact ⟨r2.2, r2.1, rfl, R.key r2 h2⟩
        · refine wp_if_neg (by decide) ?_
          try refine wpAny_bind (wpAny_pure ?_)
          exact tail
    · rw [show t.probe (fun i => (es[i]?.map (·.1)).getD 0) (knd.hash k) (from?.getD (t.probeStart (knd.hash k))) = _ from e]
      dsimp only
      rw [pj, show c + (K - c) = K by omega]
      refine wpAny_pure (no fun hm => ?_)
      obtain ⟨r0, h0, k0⟩ := List.mem_map.mp hm
      obtain ⟨i0, e0⟩ := List.getElem?_of_mem h0
      obtain ⟨c', c1, c2, c3⟩ := ahead i0 r0 e0 k0
      exact before (c' - c) i0 (by omega) (by rw [pj, show c + (c' - c) = c' by omega]; exact c3) ((hashOf i0 r0 e0).trans (congrArg knd.hash k0))
theorem look_at (kk : SetKey knd) (R : SetOn knd s.heap a L es ep t) {x : Addr} {k : Kk} (hx : knd.is s.heap k x) (hu : knd.room A) {Q : SetFound → Shared → Prop}
    (yes : k ∈ L.map (·.2) → Q (.there none) s)
    (no : ∀ K, k ∉ L.map (·.2) → way t.mask (knd.hash k) K ∉ t.place.toList → (∀ c, c < K → way t.mask (knd.hash k) c ∈ t.place.toList) → Q (.free (way t.mask (knd.hash k) K) false) s) :
    wpAny (model P w) A (setSearch a (.ref x) (knd.hash k) true) Q E s := by
  have hfr := R.free
  obtain ⟨K, k1, k2, k3⟩ := R.ok.first (by rw [List.length_map]; omega) (knd.hash k)
  have few : K < 0 + 100000 := by
    have : 10 * SetTable.turns t.mask ≤ 1420 := by
      unfold SetTable.turns
      rcases R.ok.mok with e | e | e <;> rw [e] <;> decide
    omega
  unfold setSearch
  refine look_from kk R hx hu k1 k2 k3 yes (fun hn => no K hn k2 k3) 100000 0 none rfl (Nat.zero_le _) few fun i r e ek => ?_
  have hi : (L.map fun r => knd.hash r.2)[i]? = some (knd.hash k) := by rw [List.getElem?_map, e, ← ek]; rfl
  have hil : i < t.place.toList.length := by
    rw [Array.length_toList, R.psize, Rw.size R.row]
    exact (List.getElem?_eq_some_iff.mp e).1
  obtain ⟨c, hc, ew⟩ := R.ok.before k2 hi (List.getElem?_eq_getElem hil)
  exact ⟨c, Nat.zero_le _, hc, by rw [List.getElem?_eq_getElem hil, ew]⟩
end
end AL

namespace AL
open PySem PySem.Spec PyProof.Rows L2
section
variable {P : Program} {w : World} {Kk : Type} [DecidableEq Kk] {knd : HeapKind P w Kk}
variable {A : Around} {E : Value → Shared → Prop} {s : Shared} {a : Addr} {L : List (Addr × Kk)} {es : Array (Int × Value)} {ep : Nat} {t : SetTable}
/-- a key is no set: it stays while the set changes -/
theorem SetKey.past (kk : SetKey knd) {h h' : Heap} {k : Kk} {b : Addr} {o : Obj} (hb : knd.is h k b) (ho : h.get? a = some o) (hd : o.data = .set es ep t) (hs : Heap.SameBut a h h') : knd.is h' k b :=
  kk.st.stays (fun c u vs n hc hu => (hs.2 c (fun e => by subst e; rw [ho] at hc; cases hc; rw [hd] at hu; cases hu)).trans hc) hb
theorem SetKey.ext (kk : SetKey knd) {h h' : Heap} {k : Kk} {b : Addr} (hb : knd.is h k b) (hs : ∀ c u, h.get? c = some u → h'.get? c = some u) : knd.is h' k b :=
  kk.st.stays (fun c u vs n hc _ => hs c u hc) hb
theorem Rw.insert (L : List (Addr × Kk)) (p : Nat) (r : Addr × Kk) : Rw knd (L.take p ++ r :: L.drop p) = (Rw knd L).take p ++ (knd.hash r.2, Value.ref r.1) :: (Rw knd L).drop p := by
  simp only [Rw, List.map_append, List.map_cons, List.map_take, List.map_drop]
theorem insert_perm {α : Type} (l : List α) (p : Nat) (x : α) : (l.take p ++ x :: l.drop p).Perm (x :: l) := by
  have e := List.perm_middle (a := x) (l₁ := l.take p) (l₂ := l.drop p)
  rwa [List.take_append_drop] at e
/-- the rows by an order of the old ones -/
theorem Rw.reorder (h : es.toList = Rw knd L) {order : Array Nat} (hp : order.toList.Perm (List.range L.length)) :
    ∃ L2, (order.filterMap (es[·]?)).toList = Rw knd L2 ∧ L2.Perm L ∧ (L2.map fun r => knd.hash r.2) = order.toList.map fun i => (es.map (·.1)).getD i 0 := by
  have one : ∀ l : List Nat, (∀ i ∈ l, i < L.length) → l.filterMap (fun i => es[i]?) = Rw knd (l.filterMap fun i => L[i]?) ∧ ((l.filterMap fun i => L[i]?).map fun r => knd.hash r.2) = l.map fun i => (es.map (·.1)).getD i 0 := by
    intro l
    induction l with
    | nil => exact fun _ => ⟨rfl, rfl⟩
    | cons i l ih =>
      intro hl
      obtain ⟨r, hr⟩ : ∃ r, L[i]? = some r := ⟨_, List.getElem?_eq_getElem (hl i List.mem_cons_self)⟩
      obtain ⟨e1, e2⟩ := ih fun j hj => hl j (List.mem_cons_of_mem _ hj)
      have e3 : (es.map (·.1)).getD i 0 = knd.hash r.2 := by simp [Array.getD_eq_getD_getElem?, Rw.at h hr]
      rw [List.filterMap_cons_some (Rw.at h hr), List.filterMap_cons_some hr, e1, List.map_cons, e2, List.map_cons, e3]
      exact ⟨rfl, rfl⟩
  obtain ⟨e1, e2⟩ := one order.toList fun i hi => List.mem_range.mp (hp.mem_iff.mp hi)
  refine ⟨_, (Array.toList_filterMap ..).trans e1, ?_, e2⟩
  have z : (List.range L.length).filterMap (fun i => L[i]?) = L := by
    have all : ∀ n, n ≤ L.length → (List.range n).filterMap (fun i => L[i]?) = L.take n := by
      intro n
      induction n with
      | zero => exact fun _ => rfl
      | succ n ih =>
        intro hn
        rw [List.range_succ, List.filterMap_append, ih (by omega), List.take_succ, List.getElem?_eq_getElem hn]
        rw [List.filterMap_cons_some (List.getElem?_eq_getElem hn)]
        rfl
    rw [all _ (Nat.le_refl _), List.take_length]
  have q := hp.filterMap (fun i => L[i]?)
  rwa [z] at q
/-- laid anew, larger -/
theorem grow_at (kk : SetKey knd) {o : Obj} (ho : s.heap.get? a = some o) (hex : o.ExactSet) (hd : o.data = .set es ep t) (hr : es.toList = Rw knd L) (hz : t.place.size = es.size) (hm : t.dummies = #[]) (hf : es.size ≤ t.mask)
    (uni : (L.map (·.2)).Nodup) (key : ∀ r ∈ L, knd.is s.heap r.2 r.1) (ld : w.params.followText "set-order" = true ∨ t.led = true) (lim : L.length < 64) {want M : Nat}
    (hw : SetTable.sizeAbove want - 1 = M) (hM : MaskOk M) (h128 : SetTable.sizeAbove want ≤ 128) (hfree : L.length * 5 < M * 3) {Q : Unit → Shared → Prop}
    (k : ∀ h' L' es' ep' t', Heap.SameBut a s.heap h' → SetOn knd h' a L' es' ep' t' → L'.Perm L → Q () { s with heap := h' }) : wpAny (model P w) A (setRelay a want) Q E s := by
  have zl := Rw.size hr
  obtain ⟨t', order, e, pm, T, em, el, _, _⟩ := relaid_ok t (hs := es.map (·.1)) (wanted := want) hw hM (by rw [Array.size_map, zl]; omega)
  rw [Array.size_map, zl] at pm
  obtain ⟨L2, r1, r2, r3⟩ := Rw.reorder hr pm
  rw [← r3] at T
  have z2 : (order.filterMap (es[·]?)).size = es.size := by rw [Rw.size r1, r2.length_eq, zl]
  rw [setRelay_eq]
  refine wpAny_bind (wpAny_setState_of ho hd (fits_by hm hz hf) ?_)
  dsimp only
  refine wp_if_neg (by rw [sizeLine_eq]; omega) ?_
  try refine wpAny_bind (wpAny_pure ?_)
  rw [e]
  dsimp only
  refine wpAny_bind ?_
  refine wp_if_neg (by rw [z2]; simp) ?_
  try refine wpAny_bind (wpAny_pure ?_)
  refine wpAny_pure ?_
  dsimp only
  refine wpAny_storeSet_of ho hd ?_ (by rw [z2, zl, sizeLine_eq]; omega)
  have sb : Heap.SameBut a s.heap (s.heap.update a (Obj.putSet (order.filterMap (es[·]?)) t')) := Heap.SameBut.update ..
  exact k _ L2 _ (ep + 1) t' sb ⟨⟨_, store_at ho hd, ⟨hex.1, hex.2.1, hex.2.2⟩, rfl⟩, r1, T, (r2.map (·.2)).nodup_iff.mpr uni, fun r hm' => kk.past (key r (r2.mem_iff.mp hm')) ho hd sb, by rw [el]; exact ld,
    by rw [r2.length_eq, em]; exact hfree, by rw [r2.length_eq]; exact lim⟩ r2
/-- a key is put in -/
theorem put_at (kk : SetKey knd) (R : SetOn knd s.heap a L es ep t) {x : Addr} {k : Kk} (hx : knd.is s.heap k x) (hu : knd.room A) (lim : L.length + 1 < 64) {Q : Bool → Shared → Prop}
    (q : ∀ b h' L' es' ep' t', Heap.SameBut a s.heap h' → SetOn knd h' a L' es' ep' t' → (k ∈ L.map (·.2) → L' = L) → (k ∉ L.map (·.2) → L'.Perm ((x, k) :: L)) → Q b { s with heap := h' }) :
    wpAny (model P w) A (setAddHashed a (.ref x) (knd.hash k)) Q E s := by
  obtain ⟨o, ho, hex, hd⟩ := R.obj
  have zl := Rw.size R.row
  have hfree := R.free
  unfold setAddHashed
  refine wpAny_holding ?_
  rw [show (100000 : Nat) = 99999 + 1 from rfl, setAddHashedIn_succ]
  refine wpAny_bind (wpAny_setState_of ho hd R.fit ?_)
  dsimp only
  refine wp_if_neg (by simp [byScan, Value.scannable]) ?_
  try refine wpAny_bind (wpAny_pure ?_)
  refine wpAny_bind (look_at kk R hx hu (fun hin => wpAny_pure (q false s.heap L es ep t (.refl a s.heap) R (fun _ => rfl) fun z => absurd hin z)) fun K hn hK hb => ?_)
  dsimp only
  refine wpAny_bind (wpAny_setState_of ho hd R.fit ?_)
  dsimp only
  obtain ⟨u1, u2, u3, u4, u5, _, _, _, u9⟩ := R.ok.put hK hb
  generalize (way t.mask (knd.hash k) K) = slot at u1 u2 u3 u4 u5 u9 ⊢
  generalize (t.put slot) = pt at u1 u3 u4 u5 u9 ⊢
  obtain ⟨t1, p⟩ := pt
  dsimp only at u1 u3 u4 u5 u9 ⊢
  subst u1
  generalize SetTable.below t.place slot = p at u2 u3 ⊢
  have pm := insert_perm L p (x, k)
  have hlen : (L.take p ++ (x, k) :: L.drop p).length = L.length + 1 := pm.length_eq
  have rows : (SetTable.insertAt es p (knd.hash k, Value.ref x)).toList = Rw knd (L.take p ++ (x, k) :: L.drop p) := by rw [SetTable.toList_insertAt, Rw.insert, R.row]
  have hh : (L.take p ++ (x, k) :: L.drop p).map (fun r => knd.hash r.2) = (L.map fun r => knd.hash r.2).take p ++ knd.hash k :: (L.map fun r => knd.hash r.2).drop p := by
    simp only [List.map_append, List.map_cons, List.map_take, List.map_drop]
  rw [← hh] at u3
  generalize SetTable.insertAt es p (knd.hash k, Value.ref x) = es1 at rows ⊢
  generalize L.take p ++ (x, k) :: L.drop p = L1 at pm hlen u3 rows
  have hz1 : es1.size = L.length + 1 := by rw [Rw.size rows, hlen]
  have uni1 : (L1.map (·.2)).Nodup := by
    refine (pm.map (·.2)).nodup_iff.mpr ?_
    rw [List.map_cons]
    exact List.nodup_cons.mpr ⟨hn, R.uni⟩
  -- whatever the table's mark becomes
  have after : ∀ t2 : SetTable, TabOk t2 (L1.map fun r => knd.hash r.2) → t2.mask = t.mask → (w.params.followText "set-order" = true ∨ t2.led = true) → t2.fill = L.length + 1 →
      wpAny (model P w) A (storeSet a es1 t2) (fun _ s' => wpAny (model P w) A (do
        if !false && t2.tooFull then setRelay a (SetTable.grown (es.size + 1))
        return true) Q E s') E s := by
    intro t2 T em ld fi
    refine wpAny_storeSet_of ho hd ?_ (by rw [hz1, sizeLine_eq]; omega)
    have sb : Heap.SameBut a s.heap (s.heap.update a (Obj.putSet es1 t2)) := Heap.SameBut.update ..
    have ho1 := store_at (es' := es1) (t' := t2) ho hd
    generalize s.heap.update a (Obj.putSet es1 t2) = h1 at sb ho1 ⊢
    have key1 : ∀ r ∈ L1, knd.is h1 r.2 r.1 := fun r hr => by
      rcases List.mem_cons.mp (pm.mem_iff.mp hr) with e | hr
      · subst e; exact kk.past hx ho hd sb
      · exact kk.past (R.key r hr) ho hd sb
    by_cases full : t2.tooFull = true
    · have fullN : (L.length + 1) * 5 ≥ t2.mask * 3 := by
        have z := full
        unfold SetTable.tooFull at z
        rwa [decide_eq_true_eq, fi] at z
      have hps : t2.place.size = es1.size := by rw [T.sz, List.length_map, hlen, hz1]
      have two : (t.mask = 7 ∧ L.length = 4) ∨ (t.mask = 31 ∧ L.length = 18) := by
        rcases R.ok.mok with e | e | e <;> rw [em, e] at fullN <;> rw [e] at hfree
        · exact .inl ⟨e, by omega⟩
        · exact .inr ⟨e, by omega⟩
        · omega
      have go : ∀ M, SetTable.sizeAbove (SetTable.grown (L.length + 1)) - 1 = M → MaskOk M → SetTable.sizeAbove (SetTable.grown (L.length + 1)) ≤ 128 → (L.length + 1) * 5 < M * 3 →
          wpAny (model P w) A (setRelay a (SetTable.grown (es.size + 1))) (fun _ s' => wpAny (model P w) A (pure true) Q E s') E { s with heap := h1 } := fun M g1 g2 g3 g4 => by
        rw [zl]
        refine grow_at (s := { s with heap := h1 }) kk ho1 ⟨hex.1, hex.2.1, hex.2.2⟩ rfl rows hps T.dm (by rw [hz1, em]; rcases two with ⟨e, e2⟩ | ⟨e, e2⟩ <;> rw [e, e2] <;> decide) uni1 key1 ld (by rw [hlen]; exact lim) g1 g2 g3 (by rw [hlen]; exact g4) ?_
        exact fun h2 L2 es2 ep2 t3 sb2 R2 pm2 => wpAny_pure (q true h2 L2 es2 ep2 t3 (sb.trans sb2) R2 (fun z => absurd z hn) fun _ => pm2.trans pm)
      first
        | (refine wpAny_bind ?_; refine wp_if_pos (by simp [full]) ?_)
        | (refine wp_if_pos (by simp [full]) ?_; refine wpAny_bind ?_)
      rcases two with ⟨_, e2⟩ | ⟨_, e2⟩
      · exact go 31 (by rw [e2, size_20]) (.inr (.inl rfl)) (by rw [e2, size_20]; decide) (by omega)
      · exact go 127 (by rw [e2, size_76]) (.inr (.inr rfl)) (by rw [e2, size_76]; decide) (by omega)
    · first
        | refine wp_if_neg (by simp [full]) ?_
        | (refine wpAny_bind ?_; refine wp_if_neg (by simp [full]) ?_; refine wpAny_pure ?_)
      refine wpAny_pure (q true h1 L1 es1 (ep + 1) t2 sb ⟨⟨_, ho1, ⟨hex.1, hex.2.1, hex.2.2⟩, rfl⟩, rows, T, uni1, key1, ld, ?_, by rw [hlen]; exact lim⟩ (fun z => absurd z hn) fun _ => pm)
      have z := full
      unfold SetTable.tooFull at z
      rw [decide_eq_true_eq, fi] at z
      rw [hlen]
      omega
  have ld1 : w.params.followText "set-order" = true ∨ t1.led = true := by rw [u5]; exact R.ld
  have fi1 : t1.fill = L.length + 1 := by rw [u9, List.length_map]
  have T2 : TabOk { t1 with plain := false } (L1.map fun r => knd.hash r.2) := ⟨u3.ris, u3.dm, u3.sz, u3.mok, u3.bd, u3.reach⟩
  cases hp1 : t1.plain with
  | true =>
    first
      | (refine wpAny_bind ?_; refine wp_if_pos rfl ?_; refine kk.hbv hx fun bv => ?_)
      | refine wp_if_pos rfl (wpAny_bind (kk.hbv hx fun bv => ?_))
    cases bv with
    | true => exact wpAny_bind (after t1 u3 u4 ld1 fi1)
    | false => exact wpAny_bind (after { t1 with plain := false } T2 u4 ld1 fi1)
  | false =>
    first
      | (refine wpAny_bind ?_; refine wp_if_neg Bool.false_ne_true ?_; refine wpAny_pure ?_)
      | refine wp_if_neg Bool.false_ne_true (wpAny_bind (wpAny_pure ?_))
    exact wpAny_bind (after t1 u3 u4 ld1 fi1)
end
end AL

namespace AL
open PySem PySem.Spec PyProof.Rows L2
section
variable {P : Program} {w : World} {Kk : Type} [DecidableEq Kk] {knd : HeapKind P w Kk}
variable {A : Around} {E : Value → Shared → Prop} {s : Shared} {a : Addr} {L : List (Addr × Kk)} {es : Array (Int × Value)} {ep : Nat} {t : SetTable}
theorem SetOn.ext (R : SetOn knd s.heap a L es ep t) {h' : Heap} (ha : ∀ o, s.heap.get? a = some o → h'.get? a = some o) (hk : ∀ r ∈ L, knd.is h' r.2 r.1) : SetOn knd h' a L es ep t :=
  ⟨R.obj.imp fun o h => ⟨ha o h.1, h.2⟩, R.row, R.ok, R.uni, hk, R.ld, R.free, R.lim⟩
/-- the object of a new set -/
abbrev newSet (w : World) : Obj := { cls := .type "set", dict := none, data := .set #[] 0 (.fresh 0 0 (!w.params.followText "set-order")) }
theorem SetOn.new {h : Heap} (ho : h.get? a = some (newSet w)) : SetOn knd h a [] #[] 0 (.fresh 0 0 (!w.params.followText "set-order")) :=
  ⟨⟨_, ho, ⟨rfl, rfl, rfl⟩, rfl⟩, rfl, ⟨.nil, rfl, rfl, .inl rfl, fun _ h => (nomatch h), fun i _ _ h => by simp at h⟩, List.nodup_nil, fun _ h => (nomatch h),
    by cases e : w.params.followText "set-order" <;> simp [SetTable.fresh, e], by show 0 * 5 < 7 * 3; decide, by show 0 < 64; decide⟩
/-- what stands in the set behind the first i items -/
structure From (ks : List (Addr × Kk)) (i : Nat) (L : List (Addr × Kk)) : Prop where
  sub : ∀ r ∈ L, r ∈ ks.take i
  all : ∀ r ∈ ks.take i, r.2 ∈ L.map (·.2)
  le : L.length ≤ i
theorem From.next {ks L L' : List (Addr × Kk)} {i : Nat} {x : Addr × Kk} (g : From ks i L) (h : ks[i]? = some x) (c1 : x.2 ∈ L.map (·.2) → L' = L) (c2 : x.2 ∉ L.map (·.2) → L'.Perm (x :: L)) : From ks (i + 1) L' := by
  have tk : ks.take (i + 1) = ks.take i ++ [x] := by rw [List.take_succ, h]; rfl
  by_cases c : x.2 ∈ L.map (·.2)
  · rw [c1 c]
    refine ⟨fun r hr => by rw [tk]; exact List.mem_append_left _ (g.sub r hr), fun r hr => ?_, Nat.le_succ_of_le g.le⟩
    rw [tk, List.mem_append, List.mem_singleton] at hr
    exact hr.elim (g.all r) fun e => e ▸ c
  · have pm := c2 c
    refine ⟨fun r hr => ?_, fun r hr => ?_, by rw [pm.length_eq]; exact Nat.succ_le_succ g.le⟩
    · rw [tk, List.mem_append, List.mem_singleton]
      exact (List.mem_cons.mp (pm.mem_iff.mp hr)).elim .inr fun z => .inl (g.sub r z)
    · rw [(pm.map (·.2)).mem_iff, List.map_cons, List.mem_cons]
      rw [tk, List.mem_append, List.mem_singleton] at hr
      exact hr.elim (fun z => .inr (g.all r z)) fun e => .inl (congrArg Prod.snd e)
/-- what changes while items are put into the set at S -/
def SetMoved (S : Addr) (wr : List Addr) (G : Array GenState → Array GenState → Prop) (s s' : Shared) : Prop := Moved (S :: wr) G s s'
theorem fill_loop (kk : SetKey knd) {I : Addr} {fp wr : List Addr} {G : Array GenState → Array GenState → Prop} {n : Nat} {Pv : Nat → Value → Prop} {St : Nat → Shared → Prop} {R : Result → Shared → Prop}
    (W : WalksS P w A.in1 I fp wr G n Pv St) (S : Addr) (hSf : S ∉ fp) (ks : List (Addr × Kk)) (hn : n = ks.length) (lim : ks.length < 64) (val : ∀ i v, Pv i v → ∃ r, ks[i]? = some r ∧ v = .ref r.1)
    (h0 : Heap) (hk : ∀ r ∈ ks, knd.is h0 r.2 r.1) (hS0 : h0.get? S = none) (hw0 : ∀ b ∈ wr, h0.get? b = none) (hu : knd.room A.in1)
    (fin : ∀ s' L es ep t s0, SetMoved S wr G s0 s' → SetOn knd s'.heap S L es ep t → From ks n L → (∀ b o, h0.get? b = some o → s'.heap.get? b = some o) → s0 = s → R (.ok (.ret .none)) s') :
    ∀ (m i : Nat) (s1 : Shared), i + m = n → St i s1 → (∀ b o, h0.get? b = some o → s1.heap.get? b = some o) → (∃ L es ep t, SetOn knd s1.heap S L es ep t ∧ From ks i L) → (i = 0 → s1 = s) → (0 < i → SetMoved S wr G s s1) →
      codeAny (model P w) A (.builtin "set.update.loop" ⟨[.ref S, .ref I], []⟩) R s1 := by
  have hSw : S ∉ wr := fun z => hSf (W.sub _ z)
  have wide : ∀ b ∈ wr, b ∈ S :: wr := fun b z => List.mem_cons_of_mem _ z
  have stay : ∀ {u v : Shared}, Moved wr G u v → (∀ b o, h0.get? b = some o → u.heap.get? b = some o) → ∀ b o, h0.get? b = some o → v.heap.get? b = some o := fun mv hkp b o e =>
    mv.heap b o (fun hb => by rw [hw0 b hb] at e; cases e) (hkp b o e)
  have far : ∀ {i : Nat} {s1 s2 : Shared}, (i = 0 → s1 = s) → (0 < i → SetMoved S wr G s s1) → Moved (S :: wr) G s1 s2 → SetMoved S wr G s s2 := fun {i s1 s2} z1 z2 mv => by
    cases i with
    | zero => rw [← z1 rfl]; exact mv
    | succ i => exact Moved.trans W.gtrans (z2 (Nat.succ_pos _)) mv
  intro m
  induction m with
  | zero =>
    intro i s1 hi hst hkp ⟨L, es, ep, t, hS, g⟩ z1 z2
    have hi' : i = n := hi
    subst hi'
    refine codeAny_builtin F.entry_set_update_loop ?_
    rw [Around.under_plainId F.plain_set_update_loop _]
    show wpAny _ A.in1 (pyNext (.ref I) >>= _) _ _ s1
    refine wpAny_bind (W.done s1 _ _ hst fun s2 mv => ?_)
    have hkp2 := stay mv hkp
    exact wpAny_pure (fin s2 L es ep t s (far z1 z2 (mv.mono wide)) (hS.ext (fun o e => mv.heap S o hSw e) fun r hr => kk.ext (hk r (List.mem_of_mem_take (g.sub r hr))) hkp2) g hkp2 rfl)
  | succ m ih =>
    intro i s1 hi hst hkp ⟨L, es, ep, t, hS, g⟩ z1 z2
    refine codeAny_builtin F.entry_set_update_loop ?_
    rw [Around.under_plainId F.plain_set_update_loop _]
    show wpAny _ A.in1 (pyNext (.ref I) >>= _) _ _ s1
    refine wpAny_bind (W.item i s1 _ _ (by omega) hst fun v s2 hP hst2 mv => ?_)
    obtain ⟨r, hr, rfl⟩ := val i v hP
    have hkp2 := stay mv hkp
    have hS2 : SetOn knd s2.heap S L es ep t := hS.ext (fun o e => mv.heap S o hSw e) fun q hq => kk.ext (hk q (List.mem_of_mem_take (g.sub q hq))) hkp2
    have hx : knd.is s2.heap r.2 r.1 := kk.ext (hk r (List.mem_of_getElem? hr)) hkp2
    show wpAny _ A.in1 (holding [Value.ref r.1] (setAdd S (.ref r.1)) >>= _) _ _ s2
    refine wpAny_bind (wpAny_holding ?_)
    unfold setAdd
    refine wpAny_holding ?_
    refine wpAny_bind (knd.pyHash hu hx ?_)
    refine put_at (s := { s2 with toks := s2.toks + knd.draws r.2 }) kk hS2 hx hu (by have := g.le; omega) fun b h3 L3 es3 ep3 t3 sb hS3 c1 c2 => ?_
    have hkp3 : ∀ b o, h0.get? b = some o → h3.get? b = some o := fun b o e => (sb.2 b (fun z => by rw [z, hS0] at e; cases e)).trans (hkp2 b o e)
    have mv3 : Moved (S :: wr) G s1 { s2 with heap := h3, toks := s2.toks + knd.draws r.2 } := (mv.mono wide).then_heap (Nat.le_add_right _ _) fun b o hb e => (sb.2 b (fun z => hb (z ▸ List.mem_cons_self))).trans e
    refine wpAny_pure ⟨plainId_quiet F.plain_set_update_loop _, ih (i + 1) _ (by omega) (W.frame _ s2 _ _ hst2 (Nat.le_add_right _ _) fun b hb o e => ?_) hkp3 ⟨L3, es3, ep3, t3, hS3, g.next hr c1 c2⟩ (fun z => absurd z (Nat.succ_ne_zero _)) fun _ => far z1 z2 mv3⟩
    exact (sb.2 b (fun z => hSf (z ▸ hb))).trans e

set_option maxHeartbeats 3200000 in
/-- set(xs) of a list of keys -/
theorem make_set (kk : SetKey knd) {l : Addr} {items : Array Value} (ks : List (Addr × Kk)) {Q : Value → Shared → Prop} (hh : A.handled = none) (hl : s.heap.IsList l items) (hit : items.toList = ks.map fun r => Value.ref r.1)
    (hk : ∀ r ∈ ks, knd.is s.heap r.2 r.1) (lim : ks.length < 64) (hu : knd.room A.in1.in1.in1)
    (q : ∀ (h' : Heap) (tk : Nat) L es ep t, SetOn knd h' s.heap.objs.size L es ep t → From ks ks.length L → (∀ b o, s.heap.get? b = some o → h'.get? b = some o) → Q (.ref s.heap.objs.size) { s with heap := h', toks := tk }) :
    wpAny (model P w) A (call (.type "set") [.ref l]) Q E s := by
  have zi : items.size = ks.length := by rw [← Array.length_toList, hit, List.length_map]
  obtain ⟨c, tl, hmro⟩ := F.called_set.mro
  have hmade := F.called_set.made
  have hsub := F.called_set.sub
  refine wpAny_call (codeAny_of_tree ?_)
  show wpAny _ _ (callAny (.type "set") _) _ _ _
  refine wpAny_pure ⟨Code.quiet_builtin _ (by decide +kernel), codeAny_builtin F.entry_type_call ?_⟩
  rw [Around.under_plain (weight_type_call_type "set" [.ref l] []) rfl]
  have h1 := F.called_set.notType
  have h2 := F.called_set.canCreate
  have hct := F.typeCall_set_1 (.ref l)
  repeat (any_goals (first | assumption | wp_step))
  refine codeAny_mono (code_set_led1 (.ref l) (E := E) (Q₁ := fun obj s₁ => obj = .ref s.heap.objs.size ∧ s₁ = { s with heap := s.heap.push (newSet w) }) ⟨rfl, rfl⟩) fun r s₁ hr => ?_
  cases r with
  | error e => exact hr
  | ok fl =>
    cases fl with
    | next => exact hr.elim
    | brk => exact hr.elim
    | cont => exact hr.elim
    | ret obj =>
      obtain ⟨rfl, rfl⟩ := hr
      have hS : (s.heap.push (newSet w)).get? s.heap.objs.size = some (newSet w) := Heap.get?_push_size _ rfl
      have hT : Shared.TypeIs { s with heap := s.heap.push (newSet w) } (.ref s.heap.objs.size) "set" := ⟨_, hS, rfl⟩
      have hli := F.called_set.init.lookup
      have hbi := F.called_set.init.bind (.ref s.heap.objs.size)
      repeat (any_goals (first | assumption | wp_step))
      refine codeAny_mono (codeAny_call_builtin (R := wants (fun r s₂ => r = .none ∧ ∃ h' tk L es ep t, s₂ = { s with heap := h', toks := tk } ∧ SetOn knd h' s.heap.objs.size L es ep t ∧ From ks ks.length L ∧
          (∀ b o, s.heap.get? b = some o → h'.get? b = some o)) E) F.called_set.init.plain F.entry_set_init (check_set_init_1 hT ?_)) fun r₂ s₂ hr₂ => ?_
      · obtain ⟨⟨ocls, odict, odata, oslots⟩, hol, hcl, nl, hdl⟩ := hl
        simp only at hcl hdl
        subst hcl; subst hdl
        have hol' : (s.heap.push (newSet w)).get? l = some { cls := .type "list", dict := odict, data := .seq items nl, slots := oslots } := Heap.get?_push_of_some _ hol
        have hsls := F.sub_list_set
        have hslf := F.sub_list_frozenset
        have hne : (Value.type "list" == Value.type "dict") = false := by decide
        have hl1 : (s.heap.push (newSet w)).IsList l items := ⟨_, hol', rfl, nl, rfl⟩
        unfold Builtin.«set.__init__» noKeywords Builtin.Frozenset.updateFrom
        generalize hPI : pyIter = PI
        wp_walk
        subst hPI
        refine wpAny_pyIter_list hl1 ?_
        refine wpAny_bind (wpAny_runValue ?_)
        have hlS : l < s.heap.objs.size := Heap.lt_size hol
        have hh3 : A.in1.in1.in1.handled = none := by simp [hh]
        have hz1 : (s.heap.push (newSet w)).objs.size = s.heap.objs.size + 1 := Heap.size_push ..
        have hneI : l ≠ (s.heap.push (newSet w)).objs.size := by rw [hz1]; exact Nat.ne_of_lt (Nat.lt_succ_of_lt hlS)
        have hSf : s.heap.objs.size ∉ [(s.heap.push (newSet w)).objs.size, l] := by
          rw [hz1]
          simp only [List.mem_cons, List.not_mem_nil, or_false, not_or]
          exact ⟨Nat.ne_of_lt (Nat.lt_succ_self _), Nat.ne_of_gt hlS⟩
        have val : ∀ (i : Nat) (v : Value), items[i]? = some v → ∃ r, ks[i]? = some r ∧ v = .ref r.1 := fun i v hv => by
          rw [← Array.getElem?_toList, hit, List.getElem?_map, Option.map_eq_some_iff] at hv
          obtain ⟨r, h1, h2⟩ := hv
          exact ⟨r, h1, h2.symm⟩
        have gone : ∀ b, s.heap.objs.size ≤ b → s.heap.get? b = none := fun b hb => by
          cases e : s.heap.get? b with
          | none => rfl
          | some o => exact absurd (Heap.lt_size e) (Nat.not_lt.mpr hb)
        have hget : ((s.heap.push (newSet w)).push { cls := .type "list_iterator", data := .fields #[.ref l, .int 0 0] }).get? s.heap.objs.size = some (newSet w) := Heap.get?_push_of_some _ hS
        refine fill_loop kk ((Walks.list hh3 _ l hneI items).toS) s.heap.objs.size hSf ks zi lim val s.heap hk (gone _ (Nat.le_refl _)) (fun b hb => gone b (by rw [List.mem_singleton.mp hb, hz1]; exact Nat.le_succ _)) hu
          ?fin items.size 0 _ (Nat.zero_add _) ⟨⟨_, Heap.get?_push_size _ rfl, rfl, rfl⟩, hl1.push _⟩ (fun b o e => Heap.get?_push_of_some _ (Heap.get?_push_of_some _ e)) ⟨[], #[], 0, _, SetOn.new hget, ⟨fun _ z => (nomatch z), fun _ z => by simp at z, Nat.le_refl _⟩⟩ (fun _ => rfl) fun z => absurd z (Nat.lt_irrefl _)
        case fin =>
          intro s' L es ep t s0 mv hS' g' hkp e0
          subst e0
          obtain ⟨h', g2, d', tk', os'⟩ := s'
          cases (show g2 = s.gens from mv.gens)
          cases (show d' = s.drawn from mv.drawn)
          cases (show os' = s.os from mv.os)
          rw [zi] at g'
          show wpAny _ _ _ _ _ _
          refine wpAny_pure ?_
          show wpAny _ _ (ret Value.none) _ _ _
          exact wpAny_pure ⟨rfl, h', tk', L, es, ep, t, rfl, hS', g', hkp⟩
      · cases r₂ with
        | error e => exact hr₂
        | ok fl₂ =>
          cases fl₂ with
          | next => exact hr₂.elim
          | brk => exact hr₂.elim
          | cont => exact hr₂.elim
          | ret r =>
            obtain ⟨rfl, h', tk, L, es, ep, t, rfl, hS', g', hk'⟩ := hr₂
            repeat (any_goals (first | assumption | wp_step))
            exact q _ _ _ _ _ _ hS' g' hk'
end
end AL

namespace AL
open PySem PySem.Spec PyProof.Rows L2

/-! ### nested keys may stand in sets -/
section
variable {P : Program} {w : World}
mutual
theorem cls_key : ∀ (k : NestedKey) (v : Value) (n : Nat) (A : Around) (E : Value → Shared → Prop) (s : Shared) (Q : Bool → Shared → Prop), NestedIs s.heap k v → k.depth ≤ n → Q false s → wpAny (model P w) A (ofAClassStatement n v) Q E s
  | .none, _, n, A, E, s, Q, x, _, h => by cases x; cases n <;> exact wpAny_pure h
  | .num i, _, n, A, E, s, Q, x, _, h => by cases x <;> cases n <;> exact wpAny_pure h
  | .text y, _, n, A, E, s, Q, x, _, h => by cases x; cases n <;> exact wpAny_pure h
  | .tup ks, _, n, A, E, s, Q, x, hn, h => by
    cases x with
    | @tup a o vs m _ hg hc hd hk =>
      simp only [NestedKey.depth] at hn
      cases n with
      | zero => omega
      | succ n =>
        unfold ofAClassStatement
        refine wpAny_bind (wpAny_typeOf (T := "tuple") ⟨o, hg, hc⟩ ?_)
        dsimp only
        have e : (("tuple" : String) == "tuple") = true := by decide
        simp only [e, if_true, Bool.not_true, Bool.false_eq_true, if_false]
        try refine wpAny_bind (wpAny_pure ?_)
        try simp only [Bool.not_true, Bool.false_eq_true, if_false]
        show wpAny _ _ (seqItems? (.ref a) >>= _) _ _ s
        refine wpAny_bind (wpAny_seqItems hg hd ?_)
        dsimp only
        refine wpAny_bind ?_
        show wpAny _ _ (forIn vs _ _) _ _ s
        rw [← Array.forIn_toList]
        refine wpAny_forIn_list _ (fun left r s' => r.1 = none ∧ s' = s ∧ ∃ ks', NestedAll s.heap ks' left ∧ NestedKey.depthAll ks' ≤ n ∧ sizeOf ks' ≤ sizeOf ks) _ ?step ?fin _ _ ⟨rfl, rfl, ks, hk, by omega, Nat.le_refl _⟩
        case fin =>
          rintro ⟨r1, r2⟩ s' ⟨er, rfl, _⟩
          cases (show r1 = none from er)
          exact wpAny_pure h
        case step =>
          rintro v left r s' ⟨er, rfl, ks', hk', hd', hz⟩
          cases hk' with
          | @cons k _ ks2 _ h1 h2 =>
            simp only [NestedKey.depthAll] at hd'
            have hz2 : sizeOf k < sizeOf ks := by
              have : sizeOf (k :: ks2) = 1 + sizeOf k + sizeOf ks2 := by simp
              omega
            refine wpAny_bind (cls_key k v n A E s' _ h1 (by omega) ?_)
            refine wp_if_neg (by decide) ?_
            exact wpAny_pure ⟨rfl, rfl, ks2, h2, by omega, by
              have : sizeOf (k :: ks2) = 1 + sizeOf k + sizeOf ks2 := by simp
              omega⟩
termination_by k => sizeOf k
end
mutual
theorem hbv_key : ∀ (k : NestedKey) (v : Value) (n : Nat) (A : Around) (E : Value → Shared → Prop) (s : Shared) (Q : Bool → Shared → Prop), NestedIs s.heap k v → (∀ b, Q b s) → wpAny (model P w) A (hashByValue n v) Q E s
  | .none, _, n, A, E, s, Q, x, h => by cases x; cases n <;> exact wpAny_pure (h _)
  | .num i, _, n, A, E, s, Q, x, h => by cases x <;> cases n <;> exact wpAny_pure (h _)
  | .text y, _, n, A, E, s, Q, x, h => by cases x; cases n <;> exact wpAny_pure (h _)
  | .tup ks, _, n, A, E, s, Q, x, h => by
    cases x with
    | @tup a o vs m _ hg hc hd hk =>
      cases n with
      | zero => exact wpAny_pure (h _)
      | succ n =>
        unfold hashByValue
        refine wpAny_bind (wpAny_specialOf (T := "tuple") ⟨o, hg, hc⟩ F.slot_tuple_hash.lookup ?_)
        show wpAny _ _ (seqItems? (.ref a) >>= _) _ _ s
        refine wpAny_bind (wpAny_seqItems hg hd ?_)
        refine wpAny_bind ?_
        show wpAny _ _ (forIn vs _ _) _ _ s
        rw [← Array.forIn_toList]
        refine wpAny_forIn_list _ (fun left r s' => r.1 = none ∧ s' = s ∧ ∃ ks', NestedAll s.heap ks' left ∧ sizeOf ks' ≤ sizeOf ks) _ ?step ?fin _ _ ⟨rfl, rfl, ks, hk, Nat.le_refl _⟩
        case fin =>
          rintro ⟨r1, r2⟩ s' ⟨er, rfl, _⟩
          cases (show r1 = none from er)
          exact wpAny_pure (h _)
        case step =>
          rintro v left r s' ⟨er, rfl, ks', hk', hz⟩
          cases hk' with
          | @cons k _ ks2 _ h1 h2 =>
            have e : sizeOf (k :: ks2) = 1 + sizeOf k + sizeOf ks2 := by simp
            have hz2 : sizeOf k < sizeOf ks := by omega
            refine wpAny_bind (hbv_key k v n A E s' _ h1 fun b => ?_)
            cases b with
            | false =>
              refine wp_if_pos rfl ?_
              exact wpAny_pure (wpAny_pure (h _))
            | true =>
              refine wp_if_neg (by decide) ?_
              exact wpAny_pure ⟨rfl, rfl, ks2, h2, by omega⟩
termination_by k => sizeOf k
end
theorem nested_setKey : SetKey (nestedKind P w) where
  st := nestedKind_stays
  cls := fun {A E s k a Q} hk h => cls_key k _ 8 A E s Q hk.1 hk.2 h
  hbv := fun {A E s k a Q} hk h => hbv_key k _ 8 A E s Q hk.1 h
end

/-! ### trees as keys -/
mutual
def D.nk : D → NestedKey
  | .int i => .num i
  | .str x => .text x
  | .tup ds => .tup (D.nks ds)
  | _ => .none
def D.nks : List D → List NestedKey
  | [] => []
  | d :: ds => D.nk d :: D.nks ds
end
mutual
/-- of texts, whole numbers and None alone -/
def D.keyed : D → Bool
  | .non => true | .int _ => true | .str _ => true | .tup ds => D.keyeds ds | _ => false
def D.keyeds : List D → Bool
  | [] => true
  | d :: ds => D.keyed d && D.keyeds ds
end
mutual
theorem D.nk_inj : ∀ (d e : D), d.keyed = true → e.keyed = true → d.nk = e.nk → d = e
  | .non, e, _, h, q => by cases e <;> simp_all [D.nk, D.keyed]
  | .bl _, e, h, _, q => by simp [D.keyed] at h
  | .int _, e, _, h, q => by cases e <;> simp_all [D.nk, D.keyed]
  | .str _, e, _, h, q => by cases e <;> simp_all [D.nk, D.keyed]
  | .ref _, e, h, _, q => by simp [D.keyed] at h
  | .ty _, e, h, _, q => by simp [D.keyed] at h
  | .rol _, e, h, _, q => by simp [D.keyed] at h
  | .tup ds, e, h1, h2, q => by
    cases e with
    | tup es =>
      simp only [D.keyed] at h1 h2
      simp only [D.nk, NestedKey.tup.injEq] at q
      rw [D.nks_inj ds es h1 h2 q]
    | _ => simp_all [D.nk, D.keyed]
theorem D.nks_inj : ∀ (ds es : List D), D.keyeds ds = true → D.keyeds es = true → D.nks ds = D.nks es → ds = es
  | [], [], _, _, _ => rfl
  | [], _ :: _, _, _, q => by simp [D.nks] at q
  | _ :: _, [], _, _, q => by simp [D.nks] at q
  | d :: ds, e :: es, h1, h2, q => by
    simp only [D.keyeds, Bool.and_eq_true] at h1 h2
    simp only [D.nks, List.cons.injEq] at q
    rw [D.nk_inj d e h1.1 h2.1 q.1, D.nks_inj ds es h1.2 h2.2 q.2]
end
section
variable {X : Cx} {pins : List (Addr × Obj)} {σ : L2.St} {H : Hp} {s : Shared}
mutual
theorem nested_of (I : Inv X pins σ H s) : ∀ (d : D) (v : V) (u : Value), d.keyed = true → DV X.K H v d → RelV v u → NestedIs s.heap d.nk u ∧ Reads s.heap u d.py []
  | .non, _, _, _, dv, r => by cases dv; cases r; exact ⟨.none, .none⟩
  | .bl _, _, _, h, _, _ => by simp [D.keyed] at h
  | .int i, _, _, _, dv, r => by cases dv; obtain ⟨t, rfl⟩ := r; exact ⟨.int _ _, .int _ _⟩
  | .str x, _, _, _, dv, r => by cases dv; obtain ⟨t, rfl⟩ := r; exact ⟨.text _ _, .str _ _⟩
  | .ref _, _, _, h, _, _ => by simp [D.keyed] at h
  | .ty _, _, _, h, _, _ => by simp [D.keyed] at h
  | .rol _, _, _, h, _, _ => by simp [D.keyed] at h
  | .tup ds, _, _, h, dv, r => by
    simp only [D.keyed] at h
    cases dv with
    | tup h1 h2 =>
      cases r
      obtain ⟨its, rv, ⟨o, ho, hc, n, hd⟩, _⟩ := I.tuple h1
      obtain ⟨q1, q2⟩ := nesteds_of I ds _ its h h2 rv
      exact ⟨.tup ho hc hd (by simpa using q1), Reads.tuple ho hc hd (by simpa using q2)⟩
theorem nesteds_of (I : Inv X pins σ H s) : ∀ (ds : List D) (vs : List V) (us : List Value), D.keyeds ds = true → DVs X.K H vs ds → Vals vs us → NestedAll s.heap (D.nks ds) us ∧ ReadsAll s.heap us (D.pys ds) []
  | [], _, _, _, dv, r => by cases dv; cases r; exact ⟨.nil, .nil⟩
  | d :: ds, _, _, h, dv, r => by
    rw [D.keyeds, Bool.and_eq_true] at h
    cases dv with
    | cons d1 d2 =>
      cases r with
      | cons r1 r2 =>
        obtain ⟨q1, q2⟩ := nested_of I d _ _ h.1 d1 r1
        obtain ⟨q3, q4⟩ := nesteds_of I ds _ _ h.2 d2 r2
        exact ⟨.cons q1 q3, ReadsAll.cons (as := []) (bs := []) q2 q4⟩
end
/-- the addresses of tuple trees -/
theorem addrs_of : ∀ (ds : List D) (vs : List V) (us : List Value), (∀ d ∈ ds, ∃ es, d = .tup es) → DVs X.K H vs ds → Vals vs us →
    ∃ ps : List (Addr × D), us = ps.map (fun p => Value.ref p.1) ∧ ps.map (·.2) = ds ∧ ∀ p ∈ ps, DV X.K H (.ref p.1) p.2
  | [], _, _, _, dv, r => by cases dv; cases r; exact ⟨[], rfl, rfl, fun _ z => nomatch z⟩
  | d :: ds, _, _, h, dv, r => by
    cases dv with
    | cons d1 d2 =>
      cases r with
      | cons r1 r2 =>
        obtain ⟨ps, e1, e2, e3⟩ := addrs_of ds _ _ (fun d hd => h d (List.mem_cons_of_mem _ hd)) d2 r2
        obtain ⟨es, rfl⟩ := h d List.mem_cons_self
        cases d1 with
        | @tup a xs _ h1 h2 =>
          cases r1
          refine ⟨(a, .tup es) :: ps, by rw [e1]; rfl, by rw [List.map_cons, e2], fun p hp => ?_⟩
          rcases List.mem_cons.mp hp with z | z
          · subst z; exact .tup h1 h2
          · exact e3 p z
end
end AL

namespace AL
open PySem PySem.Spec PyProof.Rows L2

/-- out: what ds holds, each once, in order -/
structure SortSet (ds out : List D) : Prop where
  mem : ∀ d, d ∈ out ↔ d ∈ ds
  nd : out.Nodup
  ord : out.Pairwise fun x y => PySem.W.dataLe false D.py x y = true
/-- sorted(set(xs)), xs a list of tuples -/
def sortSetA (x : D) (S : Sto) (Q : DK) : Prop := match x with
  | .ref a => match S a with
    | some (.lst ds) => (∀ d ∈ ds, ∃ es, d = .tup es) ∧ D.keyeds ds = true ∧ (∀ d ∈ ds, d.nk.depth ≤ 8 ∧ d.py.depth ≤ 180) ∧ ds.length < 64 ∧ PySem.W.AllAlike (ds.map D.py) ∧ PySem.W.Sortable (ds.map D.py) ∧
        ∀ out r, SortSet ds out → S r = none → Q (.ref r) (put S r (.lst out))
    | _ => False
  | _ => False
def aSortSet (te : TEa) : TEa := fun l S Q => te l S fun x S1 => sortSetA x S1 Q
theorem keyeds_all : ∀ {ds : List D}, D.keyeds ds = true → ∀ d ∈ ds, d.keyed = true
  | d :: ds, h, e, he => by
    rw [D.keyeds, Bool.and_eq_true] at h
    rcases List.mem_cons.mp he with z | z
    · rw [z]; exact h.1
    · exact keyeds_all h.2 e z
theorem nodup_map_of {α β : Type} {f : α → β} : ∀ {l : List α}, (∀ x ∈ l, ∀ y ∈ l, f x = f y → x = y) → l.Nodup → (l.map f).Nodup
  | [], _, _ => List.nodup_nil
  | x :: l, h, d => by
    obtain ⟨d1, d2⟩ := List.nodup_cons.mp d
    rw [List.map_cons]
    refine List.nodup_cons.mpr ⟨fun hm => ?_, nodup_map_of (fun a ha b hb => h a (List.mem_cons_of_mem _ ha) b (List.mem_cons_of_mem _ hb)) d2⟩
    obtain ⟨y, hy, e⟩ := List.mem_map.mp hm
    have := h y (List.mem_cons_of_mem _ hy) x List.mem_cons_self e
    subst this
    exact d1 hy
section
variable {X : Cx} {pins : List (Addr × Obj)} {σ : L2.St} {H : Hp} {s : Shared}
/-- the members of a set, by their trees -/
theorem pick_refs {P : Program} {w : World} {ps : List (Addr × D)} {L : List (Addr × NestedKey)} (sub : ∀ r ∈ L, r ∈ ps.map fun p => (p.1, p.2.nk)) : ∀ vs : List Value, (∀ v ∈ vs, ∃ r ∈ L, v = Value.ref r.1) →
    ∃ qs : List (Addr × D), vs = qs.map (fun q => Value.ref q.1) ∧ ∀ q ∈ qs, q ∈ ps ∧ (q.1, q.2.nk) ∈ L
  | [], _ => ⟨[], rfl, fun _ z => nomatch z⟩
  | v :: vs, h => by
    obtain ⟨r, hr, rfl⟩ := h v List.mem_cons_self
    obtain ⟨qs, e, g⟩ := pick_refs (P := P) (w := w) sub vs fun u hu => h u (List.mem_cons_of_mem _ hu)
    obtain ⟨p, hp, e2⟩ := List.mem_map.mp (sub r hr)
    refine ⟨p :: qs, by rw [e, ← e2]; rfl, fun q hq => ?_⟩
    rcases List.mem_cons.mp hq with z | z
    · subst z; exact ⟨hp, by rw [e2]; exact hr⟩
    · exact g q z
set_option maxHeartbeats 1000000 in
theorem sorted_keys {k : Nat} (hr : RoomG k X.A) {S : Sto} {ds : List D} {ps : List (Addr × D)} {a : Addr} {L : List (Addr × NestedKey)} {es : Array (Int × Value)} {ep : Nat} {t : SetTable} {Qc : VK} (I0 : Inv X pins σ H s) (sr : SR X.K S H) (hc : X.calm = true)
    (hps : ps.map (·.2) = ds) (hdv : ∀ p ∈ ps, DV X.K H (.ref p.1) p.2) (hkd : D.keyeds ds = true) (hdp : ∀ d ∈ ds, d.py.depth ≤ 180) (hal : PySem.W.AllAlike (ds.map D.py)) (hso : PySem.W.Sortable (ds.map D.py))
    (R : SetOn (nestedKind X.prog X.w) s.heap a L es ep t) (g : From (ps.map fun p => (p.1, p.2.nk)) (ps.map fun p => (p.1, p.2.nk)).length L)
    (q : ∀ out r v H', SortSet ds out → H r = none → SR X.K (put S r (.lst out)) H' → FW S H (put S r (.lst out)) H' → DV X.K H' v (.ref r) → Qc v H') :
    wpAny (model X.prog X.w) X.A (call (.builtin "sorted") [.ref a]) (EP X pins σ Qc) X.xe s := by
  have hh := I0.ok.hd hc
  obtain ⟨o, ho, hex, hd⟩ := R.obj
  have zl := Rw.size R.row
  have lim := R.lim
  have sub : ∀ r ∈ L, r ∈ ps.map fun p => (p.1, p.2.nk) := fun r hr => List.mem_of_mem_take (g.sub r hr)
  have all : ∀ p ∈ ps, p.2.nk ∈ L.map (·.2) := fun p hp => g.all (p.1, p.2.nk) (by rw [List.take_length]; exact List.mem_map.mpr ⟨p, hp, rfl⟩)
  refine Calls.call_function_entry kind_sorted plain_sorted entry_sorted (args_sorted1 _) ?_
  unfold Builtin.«sorted»
  refine wpAny_bind (m := checkCount "sorted" 1 1 _) (wpAny_pure ?_)
  refine wpAny_bind (collect_set (A := X.A.in1) hh ⟨o, ho, hex.1, hd⟩ R.fit (by unfold scanBound; omega) R.ok.ris R.ld fun s1 vs k1 hz g1 o1 pm => ?_)
  have hes : es.toList.map (·.2) = L.map fun r => Value.ref r.1 := by rw [R.row, Rw, List.map_map]; rfl
  rw [hes] at pm
  obtain ⟨qs, rfl, hqs⟩ := pick_refs (P := X.prog) (w := X.w) sub vs fun v hv => by
    obtain ⟨r, hr, e⟩ := List.mem_map.mp (pm.mem_iff.mp hv)
    exact ⟨r, hr, e.symm⟩
  -- keys and addresses go together
  have byA : ∀ r ∈ L, ∀ r' ∈ L, r.1 = r'.1 → r = r' := fun r hr r' hr' e => by
    have a1 := R.key r hr
    rw [e] at a1
    exact Prod.ext e ((nestedKind X.prog X.w).inj a1 (R.key r' hr'))
  have byK : ∀ r ∈ L, ∀ r' ∈ L, r.2 = r'.2 → r = r' := fun r hr r' hr' e => by
    obtain ⟨i, hi⟩ := List.getElem?_of_mem hr
    obtain ⟨j, hj⟩ := List.getElem?_of_mem hr'
    have e1 : (L.map (·.2))[i]? = some r.2 := by rw [List.getElem?_map, hi]; rfl
    have e2 : (L.map (·.2))[j]? = some r.2 := by rw [List.getElem?_map, hj, e]; rfl
    have ij := (List.getElem?_inj (List.getElem?_eq_some_iff.mp e1).1 R.uni).mp (e1.trans e2.symm)
    subst ij
    rw [hi] at hj
    exact Option.some.inj hj
  have nL : L.Nodup := L2.nodup_of_map R.uni
  have nref : (L.map fun r => Value.ref r.1).Nodup := nodup_map_of (fun r hr r' hr' e => byA r hr r' hr' (by injection e)) nL
  have nqr : (qs.map fun q => Value.ref q.1).Nodup := pm.nodup_iff.mpr nref
  have nq : qs.Nodup := L2.nodup_of_map nqr
  have kq : ∀ x ∈ qs, x.2.keyed = true := fun x hx => keyeds_all hkd x.2 (by rw [← hps]; exact List.mem_map.mpr ⟨x, (hqs x hx).1, rfl⟩)
  have nd : (qs.map (·.2)).Nodup := nodup_map_of (fun x hx y hy e => by
    have z := byK _ (hqs x hx).2 _ (hqs y hy).2 (congrArg D.nk e)
    exact Prod.ext (show x.1 = y.1 from (Prod.mk.inj z).1) e) nq
  have mem : ∀ d, d ∈ qs.map (·.2) ↔ d ∈ ds := fun d => by
    constructor
    · intro hm
      obtain ⟨x, hx, rfl⟩ := List.mem_map.mp hm
      rw [← hps]
      exact List.mem_map.mpr ⟨x, (hqs x hx).1, rfl⟩
    · intro hm
      have hm' := hm
      rw [← hps] at hm'
      obtain ⟨p, hp, rfl⟩ := List.mem_map.mp hm'
      obtain ⟨r, hr, e⟩ := List.mem_map.mp (all p hp)
      obtain ⟨x, hx, e2⟩ := List.mem_map.mp (pm.mem_iff.mpr (List.mem_map.mpr ⟨r, hr, rfl⟩))
      have e3 : (x.1, x.2.nk) = r := byA _ (hqs x hx).2 r hr (by injection e2)
      have e4 : x.2.nk = p.2.nk := by rw [← e, ← e3]
      exact List.mem_map.mpr ⟨x, hx, D.nk_inj _ _ (kq x hx) (keyeds_all hkd _ hm) e4⟩
  have hql : qs.length < 64 := by
    have := pm.length_eq
    rw [List.length_map, List.length_map] at this
    omega
  refine wpAny_bind (wpAny_newList ?_ (by rw [List.length_map, sizeLine_eq]; omega))
  have hoL : (s1.heap.push (seqObj "list" (qs.map fun q => Value.ref q.1).toArray 0)).get? s1.heap.objs.size = some (seqObj "list" (qs.map fun q => Value.ref q.1).toArray 0) := Heap.get?_push_size _ rfl
  have keep : ∀ b u, s.heap.get? b = some u → (s1.heap.push (seqObj "list" (qs.map fun q => Value.ref q.1).toArray 0)).get? b = some u := fun b u e => Heap.get?_push_of_some _ (k1 b u e)
  have rds : ∀ x ∈ qs, Reads (s1.heap.push (seqObj "list" (qs.map fun q => Value.ref q.1).toArray 0)) (.ref x.1) x.2.py [] := fun x hx =>
    PyProof.Rows.Reads.keeps (fun b u e => keep b u e) (nested_of I0 x.2 _ (.ref x.1) (kq x hx) (hdv x (hqs x hx).1) rfl).2
  have each : ∀ l : List (Addr × D), (∀ x ∈ l, x ∈ qs) → PySem.W.EachIs (fun (v : Value) (b : Addr × D) => v = .ref b.1 ∧ b ∈ qs) (l.map fun q => Value.ref q.1) l := by
    intro l
    induction l with
    | nil => exact fun _ => .nil
    | cons x l ih => exact fun h => .cons ⟨rfl, h x List.mem_cons_self⟩ (ih fun y hy => h y (List.mem_cons_of_mem _ hy))
  have e1 := each qs fun _ h => h
  have sel : ∀ x ∈ qs, x.2 ∈ ds := fun x hx => (mem _).mp (List.mem_map.mpr ⟨x, hx, rfl⟩)
  have alq : PySem.W.AllAlike (qs.map fun q => q.2.py) := fun d hd d' hd' => by
    obtain ⟨x, hx, rfl⟩ := List.mem_map.mp hd
    obtain ⟨y, hy, rfl⟩ := List.mem_map.mp hd'
    exact hal _ (List.mem_map.mpr ⟨_, sel x hx, rfl⟩) _ (List.mem_map.mpr ⟨_, sel y hy, rfl⟩)
  have soq : PySem.W.Sortable (qs.map fun q => q.2.py) := by
    rcases hso with z | z
    · refine .inl fun d hd => ?_
      obtain ⟨x, hx, rfl⟩ := List.mem_map.mp hd
      exact z _ (List.mem_map.mpr ⟨_, sel x hx, rfl⟩)
    · refine .inr fun d hd => ?_
      obtain ⟨x, hx, rfl⟩ := List.mem_map.mp hd
      exact z _ (List.mem_map.mpr ⟨_, sel x hx, rfl⟩)
  refine wpAny_bind (wpAny_holding (PySem.W.list_sort_data (s := { s1 with heap := s1.heap.push (seqObj "list" (qs.map fun q => Value.ref q.1).toArray 0) }) (enc := fun q : Addr × D => q.2.py) (bs := qs) hoL e1
    (e1.mono fun v b hb => ⟨[], by rw [hb.1]; exact rds b hb.2, by simp⟩) alq soq (by rw [sizeLine_eq]; omega) (fun b hb => by have := hdp _ (sel b hb); have := hr.r.un; show X.A.units + 1 + 1 + b.2.py.depth < cLine; omega) fun out ho eo => ?_))
  obtain ⟨c, hc2⟩ := sortedHeap_at (vs := qs.map fun q => Value.ref q.1) (out := List.toArray out) hoL
  have pmS := List.mergeSort_perm qs (PySem.W.dataLe false fun q : Addr × D => q.2.py)
  have outE : ∀ (l : List (Addr × D)) (o : List Value), PySem.W.EachIs (fun (v : Value) (b : Addr × D) => v = .ref b.1 ∧ b ∈ qs) o l → o = l.map (fun q => Value.ref q.1) ∧ ∀ x ∈ l, x ∈ qs := by
    intro l o h
    induction h with
    | nil => exact ⟨rfl, fun _ z => nomatch z⟩
    | cons h _ ih => exact ⟨by rw [List.map_cons, h.1, ih.1], fun x hx => (List.mem_cons.mp hx).elim (fun z => z ▸ h.2) (ih.2 x)⟩
  obtain ⟨oe, oin⟩ := outE _ _ eo
  generalize hl2 : qs.mergeSort (PySem.W.dataLe false fun q : Addr × D => q.2.py) = l2 at pmS oe oin eo
  have ord : l2.Pairwise fun x y => PySem.W.dataLe false (fun q : Addr × D => q.2.py) x y = true := by
    rw [← hl2]
    exact PySem.W.sort_pairwise (PySem.W.sortLe_total _ _ _) qs
  have keep2 : ∀ b u, s.heap.get? b = some u → (sortedHeap (s1.heap.push (seqObj "list" (qs.map fun q => Value.ref q.1).toArray 0)) s1.heap.objs.size (qs.map fun q => Value.ref q.1) out.toArray).get? b = some u := fun b u e => by
    have hlt := Heap.lt_size (k1 b u e)
    rw [sortedHeap_old (Nat.ne_of_lt hlt) (by rw [size_push']; exact Nat.lt_succ_of_lt hlt)]
    exact keep b u e
  have hp : H s1.heap.objs.size = none := I0.hok.fresh hz
  have dvs : DVs X.K H (l2.map fun q => V.ref q.1) (l2.map (·.2)) := by
    have : ∀ l : List (Addr × D), (∀ x ∈ l, x ∈ qs) → DVs X.K H (l.map fun q => V.ref q.1) (l.map (·.2)) := by
      intro l
      induction l with
      | nil => exact fun _ => .nil
      | cons x l ih => exact fun h => .cons (hdv x (hqs x (h x List.mem_cons_self)).1) (ih fun y hy => h y (List.mem_cons_of_mem _ hy))
    exact this l2 oin
  have hv : Vals (l2.map fun q => V.ref q.1) out := by
    rw [oe]
    have : ∀ l : List (Addr × D), Vals (l.map fun q => V.ref q.1) (l.map fun q => Value.ref q.1) := by
      intro l
      induction l with
      | nil => exact .nil
      | cons x l ih => exact .cons rfl ih
    exact this l2
  obtain ⟨b1, b2, b3⟩ := newLst sr hp dvs
  refine wpAny_pure ⟨_, rfl, ?_⟩
  have J : Inv X pins σ (upd H s1.heap.objs.size (.lst (l2.map fun q => V.ref q.1))) { s with heap := sortedHeap (s1.heap.push (seqObj "list" (qs.map fun q => Value.ref q.1).toArray 0)) s1.heap.objs.size (qs.map fun q => Value.ref q.1) out.toArray, gens := s1.gens, drawn := s1.drawn, toks := s1.toks } :=
    I0.call (ch := []) (Un.laid keep2 hz hp) (I0.hok.laid keep2 hz ⟨by rw [List.length_map, pmS.length_eq, sizeLine_eq]; omega, out, c, hv, hc2⟩) (by rw [g1]; exact I0.bare) (fun _ z => nomatch z)
  have es1 : { s1 with heap := sortedHeap (s1.heap.push (seqObj "list" (qs.map fun y : Addr × D => Value.ref y.1).toArray 0)) s1.heap.objs.size (qs.map fun y : Addr × D => Value.ref y.1) out.toArray } = { s with heap := sortedHeap (s1.heap.push (seqObj "list" (qs.map fun y : Addr × D => Value.ref y.1).toArray 0)) s1.heap.objs.size (qs.map fun y : Addr × D => Value.ref y.1) out.toArray, gens := s1.gens, drawn := s1.drawn, toks := s1.toks } := by
    cases s1
    cases s
    cases o1
    rfl
  rw [es1]
  exact ⟨.ref s1.heap.objs.size, _, J, rfl, q (l2.map (·.2)) _ _ _ ⟨fun d => by rw [(pmS.map (·.2)).mem_iff]; exact mem d, (pmS.map (·.2)).nodup_iff.mpr nd, List.pairwise_map.mpr (List.Pairwise.imp (S := fun x y : Addr × D => PySem.W.dataLe false D.py x.2 y.2 = true) (fun z => z) ord)⟩ hp b1 b2 b3⟩
theorem ae_sortSet {k : Nat} {e : Expr} {te : TEa} {p p2 q pos : Pos} (hr : RoomG k X.A) (hc : X.calm = true) (hg : Gl X "sorted") (hm : X.mg "sorted" = none) (hg2 : Gl X "set") (hm2 : X.mg "set" = none) (he : AE X e te)
    (na : starEach [e] X.env = (false, eval e X.env) :: starEach [] X.env := by rfl) : AE X (.Call (.Name "sorted" p) [.Call (.Name "set" p2) [e] [] q] [] pos) (aSortSet te) := by
  have base : PE X (.Call (.Name "sorted" p) [.Call (.Name "set" p2) [e] [] q] [] pos) (fun σ H Qc => LE X.K te σ H fun v H1 => ∃ d S Q, DV X.K H1 v d ∧ SR X.K S H1 ∧ sortSetA d S Q ∧ ∀ d' S' v' H', Q d' S' → SR X.K S' H' → FW S H1 S' H' → DV X.K H' v' d' → Qc v' H') := by
    refine ⟨fun pins s σ H Q I h => ?_⟩
    refine Call_ (ld_blt I hg hm PyProof.Rows.boot_sorted ?_)
    refine PyProof.Rows.callWith_builtin1 (PyProof.Rows.args_cons ?_ rfl) rfl rfl
    refine Call_ (ld_blt I hg2 hm2 PyProof.Rows.boot_set ?_)
    refine PyProof.Rows.callWith_type1 (PyProof.Rows.args_cons (thn (he.run pins s σ H _ I h) fun v s1 ⟨x, H1, I1, r1, d, S, Qa, dv, sr, qa, k1⟩ => PyProof.Rows.args_nil ?_) na) na rfl
    unfold sortSetA at qa
    split at qa
    · rename_i a
      split at qa
      · rename_i ds ea
        obtain ⟨h1, h2, h3, h4, h5, h6, qa⟩ := qa
        cases dv
        cases r1
        obtain ⟨vs, hv, dvs⟩ := sr _ _ ea
        obtain ⟨its, rv, pl, hz⟩ := I1.list (SqL.of hv)
        obtain ⟨ps, e1, e2, e3⟩ := addrs_of ds vs its h1 dvs rv
        have hkd : ∀ x ∈ ps, x.2 ∈ ds := fun x hx => by rw [← e2]; exact List.mem_map.mpr ⟨x, hx, rfl⟩
        have hl : ps.length = ds.length := by rw [← e2, List.length_map]
        refine make_set nested_setKey (ps.map fun p => (p.1, p.2.nk)) (I1.ok.hd hc) pl.isList (by rw [List.map_map]; exact e1) (fun r hr => ?_) (by rw [List.length_map, hl]; exact h4) (by have := hr.r.un; show X.A.units + 1 + 1 + 1 + 8 < cLine; omega) fun h' tk L es ep t R g kp => ?_
        · obtain ⟨x, hx, rfl⟩ := List.mem_map.mp hr
          exact ⟨(nested_of I1 x.2 _ _ (keyeds_all h2 _ (hkd x hx)) (e3 x hx) rfl).1, (h3 _ (hkd x hx)).1⟩
        · refine PyProof.Rows.args_nil ?_
          exact sorted_keys hr (I1.kept (t' := tk) kp) sr hc e2 e3 h2 (fun d hd => (h3 d hd).2) h5 h6 R g fun out r v H' so hr0 s' f' dv' => k1 _ _ _ _ (qa out r so (sr.fresh hr0)) s' f' dv'
      · exact qa.elim
    · exact qa.elim
  refine PE.imp base fun σ H Qc ⟨l, S, Q, r, s, h, k⟩ => ?_
  refine LE.go r s h fun d S1 v H1 q1 r1 s1 f1 dv => ?_
  exact ⟨d, S1, Q, dv, s1, q1, fun d' S' v' H' q s' f' dv' => k d' S' v' H' q s' (f1.trans f') dv'⟩
end
end AL

namespace AL
open PySem PySem.Spec PyProof.Rows L2
section
variable {P : Program} {w : World} {A : Around} {E : Value → Shared → Prop} {s : Shared}
set_option maxHeartbeats 3200000 in
/-- set(xs) of a list of ints -/
theorem make_setI {l : Addr} {items : Array Value} (ns : List Int) {Q : Value → Shared → Prop} (hh : A.handled = none) (hl : s.heap.IsList l items) (hit : IntsAre items.toList ns) (lim : ns.length + 1 < scanBound)
    (q : ∀ (h' : Heap) (tk c : Nat), SetR w h' s.heap.objs.size (fun j => decide (j ∈ ns)) c → c ≤ ns.length → (∀ b o, s.heap.get? b = some o → h'.get? b = some o) → Q (.ref s.heap.objs.size) { s with heap := h', toks := tk }) :
    wpAny (model P w) A (call (.type "set") [.ref l]) Q E s := by
  have zi : items.size = ns.length := by rw [← Array.length_toList]; exact hit.length
  obtain ⟨c, tl, hmro⟩ := F.called_set.mro
  have hmade := F.called_set.made
  have hsub := F.called_set.sub
  refine wpAny_call (codeAny_of_tree ?_)
  show wpAny _ _ (callAny (.type "set") _) _ _ _
  refine wpAny_pure ⟨Code.quiet_builtin _ (by decide +kernel), codeAny_builtin F.entry_type_call ?_⟩
  rw [Around.under_plain (weight_type_call_type "set" [.ref l] []) rfl]
  have h1 := F.called_set.notType
  have h2 := F.called_set.canCreate
  have hct := F.typeCall_set_1 (.ref l)
  repeat (any_goals (first | assumption | wp_step))
  refine codeAny_mono (code_set_led1 (.ref l) (E := E) (Q₁ := fun obj s₁ => obj = .ref s.heap.objs.size ∧ s₁ = { s with heap := s.heap.push (newSet w) }) ⟨rfl, rfl⟩) fun r s₁ hr => ?_
  cases r with
  | error e => exact hr
  | ok fl =>
    cases fl with
    | next => exact hr.elim
    | brk => exact hr.elim
    | cont => exact hr.elim
    | ret obj =>
      obtain ⟨rfl, rfl⟩ := hr
      have hS : (s.heap.push (newSet w)).get? s.heap.objs.size = some (newSet w) := Heap.get?_push_size _ rfl
      have hT : Shared.TypeIs { s with heap := s.heap.push (newSet w) } (.ref s.heap.objs.size) "set" := ⟨_, hS, rfl⟩
      have hli := F.called_set.init.lookup
      have hbi := F.called_set.init.bind (.ref s.heap.objs.size)
      repeat (any_goals (first | assumption | wp_step))
      refine codeAny_mono (codeAny_call_builtin (R := wants (fun r s₂ => r = .none ∧ ∃ h' tk c, s₂ = { s with heap := h', toks := tk } ∧ SetR w h' s.heap.objs.size (fun j => decide (j ∈ ns)) c ∧ c ≤ ns.length ∧
          (∀ b o, s.heap.get? b = some o → h'.get? b = some o)) E) F.called_set.init.plain F.entry_set_init (check_set_init_1 hT ?_)) fun r₂ s₂ hr₂ => ?_
      · obtain ⟨⟨ocls, odict, odata, oslots⟩, hol, hcl, nl, hdl⟩ := hl
        simp only at hcl hdl
        subst hcl; subst hdl
        have hol' : (s.heap.push (newSet w)).get? l = some { cls := .type "list", dict := odict, data := .seq items nl, slots := oslots } := Heap.get?_push_of_some _ hol
        have hsls := F.sub_list_set
        have hslf := F.sub_list_frozenset
        have hne : (Value.type "list" == Value.type "dict") = false := by decide
        have hl1 : (s.heap.push (newSet w)).IsList l items := ⟨_, hol', rfl, nl, rfl⟩
        unfold Builtin.«set.__init__» noKeywords Builtin.Frozenset.updateFrom
        generalize hPI : pyIter = PI
        wp_walk
        subst hPI
        refine wpAny_pyIter_list hl1 ?_
        refine wpAny_bind (wpAny_runValue ?_)
        have hlS : l < s.heap.objs.size := Heap.lt_size hol
        have hh3 : A.in1.in1.in1.handled = none := by simp [hh]
        have hz1 : (s.heap.push (newSet w)).objs.size = s.heap.objs.size + 1 := Heap.size_push ..
        have hneI : l ≠ (s.heap.push (newSet w)).objs.size := by rw [hz1]; exact Nat.ne_of_lt (Nat.lt_succ_of_lt hlS)
        have hSf : s.heap.objs.size ∉ [(s.heap.push (newSet w)).objs.size, l] := by
          rw [hz1]
          simp only [List.mem_cons, List.not_mem_nil, or_false, not_or]
          exact ⟨Nat.ne_of_lt (Nat.lt_succ_self _), Nat.ne_of_gt hlS⟩
        have val : ∀ (i : Nat) (v : Value), items[i]? = some v → ∃ k t, ns[i]? = some k ∧ v = .int k t := fun i v hv => by
          have hi : i < ns.length := by rw [← zi]; exact (Array.getElem?_eq_some_iff.mp hv).1
          obtain ⟨t, ht⟩ := hit.get i _ (List.getElem?_eq_getElem hi)
          rw [Array.getElem?_toList, hv] at ht
          exact ⟨_, t, List.getElem?_eq_getElem hi, Option.some.inj ht⟩
        have hget : ((s.heap.push (newSet w)).push { cls := .type "list_iterator", data := .fields #[.ref l, .int 0 0] }).get? s.heap.objs.size = some (newSet w) := Heap.get?_push_of_some _ hS
        refine set_update_ints ((Walks.list hh3 _ l hneI items).toS) s.heap.objs.size hSf ns zi lim val (items.size - 0) 0 _ (by omega) (Nat.zero_le _)
          ⟨⟨_, Heap.get?_push_size _ rfl, rfl, rfl⟩, hl1.push _⟩ ⟨0, Nat.le_refl 0, setR_new_at hget⟩ ?fin
        case fin =>
          intro s' c' mv hc' hS'
          obtain ⟨h', g2, d', tk', os'⟩ := s'
          cases (show g2 = s.gens from mv.gens)
          cases (show d' = s.drawn from mv.drawn)
          cases (show os' = s.os from mv.os)
          rw [zi] at hc'
          show wpAny _ _ _ _ _ _
          refine wpAny_pure ?_
          show wpAny _ _ (ret Value.none) _ _ _
          refine wpAny_pure ⟨rfl, h', tk', c', rfl, hS', hc', fun b o e => ?_⟩
          have hb := Heap.lt_size e
          exact mv.heap b o (by rw [hz1]; simp only [List.mem_cons, List.not_mem_nil, or_false, not_or]; exact ⟨Nat.ne_of_lt hb, Nat.ne_of_lt (Nat.lt_succ_of_lt hb)⟩) (Heap.get?_push_of_some _ (Heap.get?_push_of_some _ e))
      · cases r₂ with
        | error e => exact hr₂
        | ok fl₂ =>
          cases fl₂ with
          | next => exact hr₂.elim
          | brk => exact hr₂.elim
          | cont => exact hr₂.elim
          | ret r =>
            obtain ⟨rfl, h', tk, c', rfl, hS', hc', hk'⟩ := hr₂
            repeat (any_goals (first | assumption | wp_step))
            exact q _ _ _ hS' hc' hk'
end
/-- sorted(set(xs)), xs a list of ints -/
def sortSetI (x : D) (S : Sto) (Q : DK) : Prop := match x with
  | .ref a => match S a with
    | some (.lst ds) => ∃ ns : List Int, ds = ns.map D.int ∧ ns.length < 60 ∧ ∀ (out : List Int) r, (∀ k, k ∈ out ↔ k ∈ ns) → out.Pairwise (· < ·) → out.length ≤ ns.length → S r = none → Q (.ref r) (put S r (.lst (out.map D.int)))
    | _ => False
  | _ => False
def aSortSetB (te : TEa) : TEa := fun l S Q => te l S fun x S1 => sortSetA x S1 Q ∨ sortSetI x S1 Q
section
variable {X : Cx} {pins : List (Addr × Obj)} {σ : L2.St} {H : Hp} {s : Shared}
theorem ints_vals {K : PySem.W.Frag} {H : Hp} : ∀ {ns : List Int} {vs : List V} {us : List Value}, DVs K H vs (ns.map D.int) → Vals vs us → IntsAre us ns ∧ vs = ns.map V.int
  | [], _, _, dv, r => by cases dv; cases r; exact ⟨.nil, rfl⟩
  | n :: ns, _, _, dv, r => by
    cases dv with
    | cons d1 d2 =>
      cases r with
      | cons r1 r2 =>
        cases d1
        obtain ⟨t, rfl⟩ := r1
        obtain ⟨h1, h2⟩ := ints_vals d2 r2
        exact ⟨.cons n t h1, by rw [h2]; rfl⟩
end
section
variable {X : Cx} {pins : List (Addr × Obj)} {σ : L2.St} {H : Hp} {s : Shared}
theorem sort_setI {S : Sto} {a : Addr} {ns : List Int} {n : Nat} {Qc : VK} (I0 : Inv X pins σ H s) (sr : SR X.K S H) (hc : X.calm = true) (hn : n < 64) (R : SetR X.w s.heap a (fun j => decide (j ∈ ns)) n)
    (q : ∀ (out : List Int) r v H', (∀ k, k ∈ out ↔ k ∈ ns) → out.Pairwise (· < ·) → out.length = n → H r = none → SR X.K (put S r (.lst (out.map D.int))) H' → FW S H (put S r (.lst (out.map D.int))) H' → DV X.K H' v (.ref r) → Qc v H') :
    wpAny (model X.prog X.w) X.A (call (.builtin "sorted") [.ref a]) (EP X pins σ Qc) X.xe s := by
  refine sorted_set R (I0.ok.hd hc) hn fun s' p out c ns' k1 g1 o1 hz hp hi hord hmem hlen => ?_
  have hp0 : H p = none := I0.hok.fresh hz
  have dvs : DVs X.K H (ns'.map V.int) (ns'.map D.int) := DVs.ints ns'
  obtain ⟨b1, b2, b3⟩ := newLst sr hp0 dvs
  have J : Inv X pins σ (upd H p (.lst (ns'.map V.int))) { s with heap := s'.heap, gens := s'.gens, drawn := s'.drawn, toks := s'.toks } :=
    I0.call (ch := []) (Un.laid k1 hz hp0) (I0.hok.laid k1 hz ⟨by rw [List.length_map, hlen, sizeLine_eq]; omega, out.toList, c, vals_ints hi, by simpa using hp⟩) (by rw [g1]; exact I0.bare) (fun _ z => nomatch z)
  have es : s' = { s with heap := s'.heap, gens := s'.gens, drawn := s'.drawn, toks := s'.toks } := by
    cases s'
    cases s
    cases o1
    rfl
  rw [es]
  exact ⟨.ref p, _, J, rfl, q ns' _ _ _ (fun k => by rw [hmem]; simp) hord hlen hp0 b1 b2 b3⟩
theorem ae_sortSetB {k : Nat} {e : Expr} {te : TEa} {p p2 q pos : Pos} (hr : RoomG k X.A) (hc : X.calm = true) (hg : Gl X "sorted") (hm : X.mg "sorted" = none) (hg2 : Gl X "set") (hm2 : X.mg "set" = none) (he : AE X e te)
    (na : starEach [e] X.env = (false, eval e X.env) :: starEach [] X.env := by rfl) : AE X (.Call (.Name "sorted" p) [.Call (.Name "set" p2) [e] [] q] [] pos) (aSortSetB te) := by
  have base : PE X (.Call (.Name "sorted" p) [.Call (.Name "set" p2) [e] [] q] [] pos) (fun σ H Qc => LE X.K te σ H fun v H1 => ∃ d S Q, DV X.K H1 v d ∧ SR X.K S H1 ∧ (sortSetA d S Q ∨ sortSetI d S Q) ∧ ∀ d' S' v' H', Q d' S' → SR X.K S' H' → FW S H1 S' H' → DV X.K H' v' d' → Qc v' H') := by
    refine ⟨fun pins s σ H Q I h => ?_⟩
    refine Call_ (ld_blt I hg hm PyProof.Rows.boot_sorted ?_)
    refine PyProof.Rows.callWith_builtin1 (PyProof.Rows.args_cons ?_ rfl) rfl rfl
    refine Call_ (ld_blt I hg2 hm2 PyProof.Rows.boot_set ?_)
    refine PyProof.Rows.callWith_type1 (PyProof.Rows.args_cons (thn (he.run pins s σ H _ I h) fun v s1 ⟨x, H1, I1, r1, d, S, Qa, dv, sr, qa, k1⟩ => PyProof.Rows.args_nil ?_) na) na rfl
    rcases qa with qa | qa
    · unfold sortSetA at qa
      split at qa
      · rename_i a
        split at qa
        · rename_i ds ea
          obtain ⟨h1, h2, h3, h4, h5, h6, qa⟩ := qa
          cases dv
          cases r1
          obtain ⟨vs, hv, dvs⟩ := sr _ _ ea
          obtain ⟨its, rv, pl, hz⟩ := I1.list (SqL.of hv)
          obtain ⟨ps, e1, e2, e3⟩ := addrs_of ds vs its h1 dvs rv
          have hkd : ∀ x ∈ ps, x.2 ∈ ds := fun x hx => by rw [← e2]; exact List.mem_map.mpr ⟨x, hx, rfl⟩
          have hl : ps.length = ds.length := by rw [← e2, List.length_map]
          refine make_set nested_setKey (ps.map fun p => (p.1, p.2.nk)) (I1.ok.hd hc) pl.isList (by rw [List.map_map]; exact e1) (fun r hr => ?_) (by rw [List.length_map, hl]; exact h4) (by have := hr.r.un; show X.A.units + 1 + 1 + 1 + 8 < cLine; omega) fun h' tk L es ep t R g kp => ?_
          · obtain ⟨x, hx, rfl⟩ := List.mem_map.mp hr
            exact ⟨(nested_of I1 x.2 _ _ (keyeds_all h2 _ (hkd x hx)) (e3 x hx) rfl).1, (h3 _ (hkd x hx)).1⟩
          · refine PyProof.Rows.args_nil ?_
            exact sorted_keys hr (I1.kept (t' := tk) kp) sr hc e2 e3 h2 (fun d hd => (h3 d hd).2) h5 h6 R g fun out r v H' so hr0 s' f' dv' => k1 _ _ _ _ (qa out r so (sr.fresh hr0)) s' f' dv'
        · exact qa.elim
      · exact qa.elim
    · unfold sortSetI at qa
      split at qa
      · rename_i a
        split at qa
        · rename_i ds ea
          obtain ⟨ns, rfl, h4, qa⟩ := qa
          cases dv
          cases r1
          obtain ⟨vs, hv, dvs⟩ := sr _ _ ea
          obtain ⟨its, rv, pl, hz⟩ := I1.list (SqL.of hv)
          obtain ⟨hi, rfl⟩ := ints_vals dvs rv
          refine make_setI ns (I1.ok.hd hc) pl.isList (by simpa using hi) (by unfold scanBound; omega) fun h' tk c R hcl kp => ?_
          refine PyProof.Rows.args_nil ?_
          exact sort_setI (I1.kept (t' := tk) kp) sr hc (by omega) R fun out r v H' hm' ho hl hr0 s' f' dv' => k1 _ _ _ _ (qa out r hm' ho (by omega) (sr.fresh hr0)) s' f' dv'
        · exact qa.elim
      · exact qa.elim
  refine PE.imp base fun σ H Qc ⟨l, S, Q, r, s, h, k⟩ => ?_
  refine LE.go r s h fun d S1 v H1 q1 r1 s1 f1 dv => ?_
  exact ⟨d, S1, Q, dv, s1, q1, fun d' S' v' H' q s' f' dv' => k d' S' v' H' q s' (f1.trans f') dv'⟩
end
end AL

namespace AL
open PySem PySem.Spec PyProof.Rows L2

/-! ### what is walked: lists, tuples, texts -/
def chars (x : Str) : List D := x.cps.toList.map fun c => D.str ⟨#[c]⟩
def seqA (d : D) (S : Sto) (R : List D → (Sto → Prop) → Prop) : Prop := match d with
  | .ref a => match S a with
    | some (.lst ds) => R ds fun S' => S' a = some (.lst ds)
    | _ => False
  | .tup ds => R ds fun _ => True
  | .str x => R (chars x) fun _ => True
  | _ => False
def iSeq (te : TEa) : TIa := fun l S R => te l S fun d S1 => seqA d S1 fun ds st => R ds st S1
section
variable {X : Cx} {tg : Expr} {K : PySem.W.Frag} {S1 : Sto} {H1 : Hp}
theorem it_list {a : Addr} {ds : List D} : ItOk K S1 H1 ds (fun S' => S' a = some (.lst ds)) (Itl K a) := fun i S2 H2 s2 f2 st => by
  obtain ⟨vs2, hv2, dvs2⟩ := s2 a _ st
  refine ⟨fun d e => ?_, fun hi => ⟨vs2, SqL.of hv2, by rw [dvs2.length]; exact hi⟩⟩
  obtain ⟨x, ex, dx⟩ := dvs2.get e
  refine ⟨⟨vs2, x, SqL.of hv2, ex⟩, fun x' H3 ⟨e3, y⟩ => ?_⟩
  subst e3
  have e4 := y vs2 (SqL.of hv2)
  rw [ex] at e4
  cases e4
  exact ⟨dx, s2, .refl⟩
theorem it_tup {a : Addr} {vs : List V} {ds : List D} (s1 : SR K S1 H1) (h1 : SqT K H1 a vs) (h2 : DVs K H1 vs ds) : ItOk K S1 H1 ds (fun _ => True) (Itt K a) := fun i S2 H2 s2 f2 st => by
  have t := f2.tk s1
  have h1' := t.1 _ _ h1
  have h2' := DVs.mono t _ _ h2
  refine ⟨fun d e => ?_, fun hi => ⟨vs, h1', by rw [h2.length]; exact hi⟩⟩
  obtain ⟨x, ex, dx⟩ := h2'.get e
  refine ⟨⟨vs, x, h1', ex⟩, fun x' H3 ⟨e3, y⟩ => ?_⟩
  subst e3
  have e4 := y vs h1'
  rw [ex] at e4
  cases e4
  exact ⟨dx, s2, .refl⟩
theorem it_str {x : Str} : ItOk K S1 H1 (chars x) (fun _ => True) (Its x) := fun i S H s f _ => by
  refine ⟨fun d e => ?_, fun hi => show x.cps.size ≤ i by simpa [chars] using hi⟩
  unfold chars at e
  rw [List.getElem?_map, Array.getElem?_toList, Option.map_eq_some_iff] at e
  obtain ⟨c, hc, rfl⟩ := e
  refine ⟨(Array.getElem?_eq_some_iff.mp hc).1, fun v H' ⟨e1, c', hc', ev⟩ => ?_⟩
  subst e1 ev
  rw [hc] at hc'
  cases hc'
  exact ⟨.str _, s, .refl⟩
/-- a list, a tuple or a text -/
theorem ai_seq {e : Expr} {te : TEa} (he : AE X e te) : AI X tg e (iSeq te) := by
  refine ⟨fun pins s σ H R I ⟨l, S, Q, r, sr, h, k⟩ => ?_⟩
  refine thn (he.run pins s σ H (fun v H1 => ∃ d S1, seqA d S1 (fun ds st => Q ds st S1) ∧ SR X.K S1 H1 ∧ FW S H S1 H1 ∧ DV X.K H1 v d) I (LE.go r sr h fun d S1 v H1 q1 r1 s1 f1 dv => ⟨d, S1, q1, s1, f1, dv⟩)) fun u s1 ⟨v, H1, I1, r1, d, S1, q1, s1', f1, dv⟩ => ?_
  unfold seqA at q1
  split at q1
  · rename_i a
    split at q1
    · rename_i ds ea
      cases dv; cases r1
      obtain ⟨vs, hv, dvs⟩ := s1' a _ ea
      obtain ⟨its, rv, p, hz⟩ := I1.list (SqL.of hv)
      refine wpAny_pyIter_list p.isList ?_
      exact pi_one (tk := s1.toks) I1 _ (turn_list a _) ⟨_, Heap.get?_push_size _ rfl, rfl, rfl⟩ (k _ _ _ _ _ q1 s1' f1 it_list)
    · exact q1.elim
  · rename_i ds
    cases dv with
    | tup h1 h2 =>
      cases r1
      obtain ⟨its, rv, p, hz⟩ := I1.tuple h1
      refine wpAny_pyIter_tuple (show s1.heap.IsTuple _ its.toArray from p) ?_
      exact pi_one (tk := s1.toks) I1 _ (turn_tuple _ _) ⟨_, Heap.get?_push_size _ rfl, rfl, rfl⟩ (k _ _ _ _ _ q1 s1' f1 (it_tup s1' h1 h2))
  · rename_i x
    cases dv
    obtain ⟨t, rfl⟩ := r1
    have q := k _ _ _ _ _ q1 s1' f1 (it_str (x := x))
    cases ha : x.cps.all (· < 128)
    · exact wpAny_pyIter_wide ha (pi_one (tk := s1.toks) I1 _ (turn_str _ x t "str_iterator" (.inr rfl)) ⟨_, Heap.get?_push_size _ rfl, rfl, rfl⟩ q)
    · exact wpAny_pyIter_ascii ha (pi_one (tk := s1.toks) I1 _ (turn_str _ x t "str_ascii_iterator" (.inl rfl)) ⟨_, Heap.get?_push_size _ rfl, rfl, rfl⟩ q)
  · exact q1.elim
end

/-! ### reversed(range(..)) -/
def downD (n : Nat) : List D := (List.range n).map fun (i : Nat) => D.int ((n : Int) - 1 - i)
def iRevR1 (te : TEa) : TIa := fun l S R => te l S fun d S1 => match d with
  | .int j => (-(2 ^ 62) ≤ j ∧ j < 2 ^ 62) ∧ R (downD j.toNat) (fun _ => True) S1
  | _ => False
theorem ai_revR {X : Cx} {tg a : Expr} {te : TEa} {p p2 pos pos2 : Pos} (hg : Gl X "reversed") (hm : X.mg "reversed" = none) (hg2 : Gl X "range") (hm2 : X.mg "range" = none) (ha : AE X a te)
    (na : starEach [a] X.env = (false, eval a X.env) :: starEach [] X.env := by rfl)
    (hs : starEach [Expr.Call (.Name "range" p2) [a] [] pos2] X.env = (false, eval (.Call (.Name "range" p2) [a] [] pos2) X.env) :: starEach [] X.env := by rfl) :
    AI X tg (.Call (.Name "reversed" p) [.Call (.Name "range" p2) [a] [] pos2] [] pos) (iRevR1 te) := by
  refine PI.imp (pi_revR hg hm (prg_1 hg2 hm2 ha na) hs) fun σ H R ⟨l, S, Q, r, s, h, k⟩ => ?_
  refine LE.go r s h fun d S1 v H1 q1 r1 s1 f1 dv => ?_
  split at q1
  · rename_i j
    cases dv
    refine ⟨j, rfl, by omega, by omega, q1.1.1, q1.1.2, k _ _ S1 _ H1 q1.2 s1 f1 fun i S H s f _ => ?_⟩
    have e0 : (j - 0).toNat = j.toNat := by rw [Int.sub_zero]
    refine ⟨fun d e => ?_, fun hi => ?_⟩
    · unfold downD at e
      rw [List.getElem?_map] at e
      by_cases hi : i < j.toNat
      · rw [List.getElem?_range hi] at e
        cases e
        refine ⟨show i < (j - 0).toNat by rw [e0]; exact hi, fun x H' ⟨e1, e2⟩ => ?_⟩
        subst e1 e2
        have ee : (0 : Int) + (((j - 0).toNat : Nat) : Int) - 1 + ((i : Nat) : Int) * (-1) = ((j.toNat : Nat) : Int) - 1 - ((i : Nat) : Int) := by rw [e0]; omega
        rw [ee]
        exact ⟨.int _, s, .refl⟩
      · rw [List.getElem?_eq_none (by simpa using hi)] at e; cases e
    · show (j - 0).toNat ≤ i
      rw [e0]
      simpa [downD] using hi
  · exact q1.elim
end AL

namespace AL
open PySem PySem.Spec PyProof.Rows L2

/-! ### enumerate(tuple) -/
set_option maxHeartbeats 1000000 in
theorem meets_enumT (b : Addr) (items : Array Value) :
    Meets (Builtin.«enumerate.__new__» ⟨[.type "enumerate", .ref b], []⟩) (fun _ R s => s.heap.IsTuple b items ∧
      R (.ok (.ret (.ref (s.heap.push { cls := .type "tuple_iterator", data := .fields #[.ref b, .int 0 0] }).objs.size)))
        { s with heap := (s.heap.push { cls := .type "tuple_iterator", data := .fields #[.ref b, .int 0 0] }).push { cls := .type "enumerate", data := .fields #[.none, .bool false, .ref s.heap.objs.size, rawInt 0, .none, .none] } }) :=
  .of_wp fun prog w A R s h => by
    obtain ⟨hp, g, d, tk, os⟩ := s
    obtain ⟨hl, h⟩ := h
    have hsub := sub_enumerate
    have q1 : ∀ {A' : Around} {E : Value → Shared → Prop} {Q : Value → Shared → Prop}, Q (.ref hp.objs.size) ⟨hp.push { cls := .type "tuple_iterator", data := .fields #[.ref b, .int 0 0] }, g, d, tk, os⟩ → wpAny (model prog w) A' (pyIter (.ref b)) Q E ⟨hp, g, d, tk, os⟩ :=
      fun q => wpAny_pyIter_tuple (show Heap.IsTuple (Shared.heap ⟨hp, g, d, tk, os⟩) b items from hl) q
    wp_walk using q1
    refine wpAny_stack_any fun st => wpAny_pure ?_
    split
    · rename_i c _ _ _ _ _
      cases (c == Value.type "enumerate")
      · wp_walk using q1
        exact ⟨_, rfl, h⟩
      · wp_walk using q1
        exact ⟨_, rfl, h⟩
    · wp_walk using q1
      exact ⟨_, rfl, h⟩
theorem call_enumT {prog : Program} {w : World} {A : Around} {E : Value → Shared → Prop} {s : Shared} {b : Addr} {items : Array Value} {Q : Value → Shared → Prop} (hT : s.heap.IsTuple b items)
    (h : ∀ h', IsEnum h' (s.heap.objs.size + 1) s.heap.objs.size 0 .none → h'.IsTupleIter s.heap.objs.size b 0 →
      (∀ c o, s.heap.get? c = some o → h'.get? c = some o) → Q (.ref (s.heap.objs.size + 1)) { s with heap := h' }) :
    wpAny (model prog w) A (call (.type "enumerate") [.ref b]) Q E s := by
  refine callType_new F.called_enumerate (by decide) (F.typeCall_enumerate_1 _) (F.newCall_enumerate_1 _) (fun obj => F.args_object_init_2 obj _) F.entry_enumerate_new (meets_enumT b items) ⟨hT, ?_⟩
  have hz : (s.heap.push { cls := .type "tuple_iterator", data := .fields #[.ref b, .int 0 0] }).objs.size = s.heap.objs.size + 1 := Heap.size_push ..
  show _ ∧ _
  rw [hz]
  have he := Heap.get?_push_size (s.heap.push { cls := .type "tuple_iterator", data := .fields #[.ref b, .int 0 0] }) (o := { cls := .type "enumerate", data := .fields #[.none, .bool false, .ref s.heap.objs.size, rawInt 0, .none, .none] }) rfl
  rw [hz] at he
  exact ⟨⟨_, he, rfl⟩, h _ he ⟨_, Heap.get?_push_of_some _ (Heap.get?_push_size _ rfl), rfl, rfl⟩ fun c o x => Heap.get?_push_of_some _ (Heap.get?_push_of_some _ x)⟩
/-- the tuple at a, each item in a new pair -/
def IteT (K : PySem.W.Frag) (a : Addr) : It :=
  ⟨fun i H => ∃ (xs : List V) (x : V), SqT K H a xs ∧ xs[i]? = some x, fun i H v H' => ∃ T x, v = .ref T ∧ H T = none ∧ H' = upd H T (.tup [.int (i : Nat), x]) ∧ ∀ xs, SqT K H a xs → xs[i]? = some x, fun i H => ∃ xs : List V, SqT K H a xs ∧ xs.length ≤ i⟩
theorem turn_enumT {P : Program} {w : World} {K : PySem.W.Frag} {elts : List Expr} {kk : Nat} {tpos : Pos} (a e it : Addr) (hai : a ≠ it) (hae : a ≠ e) :
    Turn P w K (.Tuple elts kk tpos) (IteT K a) [e, it] e (fun i h => (∃ old, IsEnum h e it ((i : Nat) : Int) old) ∧ h.IsTupleIter it a i ∧ e ≠ it) where
  mem := by simp
  obj := fun i h st b hb => by
    obtain ⟨⟨old, he⟩, ⟨o, ho, hc, hd⟩, _⟩ := st
    rcases (by simpa using hb : b = e ∨ b = it) with z | z
    · subst z; exact ⟨_, he, fun v q => nomatch q⟩
    · subst z; exact ⟨o, ho, fun v q => by rw [hd] at q; cases q⟩
  keep := fun i h h' ⟨⟨old, he⟩, hi, hne⟩ k => ⟨⟨old, k e (by simp) _ he⟩, hi.at fun o q => k it (by simp) o q, hne⟩
  item := by
    intro X hP hw hK hc i pins s σ H E I hf ⟨⟨old, he⟩, hit, hne⟩ ⟨xs, x, hq, hx⟩
    subst hP hw hK
    obtain ⟨its, rv, p, hz⟩ := I.tuple hq
    obtain ⟨u, hu, ru⟩ := rv.get hx
    have hil := (List.getElem?_eq_some_iff.mp hu).1
    have hel : e < s.heap.objs.size := Heap.lt_size he
    have hitl : it < s.heap.objs.size := by obtain ⟨_, q, _⟩ := hit; exact Heap.lt_size q
    have Dr := Draws.tuple (prog := X.prog) (w := X.w) (A := X.A.in1) (by simp [I.ok.hd hc]) it a hai its.toArray
    refine wpAny_pyNext_enum_itemD Dr he ⟨hit, p⟩ (by simpa using hil) hne (by simp [hne, hae.symm]) fun x' h' tk px ho hst hT hsz hk => ?_
    have ex : x' = u := by
      have z : its[i]? = some x' := by simpa using px
      rw [hu] at z
      exact (Option.some.inj z).symm
    subst ex
    refine ⟨_, rfl, wpAny_letOwnedTupleGo_enum (s := { s with heap := h', toks := tk + 1 }) ho fun h'' he' sb => ?_⟩
    have hT2 := (sb.2 _ (Nat.ne_of_gt hel)).trans hT
    have new : ObjOk X.prog X.w (upd H s.heap.objs.size (.tup [.int (i : Nat), x])) h'' s.heap.objs.size (.tup [.int (i : Nat), x]) :=
      ⟨by show 2 ≤ sizeLine; decide, [.int i tk, x'], .cons ⟨_, rfl⟩ (.cons ru .nil), ⟨_, hT2, rfl, _, rfl⟩⟩
    have I1 : Inv X pins σ (upd H s.heap.objs.size (.tup [.int (i : Nat), x])) { s with heap := h'', toks := tk + 1 } :=
      I.turnedNew (ch := [e, it]) (fun b ob hb q => (sb.2 b (fun z => hb (by simp [z]))).trans (hk b ob (fun z => hb (by simp [z])) (fun z => hb (by simp [z])) q)) hf (Nat.le_refl _) new
    refine ⟨.ref s.heap.objs.size, _, I1, rfl, ⟨_, x, rfl, I.hok.fresh (Nat.le_refl _), rfl, fun ys hy => by rw [I.tuple_inj hy hq]; exact hx⟩, ⟨⟨x', ?_⟩, hst.1.at fun o q => (sb.2 it (Ne.symm hne)).trans q, hne⟩, fun b hb => ?_⟩
    · have e1 : ((i + 1 : Nat) : Int) = (i : Int) + 1 := by omega
      rw [e1]; exact he'
    · have hb' : b < s.heap.objs.size := by
        rcases (by simpa using hb : b = e ∨ b = it) with z | z
        · rw [z]; exact hel
        · rw [z]; exact hitl
      rw [upd_ne (Nat.ne_of_lt hb')]
      exact (hf b hb).1
  done := by
    intro X hP hw hK hc i pins s σ H E I hf ⟨⟨old, he⟩, hit, hne⟩ ⟨xs, hq, hx⟩
    subst hP hw hK
    obtain ⟨its, rv, p, hz⟩ := I.tuple hq
    obtain ⟨f0, f1, f2, f3, f4, f5⟩ := hf it (by simp)
    have hn : its.toArray[i]? = none := by
      have := rv.length
      simp
      omega
    have Dr : Draws X.prog X.w X.A.in1 it [it, a] 0 (fun _ _ => True) (fun _ h => h.IsTupleIter it a i ∧ h.IsTuple a its.toArray) :=
      ⟨fun _ _ st => let ⟨o, ho, _⟩ := st.1; ⟨o, ho⟩, fun _ _ _ st hk => ⟨st.1.at fun o e => hk it (by simp) o e, st.2.at fun o e => hk a (by simp) o e⟩, fun _ _ _ _ h => absurd h (Nat.not_lt_zero _), fun s Q E st hE => wpAny_nextOf_tuple_end (by simp [I.ok.hd hc]) st.1 st.2 hn hE⟩
    exact wpAny_pyNext_enum_endD Dr he ⟨hit, p⟩ fun h' eb => ⟨rfl, I.turned (t' := s.toks) (fun b o hb q => eb b o hb q) f0 f1 f3 f4 f5⟩
  self := fun A i s Q E ⟨⟨_, he⟩, _⟩ h => wpAny_pyIter_enum he h

/-! ### enumerate, zip: lists or tuples -/
def pairD (i : Nat) (d : D) : D := .tup [.int i, d]
def enumD (ds : List D) : List D := ds.mapIdx pairD
def iEnumA (te : TEa) : TIa := fun l S R => te l S fun d S1 => match d with
  | .ref a => match S1 a with
    | some (.lst ds) => R (enumD ds) (fun S' => S' a = some (.lst ds)) S1
    | _ => False
  | .tup ds => R (enumD ds) (fun _ => True) S1
  | _ => False
section
variable {K : PySem.W.Frag} {S1 : Sto} {H1 : Hp}
theorem enumD_get {ds : List D} {i : Nat} {d : D} (e : (enumD ds)[i]? = some d) : ∃ x, ds[i]? = some x ∧ d = .tup [.int i, x] := by
  unfold enumD at e
  rw [List.getElem?_mapIdx, Option.map_eq_some_iff] at e
  obtain ⟨x, h1, h2⟩ := e
  exact ⟨x, h1, h2.symm⟩
theorem enumD_len {ds : List D} : (enumD ds).length = ds.length := by simp [enumD]
theorem it_enum {a : Addr} {ds : List D} : ItOk K S1 H1 (enumD ds) (fun S' => S' a = some (.lst ds)) (Ite K a) := fun i S2 H2 s2 f2 st => by
  obtain ⟨vs2, hv2, dvs2⟩ := s2 a _ st
  refine ⟨fun d e => ?_, fun hi => ⟨vs2, SqL.of hv2, by rw [dvs2.length, ← enumD_len]; exact hi⟩⟩
  obtain ⟨x, e1, rfl⟩ := enumD_get e
  obtain ⟨v, ev, dv⟩ := dvs2.get e1
  refine ⟨⟨vs2, v, SqL.of hv2, ev⟩, fun x' H3 ⟨T, v', e3, hT, e4, y⟩ => ?_⟩
  have e5 := y vs2 (SqL.of hv2)
  rw [ev] at e5
  cases e5
  subst e3 e4
  obtain ⟨a1, a2, a3⟩ := newTup s2 hT (.cons (.int (i : Int)) (.one dv))
  exact ⟨a3, a1, a2⟩
theorem it_enumT {a : Addr} {vs : List V} {ds : List D} (s1 : SR K S1 H1) (h1 : SqT K H1 a vs) (h2 : DVs K H1 vs ds) : ItOk K S1 H1 (enumD ds) (fun _ => True) (IteT K a) := fun i S2 H2 s2 f2 st => by
  have t := f2.tk s1
  have h1' := t.1 _ _ h1
  have h2' := DVs.mono t _ _ h2
  refine ⟨fun d e => ?_, fun hi => ⟨vs, h1', by rw [h2.length, ← enumD_len]; exact hi⟩⟩
  obtain ⟨x, e1, rfl⟩ := enumD_get e
  obtain ⟨v, ev, dv⟩ := h2'.get e1
  refine ⟨⟨vs, v, h1', ev⟩, fun x' H3 ⟨T, v', e3, hT, e4, y⟩ => ?_⟩
  have e5 := y vs h1'
  rw [ev] at e5
  cases e5
  subst e3 e4
  obtain ⟨a1, a2, a3⟩ := newTup s2 hT (.cons (.int (i : Int)) (.one dv))
  exact ⟨a3, a1, a2⟩
variable {X : Cx}
theorem ai_enum {e : Expr} {te : TEa} {p pos tpos : Pos} {elts : List Expr} {kk : Nat} (hc : X.calm = true) (hg : Gl X "enumerate") (hm : X.mg "enumerate" = none) (he : AE X e te)
    (hs : starEach [e] X.env = (false, eval e X.env) :: starEach [] X.env := by rfl) : AI X (.Tuple elts kk tpos) (.Call (.Name "enumerate" p) [e] [] pos) (iEnumA te) := by
  refine ⟨fun pins s σ H R I ⟨l, S, Q, r, sr, h, k⟩ => ?_⟩
  refine Call_ (ld_blt I hg hm boot_enumerate (PyProof.Rows.callWith_type1 (args_cons (thn (he.run pins s σ H (fun v H1 => ∃ d S1, (match d with
  | .ref a => match S1 a with
    | some (.lst ds) => Q (enumD ds) (fun S' => S' a = some (.lst ds)) S1
    | _ => False
  | .tup ds => Q (enumD ds) (fun _ => True) S1
  | _ => False) ∧ SR X.K S1 H1 ∧ FW S H S1 H1 ∧ DV X.K H1 v d) I (LE.go r sr h fun d S1 v H1 q1 r1 s1 f1 dv => ⟨d, S1, q1, s1, f1, dv⟩)) fun u s1 ⟨v, H1, I1, r1, d, S1, q1, s1', f1, dv⟩ => args_nil ?_) hs) hs rfl))
  have fresh2 : ∀ c, c ∈ [s1.heap.objs.size + 1, s1.heap.objs.size] → FpOk X pins H1 c := fun c hcm => by
    have hle : s1.heap.objs.size ≤ c := by
      rcases (by simpa using hcm : c = s1.heap.objs.size + 1 ∨ c = s1.heap.objs.size) with z | z
      · rw [z]; exact Nat.le_succ _
      · rw [z]; exact Nat.le_refl _
    exact I1.fpOk hle (I1.hok.fresh hle)
  split at q1
  · rename_i a
    split at q1
    · rename_i ds ea
      cases dv; cases r1
      obtain ⟨vs, hv, dvs⟩ := s1' a _ ea
      obtain ⟨its, rv, p', hz⟩ := I1.list (SqL.of hv)
      refine call_enumerate_list p'.isList fun h' he hit hsz hk => wpAny_pyIter_enum he ?_
      exact ⟨s1.heap.objs.size + 1, [s1.heap.objs.size + 1, s1.heap.objs.size], _, _, H1, rfl, I1.kept (t' := s1.toks) hk, turn_enum a _ _, ⟨⟨.none, he⟩, hit, Nat.succ_ne_self _⟩, fresh2, k _ _ _ _ _ q1 s1' f1 it_enum⟩
    · exact q1.elim
  · rename_i ds
    cases dv with
    | @tup a xs _ h1 h2 =>
      cases r1
      obtain ⟨its, rv, p', hz⟩ := I1.tuple h1
      have hlt : a < s1.heap.objs.size := by obtain ⟨o, ho, _⟩ := id p'; exact Heap.lt_size ho
      refine call_enumT (show s1.heap.IsTuple a its.toArray from p') fun h' he hit hk => wpAny_pyIter_enum he ?_
      exact ⟨s1.heap.objs.size + 1, [s1.heap.objs.size + 1, s1.heap.objs.size], _, _, H1, rfl, I1.kept (t' := s1.toks) hk, turn_enumT a _ _ (Nat.ne_of_lt hlt) (Nat.ne_of_lt (Nat.lt_succ_of_lt hlt)), ⟨⟨.none, he⟩, hit, Nat.succ_ne_self _⟩, fresh2, k _ _ _ _ _ q1 s1' f1 (it_enumT s1' h1 h2)⟩
  · exact q1.elim
def zipD (ds es : List D) : List D := (ds.zip es).map fun p => .tup [p.1, p.2]
def iZipAA (ta : TAa) : TIa := fun l S R => ta l S fun xs S1 => match xs with
  | [.ref a, .ref b] => match S1 a, S1 b with
    | some (.lst ds), some (.lst es) => R (zipD ds es) (fun S' => S' a = some (.lst ds) ∧ S' b = some (.lst es)) S1
    | _, _ => False
  | [.tup ds, .tup es] => R (zipD ds es) (fun _ => True) S1
  | _ => False
theorem zipD_get {ds es : List D} {i : Nat} {d : D} (e : (zipD ds es)[i]? = some d) : ∃ x y, ds[i]? = some x ∧ es[i]? = some y ∧ d = .tup [x, y] := by
  unfold zipD at e
  rw [List.getElem?_map, Option.map_eq_some_iff] at e
  obtain ⟨⟨x, y⟩, h1, h2⟩ := e
  rw [List.getElem?_zip_eq_some] at h1
  exact ⟨x, y, h1.1, h1.2, h2.symm⟩
theorem zipD_len {ds es : List D} : (zipD ds es).length = min ds.length es.length := by simp [zipD]
theorem it_zip {a b : Addr} {ds es : List D} : ItOk K S1 H1 (zipD ds es) (fun S' => S' a = some (.lst ds) ∧ S' b = some (.lst es)) (Itz K a b) := fun i S2 H2 s2 f2 ⟨st1, st2⟩ => by
  obtain ⟨vs, hv, dvs⟩ := s2 a _ st1
  obtain ⟨ws, hw, dws⟩ := s2 b _ st2
  refine ⟨fun d e => ?_, fun hi => ⟨vs, ws, SqL.of hv, SqL.of hw, by rw [zipD_len] at hi; rw [dvs.length, dws.length]; omega⟩⟩
  obtain ⟨x, y, e1, e2, rfl⟩ := zipD_get e
  obtain ⟨v, ev, dv⟩ := dvs.get e1
  obtain ⟨u, eu, du⟩ := dws.get e2
  refine ⟨⟨vs, ws, v, u, SqL.of hv, SqL.of hw, ev, eu⟩, fun x' H3 ⟨T, v', u', e3, hT, e4, y1, y2⟩ => ?_⟩
  have e5 := y1 vs (SqL.of hv)
  rw [ev] at e5
  cases e5
  have e6 := y2 ws (SqL.of hw)
  rw [eu] at e6
  cases e6
  subst e3 e4
  obtain ⟨a1, a2, a3⟩ := newTup s2 hT (.cons dv (.one du))
  exact ⟨a3, a1, a2⟩
theorem it_zipT {a b : Addr} {vs ws : List V} {ds es : List D} (s1 : SR K S1 H1) (h1 : SqT K H1 a vs) (h2 : DVs K H1 vs ds) (h3 : SqT K H1 b ws) (h4 : DVs K H1 ws es) : ItOk K S1 H1 (zipD ds es) (fun _ => True) (RZ.ItzT K a b) := fun i S2 H2 s2 f2 st => by
  have t := f2.tk s1
  have h1' := t.1 _ _ h1
  have h2' := DVs.mono t _ _ h2
  have h3' := t.1 _ _ h3
  have h4' := DVs.mono t _ _ h4
  refine ⟨fun d e => ?_, fun hi => ⟨vs, ws, h1', h3', by rw [zipD_len] at hi; rw [h2.length, h4.length]; omega⟩⟩
  obtain ⟨x, y, e1, e2, rfl⟩ := zipD_get e
  obtain ⟨v, ev, dv⟩ := h2'.get e1
  obtain ⟨u, eu, du⟩ := h4'.get e2
  refine ⟨⟨vs, ws, v, u, h1', h3', ev, eu⟩, fun x' H3 ⟨T, v', u', e3, hT, e4, y1, y2⟩ => ?_⟩
  have e5 := y1 vs h1'
  rw [ev] at e5
  cases e5
  have e6 := y2 ws h3'
  rw [eu] at e6
  cases e6
  subst e3 e4
  obtain ⟨a1, a2, a3⟩ := newTup s2 hT (.cons dv (.one du))
  exact ⟨a3, a1, a2⟩
theorem ai_zip {e e2 : Expr} {ta : TAa} {p pos tpos : Pos} {elts : List Expr} {kk : Nat} (hg : Gl X "zip") (hm : X.mg "zip" = none) (ha : AA X [e, e2] ta)
    (hs : starEach [e, e2] X.env = (false, eval e X.env) :: starEach [e2] X.env := by rfl) (hpl : (backTo pos (starEach [e2] X.env)).any (·.1) = false := by rfl) :
    AI X (.Tuple elts kk tpos) (.Call (.Name "zip" p) [e, e2] [] pos) (iZipAA ta) := by
  refine PI.imp (RZ.pi_zipA hg hm ha hs hpl) fun σ H R ⟨l, S, Q, r, s, h, k⟩ => ?_
  refine LA.go r s h fun ds S1 v H1 q1 r1 s1 f1 dv => ?_
  split at q1
  · rename_i a b
    split at q1
    · rename_i ds es ea eb
      cases dv with
      | cons d1 d2 =>
        cases d2 with
        | cons d2 d3 =>
          cases d3; cases d1; cases d2
          obtain ⟨vs, hv, dvs⟩ := s1 a _ ea
          obtain ⟨ws, hw, dws⟩ := s1 b _ eb
          exact ⟨a, b, vs, ws, rfl, .inl ⟨SqL.of hv, SqL.of hw, k _ _ _ _ _ q1 s1 f1 it_zip⟩⟩
    · exact q1.elim
  · cases dv with
    | cons d1 d2 =>
      cases d2 with
      | cons d2 d3 =>
        cases d3
        cases d1 with
        | @tup a vs _ h1 h2 =>
          cases d2 with
          | @tup b ws _ h3 h4 => exact ⟨a, b, vs, ws, rfl, .inr ⟨h1, h3, k _ _ _ _ _ q1 s1 f1 (it_zipT s1 h1 h2 h3 h4)⟩⟩
  · exact q1.elim
end
end AL

namespace AL
open PySem PySem.Spec PyProof.Rows L2

/-! ### defs of the module, by name -/
/-- a def of the text as the top has left it -/
structure Df (K : PySem.W.Frag) (mg : Str → Option Value) (x : Str) (st : Stmt) (ps : List Str) : Prop where
  ex : ∃ (f : Addr) (fd : FuncData), Fun K x x st f fd ∧ mg x = some (.ref f) ∧ Binds K fd ps []
theorem Df.mk' {K : PySem.W.Frag} {mg : Str → Option Value} {h : Heap} {x : Str} {st : Stmt} {ps : List Str} {f : Addr} {oc : Value} {od an : Option Addr} {osl : Array (Option Value)} {kV doc pm cdv ct : Value} (kin : K.In h) (G : h.Ns mainGlobals mg)
    (a : PySem.W.nsIn K mainGlobals x = some (some (.ref f)))
    (l : K.lookup f = some ⟨oc, od, .func (PySem.W.fnOf x x (defArgs st) (defBody st) (defScope st) .none kV doc pm an cdv ct), osl⟩)
    (c : PySem.W.codeIn K cdv x = true) (k : PySem.W.keepIn K (.ref f) = true)
    (b : ∀ (kV doc pm : Value) (an : Option Addr) (cdv ct : Value) (us : List Value), us.length = ps.length → bindArgs (PySem.W.fnOf x x (defArgs st) (defBody st) (defScope st) .none kV doc pm an cdv ct) ⟨us, []⟩ = pure (ps.zip us)) : Df K mg x st ps :=
  ⟨f, _, fun_mk l c k, PySem.W.mg_of kin G a, (fun_mk l c k).binds b⟩
/-- a def that keeps F, with k levels of room -/
structure Ca (P : Program) (w : World) (K : PySem.W.Frag) (mg : Str → Option Value) (base : Heap) (k : Nat) (x : Str) (n : Nat) (F : Spa) : Prop where
  ex : ∃ (f : Addr) (fd : FuncData) (ps : List Str), FnG P w K mg base CX0 k f fd ps (LF K n F) ∧ mg x = some (.ref f) ∧ PySem.W.keepIn K (.ref f) = true ∧ Binds K fd ps []
section
variable {P : Program} {w : World} {K : PySem.W.Frag} {mg : Str → Option Value} {base : Heap}
theorem Ca.mono {j k : Nat} {x : Str} {n : Nat} {F : Spa} (c : Ca P w K mg base j x n F) (h : j ≤ k) : Ca P w K mg base k x n F :=
  let ⟨f, fd, ps, g, r⟩ := c.ex
  ⟨f, fd, ps, g.mono h, r⟩
/-- a def by its body's reading -/
theorem Ca.of {x : Str} {st : Stmt} {N ps : List Str} {k : Nat} {t : TSa} {F : Spa} (D : Df K mg x st ps) (Sc : FnScope N ps (defScope st))
    (hbody : ∀ (f : Addr) (cdv : Value) (A : Around) (outer : List Env) (s : Shared) (H : Hp) (E : XK), RoomG k (A.deeper (envOfC x (defScope st) s.heap.objs.size f cdv)) →
      ASs (cxOf CX0 P w K mg base N x (defScope st) f cdv A outer s H E).nox (defBody st) t)
    (hF : ∀ ds S Q, ds.length = ps.length → F ds S Q → semA N t ds S Q) : Ca P w K mg base (k + 1) x ps.length F := by
  obtain ⟨f, fd, Fn, m, b⟩ := D.ex
  exact ⟨f, fd, ps, fa_imp (fa_of Fn Sc fun cdv A outer s H E hr => hbody f cdv A outer s H E hr) hF, m, Fn.kp, b⟩
end
section
variable {X : Cx} {k j n : Nat} {F : Spa} {x : Str} {p pos : Pos} {e : Expr} {es : List Expr} {t : TAa}
theorem ae_ca (c : Ca X.prog X.w X.K X.mg X.base j x n F) (hr : RoomG k X.A) (ha : AA X (e :: es) t) (hj : j ≤ k := by decide) (hg : Gl X x := by rfl) (hdb : (x == ("__debug__" : Str)) = false := by decide)
    (he : starEach (e :: es) X.env = (false, eval e X.env) :: starEach es X.env := by rfl) (hpl : (backTo pos (starEach es X.env)).any (·.1) = false := by rfl) : AE X (.Call (.Name x p) (e :: es) [] pos) (aFn n F t) := by
  obtain ⟨f, fd, ps, g, m, kp, b⟩ := c.ex
  exact ae_call g (hr.mono hj) hg m kp b ha hdb he hpl
/-- a built-in type by its name -/
theorem ae_bltn {T : String} (hm : X.mg x = none) (hv : bootBuiltins x = some (.type T)) (hg : Gl X x := by rfl) (hn : x ≠ "__name__" := by decide) (hd : (x == ("__debug__" : Str)) = false := by decide) : AE X (.Name x pos) (aC (.ty T)) :=
  PE.imp (pe_bltn hg hm hv (v := .ty T) rfl hn hd) fun _ H _ ⟨_, S, _, _, s, h, k⟩ => k _ S _ H h s .refl (.ty T)
end
end AL

namespace AL
open PySem PySem.Spec PyProof.Rows L2

/-! ### sorted(xs, key=f), f a def of the module -/
def Keeps (S S' : Sto) : Prop := ∀ b o, S b = some o → S' b = some o
theorem Keeps.refl {S : Sto} : Keeps S S := fun _ _ h => h
theorem Keeps.trans {S S1 S2 : Sto} (a : Keeps S S1) (b : Keeps S1 S2) : Keeps S S2 := fun c o h => b c o (a c o h)
def sortKeyA (F : Spa) (x : D) (S : Sto) (Q : DK) : Prop := match x with
  | .ref a => match S a with
    | some (.lst ds) => ∃ kf : D → D, (∀ d ∈ ds, (kf d).keyed = true ∧ (kf d).py.depth ≤ 180 ∧ ∀ S', Keeps S S' → F [d] S' fun r S'' => r = kf d ∧ Keeps S' S'') ∧
        PySem.W.AllAlike (ds.map fun d => (kf d).py) ∧ PySem.W.Sortable (ds.map fun d => (kf d).py) ∧
        ∀ S' r, Keeps S S' → S' r = none → Q (.ref r) (put S' r (.lst (ds.mergeSort (PySem.W.dataLe false fun d => (kf d).py))))
    | _ => False
  | _ => False
def aSortKey (F : Spa) (te : TEa) : TEa := fun l S Q => te l S fun x S1 => sortKeyA F x S1 Q

/-- where the keys are laid -/
structure Static (X : Cx) (pins : List (Addr × Obj)) (b : Addr) : Prop where
  loc : b ≠ X.env.locals
  fs : b ∉ X.fs
  ex : b ∈ X.ex ∨ X.s_0.heap.objs.size ≤ b
  cell : ∀ x c, X.env.cells.lookup x = some c → c ≠ b
  pin : ∀ p ∈ X.pn ++ pins, p.1 ≠ b
section
variable {X : Cx} {pins : List (Addr × Obj)} {σ : L2.St} {H : Hp} {s : Shared}
theorem Static.new {b : Addr} (I : Inv X pins σ H s) (hb : s.heap.objs.size ≤ b) : Static X pins b :=
  let ⟨_, f1, f2, f3, f4, f5⟩ := I.fpOk hb (I.hok.fresh hb)
  ⟨f1, f2, f3, f4, f5⟩
theorem Static.turn {b : Addr} {h' : Heap} {tk : Nat} (f : Static X pins b) (I : Inv X pins σ H s) (hn : H b = none) (k : ∀ c o, c ≠ b → s.heap.get? c = some o → h'.get? c = some o) : Inv X pins σ H { s with heap := h', toks := tk } :=
  I.turned k hn f.loc f.ex f.cell f.pin
/-- the state while the keys are made -/
structure Keying (X : Cx) (pins : List (Addr × Obj)) (σ : L2.St) (S0 : Sto) (H0 : Hp) (a kS : Addr) (e1 : Nat) (ks : List D) (s : Shared) : Prop where
  ex : ∃ (H : Hp) (S : Sto) (kA : List Value) (e : Nat) (vks : List V), Inv X pins σ H s ∧ SR X.K S H ∧ Keeps S0 S ∧ FW S0 H0 S H ∧ H a = none ∧ H kS = none ∧ s.heap.get? kS = some (seqObj "list" kA.toArray e) ∧ s.heap.get? a = some (seqObj "list" #[] e1) ∧
    Vals vks kA ∧ DVs X.K H vks ks
theorem keying_rest {k : Nat} {F : Spa} {f a kS : Addr} {fd : FuncData} {ps : List Str} {e1 : Nat} {vs : List Value} {xs : List V} {ds : List D} {S0 : Sto} {H0 : Hp} {kf : D → D} {P : PySem.Fin → Shared → Prop} {E : Value → Shared → Prop}
    (G : FnG X.prog X.w X.K X.mg X.base CX0 k f fd ps (LF X.K 1 F)) (hb : Binds X.K fd ps []) (hr : RoomG (k + 2) X.A)
    (fa : Static X pins a) (fk : Static X pins kS) (hka : kS ≠ a) (sr0 : SR X.K S0 H0) (rv : Vals xs vs) (dv : DVs X.K H0 xs ds) (hZ : ds.length ≤ sizeLine)
    (hf : ∀ d ∈ ds, (kf d).keyed = true ∧ (kf d).py.depth ≤ 180 ∧ ∀ S', Keeps S0 S' → F [d] S' fun r S'' => r = kf d ∧ Keeps S' S'')
    (hal : PySem.W.AllAlike (ds.map fun d => (kf d).py)) (hso : PySem.W.Sortable (ds.map fun d => (kf d).py)) (J : Keying X pins σ S0 H0 a kS e1 [] s)
    (fin : ∀ (s' : Shared) (H : Hp) (S : Sto) (h' : Heap) (tk : Nat) (out : List Value) (c : Nat), Inv X pins σ H s' → SR X.K S H → Keeps S0 S → FW S0 H0 S H → H a = none → H kS = none → (∀ b o, b ≠ a → b ≠ kS → s'.heap.get? b = some o → h'.get? b = some o) →
      h'.get? a = some (seqObj "list" out.toArray c) → PySem.W.KeyedOut false (ds.map fun d => (kf d).py) vs out → P (.done (.ret .none)) { s' with heap := h', toks := tk }) :
    wpAny (model X.prog X.w) X.A.in1.in1 (ksk_rest a (.ref f) false vs.toArray e1 (.ref kS)) P E s := by
  have hvl : vs.length = ds.length := by rw [← rv.length, dv.length]
  unfold ksk_rest
  refine wpAny_bind (wpAny_rule ?_)
  first
    | rw [List.forIn_toArray]
    | (rw [← Array.forIn_toList]; simp only [List.toList_toArray])
    | rw [← Array.forIn_toList]
  refine wpAny_bind (ksk_fold (fun i s' => Keying X pins σ S0 H0 a kS e1 ((ds.map kf).take i) s') vs 0 s (by rw [List.take_zero]; exact J) ?step ?done)
  case step =>
    rintro j x s1 hx ⟨H1, S1, kA, e, vks, I1, sr1, kp1, fw1, ha1, hk1, gk, ga, rk, dk⟩
    simp only [Nat.zero_add] at dk ⊢
    have hj : j < ds.length := by rw [← hvl]; exact (List.getElem?_eq_some_iff.mp hx).1
    obtain ⟨d, hd⟩ : ∃ d, ds[j]? = some d := ⟨_, List.getElem?_eq_getElem hj⟩
    obtain ⟨v, hv, dvx⟩ := dv.get hd
    obtain ⟨u, hu, ru⟩ := rv.get hv
    rw [hx] at hu
    cases hu
    obtain ⟨q1, q2, q3⟩ := hf d (List.mem_of_getElem? hd)
    have dv1 : DV X.K H1 v d := DV.mono (fw1.tk sr0) _ _ dvx
    -- the two lists are pinned
    have I2 : Inv X (pins ++ [(a, seqObj "list" #[] e1), (kS, seqObj "list" kA.toArray e)]) σ H1 s1 := I1.pins_of fun p hp => by
      rcases List.mem_append.mp hp with z | z
      · exact I1.pin p (List.mem_append_right _ z)
      · rcases List.mem_cons.mp z with z | z
        · subst z; exact ⟨ga, ha1, fa.loc, fa.fs, fun v q => by cases q⟩
        · rw [List.mem_singleton] at z
          subst z; exact ⟨gk, hk1, fk.loc, fk.fs, fun v q => by cases q⟩
    have e0 : Env0 X.prog X.w X.K X.mg X.base X.A.in1.in1 X.stack s1 H1 := by
      have e := I1.env0
      exact ⟨e.frames, e.mod, e.bs, e.bsz, e.funs, e.frf, e.hok, e.bare⟩
    have hsp : LF X.K 1 F [v] H1 (fun v' H' => ∃ S', DV X.K H' v' (kf d) ∧ SR X.K S' H' ∧ Keeps S1 S' ∧ FW S1 H1 S' H') E0 :=
      ⟨rfl, [d], S1, _, .one dv1, sr1, q3 S1 kp1, fun r S' v' H' ⟨z1, z2⟩ sr' f' dv' => ⟨S', by rw [← z1]; exact dv', sr', z2, f'⟩⟩
    have hl := G.len _ _ _ _ hsp
    have rg : RoomG k X.A.in1.in1 := ⟨hr.r.in1.in1, hr.g⟩
    refine wpAny_bind (wpAny_attempt (wpAny_call (codeAny_mono (G.run X.A.in1.in1 X.stack s1 H1 ⟨[x], []⟩ [x] [v] _ E0 rg e0 (by
      have := hb s1 [x] I1.kIn (by simpa using hl)
      simpa using this) (.cons ru .nil) hsp) fun r s2 hq => ?_)))
    cases r with
    | error er => exact False.elim hq
    | ok fl =>
      cases fl with
      | next => exact False.elim hq
      | brk => exact False.elim hq
      | cont => exact False.elim hq
      | ret w =>
        obtain ⟨v', H2, I3, rw', S2, dv', sr2, kp2, fw2⟩ := I2.after hq
        obtain ⟨ga2, ha2, _⟩ := I3.pin (a, seqObj "list" #[] e1) (List.mem_append_right _ (List.mem_append_right _ (.head _)))
        obtain ⟨gk2, hk2, _⟩ := I3.pin (kS, seqObj "list" kA.toArray e) (List.mem_append_right _ (List.mem_append_right _ (.tail _ (.head _))))
        have I4 : Inv X pins σ H2 s2 := I3.unpinned
        have hkl : kA.length ≤ ds.length := by
          have z := dk.length
          rw [rk.length, List.length_take, List.length_map] at z
          omega
        try dsimp only
        have sb := Heap.SameBut.update s2.heap kS (Obj.mapSeq (·.push w))
        obtain ⟨c2, hc2⟩ : ∃ c2, (s2.heap.update kS (Obj.mapSeq (·.push w))).get? kS = some (seqObj "list" (kA.toArray.push w) c2) := ⟨_, get?_update_seq gk2 (·.push w)⟩
        have ek : (ds.map kf).take (j + 1) = (ds.map kf).take j ++ [kf d] := by rw [List.take_add_one, List.getElem?_map, hd]; simp
        refine wpAny_bind (listUpdate_at gk2 rfl ?_ (by rw [List.size_toArray]; omega) (by rw [Array.size_push, List.size_toArray]; omega))
        refine wpAny_pure ⟨rfl, H2, S2, kA ++ [w], c2, vks ++ [v'], ?_, sr2, kp1.trans kp2, fw1.trans fw2, ha2, hk2, ?_, ?_, rk.append (.cons rw' .nil), ?_⟩
        · exact fk.turn (tk := s2.toks) I4 hk2 fun c o hc e => (sb.2 c hc).trans e
        · rw [hc2]; simp
        · exact (sb.2 a hka.symm).trans ga2
        · rw [ek]
          exact (DVs.mono (fw2.tk sr1) _ _ dk).append (.one dv')
  case done =>
    rintro s1 ⟨H1, S1, kA, e, vks, I1, sr1, kp1, fw1, ha1, hk1, gk, ga, rk, dk⟩
    have e3 : (ds.map kf).take (0 + vs.length) = ds.map kf := List.take_of_length_le (by rw [List.length_map]; omega)
    rw [e3] at dk
    have rds : ∀ (es : List D) (ws : List V) (us : List Value), (∀ d ∈ es, (kf d).keyed = true) → DVs X.K H1 ws (es.map kf) → Vals ws us → PySem.W.EachIs (fun v k => ∃ as, Reads s1.heap v k as) us (es.map fun d => (kf d).py) := by
      intro es
      induction es with
      | nil => intro ws us _ h r; cases h; cases r; exact .nil
      | cons d es ih =>
        intro ws us hk h r
        cases h with
        | cons h1 h2 => cases r with | cons r1 r2 => exact .cons ⟨[], (nested_of I1 _ _ _ (hk d List.mem_cons_self) h1 r1).2⟩ (ih _ _ (fun x hx => hk x (List.mem_cons_of_mem _ hx)) h2 r2)
    have each := rds ds vks kA (fun d hd => (hf d hd).1) dk rk
    have hkz : kA.length = vs.length := by rw [hvl, ← rk.length, dk.length, List.length_map]
    obtain ⟨G1, g1, g2⟩ := restrict s1.heap fun b => decide (b ≠ kS)
    have kp : PySem.W.KeepsBut a G1 s1.heap := fun b o _ q => by
      by_cases hb : b = kS
      · rw [g2 b (decide_eq_false fun z => z hb)] at q; cases q
      · rw [← g1 b (decide_eq_true hb)]; exact q
    try dsimp only
    refine wpAny_bind (listItems_at gk rfl ?_)
    have hu : ∀ d ∈ ds.map (fun d => (kf d).py), X.A.in1.in1.units + d.depth < cLine := fun d hd => by
      obtain ⟨x, hx, rfl⟩ := List.mem_map.mp hd
      have z := (hf x hx).2.1
      have := hr.r.un
      show X.A.units + 1 + 1 + (kf x).py.depth < cLine
      omega
    refine PySem.W.keyH_end (κ := PySem.W.dataKind s1.heap (ds.map fun d => (kf d).py)) (h₁ := G1) kp (g2 kS (decide_eq_false fun z => z rfl)) gk ga hka (PySem.W.SortsAt.data (by simpa using each) hal hso hu) (by rw [List.size_toArray]; exact hkz) (by rw [hvl]; exact hZ) fun h3 tk3 c k3 n3 => ?_
    refine fin s1 H1 S1 h3 tk3 _ c I1 sr1 kp1 fw1 ha1 hk1 (fun b o b1 b2 q => k3 b o b1 ((g1 b (decide_eq_true b2)).trans q)) n3 ⟨s1.heap, kA, hal, by simp, each⟩
end
end AL

namespace AL
open PySem PySem.Spec PyProof.Rows L2
section
variable {X : Cx} {pins : List (Addr × Obj)} {σ : L2.St} {H : Hp} {s : Shared}
theorem sorted_keyG {k : Nat} {F : Spa} {f : Addr} {fd : FuncData} {ps : List Str} {x : D} {v : V} {u : Value} {S : Sto} {Q : DK} {Qc : VK}
    (G : FnG X.prog X.w X.K X.mg X.base CX0 k f fd ps (LF X.K 1 F)) (hb : Binds X.K fd ps []) (hr : RoomG (k + 2) X.A) (I : Inv X pins σ H s) (sr : SR X.K S H) (dx : DV X.K H v x) (ru : RelV v u) (q : sortKeyA F x S Q)
    (kk : ∀ d S' v' H', Q d S' → SR X.K S' H' → FW S H S' H' → DV X.K H' v' d → Qc v' H') :
    wpAny (model X.prog X.w) X.A (call (.builtin "sorted") [u] [(Str.ofString "key", .ref f)]) (EP X pins σ Qc) X.xe s := by
  unfold sortKeyA at q
  split at q
  · rename_i l
    split at q
    · rename_i ds ea
      obtain ⟨kf, h1, hal, hso, q⟩ := q
      cases dx
      obtain rfl : u = Value.ref l := ru
      obtain ⟨xs, hv, dvs⟩ := sr _ _ ea
      obtain ⟨its, rv, pl, hz⟩ := I.list (SqL.of hv)
      have hZ : ds.length ≤ sizeLine := by rw [← dvs.length]; exact hz
      have hil : its.length ≤ sizeLine := by rw [← rv.length]; exact hz
      refine PySem.W.sorted_of_sort pl.isList hil (ksk_s1 _ _) (fun _ => ksk_l1 _ _) fun E' => ?_
      rw [ksk_t1]
      have ho := PySem.W.copyHeap_at s.heap its
      have sza : s.heap.objs.size ≤ s.heap.objs.size + 1 := Nat.le_succ _
      have ha : s.heap.objs.size + 1 < (PySem.W.copyHeap s.heap its).objs.size := Heap.lt_size ho
      obtain ⟨e1, ho1⟩ : ∃ e1, ((PySem.W.copyHeap s.heap its).update (s.heap.objs.size + 1) (Obj.mapSeq fun _ => (#[] : Array Value))).get? (s.heap.objs.size + 1) = some (seqObj "list" #[] e1) := ⟨_, get?_update_seq ho fun _ => #[]⟩
      have hkS : (((PySem.W.copyHeap s.heap its).update (s.heap.objs.size + 1) (Obj.mapSeq fun _ => (#[] : Array Value))).push (seqObj "tuple" its.toArray 0)).objs.size = (PySem.W.copyHeap s.heap its).objs.size + 1 := by rw [size_push', Heap.size_update]
      unfold ksk_tree
      refine wpAny_bind (listItems_at ho rfl ?_)
      refine wpAny_bind (listUpdate_at ho rfl ?_ (by rw [List.size_toArray]; exact hil) (Nat.zero_le _))
      refine wpAny_bind (seqEpoch_at ho1 rfl ?_)
      refine wpAny_bind (wpAny_newTuple ?_ (by show its.length ≤ _; exact hil))
      refine wpAny_bind (wpAny_newList ?_ (Nat.zero_le _))
      refine wpAny_holding ?_
      have kp : ∀ b o, s.heap.get? b = some o → ((((PySem.W.copyHeap s.heap its).update (s.heap.objs.size + 1) (Obj.mapSeq fun _ => (#[] : Array Value))).push (seqObj "tuple" its.toArray 0)).push (seqObj "list" #[] 0)).get? b = some o := fun b o e =>
        PySem.W.sortingHeap_old (Nat.ne_of_lt (Nat.lt_succ_of_lt (Heap.lt_size e))) (PySem.W.copyHeap_old e)
      have I1 := I.kept (t' := s.toks) kp
      have fa : Static X pins (s.heap.objs.size + 1) := .new I sza
      have fk : Static X pins (((PySem.W.copyHeap s.heap its).update (s.heap.objs.size + 1) (Obj.mapSeq fun _ => (#[] : Array Value))).push (seqObj "tuple" its.toArray 0)).objs.size := .new I (by rw [hkS]; omega)
      have gk : ((((PySem.W.copyHeap s.heap its).update (s.heap.objs.size + 1) (Obj.mapSeq fun _ => (#[] : Array Value))).push (seqObj "tuple" its.toArray 0)).push (seqObj "list" #[] 0)).get? _ = some (seqObj "list" #[] 0) := Heap.get?_push_size _ rfl
      refine keying_rest (S0 := S) (H0 := H) G hb hr fa fk (by rw [hkS]; exact Nat.ne_of_gt (Nat.lt_succ_of_lt ha)) sr rv dvs hZ h1 hal hso
        ⟨H, S, [], 0, [], I1, sr, .refl, .refl, I.hok.fresh sza, I.hok.fresh (by rw [hkS]; omega), gk, Heap.get?_push_of_some _ (Heap.get?_push_of_some _ ho1), .nil, .nil⟩ ?_
      intro s' H1 S1 h' tk out c J sr1 kp1 fw1 ha1 hk1 kb hD ko
      refine ⟨rfl, ?_⟩
      have e := each_dv ds xs its (DVs.mono (fw1.tk sr) _ _ dvs) rv
      obtain ⟨vo, rvo, dvo⟩ := each_out (PySem.W.keyedOut_each (fun d => (kf d).py) ko e)
      obtain ⟨G1, g1, g2⟩ := restrict s'.heap fun b => decide (b ≠ (((PySem.W.copyHeap s.heap its).update (s.heap.objs.size + 1) (Obj.mapSeq fun _ => (#[] : Array Value))).push (seqObj "tuple" its.toArray 0)).objs.size)
      have J1 := fk.turn (tk := s'.toks) J hk1 fun b o hb q => (g1 b (decide_eq_true hb)).trans q
      obtain ⟨G2, g3, g4⟩ := restrict G1 fun b => decide (b ≠ s.heap.objs.size + 1)
      have J2 := fa.turn (h' := G2) (tk := s'.toks) J1 ha1 fun b o hb q => (g3 b (decide_eq_true hb)).trans q
      have kp2 : ∀ b o, G2.get? b = some o → h'.get? b = some o := fun b o q => by
        by_cases hb : b = s.heap.objs.size + 1
        · rw [g4 b (decide_eq_false fun z => z hb)] at q; cases q
        · rw [g3 b (decide_eq_true hb)] at q
          by_cases hb2 : b = (((PySem.W.copyHeap s.heap its).update (s.heap.objs.size + 1) (Obj.mapSeq fun _ => (#[] : Array Value))).push (seqObj "tuple" its.toArray 0)).objs.size
          · rw [g2 b (decide_eq_false fun z => z hb2)] at q; cases q
          · rw [g1 b (decide_eq_true hb2)] at q
            exact kb b o hb hb2 q
      have hol : vo.length ≤ sizeLine := by
        rw [dvo.length, List.length_mergeSort]
        exact hZ
      have J3 := J2.laidN (t' := tk) (h' := h') (a := s.heap.objs.size + 1) (o := .lst vo) kp2 (g4 _ (decide_eq_false fun z => z rfl)) ha1 (show ObjOk X.prog X.w _ _ _ (.lst vo) from ⟨hol, out, c, rvo, hD⟩)
      obtain ⟨b1, b2, b3⟩ := newLst sr1 ha1 dvo
      exact ⟨.ref _, _, J3, rfl, kk _ _ _ _ (q S1 _ kp1 (sr1.fresh ha1)) b1 (fw1.trans b2) b3⟩
    · exact q.elim
  · exact q.elim
theorem ae_sortKey {k j : Nat} {F : Spa} {fx : Str} {e : Expr} {te : TEa} {p p2 kpos pos : Pos} (c : Ca X.prog X.w X.K X.mg X.base j fx 1 F) (hr : RoomG k X.A) (hj : j + 2 ≤ k) (hg : Gl X "sorted") (hm : X.mg "sorted" = none) (he : AE X e te)
    (hgf : Gl X fx := by rfl) (hdb : (fx == ("__debug__" : Str)) = false := by decide)
    (h1 : backTo pos (starEach [e] X.env) = (false, eval e X.env) :: backTo pos (starEach [] X.env) := by rfl) (h2 : (backTo pos (starEach [e] X.env)).any (·.1) = false := by rfl)
    (h3 : (backToKw pos (keywordEach [⟨some "key", .Name fx p2, kpos⟩] X.env)).all (·.1.isSome) = true := by rfl) (h4 : (backToKw pos (keywordEach [⟨some "key", .Name fx p2, kpos⟩] X.env)).any (·.1.isNone) = false := by rfl)
    (h5 : (backToKw pos (keywordEach [⟨some "key", .Name fx p2, kpos⟩] X.env)).filterMap (·.1) = [Str.ofString "key"] := by rfl)
    (hs : starEach [e] X.env = (false, eval e X.env) :: starEach [] X.env := by rfl) :
    AE X (.Call (.Name "sorted" p) [e] [⟨some "key", .Name fx p2, kpos⟩] pos) (aSortKey F te) := by
  obtain ⟨f, fd, ps, g, m, kp, b⟩ := c.ex
  have hk : PE X (.Name fx p2) (tC (.ref f)) := pe_glob hgf m rfl hdb
  have hc : CallRK X (.builtin "sorted") [Str.ofString "key"] (fun xs zs H Qc => zs = [.ref f] ∧ ∃ x v S Q, xs = [v] ∧ DV X.K H v x ∧ SR X.K S H ∧ sortKeyA F x S Q ∧ ∀ d S' v' H', Q d S' → SR X.K S' H' → FW S H S' H' → DV X.K H' v' d → Qc v' H') := by
    intro pins s σ H xs zs us ws Qc I r rz ⟨hz, x, v, S, Q, hx, dx, sr, q, kk⟩
    subst hz hx
    obtain ⟨u, rfl, ru⟩ := vals1 r
    obtain ⟨w, rfl, rw'⟩ := vals1 rz
    obtain rfl : w = Value.ref f := rw'
    exact sorted_keyG g b (hr.mono hj) I sr dx ru q kk
  refine PE.imp (pe_callBK hc hg hm PyProof.Rows.boot_sorted (aa_cons he aa_nil hs) (pk_cons hk pk_nil) (he := h1) (hpl := h2) (hall := h3) (hnone := h4) (hks := h5)) fun σ H Qc ⟨l, S, Q, r, s, h, k⟩ => ?_
  have h' : aCons te aNil l S (fun ds S1 => match ds with | [d] => sortKeyA F d S1 Q | _ => False) := h
  refine LA.go r s h' fun ds S1 vs H1 q1 r1 s1 f1 dvs => ?_
  cases dvs with
  | nil => exact q1.elim
  | cons d1 d2 =>
    cases d2 with
    | cons _ _ => exact q1.elim
    | nil => exact ⟨rfl, _, _, S1, Q, rfl, d1, s1, q1, fun d' S' v' H' q s' f' dv' => k d' S' v' H' q s' (f1.trans f') dv'⟩
end
end AL

namespace AL
open PySem PySem.Spec PyProof.Rows L2

/-! ### dicts with keys ints and texts -/
def aDik0 : TEa := fun _ S Q => ∀ p, S p = none → Q (.ref p) (put S p (.dik []))
section
variable {X : Cx} {pos : Pos} {e : Expr} {te : TEa}
theorem ae_dik0 : AE X (.Dict [] [] pos) aDik0 := PE.imp pe_dnewK fun σ H Qc ⟨l, S, Q, r, s, h, k⟩ => fun p hp =>
  k _ _ _ _ (h p (s.fresh hp)) (s.new hp ⟨[], upd_same, .nil⟩) (FW.new hp) (.ref p)
/-- x in d, else x in a text, a list or a tuple -/
def inDA (neg : Bool) : R2a := fun x y S Q => match y with
  | .ref a => match S a with
    | some (.dik kvs) => match keyD x with | some k => Q (.bl (neg != (kvD kvs k).isSome)) S | none => False
    | _ => inA neg x y S Q
  | _ => inA neg x y S Q
theorem KVs.some {K : PySem.W.Frag} {H : Hp} {vs : List (Key × V)} {ds : List (Key × D)} (k : Key) (h : KVs K H vs ds) : (valV vs k).isSome = (kvD ds k).isSome := by
  rcases h.look k with ⟨a, b⟩ | ⟨v, d, a, b, _⟩
  · rw [a, b]; rfl
  · rw [a, b]; rfl
theorem inD_cases {neg : Bool} {x y : D} {S : Sto} {Q : DK} (h : inDA neg x y S Q) : inA neg x y S Q ∨ ∃ a kvs k, y = .ref a ∧ S a = some (.dik kvs) ∧ keyD x = some k ∧ Q (.bl (neg != (kvD kvs k).isSome)) S := by
  unfold inDA at h
  split at h
  · split at h
    · rename_i ea
      split at h
      · rename_i ek
        exact .inr ⟨_, _, _, rfl, ea, ek, h⟩
      · exact h.elim
    · exact .inl h
  · exact .inl h
theorem oa_inD {k : Nat} (hr : RoomG k X.A) : OA X (compareOp .In) (inDA false) := by
  intro pins s σ H x y v u Qc I rx ry ⟨d, e, S, Q, dx, dy, sr, q, kk⟩
  rcases inD_cases q with q | ⟨a, kvs, key, rfl, ea, ek, q⟩
  · exact oa_in hr pins s σ H x y v u Qc I rx ry ⟨d, e, S, Q, dx, dy, sr, q, kk⟩
  · cases dy
    obtain rfl : u = Value.ref a := ry
    obtain ⟨vs, hv, dvs⟩ := sr _ _ ea
    have ex := keyD_kV dx ek
    subst ex
    refine d_in (by have := hr.r.un; omega) I (DGet.k (k := key) hv) rx fun s' I' => ⟨.bl (valV vs key).isSome, H, I', rfl, kk _ S _ H q sr .refl ?_⟩
    rw [dvs.some key]
    cases (kvD kvs key).isSome <;> exact .bl _
theorem oa_notInD {k : Nat} (hr : RoomG k X.A) : OA X (compareOp .NotIn) (inDA true) := by
  intro pins s σ H x y v u Qc I rx ry ⟨d, e, S, Q, dx, dy, sr, q, kk⟩
  rcases inD_cases q with q | ⟨a, kvs, key, rfl, ea, ek, q⟩
  · exact oa_notIn hr pins s σ H x y v u Qc I rx ry ⟨d, e, S, Q, dx, dy, sr, q, kk⟩
  · cases dy
    obtain rfl : u = Value.ref a := ry
    obtain ⟨vs, hv, dvs⟩ := sr _ _ ea
    have ex := keyD_kV dx ek
    subst ex
    refine d_notIn (by have := hr.r.un; omega) I (DGet.k (k := key) hv) rx fun s' I' => ⟨.bl (!(valV vs key).isSome), H, I', rfl, kk _ S _ H q sr .refl ?_⟩
    rw [dvs.some key]
    cases (kvD kvs key).isSome <;> exact .bl _
end

/-! ### xs.index(x), xs a list of trees -/
mutual
theorem keyed_pure : ∀ d : D, d.keyed = true → d.pure = true
  | .non, _ => rfl
  | .bl _, h => by simp [D.keyed] at h
  | .int _, _ => rfl
  | .str _, _ => rfl
  | .ref _, h => by simp [D.keyed] at h
  | .ty _, h => by simp [D.keyed] at h
  | .rol _, h => by simp [D.keyed] at h
  | .tup ds, h => by
    simp only [D.keyed] at h
    simpa [D.pure] using keyeds_pure ds h
theorem keyeds_pure : ∀ ds : List D, D.keyeds ds = true → D.pures ds = true
  | [], _ => rfl
  | d :: ds, h => by
    rw [D.keyeds, Bool.and_eq_true] at h
    simp [D.pures, keyed_pure d h.1, keyeds_pure ds h.2]
end
mutual
/-- == of keys is sameness -/
theorem keyed_eqv : ∀ d e : D, d.keyed = true → e.keyed = true → PyData.eqv d.py e.py = true → d = e
  | .non, e, _, h, q => by cases e <;> simp_all [D.py, PyData.eqv, D.keyed]
  | .bl _, _, h, _, _ => by simp [D.keyed] at h
  | .int _, e, _, h, q => by cases e <;> simp_all [D.py, PyData.eqv, D.keyed]
  | .str _, e, _, h, q => by cases e <;> simp_all [D.py, PyData.eqv, D.keyed]
  | .ref _, _, h, _, _ => by simp [D.keyed] at h
  | .ty _, _, h, _, _ => by simp [D.keyed] at h
  | .rol _, _, h, _, _ => by simp [D.keyed] at h
  | .tup ds, e, h1, h2, q => by
    cases e with
    | tup es =>
      simp only [D.keyed] at h1 h2
      simp only [D.py, PyData.eqv] at q
      rw [keyeds_eqv ds es h1 h2 q]
    | _ => simp_all [D.py, PyData.eqv, D.keyed]
theorem keyeds_eqv : ∀ ds es : List D, D.keyeds ds = true → D.keyeds es = true → PyData.eqvAll (D.pys ds) (D.pys es) = true → ds = es
  | [], [], _, _, _ => rfl
  | [], _ :: _, _, _, q => by simp [D.pys, PyData.eqvAll] at q
  | _ :: _, [], _, _, q => by simp [D.pys, PyData.eqvAll] at q
  | d :: ds, e :: es, h1, h2, q => by
    rw [D.keyeds, Bool.and_eq_true] at h1 h2
    simp only [D.pys, PyData.eqvAll, Bool.and_eq_true] at q
    rw [keyed_eqv d e h1.1 h2.1 q.1, keyeds_eqv ds es h1.2 h2.2 q.2]
end
mutual
theorem keyed_eqv_self : ∀ d : D, d.keyed = true → PyData.eqv d.py d.py = true
  | .non, _ => by simp [D.py, PyData.eqv]
  | .bl _, h => by simp [D.keyed] at h
  | .int _, _ => by simp [D.py, PyData.eqv]
  | .str _, _ => by simp [D.py, PyData.eqv]
  | .ref _, h => by simp [D.keyed] at h
  | .ty _, h => by simp [D.keyed] at h
  | .rol _, h => by simp [D.keyed] at h
  | .tup ds, h => by
    simp only [D.keyed] at h
    simpa [D.py, PyData.eqv] using keyeds_eqv_self ds h
theorem keyeds_eqv_self : ∀ ds : List D, D.keyeds ds = true → PyData.eqvAll (D.pys ds) (D.pys ds) = true
  | [], _ => by simp [D.pys, PyData.eqvAll]
  | d :: ds, h => by
    rw [D.keyeds, Bool.and_eq_true] at h
    simp [D.pys, PyData.eqvAll, keyed_eqv_self d h.1, keyeds_eqv_self ds h.2]
end
theorem keyed_eqv_iff {d e : D} (h1 : d.keyed = true) (h2 : e.keyed = true) : PyData.eqv d.py e.py = true ↔ d = e :=
  ⟨keyed_eqv d e h1 h2, fun q => by subst q; exact keyed_eqv_self d h1⟩
def indexA : D → List D → Sto → DK → Prop := fun x xs S Q => match x, xs with
  | .ref a, [d] => match S a with
    | some (.lst ds) => D.keyeds ds = true ∧ d.keyed = true ∧ PyData.canLayAll0 (D.pys ds) = true ∧ d.py.canLay0 = true ∧ d.py.depth ≤ 190 ∧ ∃ j, ds[j]? = some d ∧ (∀ m, m < j → ds[m]? ≠ some d) ∧ Q (.int (j : Nat)) S
    | _ => False
  | _, _ => False
theorem ma_index {X : Cx} {k : Nat} (hr : RoomG k X.A) : MA X "list.index" indexA := by
  intro pins s σ H x xs v us Qc I rx rs ⟨d0, ds0, S, Q, dx, dvs, sr, q, kk⟩
  unfold indexA at q
  split at q
  · rename_i a d
    split at q
    · rename_i ds ea
      obtain ⟨h1, h2, hcl, hcd, h3, j, hj, hm, q⟩ := q
      cases dx
      obtain rfl : v = Value.ref a := rx
      obtain ⟨vs, hv, dv⟩ := sr _ _ ea
      cases dvs with
      | cons d1 d2 =>
        cases d2
        obtain ⟨uy, rfl, ry⟩ := vals1 rs
        obtain ⟨its, rv, ⟨⟨cls, dd, data, sls⟩, n, ho, hc, hdn, hdt⟩, hlen⟩ := I.list (SqL.of hv)
        simp only at hc hdt
        subst hc hdt
        have r1 := (nested_of I d _ uy h2 d1 ry).2
        have h4 := (nesteds_of I ds _ its h1 dv rv).2
        have hmap : its.map (SeqAt.readOf s.heap) = D.pys ds := SeqAt.readsAll_map _ its [] hcl h4
        have hl : its.length = ds.length := by rw [← rv.length, dv.length]
        have rd : ∀ (m : Nat) (e : D), ds[m]? = some e → ∀ hm : m < its.toArray.size, SeqAt.readOf s.heap its.toArray[m] = e.py := by
          intro m e he hm'
          have hml : m < its.length := by simpa using hm'
          have z : (its.map (SeqAt.readOf s.heap))[m]? = some e.py := by rw [hmap, D.pys_map, List.getElem?_map, he]; rfl
          rw [List.getElem?_map, List.getElem?_eq_getElem hml] at z
          simpa using z
        have hjd := (List.getElem?_eq_some_iff.mp hj).1
        have hsz := sizeLine_eq
        have hjs : j < its.toArray.size := by simp; omega
        refine call_meets PySem.F.slot_list_index ⟨_, ho, rfl⟩ PySem.F.entry_list_index (PySem.F.args_list_index_2 _ _)
          (SeqAt.list_indexAt a its.toArray n dd sls uy (fun u => PyData.eqv (SeqAt.readOf s.heap u) d.py) j hjs (by rw [← rv.length] at hl; omega) ?_ ?_) ⟨ho, SeqAt.items_eqAt (vs := its.toArray) (by simpa using h4) r1 hcl hcd ?_, ?_⟩
        · rw [rd j d hj hjs]
          exact keyed_eqv_self d h2
        · intro m hm' hmj
          have hmd : m < ds.length := by omega
          rw [rd m _ (List.getElem?_eq_getElem hmd) hm']
          cases z : PyData.eqv (ds[m]).py d.py with
          | false => rfl
          | true =>
            have e := keyed_eqv _ _ (keyeds_all h1 _ (List.getElem_mem hmd)) h2 z
            exact absurd (by rw [List.getElem?_eq_getElem hmd, e]) (hm m hmj)
        · have := hr.r.un
          have z := Nat.min_le_right (PyData.depthAll (D.pys ds)) d.py.depth
          omega
        · exact ⟨.int (j : Nat), H, I.tok _, ⟨_, rfl⟩, kk _ S _ H q sr .refl (.int _)⟩
    · exact q.elim
  · exact q.elim
end AL

namespace AL
open PySem PySem.Spec PyProof.Rows L2

/-! ### stepping through a reading -/
section
variable {nx : Lc → Sto → Prop} {rt : DK} {bk ct : Lc → Sto → Prop} {l : Lc} {S : Sto} {Q : DK} {t u : TSa} {te tb tc : TEa} {ta : TAa} {r r' : R2a} {c c' : TTa} {g : TGa} {gs : TGsa} {K : Lc → Sto → Prop} {d e : D} {ds es : List D} {QB : Bool → Sto → Prop} {QL : List D → Sto → Prop} {i j : Nat} {n m : Int} {b : Bool} {a p : Addr} {o : Ob} {x y : Str}
theorem i_seq (h : t ⟨u ⟨nx, rt, bk, ct⟩, rt, bk, ct⟩ l S) : aSeq t u ⟨nx, rt, bk, ct⟩ l S := h
theorem i_next (h : nx l S) : aNext ⟨nx, rt, bk, ct⟩ l S := h
theorem i_break (h : bk l S) : aBreak ⟨nx, rt, bk, ct⟩ l S := h
theorem i_cont (h : ct l S) : aCont ⟨nx, rt, bk, ct⟩ l S := h
theorem i_drop (h : te l S fun _ S1 => nx l S1) : aDrop te ⟨nx, rt, bk, ct⟩ l S := h
theorem i_ret (h : te l S rt) : aRet te ⟨nx, rt, bk, ct⟩ l S := h
theorem i_retN (h : rt .non S) : aRetN ⟨nx, rt, bk, ct⟩ l S := h
theorem i_if (h : c l S fun b S1 => if b = true then t ⟨nx, rt, bk, ct⟩ l S1 else u ⟨nx, rt, bk, ct⟩ l S1) : aIfS c t u ⟨nx, rt, bk, ct⟩ l S := h
theorem i_asg (h : te l S fun x S1 => g x l S1 nx) : aAsg te g ⟨nx, rt, bk, ct⟩ l S := h
theorem i_par {i j : Nat} (h : ta l S fun vs S1 => ∃ v w, vs = [v, w] ∧ nx ((l.set i (some v)).set j (some w)) S1) : aPar i j ta ⟨nx, rt, bk, ct⟩ l S := by
  unfold aPar
  refine cast ?_ h
  congr
  funext vs S1
  refine propext ⟨fun ⟨v, w, e, q⟩ => ?_, fun q => ?_⟩
  · subst e; exact q
  · cases vs with
    | nil => exact q.elim
    | cons v vs =>
      cases vs with
      | nil => exact q.elim
      | cons w vs => cases vs with | nil => exact ⟨v, w, rfl, q⟩ | cons _ _ => exact q.elim
theorem i_aug (e : l[i]? = some (some d)) (h : te l S fun y S1 => r d y S1 fun z S2 => nx (l.set i (some z)) S2) : aAug i te r ⟨nx, rt, bk, ct⟩ l S := by
  unfold aAug; rw [e]; exact h
theorem i_for {ti : TIa} {tb : TSa} (h : ti l S fun ds st S1 => forA st g tb ds ⟨nx, rt, bk, ct⟩ l S1) : aFor ti g tb ⟨nx, rt, bk, ct⟩ l S := h
theorem i_ite {X Y : Prop} (h1 : b = true → X) (h2 : b = false → Y) : if b = true then X else Y := by
  cases b with
  | true => rw [if_pos rfl]; exact h1 rfl
  | false => rw [if_neg Bool.false_ne_true]; exact h2 rfl
theorem i_iteT {X Y : Prop} (h : X) : if true = true then X else Y := by rw [if_pos rfl]; exact h
theorem i_iteF {X Y : Prop} (h : Y) : if false = true then X else Y := by rw [if_neg Bool.false_ne_true]; exact h
-- targets
theorem i_nm (h : K (l.set i (some d)) S) : gNm i d l S K := h
theorem i_tp {k : Nat} (h : ds.length = k ∧ gs ds l S K) : gTp k gs (.tup ds) l S K := h
theorem i_gnil (h : K l S) : gNilA [] l S K := h
theorem i_gcons (h : g d l S fun l' S' => gs ds l' S' K) : gConsA g gs (d :: ds) l S K := h
theorem i_gsub (h : te l S fun o S1 => tb l S1 fun i S2 => setA o i d S2 fun S3 => K l S3) : gSubA te tb d l S K := h
-- expressions
theorem i_var (e : l[i]? = some (some d)) (h : Q d S) : aVar i l S Q := by unfold aVar; rw [e]; exact h
theorem i_c (h : Q d S) : aC d l S Q := h
theorem i_anil (h : QL [] S) : aNil l S QL := h
theorem i_acons (h : te l S fun x S1 => ta l S1 fun xs S2 => QL (x :: xs) S2) : aCons te ta l S QL := h
theorem i_tup (h : ta l S fun xs S1 => xs.length ≤ sizeLine ∧ Q (.tup xs) S1) : aTup ta l S Q := h
theorem i_lst (h : ta l S fun xs S1 => xs.length ≤ sizeLine ∧ ∀ p, S1 p = none → Q (.ref p) (put S1 p (.lst xs))) : aLst ta l S Q := h
theorem i_op (h : te l S fun x S1 => tb l S1 fun y S2 => r x y S2 Q) : aOp r te tb l S Q := h
theorem i_un {ru : D → Sto → DK → Prop} (h : te l S fun x S1 => ru x S1 Q) : aUn ru te l S Q := h
theorem i_call {rc : List D → Sto → DK → Prop} (h : ta l S fun xs S1 => rc xs S1 Q) : aCall rc ta l S Q := h
theorem i_fn {k : Nat} {F : Spa} (h : ta l S fun xs S1 => xs.length = k ∧ F xs S1 Q) : aFn k F ta l S Q := h
theorem i_chain (h : te l S fun x S1 => tb l S1 fun y S2 => r x y S2 fun z S3 => match z with
  | .bl true => tc l S3 fun w S4 => r' y w S4 Q
  | .bl false => Q (.bl false) S3
  | _ => False) : aChain r r' te tb tc l S Q := h
theorem i_chainT {f : Sto → Prop} {P : D → Prop} (h : f S) : (match (D.bl true) with
  | .bl true => f S
  | .bl false => P (.bl false)
  | _ => False) := h
theorem i_test (h : te l S fun x S1 => ∃ b, x = .bl b ∧ QB b S1) : aTest te l S QB := by
  unfold aTest
  refine cast ?_ h
  congr
  funext x S1
  refine propext ⟨fun ⟨b, e, q⟩ => by subst e; exact q, fun q => ?_⟩
  cases x <;> first | exact ⟨_, rfl, q⟩ | exact q.elim
theorem i_and (h : c l S fun b S1 => if b = true then c' l S1 QB else QB false S1) : aAnd c c' l S QB := h
theorem i_or (h : c l S fun b S1 => if b = true then QB true S1 else c' l S1 QB) : aOr c c' l S QB := h
theorem i_not (h : c l S fun b S1 => QB (!b) S1) : aNot c l S QB := h
theorem i_ifx (h : c l S fun b S1 => if b = true then te l S1 Q else tb l S1 Q) : aIf c te tb l S Q := h
theorem i_andV (h : te l S fun x S1 => ∃ b, x = .bl b ∧ (if b = true then tb l S1 Q else Q (.bl false) S1)) : aAndV te tb l S Q := by
  unfold aAndV
  refine cast ?_ h
  congr
  funext x S1
  refine propext ⟨fun ⟨b, e, q⟩ => ?_, fun q => ?_⟩
  · subst e
    cases b with
    | true => rw [if_pos rfl] at q; exact q
    | false => rw [if_neg Bool.false_ne_true] at q; exact q
  · cases x with
    | bl b => cases b with
      | true => exact ⟨true, rfl, i_iteT q⟩
      | false => exact ⟨false, rfl, i_iteF q⟩
    | _ => exact q.elim
theorem i_orV (h : te l S fun x S1 => ∃ b, x = .bl b ∧ (if b = true then Q (.bl true) S1 else tb l S1 Q)) : aOrV te tb l S Q := by
  unfold aOrV
  refine cast ?_ h
  congr
  funext x S1
  refine propext ⟨fun ⟨b, e, q⟩ => ?_, fun q => ?_⟩
  · subst e
    cases b with
    | true => rw [if_pos rfl] at q; exact q
    | false => rw [if_neg Bool.false_ne_true] at q; exact q
  · cases x with
    | bl b => cases b with
      | true => exact ⟨true, rfl, i_iteT q⟩
      | false => exact ⟨false, rfl, i_iteF q⟩
    | _ => exact q.elim
theorem i_notV (h : te l S fun x S1 => ∃ b, x = .bl b ∧ Q (.bl (!b)) S1) : aNotV te l S Q := by
  unfold aNotV
  refine cast ?_ h
  congr
  funext x S1
  refine propext ⟨fun ⟨b, e, q⟩ => by subst e; exact q, fun q => ?_⟩
  cases x <;> first | exact ⟨_, rfl, q⟩ | exact q.elim
theorem i_meth {T : String} {rm : D → List D → Sto → DK → Prop} (h : te l S fun x S1 => tyA T x S1 ∧ ta l S1 fun xs S2 => rm x xs S2 Q) : aMeth T rm te ta l S Q := h
theorem i_sl {tl th : TOa} (h : te l S fun x S1 => tl l S1 fun lo S2 => th l S2 fun hi S3 => slA x lo hi S3 Q) : aSl te tl th l S Q := h
theorem i_nopart {QO : Option Int → Sto → Prop} (h : QO none S) : aNoPart l S QO := h
theorem i_part {QO : Option Int → Sto → Prop} (h : te l S fun x S1 => ∃ i, x = .int i ∧ QO (some i) S1) : aPart te l S QO := by
  unfold aPart
  refine cast ?_ h
  congr
  funext x S1
  refine propext ⟨fun ⟨b, e, q⟩ => by subst e; exact q, fun q => ?_⟩
  cases x <;> first | exact ⟨_, rfl, q⟩ | exact q.elim
theorem i_revL (h : te l S fun x S1 => ∃ a ds, x = .ref a ∧ S1 a = some (.lst ds) ∧ ∀ p, S1 p = none → Q (.ref p) (put S1 p (.lst ds.reverse))) : aRevL te l S Q := by
  unfold aRevL
  refine cast ?_ h
  congr
  funext x S1
  refine propext ⟨fun ⟨a, ds, e, e2, q⟩ => ?_, fun q => ?_⟩
  · subst e; dsimp only; rw [e2]; exact q
  · split at q
    · split at q
      · exact ⟨_, _, rfl, by assumption, q⟩
      · exact q.elim
    · exact q.elim
theorem i_sortKey {F : Spa} (h : te l S fun x S1 => sortKeyA F x S1 Q) : aSortKey F te l S Q := h
theorem i_sortSet (h : te l S fun x S1 => sortSetA x S1 Q) : aSortSet te l S Q := h
theorem i_dik0 (h : ∀ p, S p = none → Q (.ref p) (put S p (.dik []))) : aDik0 l S Q := h
-- sources
theorem i_rg1 {R : List D → (Sto → Prop) → Sto → Prop} (h : ta l S fun xs S1 => ∃ j : Int, xs = [.int j] ∧ (-(2 ^ 62) ≤ j ∧ j < 2 ^ 62) ∧ R (intsD 0 j.toNat) (fun _ => True) S1) : iRg1 ta l S R := by
  unfold iRg1
  refine cast ?_ h
  congr
  funext xs S1
  refine propext ⟨fun ⟨j, e, q⟩ => by subst e; exact q, fun q => ?_⟩
  split at q
  · exact ⟨_, rfl, q⟩
  · exact q.elim
theorem i_seqS {R : List D → (Sto → Prop) → Sto → Prop} (h : te l S fun d S1 => seqA d S1 fun ds st => R ds st S1) : iSeq te l S R := h
theorem i_revR {R : List D → (Sto → Prop) → Sto → Prop} (h : te l S fun d S1 => ∃ j : Int, d = .int j ∧ (-(2 ^ 62) ≤ j ∧ j < 2 ^ 62) ∧ R (downD j.toNat) (fun _ => True) S1) : iRevR1 te l S R := by
  unfold iRevR1
  refine cast ?_ h
  congr
  funext x S1
  refine propext ⟨fun ⟨b, e, q⟩ => by subst e; exact q, fun q => ?_⟩
  cases x <;> first | exact ⟨_, rfl, q⟩ | exact q.elim
theorem i_lc {ti : TIa} {vs : List Nat} (h : ti l S fun ds st S1 => lcA st g c te (wipeA l vs) (fun acc S2 => ∀ p, S2 p = none → Q (.ref p) (put S2 p (.lst acc))) ds [] S1) : aLc ti g c te vs l S Q := h
theorem i_yes (h : QB true S) : aYes l S QB := h
-- by values
theorem i_seqL {R : List D → (Sto → Prop) → Prop} (e : S a = some (.lst ds)) (h : R ds fun S' => S' a = some (.lst ds)) : seqA (.ref a) S R := by unfold seqA; dsimp only; rw [e]; exact h
theorem i_seqT {R : List D → (Sto → Prop) → Prop} (h : R ds fun _ => True) : seqA (.tup ds) S R := h
theorem i_seqX {R : List D → (Sto → Prop) → Prop} (h : R (chars x) fun _ => True) : seqA (.str x) S R := h
theorem i_ixT (e : atI ds n = some d) (h : Q d S) : ixA (.tup ds) (.int n) S Q := by unfold ixA; dsimp only; rw [e]; exact h
theorem i_ixL (e : S a = some (.lst ds)) (e2 : atI ds n = some d) (h : Q d S) : ixA (.ref a) (.int n) S Q := by unfold ixA; dsimp only; rw [e]; dsimp only; rw [e2]; exact h
theorem i_ixX {cp : Nat} (hz : x.length ≤ sizeLine) (e : atI x.cps.toList n = some cp) (h : Q (.str ⟨#[cp]⟩) S) : ixA (.str x) (.int n) S Q := by unfold ixA; dsimp only; rw [e]; exact ⟨hz, h⟩
theorem i_ixD {kvs : List (Key × D)} {k : Key} (e : S a = some (.dik kvs)) (ek : keyD d = some k) (ev : kvD kvs k = some y') (h : Q y' S) : ixA (.ref a) d S Q := by
  unfold ixA; dsimp only; rw [e]; dsimp only; rw [ek]; show (match kvD kvs k with | some d => Q d S | none => False); rw [ev]; exact h
theorem i_setL (e : S a = some (.lst ds)) (e2 : ixN ds.length n = some j) {KS : Sto → Prop} (h : KS (put S a (.lst (ds.set j d)))) : setA (.ref a) (.int n) d S KS := by unfold setA; dsimp only; rw [e]; dsimp only; rw [e2]; exact h
theorem i_setD {kvs : List (Key × D)} {k : Key} (e : S a = some (.dik kvs)) (ek : keyD es' = some k) (hz : kvs.length < sizeLine) {KS : Sto → Prop} (h : KS (put S a (.dik (putD kvs k d)))) : setA (.ref a) es' d S KS := by unfold setA; dsimp only; rw [e]; dsimp only; rw [ek]; exact ⟨hz, h⟩
theorem i_addI (h : Q (.int (n + m)) S) : addA (.int n) (.int m) S Q := h
theorem i_addX (hz : x.length + y.length ≤ sizeLine) (h : Q (.str (x ++ y)) S) : addA (.str x) (.str y) S Q := ⟨hz, h⟩
theorem i_addT (hz : ds.length + es.length ≤ sizeLine) (h : Q (.tup (ds ++ es)) S) : addA (.tup ds) (.tup es) S Q := ⟨hz, h⟩
theorem i_addL (e1 : S a = some (.lst ds)) (e2 : S p = some (.lst es)) (hz : ds.length + es.length ≤ sizeLine) (h : ∀ r, S r = none → Q (.ref r) (put S r (.lst (ds ++ es)))) : addA (.ref a) (.ref p) S Q := by unfold addA; dsimp only; rw [e1, e2]; exact ⟨hz, h⟩
theorem i_subI (h : Q (.int (n - m)) S) : subA (.int n) (.int m) S Q := h
theorem i_mulI (hz : (-(2 ^ 64) < n ∧ n < 2 ^ 64) ∨ (-(2 ^ 64) < m ∧ m < 2 ^ 64)) (h : Q (.int (n * m)) S) : mulA (.int n) (.int m) S Q := ⟨hz, h⟩
theorem i_mulL (e : S a = some (.lst ds)) (h1 : n < 2 ^ 63) (h2 : -(2 ^ 63) ≤ n) (hz : ds.length * n.toNat ≤ sizeLine) (h : ∀ r, S r = none → Q (.ref r) (put S r (.lst (List.replicate n.toNat ds).flatten))) : mulA (.ref a) (.int n) S Q := by
  unfold mulA; dsimp only; rw [e]; exact ⟨h1, h2, hz, h⟩
theorem i_modI (hz : 0 < m) (h : Q (.int (n % m)) S) : modA (.int n) (.int m) S Q := ⟨hz, h⟩
theorem i_divI (hz : CDivW n m) (h : Q (.int (n / m)) S) : divW (.int n) (.int m) S Q := ⟨hz, h⟩
theorem i_powI (hz : CPow n m) (h : Q (.int (n ^ m.toNat)) S) : powA (.int n) (.int m) S Q := ⟨hz, h⟩
theorem i_negI (h : Q (.int (-n)) S) : negA (.int n) S Q := h
theorem i_iaddI (h : Q (.int (n + m)) S) : iaddA (.int n) (.int m) S Q := h
theorem i_eqI (h : Q (.bl (decide (n = m))) S) : eqA (.int n) (.int m) S Q := h
theorem i_neI (h : Q (.bl (!decide (n = m))) S) : neA (.int n) (.int m) S Q := h
theorem i_eqX (h : Q (.bl (decide (x = y))) S) : eqA (.str x) (.str y) S Q := h
theorem i_neX (h : Q (.bl (!decide (x = y))) S) : neA (.str x) (.str y) S Q := h
theorem i_ltI (h : Q (.bl (decide (n < m))) S) : ltA (.int n) (.int m) S Q := h
theorem i_gtI (h : Q (.bl (decide (m < n))) S) : gtA (.int n) (.int m) S Q := h
theorem i_leI (h : Q (.bl (decide (n ≤ m))) S) : leA (.int n) (.int m) S Q := h
theorem i_geI (h : Q (.bl (decide (m ≤ n))) S) : geA (.int n) (.int m) S Q := h
theorem i_lenX (hz : x.length ≤ sizeLine) (h : Q (.int x.length) S) : lenA [.str x] S Q := ⟨hz, h⟩
theorem i_lenT (h : Q (.int ds.length) S) : lenA [.tup ds] S Q := h
theorem i_lenL (e : S a = some (.lst ds)) (h : Q (.int ds.length) S) : lenA [.ref a] S Q := by unfold lenA; dsimp only; rw [e]; exact h
theorem i_absI (h : Q (.int (if n < 0 then -n else n)) S) : absA [.int n] S Q := h
theorem i_intI (h : Q (.int n) S) : intA [.int n] S Q := h
theorem i_sumL {ns : List Int} (e : S a = some (.lst (ns.map D.int))) (h : Q (.int ns.sum) S) : sumA [.ref a] S Q := by unfold sumA; dsimp only; rw [e]; exact ⟨ns, rfl, h⟩
theorem i_tupL (e : S a = some (.lst ds)) (h : Q (.tup ds) S) : tupleA [.ref a] S Q := by unfold tupleA; dsimp only; rw [e]; exact h
theorem i_lstL (e : S a = some (.lst ds)) (h : ∀ p, S p = none → Q (.ref p) (put S p (.lst ds))) : listA [.ref a] S Q := by unfold listA; dsimp only; rw [e]; exact h
theorem i_lstT (h : ∀ p, S p = none → Q (.ref p) (put S p (.lst ds))) : listA [.tup ds] S Q := h
theorem i_append (e : S a = some (.lst ds)) (hz : ds.length < sizeLine) (h : Q .non (put S a (.lst (ds ++ [d])))) : appendA (.ref a) [d] S Q := by unfold appendA; dsimp only; rw [e]; exact ⟨hz, h⟩
theorem i_extend (e : S a = some (.lst ds)) (e2 : S p = some (.lst es)) (hz : ds.length + es.length ≤ sizeLine) (h : Q .non (put S a (.lst (ds ++ es)))) : extendA (.ref a) [.ref p] S Q := by unfold extendA; dsimp only; rw [e, e2]; exact ⟨hz, h⟩
theorem i_pop (e : S a = some (.lst ds)) (e2 : ds[ds.length - 1]? = some d) (h : Q d (put S a (.lst ds.dropLast))) : popA (.ref a) [] S Q := by unfold popA; dsimp only; rw [e]; dsimp only; rw [e2]; exact h
theorem i_join {ys : List Str} (e : S p = some (.lst (ys.map D.str))) (hz : (ys.map (·.length)).sum + ys.length * x.length ≤ 16777216) (h : Q (.str (Txt.join x ys)) S) : joinA (.str x) [.ref p] S Q := by unfold joinA; dsimp only; rw [e]; exact ⟨ys, rfl, hz, h⟩
theorem i_tyS : tyA "str" (.str x) S := rfl
theorem i_tyL (e : S a = some (.lst ds)) : tyA "list" (.ref a) S := by unfold tyA; dsimp only; rw [e]
theorem i_tyD {kvs : List (Key × D)} (e : S a = some (.dik kvs)) : tyA "dict" (.ref a) S := by unfold tyA; dsimp only; rw [e]
theorem i_slT {lo hi : Option Int} (h : Q (.tup (cutD ds lo hi)) S) : slA (.tup ds) lo hi S Q := h
theorem i_slR {lo hi : Option Int} (h : ∀ p, S p = none → Q (.ref p) (put S p (.lst (cutD ds lo hi)))) : slA (.rol ds) lo hi S Q := h
theorem i_slL {lo hi : Option Int} (e : S a = some (.lst ds)) (h : ∀ p, S p = none → Q (.ref p) (put S p (.lst (cutD ds lo hi)))) : slA (.ref a) lo hi S Q := by unfold slA; dsimp only; rw [e]; exact h
end
/-! ### loops -/
section
variable {nx : Lc → Sto → Prop} {rt : DK} {bk ct : Lc → Sto → Prop} {l : Lc} {S : Sto} {Q : DK}
/-- a for loop by an invariant of the number of turns done -/
theorem for_inv {st : Sto → Prop} {g : TGa} {tb : TSa} {ds : List D} (P : Nat → Lc → Sto → Prop) (h0 : P 0 l S) (hst : ∀ i l S, i ≤ ds.length → P i l S → st S)
    (step : ∀ i d l S (K : Lc → Sto → Prop), ds[i]? = some d → P i l S → (∀ l' S', P (i + 1) l' S' → K l' S') → g d l S fun l' S' => tb ⟨K, rt, nx, K⟩ l' S') (fin : ∀ l S, P ds.length l S → nx l S) :
    forA st g tb ds ⟨nx, rt, bk, ct⟩ l S := by
  have key : ∀ (k i : Nat) (l : Lc) (S : Sto), i + k = ds.length → P i l S → forA st g tb (ds.drop i) ⟨nx, rt, bk, ct⟩ l S := by
    intro k
    induction k with
    | zero =>
      intro i l S e p
      have e' : i = ds.length := by omega
      subst e'
      rw [List.drop_length]
      exact ⟨hst _ l S (Nat.le_refl _) p, fin l S p⟩
    | succ k ih =>
      intro i l S e p
      have hi : i < ds.length := by omega
      rw [List.drop_eq_getElem_cons hi]
      exact ⟨hst i l S (by omega) p, step i _ l S _ (List.getElem?_eq_getElem hi) p fun l2 S2 h2 => ih (i + 1) l2 S2 (by omega) h2⟩
  have := key ds.length 0 l S (by omega) h0
  rwa [List.drop_zero] at this
/-- a list comprehension by an invariant of the number of turns done and what is gathered -/
theorem lc_inv {st : Sto → Prop} {g : TGa} {tt : TTa} {te : TEa} {ds : List D} {QL : List D → Sto → Prop} (P : Nat → List D → Sto → Prop) (h0 : P 0 [] S) (hst : ∀ i acc S, i ≤ ds.length → P i acc S → st S)
    (step : ∀ i d acc S (K : List D → Sto → Prop), ds[i]? = some d → P i acc S → (∀ acc' S', P (i + 1) acc' S' → K acc' S') → g d l S fun l2 S2 => tt l2 S2 fun b S3 => if b = true then te l2 S3 fun y S4 => acc.length < sizeLine ∧ K (acc ++ [y]) S4 else K acc S3)
    (fin : ∀ acc S, P ds.length acc S → QL acc S) : lcA st g tt te l QL ds [] S := by
  have key : ∀ (k i : Nat) (acc : List D) (S : Sto), i + k = ds.length → P i acc S → lcA st g tt te l QL (ds.drop i) acc S := by
    intro k
    induction k with
    | zero =>
      intro i acc S e p
      have e' : i = ds.length := by omega
      subst e'
      rw [List.drop_length]
      exact ⟨hst _ acc S (Nat.le_refl _) p, fin acc S p⟩
    | succ k ih =>
      intro i acc S e p
      have hi : i < ds.length := by omega
      rw [List.drop_eq_getElem_cons hi]
      exact ⟨hst i acc S (by omega) p, step i _ acc S _ (List.getElem?_eq_getElem hi) p fun l2 S2 h2 => ih (i + 1) l2 S2 (by omega) h2⟩
  have := key ds.length 0 [] S (by omega) h0
  rwa [List.drop_zero] at this
/-- a while loop by an invariant with a measure -/
theorem i_while {c : TTa} {tb : TSa} (W : Nat → Lc → Sto → Prop) (m : Nat) (h0 : W m l S)
    (step : ∀ m l S, W m l S → c l S fun b S1 => if b = true then tb ⟨fun l' S' => ∃ m', m' < m ∧ W m' l' S', rt, nx, fun l' S' => ∃ m', m' < m ∧ W m' l' S'⟩ l S1 else nx l S1) : aWhile c tb ⟨nx, rt, bk, ct⟩ l S := ⟨W, ⟨m, h0⟩, step⟩
end
end AL

namespace AL
open PySem PySem.Spec PyProof.Rows L2

/-- all but the deck is kept -/
def Ext (a c : Addr) (S S' : Sto) : Prop := ∀ b o, S b = some o → b ≠ a → b ≠ c → S' b = some o
theorem Ext.refl {a c : Addr} {S : Sto} : Ext a c S S := fun _ _ h _ _ => h
theorem Ext.trans {a c : Addr} {S S1 S2 : Sto} (x : Ext a c S S1) (y : Ext a c S1 S2) : Ext a c S S2 := fun b o h h1 h2 => y b o (x b o h h1 h2) h1 h2
theorem Ext.new {a c p : Addr} {S : Sto} {o : Ob} (h : S p = none) : Ext a c S (put S p o) := fun b u e _ _ => by
  rw [put_ne (fun z => by subst z; rw [h] at e; cases e)]; exact e
/-- the law's deck: cells and a count of draws, k at most -/
def Deck (S : Sto) (a c : Addr) (k : Nat) : Prop := a ≠ c ∧ ∃ (cs : List Int) (n : Int), S a = some (.lst [.ref c, .int n]) ∧ S c = some (.lst (cs.map D.int)) ∧ (∀ z ∈ cs, 0 ≤ z) ∧ cs.length ≤ 63 ∧ 0 ≤ n ∧ n ≤ k
theorem Deck.mono {S : Sto} {a c : Addr} {j k : Nat} (h : Deck S a c j) (hj : j ≤ k) : Deck S a c k := by
  obtain ⟨h1, cs, n, h2, h3, h4, h5, h6, h7⟩ := h
  exact ⟨h1, cs, n, h2, h3, h4, h5, h6, by omega⟩
theorem Deck.ne {S : Sto} {a c p : Addr} {k : Nat} (h : Deck S a c k) (hp : S p = none) : p ≠ a ∧ p ≠ c := by
  obtain ⟨h1, cs, n, h2, h3, _⟩ := h
  constructor
  · intro e; subst e; rw [hp] at h2; cases h2
  · intro e; subst e; rw [hp] at h3; cases h3
theorem Deck.new {S : Sto} {a c p : Addr} {k : Nat} {o : Ob} (h : Deck S a c k) (hp : S p = none) : Deck (put S p o) a c k := by
  obtain ⟨n1, n2⟩ := h.ne hp
  obtain ⟨h1, cs, n, h2, h3, r⟩ := h
  exact ⟨h1, cs, n, by rw [put_ne n1.symm]; exact h2, by rw [put_ne n2.symm]; exact h3, r⟩
theorem Deck.chg {S : Sto} {a c p : Addr} {k : Nat} {o : Ob} (h : Deck S a c k) (n1 : p ≠ a) (n2 : p ≠ c) : Deck (put S p o) a c k := by
  obtain ⟨h1, cs, n, h2, h3, r⟩ := h
  exact ⟨h1, cs, n, by rw [put_ne n1.symm]; exact h2, by rw [put_ne n2.symm]; exact h3, r⟩
theorem Keeps.new {p : Addr} {S : Sto} {o : Ob} (h : S p = none) : Keeps S (put S p o) := fun b u e => by
  rw [put_ne (fun z => by subst z; rw [h] at e; cases e)]; exact e

def sp_law_draw : Spa := fun ds S Q => ∃ a c k m, ds = [.ref a, .int m] ∧ Deck S a c k ∧ k < 1000000000 ∧ 0 < m ∧ m < 1000000000000 ∧
  ∀ r S', 0 ≤ r → r < m → Ext a c S S' → Deck S' a c (k + 1) → Q (.int r) S'
def sp_law_deck : Spa := fun ds S Q => ∃ ns : List Int, ds = [.rol (ns.map D.int)] ∧ ∀ a c S', Keeps S S' → S a = none → S c = none → Deck S' a c 0 → Q (.ref a) S'

def n_law_draw : List Str := ["_law_deck_here", "_law_many", "_law_mixed", "_law_cell", "_law_at"]
def r_law_draw : TSa :=
  (aSeq (aIfS (aTest (aOp geA (aVar 3) (aOp powA (aC (.int 10)) (aC (.int 18))))) (aSeq (aAsg (aOp divW (aCall intA (aCons (aVar 3) aNil)) (aVar 1)) (gSubA (aOp ixA (aVar 0) (aC (.int 0))) (aVar 4)))
  (aRet (aOp modA (aCall intA (aCons (aVar 3) aNil)) (aVar 1)))) aNext)
  (aSeq (aAsg (aOp addA (aOp addA (aOp modA (aCall intA (aCons (aVar 3) aNil)) (aC (.int 2147483563))) (aOp mulA (aC (.int 8117)) (aOp ixA (aVar 0) (aC (.int 1))))) (aC (.int 3))) (gNm 2))
  (aRet (aOp modA (aCall intA (aCons (aOp modA (aCall intA (aCons (aOp powA (aVar 2) (aC (.int 5))) aNil)) (aC (.int 2147483629))) aNil)) (aVar 1)))))
def t_law_draw : TSa :=
  (aSeq (aAsg (aOp addA (aOp ixA (aVar 0) (aC (.int 1))) (aC (.int 1))) (gSubA (aVar 0) (aC (.int 1))))
  (aSeq (aAsg (aTup (aCons (aC (.int 0)) (aCons (aUn negA (aC (.int 1))) aNil))) (gTp 2 (gConsA (gNm 3) (gConsA (gNm 4) gNilA))))
  (aSeq (aIfS (aTest (aOp gtA (aCall lenA (aCons (aOp ixA (aVar 0) (aC (.int 0))) aNil)) (aC (.int 0)))) (aSeq (aAsg (aOp modA (aCall intA (aCons (aOp ixA (aVar 0) (aC (.int 1))) aNil)) (aCall lenA (aCons (aOp ixA (aVar 0) (aC (.int 0))) aNil))) (gNm 4))
  (aAsg (aOp ixA (aOp ixA (aVar 0) (aC (.int 0))) (aVar 4)) (gNm 3))) aNext)
  r_law_draw)))

theorem atI_in {α : Type} {xs : List α} {i : Int} (h0 : 0 ≤ i) (h1 : i < xs.length) : ∃ x, atI xs i = some x ∧ x ∈ xs ∧ ixN xs.length i = some i.toNat ∧ xs[i.toNat]? = some x := by
  have hn : i.toNat < xs.length := by omega
  have e : ixN xs.length i = some i.toNat := by
    unfold ixN
    rw [if_pos h0, if_pos (by omega)]
  exact ⟨xs[i.toNat], by unfold atI; rw [e]; exact List.getElem?_eq_getElem hn, List.getElem_mem hn, e, List.getElem?_eq_getElem hn⟩
theorem draw_end {S S1 : Sto} {a c : Addr} {k : Nat} {m : Int} {Q : DK} {cs : List Int} {n mixed : Int} (hac : a ≠ c) (ha : S1 a = some (.lst [.ref c, .int n])) (hc : S1 c = some (.lst (cs.map D.int))) (hpos : ∀ z ∈ cs, 0 ≤ z) (hl : cs.length ≤ 63) (hn0 : 0 ≤ n) (hnk : n ≤ ((k + 1 : Nat) : Int)) (hm0 : 0 < m)
    (hx : Ext a c S S1) (q : ∀ r S', 0 ≤ r → r < m → Ext a c S S' → Deck S' a c (k + 1) → Q (.int r) S') : Q (.int (mixed % m)) S1 :=
  q _ _ (Int.emod_nonneg _ (by omega)) (Int.emod_lt_of_pos _ hm0) hx ⟨hac, cs, n, ha, hc, hpos, hl, hn0, hnk⟩
theorem pl_law_draw : ∀ ds S Q, ds.length = 2 → sp_law_draw ds S Q → semA n_law_draw t_law_draw ds S Q := by
  rintro ds S Q _ ⟨a, c, k, m, rfl, ⟨hac, cs, n, ha, hc, hpos, hl, hn0, hnk⟩, hk, hm0, hm1, q⟩
  unfold semA t_law_draw
  (repeat (with_reducible (first | refine i_seq ?_ | refine i_next ?_ | refine i_break ?_ | refine i_cont ?_ | refine i_drop ?_ | refine i_ret ?_ | refine i_retN ?_ | refine i_if ?_ | refine i_asg ?_ | refine i_par ?_ | refine i_for ?_ | refine i_nm ?_ | refine i_tp ?_ | refine i_gcons ?_ | refine i_gnil ?_ | refine i_gsub ?_ | refine i_c ?_ | refine i_anil ?_ | refine i_acons ?_ | refine i_tup ?_ | refine i_lst ?_ | refine i_op ?_ | refine i_un ?_ | refine i_call ?_ | refine i_fn ?_ | refine i_test ?_ | refine i_and ?_ | refine i_or ?_ | refine i_not ?_ | refine i_ifx ?_ | refine i_andV ?_ | refine i_orV ?_ | refine i_notV ?_ | refine i_meth ?_ | refine i_sl ?_ | refine i_nopart ?_ | refine i_part ?_ | refine i_revL ?_ | refine i_sortKey ?_ | refine i_sortSet ?_ | refine i_rg1 ?_ | refine i_seqS ?_ | refine i_revR ?_ | refine i_lc ?_ | refine i_yes ?_ | refine i_seqT ?_ | refine i_seqX ?_ | refine i_addI ?_ | refine i_subI ?_ | refine i_negI ?_ | refine i_iaddI ?_ | refine i_eqI ?_ | refine i_neI ?_ | refine i_eqX ?_ | refine i_neX ?_ | refine i_ltI ?_ | refine i_gtI ?_ | refine i_leI ?_ | refine i_geI ?_ | refine i_lenT ?_ | refine i_absI ?_ | refine i_intI ?_ | refine i_lstT ?_ | refine i_slT ?_ | refine i_iteT ?_ | refine i_iteF ?_ | refine i_var (by with_unfolding_all rfl) ?_ | refine i_aug (by with_unfolding_all rfl) ?_ | refine i_ixT (by with_unfolding_all rfl) ?_ | refine ⟨_, _, rfl, ?_⟩ | refine ⟨_, rfl, ?_⟩ | refine ⟨rfl, ?_⟩ | refine ⟨i_tyS, ?_⟩)))
  refine i_ixL ha rfl ?_
  (repeat (with_reducible (first | refine i_seq ?_ | refine i_next ?_ | refine i_break ?_ | refine i_cont ?_ | refine i_drop ?_ | refine i_ret ?_ | refine i_retN ?_ | refine i_if ?_ | refine i_asg ?_ | refine i_par ?_ | refine i_for ?_ | refine i_nm ?_ | refine i_tp ?_ | refine i_gcons ?_ | refine i_gnil ?_ | refine i_gsub ?_ | refine i_c ?_ | refine i_anil ?_ | refine i_acons ?_ | refine i_tup ?_ | refine i_lst ?_ | refine i_op ?_ | refine i_un ?_ | refine i_call ?_ | refine i_fn ?_ | refine i_test ?_ | refine i_and ?_ | refine i_or ?_ | refine i_not ?_ | refine i_ifx ?_ | refine i_andV ?_ | refine i_orV ?_ | refine i_notV ?_ | refine i_meth ?_ | refine i_sl ?_ | refine i_nopart ?_ | refine i_part ?_ | refine i_revL ?_ | refine i_sortKey ?_ | refine i_sortSet ?_ | refine i_rg1 ?_ | refine i_seqS ?_ | refine i_revR ?_ | refine i_lc ?_ | refine i_yes ?_ | refine i_seqT ?_ | refine i_seqX ?_ | refine i_addI ?_ | refine i_subI ?_ | refine i_negI ?_ | refine i_iaddI ?_ | refine i_eqI ?_ | refine i_neI ?_ | refine i_eqX ?_ | refine i_neX ?_ | refine i_ltI ?_ | refine i_gtI ?_ | refine i_leI ?_ | refine i_geI ?_ | refine i_lenT ?_ | refine i_absI ?_ | refine i_intI ?_ | refine i_lstT ?_ | refine i_slT ?_ | refine i_iteT ?_ | refine i_iteF ?_ | refine i_var (by with_unfolding_all rfl) ?_ | refine i_aug (by with_unfolding_all rfl) ?_ | refine i_ixT (by with_unfolding_all rfl) ?_ | refine ⟨_, _, rfl, ?_⟩ | refine ⟨_, rfl, ?_⟩ | refine ⟨rfl, ?_⟩ | refine ⟨i_tyS, ?_⟩)))
  refine i_setL ha rfl ?_
  generalize hS1 : put S a (.lst ([D.ref c, D.int n].set (Int.toNat 1) (D.int (n + 1)))) = S1
  have ha1 : S1 a = some (.lst [.ref c, .int (n + 1)]) := by rw [← hS1, put_same]; rfl
  have hc1 : S1 c = some (.lst (cs.map D.int)) := by rw [← hS1, put_ne hac.symm]; exact hc
  have hx1 : Ext a c S S1 := fun b o e h1 h2 => by rw [← hS1, put_ne h1]; exact e
  clear hS1
  have hlen : (cs.map D.int).length = cs.length := List.length_map _
  (repeat (with_reducible (first | refine i_seq ?_ | refine i_next ?_ | refine i_break ?_ | refine i_cont ?_ | refine i_drop ?_ | refine i_ret ?_ | refine i_retN ?_ | refine i_if ?_ | refine i_asg ?_ | refine i_par ?_ | refine i_for ?_ | refine i_nm ?_ | refine i_tp ?_ | refine i_gcons ?_ | refine i_gnil ?_ | refine i_gsub ?_ | refine i_c ?_ | refine i_anil ?_ | refine i_acons ?_ | refine i_tup ?_ | refine i_lst ?_ | refine i_op ?_ | refine i_un ?_ | refine i_call ?_ | refine i_fn ?_ | refine i_test ?_ | refine i_and ?_ | refine i_or ?_ | refine i_not ?_ | refine i_ifx ?_ | refine i_andV ?_ | refine i_orV ?_ | refine i_notV ?_ | refine i_meth ?_ | refine i_sl ?_ | refine i_nopart ?_ | refine i_part ?_ | refine i_revL ?_ | refine i_sortKey ?_ | refine i_sortSet ?_ | refine i_rg1 ?_ | refine i_seqS ?_ | refine i_revR ?_ | refine i_lc ?_ | refine i_yes ?_ | refine i_seqT ?_ | refine i_seqX ?_ | refine i_addI ?_ | refine i_subI ?_ | refine i_negI ?_ | refine i_iaddI ?_ | refine i_eqI ?_ | refine i_neI ?_ | refine i_eqX ?_ | refine i_neX ?_ | refine i_ltI ?_ | refine i_gtI ?_ | refine i_leI ?_ | refine i_geI ?_ | refine i_lenT ?_ | refine i_absI ?_ | refine i_intI ?_ | refine i_lstT ?_ | refine i_slT ?_ | refine i_iteT ?_ | refine i_iteF ?_ | refine i_var (by with_unfolding_all rfl) ?_ | refine i_aug (by with_unfolding_all rfl) ?_ | refine i_ixT (by with_unfolding_all rfl) ?_ | refine ⟨_, _, rfl, ?_⟩ | refine ⟨_, rfl, ?_⟩ | refine ⟨rfl, ?_⟩ | refine ⟨i_tyS, ?_⟩)))
  refine ⟨by simp [sizeLine_eq], ?_⟩
  (repeat (with_reducible (first | refine i_seq ?_ | refine i_next ?_ | refine i_break ?_ | refine i_cont ?_ | refine i_drop ?_ | refine i_ret ?_ | refine i_retN ?_ | refine i_if ?_ | refine i_asg ?_ | refine i_par ?_ | refine i_for ?_ | refine i_nm ?_ | refine i_tp ?_ | refine i_gcons ?_ | refine i_gnil ?_ | refine i_gsub ?_ | refine i_c ?_ | refine i_anil ?_ | refine i_acons ?_ | refine i_tup ?_ | refine i_lst ?_ | refine i_op ?_ | refine i_un ?_ | refine i_call ?_ | refine i_fn ?_ | refine i_test ?_ | refine i_and ?_ | refine i_or ?_ | refine i_not ?_ | refine i_ifx ?_ | refine i_andV ?_ | refine i_orV ?_ | refine i_notV ?_ | refine i_meth ?_ | refine i_sl ?_ | refine i_nopart ?_ | refine i_part ?_ | refine i_revL ?_ | refine i_sortKey ?_ | refine i_sortSet ?_ | refine i_rg1 ?_ | refine i_seqS ?_ | refine i_revR ?_ | refine i_lc ?_ | refine i_yes ?_ | refine i_seqT ?_ | refine i_seqX ?_ | refine i_addI ?_ | refine i_subI ?_ | refine i_negI ?_ | refine i_iaddI ?_ | refine i_eqI ?_ | refine i_neI ?_ | refine i_eqX ?_ | refine i_neX ?_ | refine i_ltI ?_ | refine i_gtI ?_ | refine i_leI ?_ | refine i_geI ?_ | refine i_lenT ?_ | refine i_absI ?_ | refine i_intI ?_ | refine i_lstT ?_ | refine i_slT ?_ | refine i_iteT ?_ | refine i_iteF ?_ | refine i_var (by with_unfolding_all rfl) ?_ | refine i_aug (by with_unfolding_all rfl) ?_ | refine i_ixT (by with_unfolding_all rfl) ?_ | refine ⟨_, _, rfl, ?_⟩ | refine ⟨_, rfl, ?_⟩ | refine ⟨rfl, ?_⟩ | refine ⟨i_tyS, ?_⟩)))
  refine i_ixL ha1 rfl ?_
  (repeat (with_reducible (first | refine i_seq ?_ | refine i_next ?_ | refine i_break ?_ | refine i_cont ?_ | refine i_drop ?_ | refine i_ret ?_ | refine i_retN ?_ | refine i_if ?_ | refine i_asg ?_ | refine i_par ?_ | refine i_for ?_ | refine i_nm ?_ | refine i_tp ?_ | refine i_gcons ?_ | refine i_gnil ?_ | refine i_gsub ?_ | refine i_c ?_ | refine i_anil ?_ | refine i_acons ?_ | refine i_tup ?_ | refine i_lst ?_ | refine i_op ?_ | refine i_un ?_ | refine i_call ?_ | refine i_fn ?_ | refine i_test ?_ | refine i_and ?_ | refine i_or ?_ | refine i_not ?_ | refine i_ifx ?_ | refine i_andV ?_ | refine i_orV ?_ | refine i_notV ?_ | refine i_meth ?_ | refine i_sl ?_ | refine i_nopart ?_ | refine i_part ?_ | refine i_revL ?_ | refine i_sortKey ?_ | refine i_sortSet ?_ | refine i_rg1 ?_ | refine i_seqS ?_ | refine i_revR ?_ | refine i_lc ?_ | refine i_yes ?_ | refine i_seqT ?_ | refine i_seqX ?_ | refine i_addI ?_ | refine i_subI ?_ | refine i_negI ?_ | refine i_iaddI ?_ | refine i_eqI ?_ | refine i_neI ?_ | refine i_eqX ?_ | refine i_neX ?_ | refine i_ltI ?_ | refine i_gtI ?_ | refine i_leI ?_ | refine i_geI ?_ | refine i_lenT ?_ | refine i_absI ?_ | refine i_intI ?_ | refine i_lstT ?_ | refine i_slT ?_ | refine i_iteT ?_ | refine i_iteF ?_ | refine i_var (by with_unfolding_all rfl) ?_ | refine i_aug (by with_unfolding_all rfl) ?_ | refine i_ixT (by with_unfolding_all rfl) ?_ | refine ⟨_, _, rfl, ?_⟩ | refine ⟨_, rfl, ?_⟩ | refine ⟨rfl, ?_⟩ | refine ⟨i_tyS, ?_⟩)))
  refine i_lenL hc1 ?_
  (repeat (with_reducible (first | refine i_seq ?_ | refine i_next ?_ | refine i_break ?_ | refine i_cont ?_ | refine i_drop ?_ | refine i_ret ?_ | refine i_retN ?_ | refine i_if ?_ | refine i_asg ?_ | refine i_par ?_ | refine i_for ?_ | refine i_nm ?_ | refine i_tp ?_ | refine i_gcons ?_ | refine i_gnil ?_ | refine i_gsub ?_ | refine i_c ?_ | refine i_anil ?_ | refine i_acons ?_ | refine i_tup ?_ | refine i_lst ?_ | refine i_op ?_ | refine i_un ?_ | refine i_call ?_ | refine i_fn ?_ | refine i_test ?_ | refine i_and ?_ | refine i_or ?_ | refine i_not ?_ | refine i_ifx ?_ | refine i_andV ?_ | refine i_orV ?_ | refine i_notV ?_ | refine i_meth ?_ | refine i_sl ?_ | refine i_nopart ?_ | refine i_part ?_ | refine i_revL ?_ | refine i_sortKey ?_ | refine i_sortSet ?_ | refine i_rg1 ?_ | refine i_seqS ?_ | refine i_revR ?_ | refine i_lc ?_ | refine i_yes ?_ | refine i_seqT ?_ | refine i_seqX ?_ | refine i_addI ?_ | refine i_subI ?_ | refine i_negI ?_ | refine i_iaddI ?_ | refine i_eqI ?_ | refine i_neI ?_ | refine i_eqX ?_ | refine i_neX ?_ | refine i_ltI ?_ | refine i_gtI ?_ | refine i_leI ?_ | refine i_geI ?_ | refine i_lenT ?_ | refine i_absI ?_ | refine i_intI ?_ | refine i_lstT ?_ | refine i_slT ?_ | refine i_iteT ?_ | refine i_iteF ?_ | refine i_var (by with_unfolding_all rfl) ?_ | refine i_aug (by with_unfolding_all rfl) ?_ | refine i_ixT (by with_unfolding_all rfl) ?_ | refine ⟨_, _, rfl, ?_⟩ | refine ⟨_, rfl, ?_⟩ | refine ⟨rfl, ?_⟩ | refine ⟨i_tyS, ?_⟩)))
  -- the rest, once the cell is known
  have rest : ∀ (z : Int) (at_ : Int) (l : Lc), l = [some (.ref a), some (.int m), none, some (.int z), some (.int at_)] → 0 ≤ z → (z < 1000000000000000000 ∨ ∃ j, ixN (cs.map D.int).length at_ = some j) →
      r_law_draw ⟨fun x S' => Q .non S', Q, fun _ _ => False, fun _ _ => False⟩ l S1 := by
    rintro z at_ l rfl hz hat
    unfold r_law_draw
    (repeat (with_reducible (first | refine i_seq ?_ | refine i_next ?_ | refine i_break ?_ | refine i_cont ?_ | refine i_drop ?_ | refine i_ret ?_ | refine i_retN ?_ | refine i_if ?_ | refine i_asg ?_ | refine i_par ?_ | refine i_for ?_ | refine i_nm ?_ | refine i_tp ?_ | refine i_gcons ?_ | refine i_gnil ?_ | refine i_gsub ?_ | refine i_c ?_ | refine i_anil ?_ | refine i_acons ?_ | refine i_tup ?_ | refine i_lst ?_ | refine i_op ?_ | refine i_un ?_ | refine i_call ?_ | refine i_fn ?_ | refine i_test ?_ | refine i_and ?_ | refine i_or ?_ | refine i_not ?_ | refine i_ifx ?_ | refine i_andV ?_ | refine i_orV ?_ | refine i_notV ?_ | refine i_meth ?_ | refine i_sl ?_ | refine i_nopart ?_ | refine i_part ?_ | refine i_revL ?_ | refine i_sortKey ?_ | refine i_sortSet ?_ | refine i_rg1 ?_ | refine i_seqS ?_ | refine i_revR ?_ | refine i_lc ?_ | refine i_yes ?_ | refine i_seqT ?_ | refine i_seqX ?_ | refine i_addI ?_ | refine i_subI ?_ | refine i_negI ?_ | refine i_iaddI ?_ | refine i_eqI ?_ | refine i_neI ?_ | refine i_eqX ?_ | refine i_neX ?_ | refine i_ltI ?_ | refine i_gtI ?_ | refine i_leI ?_ | refine i_geI ?_ | refine i_lenT ?_ | refine i_absI ?_ | refine i_intI ?_ | refine i_lstT ?_ | refine i_slT ?_ | refine i_iteT ?_ | refine i_iteF ?_ | refine i_var (by with_unfolding_all rfl) ?_ | refine i_aug (by with_unfolding_all rfl) ?_ | refine i_ixT (by with_unfolding_all rfl) ?_ | refine ⟨_, _, rfl, ?_⟩ | refine ⟨_, rfl, ?_⟩ | refine ⟨rfl, ?_⟩ | refine ⟨i_tyS, ?_⟩)))
    refine i_powI ⟨by decide, by decide, by decide⟩ ?_
    (repeat (with_reducible (first | refine i_seq ?_ | refine i_next ?_ | refine i_break ?_ | refine i_cont ?_ | refine i_drop ?_ | refine i_ret ?_ | refine i_retN ?_ | refine i_if ?_ | refine i_asg ?_ | refine i_par ?_ | refine i_for ?_ | refine i_nm ?_ | refine i_tp ?_ | refine i_gcons ?_ | refine i_gnil ?_ | refine i_gsub ?_ | refine i_c ?_ | refine i_anil ?_ | refine i_acons ?_ | refine i_tup ?_ | refine i_lst ?_ | refine i_op ?_ | refine i_un ?_ | refine i_call ?_ | refine i_fn ?_ | refine i_test ?_ | refine i_and ?_ | refine i_or ?_ | refine i_not ?_ | refine i_ifx ?_ | refine i_andV ?_ | refine i_orV ?_ | refine i_notV ?_ | refine i_meth ?_ | refine i_sl ?_ | refine i_nopart ?_ | refine i_part ?_ | refine i_revL ?_ | refine i_sortKey ?_ | refine i_sortSet ?_ | refine i_rg1 ?_ | refine i_seqS ?_ | refine i_revR ?_ | refine i_lc ?_ | refine i_yes ?_ | refine i_seqT ?_ | refine i_seqX ?_ | refine i_addI ?_ | refine i_subI ?_ | refine i_negI ?_ | refine i_iaddI ?_ | refine i_eqI ?_ | refine i_neI ?_ | refine i_eqX ?_ | refine i_neX ?_ | refine i_ltI ?_ | refine i_gtI ?_ | refine i_leI ?_ | refine i_geI ?_ | refine i_lenT ?_ | refine i_absI ?_ | refine i_intI ?_ | refine i_lstT ?_ | refine i_slT ?_ | refine i_iteT ?_ | refine i_iteF ?_ | refine i_var (by with_unfolding_all rfl) ?_ | refine i_aug (by with_unfolding_all rfl) ?_ | refine i_ixT (by with_unfolding_all rfl) ?_ | refine ⟨_, _, rfl, ?_⟩ | refine ⟨_, rfl, ?_⟩ | refine ⟨rfl, ?_⟩ | refine ⟨i_tyS, ?_⟩)))
    refine i_ite (fun hb => ?_) fun hb => ?_
    · have hbig : (1000000000000000000 : Int) ≤ z := by simpa using hb
      obtain ⟨j, hj⟩ : ∃ j, ixN (cs.map D.int).length at_ = some j := hat.resolve_left (by omega)
      (repeat (with_reducible (first | refine i_seq ?_ | refine i_next ?_ | refine i_break ?_ | refine i_cont ?_ | refine i_drop ?_ | refine i_ret ?_ | refine i_retN ?_ | refine i_if ?_ | refine i_asg ?_ | refine i_par ?_ | refine i_for ?_ | refine i_nm ?_ | refine i_tp ?_ | refine i_gcons ?_ | refine i_gnil ?_ | refine i_gsub ?_ | refine i_c ?_ | refine i_anil ?_ | refine i_acons ?_ | refine i_tup ?_ | refine i_lst ?_ | refine i_op ?_ | refine i_un ?_ | refine i_call ?_ | refine i_fn ?_ | refine i_test ?_ | refine i_and ?_ | refine i_or ?_ | refine i_not ?_ | refine i_ifx ?_ | refine i_andV ?_ | refine i_orV ?_ | refine i_notV ?_ | refine i_meth ?_ | refine i_sl ?_ | refine i_nopart ?_ | refine i_part ?_ | refine i_revL ?_ | refine i_sortKey ?_ | refine i_sortSet ?_ | refine i_rg1 ?_ | refine i_seqS ?_ | refine i_revR ?_ | refine i_lc ?_ | refine i_yes ?_ | refine i_seqT ?_ | refine i_seqX ?_ | refine i_addI ?_ | refine i_subI ?_ | refine i_negI ?_ | refine i_iaddI ?_ | refine i_eqI ?_ | refine i_neI ?_ | refine i_eqX ?_ | refine i_neX ?_ | refine i_ltI ?_ | refine i_gtI ?_ | refine i_leI ?_ | refine i_geI ?_ | refine i_lenT ?_ | refine i_absI ?_ | refine i_intI ?_ | refine i_lstT ?_ | refine i_slT ?_ | refine i_iteT ?_ | refine i_iteF ?_ | refine i_var (by with_unfolding_all rfl) ?_ | refine i_aug (by with_unfolding_all rfl) ?_ | refine i_ixT (by with_unfolding_all rfl) ?_ | refine ⟨_, _, rfl, ?_⟩ | refine ⟨_, rfl, ?_⟩ | refine ⟨rfl, ?_⟩ | refine ⟨i_tyS, ?_⟩)))
      refine i_divI ⟨hm0, ?_⟩ ?_
      · have : m.natAbs < 2 ^ 40 := by omega
        exact Nat.lt_of_lt_of_le ((Nat.log2_lt (by omega)).mpr this) (by decide)
      (repeat (with_reducible (first | refine i_seq ?_ | refine i_next ?_ | refine i_break ?_ | refine i_cont ?_ | refine i_drop ?_ | refine i_ret ?_ | refine i_retN ?_ | refine i_if ?_ | refine i_asg ?_ | refine i_par ?_ | refine i_for ?_ | refine i_nm ?_ | refine i_tp ?_ | refine i_gcons ?_ | refine i_gnil ?_ | refine i_gsub ?_ | refine i_c ?_ | refine i_anil ?_ | refine i_acons ?_ | refine i_tup ?_ | refine i_lst ?_ | refine i_op ?_ | refine i_un ?_ | refine i_call ?_ | refine i_fn ?_ | refine i_test ?_ | refine i_and ?_ | refine i_or ?_ | refine i_not ?_ | refine i_ifx ?_ | refine i_andV ?_ | refine i_orV ?_ | refine i_notV ?_ | refine i_meth ?_ | refine i_sl ?_ | refine i_nopart ?_ | refine i_part ?_ | refine i_revL ?_ | refine i_sortKey ?_ | refine i_sortSet ?_ | refine i_rg1 ?_ | refine i_seqS ?_ | refine i_revR ?_ | refine i_lc ?_ | refine i_yes ?_ | refine i_seqT ?_ | refine i_seqX ?_ | refine i_addI ?_ | refine i_subI ?_ | refine i_negI ?_ | refine i_iaddI ?_ | refine i_eqI ?_ | refine i_neI ?_ | refine i_eqX ?_ | refine i_neX ?_ | refine i_ltI ?_ | refine i_gtI ?_ | refine i_leI ?_ | refine i_geI ?_ | refine i_lenT ?_ | refine i_absI ?_ | refine i_intI ?_ | refine i_lstT ?_ | refine i_slT ?_ | refine i_iteT ?_ | refine i_iteF ?_ | refine i_var (by with_unfolding_all rfl) ?_ | refine i_aug (by with_unfolding_all rfl) ?_ | refine i_ixT (by with_unfolding_all rfl) ?_ | refine ⟨_, _, rfl, ?_⟩ | refine ⟨_, rfl, ?_⟩ | refine ⟨rfl, ?_⟩ | refine ⟨i_tyS, ?_⟩)))
      refine i_ixL ha1 rfl ?_
      (repeat (with_reducible (first | refine i_seq ?_ | refine i_next ?_ | refine i_break ?_ | refine i_cont ?_ | refine i_drop ?_ | refine i_ret ?_ | refine i_retN ?_ | refine i_if ?_ | refine i_asg ?_ | refine i_par ?_ | refine i_for ?_ | refine i_nm ?_ | refine i_tp ?_ | refine i_gcons ?_ | refine i_gnil ?_ | refine i_gsub ?_ | refine i_c ?_ | refine i_anil ?_ | refine i_acons ?_ | refine i_tup ?_ | refine i_lst ?_ | refine i_op ?_ | refine i_un ?_ | refine i_call ?_ | refine i_fn ?_ | refine i_test ?_ | refine i_and ?_ | refine i_or ?_ | refine i_not ?_ | refine i_ifx ?_ | refine i_andV ?_ | refine i_orV ?_ | refine i_notV ?_ | refine i_meth ?_ | refine i_sl ?_ | refine i_nopart ?_ | refine i_part ?_ | refine i_revL ?_ | refine i_sortKey ?_ | refine i_sortSet ?_ | refine i_rg1 ?_ | refine i_seqS ?_ | refine i_revR ?_ | refine i_lc ?_ | refine i_yes ?_ | refine i_seqT ?_ | refine i_seqX ?_ | refine i_addI ?_ | refine i_subI ?_ | refine i_negI ?_ | refine i_iaddI ?_ | refine i_eqI ?_ | refine i_neI ?_ | refine i_eqX ?_ | refine i_neX ?_ | refine i_ltI ?_ | refine i_gtI ?_ | refine i_leI ?_ | refine i_geI ?_ | refine i_lenT ?_ | refine i_absI ?_ | refine i_intI ?_ | refine i_lstT ?_ | refine i_slT ?_ | refine i_iteT ?_ | refine i_iteF ?_ | refine i_var (by with_unfolding_all rfl) ?_ | refine i_aug (by with_unfolding_all rfl) ?_ | refine i_ixT (by with_unfolding_all rfl) ?_ | refine ⟨_, _, rfl, ?_⟩ | refine ⟨_, rfl, ?_⟩ | refine ⟨rfl, ?_⟩ | refine ⟨i_tyS, ?_⟩)))
      refine i_setL hc1 hj ?_
      (repeat (with_reducible (first | refine i_seq ?_ | refine i_next ?_ | refine i_break ?_ | refine i_cont ?_ | refine i_drop ?_ | refine i_ret ?_ | refine i_retN ?_ | refine i_if ?_ | refine i_asg ?_ | refine i_par ?_ | refine i_for ?_ | refine i_nm ?_ | refine i_tp ?_ | refine i_gcons ?_ | refine i_gnil ?_ | refine i_gsub ?_ | refine i_c ?_ | refine i_anil ?_ | refine i_acons ?_ | refine i_tup ?_ | refine i_lst ?_ | refine i_op ?_ | refine i_un ?_ | refine i_call ?_ | refine i_fn ?_ | refine i_test ?_ | refine i_and ?_ | refine i_or ?_ | refine i_not ?_ | refine i_ifx ?_ | refine i_andV ?_ | refine i_orV ?_ | refine i_notV ?_ | refine i_meth ?_ | refine i_sl ?_ | refine i_nopart ?_ | refine i_part ?_ | refine i_revL ?_ | refine i_sortKey ?_ | refine i_sortSet ?_ | refine i_rg1 ?_ | refine i_seqS ?_ | refine i_revR ?_ | refine i_lc ?_ | refine i_yes ?_ | refine i_seqT ?_ | refine i_seqX ?_ | refine i_addI ?_ | refine i_subI ?_ | refine i_negI ?_ | refine i_iaddI ?_ | refine i_eqI ?_ | refine i_neI ?_ | refine i_eqX ?_ | refine i_neX ?_ | refine i_ltI ?_ | refine i_gtI ?_ | refine i_leI ?_ | refine i_geI ?_ | refine i_lenT ?_ | refine i_absI ?_ | refine i_intI ?_ | refine i_lstT ?_ | refine i_slT ?_ | refine i_iteT ?_ | refine i_iteF ?_ | refine i_var (by with_unfolding_all rfl) ?_ | refine i_aug (by with_unfolding_all rfl) ?_ | refine i_ixT (by with_unfolding_all rfl) ?_ | refine ⟨_, _, rfl, ?_⟩ | refine ⟨_, rfl, ?_⟩ | refine ⟨rfl, ?_⟩ | refine ⟨i_tyS, ?_⟩)))
      refine i_modI hm0 ?_
      have ne : ∀ o, put S1 c o a = S1 a := fun o => put_ne hac
      have es : (cs.map D.int).set j (D.int (z / m)) = (cs.set j (z / m)).map D.int := by rw [List.map_set]
      rw [es]
      refine draw_end (cs := cs.set j (z / m)) hac (by rw [ne]; exact ha1) put_same (fun y hy => ?_) (by rw [List.length_set]; exact hl) (by omega) (by omega) hm0 (fun b o e h1 h2 => by rw [put_ne h2]; exact hx1 b o e h1 h2) q
      rcases List.mem_or_eq_of_mem_set hy with h | h
      · exact hpos y h
      · subst h; exact Int.ediv_nonneg hz (by omega)
    · have hsm : z < 1000000000000000000 := by simpa using hb
      (repeat (with_reducible (first | refine i_seq ?_ | refine i_next ?_ | refine i_break ?_ | refine i_cont ?_ | refine i_drop ?_ | refine i_ret ?_ | refine i_retN ?_ | refine i_if ?_ | refine i_asg ?_ | refine i_par ?_ | refine i_for ?_ | refine i_nm ?_ | refine i_tp ?_ | refine i_gcons ?_ | refine i_gnil ?_ | refine i_gsub ?_ | refine i_c ?_ | refine i_anil ?_ | refine i_acons ?_ | refine i_tup ?_ | refine i_lst ?_ | refine i_op ?_ | refine i_un ?_ | refine i_call ?_ | refine i_fn ?_ | refine i_test ?_ | refine i_and ?_ | refine i_or ?_ | refine i_not ?_ | refine i_ifx ?_ | refine i_andV ?_ | refine i_orV ?_ | refine i_notV ?_ | refine i_meth ?_ | refine i_sl ?_ | refine i_nopart ?_ | refine i_part ?_ | refine i_revL ?_ | refine i_sortKey ?_ | refine i_sortSet ?_ | refine i_rg1 ?_ | refine i_seqS ?_ | refine i_revR ?_ | refine i_lc ?_ | refine i_yes ?_ | refine i_seqT ?_ | refine i_seqX ?_ | refine i_addI ?_ | refine i_subI ?_ | refine i_negI ?_ | refine i_iaddI ?_ | refine i_eqI ?_ | refine i_neI ?_ | refine i_eqX ?_ | refine i_neX ?_ | refine i_ltI ?_ | refine i_gtI ?_ | refine i_leI ?_ | refine i_geI ?_ | refine i_lenT ?_ | refine i_absI ?_ | refine i_intI ?_ | refine i_lstT ?_ | refine i_slT ?_ | refine i_iteT ?_ | refine i_iteF ?_ | refine i_var (by with_unfolding_all rfl) ?_ | refine i_aug (by with_unfolding_all rfl) ?_ | refine i_ixT (by with_unfolding_all rfl) ?_ | refine ⟨_, _, rfl, ?_⟩ | refine ⟨_, rfl, ?_⟩ | refine ⟨rfl, ?_⟩ | refine ⟨i_tyS, ?_⟩)))
      refine i_modI (by decide) ?_
      (repeat (with_reducible (first | refine i_seq ?_ | refine i_next ?_ | refine i_break ?_ | refine i_cont ?_ | refine i_drop ?_ | refine i_ret ?_ | refine i_retN ?_ | refine i_if ?_ | refine i_asg ?_ | refine i_par ?_ | refine i_for ?_ | refine i_nm ?_ | refine i_tp ?_ | refine i_gcons ?_ | refine i_gnil ?_ | refine i_gsub ?_ | refine i_c ?_ | refine i_anil ?_ | refine i_acons ?_ | refine i_tup ?_ | refine i_lst ?_ | refine i_op ?_ | refine i_un ?_ | refine i_call ?_ | refine i_fn ?_ | refine i_test ?_ | refine i_and ?_ | refine i_or ?_ | refine i_not ?_ | refine i_ifx ?_ | refine i_andV ?_ | refine i_orV ?_ | refine i_notV ?_ | refine i_meth ?_ | refine i_sl ?_ | refine i_nopart ?_ | refine i_part ?_ | refine i_revL ?_ | refine i_sortKey ?_ | refine i_sortSet ?_ | refine i_rg1 ?_ | refine i_seqS ?_ | refine i_revR ?_ | refine i_lc ?_ | refine i_yes ?_ | refine i_seqT ?_ | refine i_seqX ?_ | refine i_addI ?_ | refine i_subI ?_ | refine i_negI ?_ | refine i_iaddI ?_ | refine i_eqI ?_ | refine i_neI ?_ | refine i_eqX ?_ | refine i_neX ?_ | refine i_ltI ?_ | refine i_gtI ?_ | refine i_leI ?_ | refine i_geI ?_ | refine i_lenT ?_ | refine i_absI ?_ | refine i_intI ?_ | refine i_lstT ?_ | refine i_slT ?_ | refine i_iteT ?_ | refine i_iteF ?_ | refine i_var (by with_unfolding_all rfl) ?_ | refine i_aug (by with_unfolding_all rfl) ?_ | refine i_ixT (by with_unfolding_all rfl) ?_ | refine ⟨_, _, rfl, ?_⟩ | refine ⟨_, rfl, ?_⟩ | refine ⟨rfl, ?_⟩ | refine ⟨i_tyS, ?_⟩)))
      refine i_ixL ha1 rfl ?_
      (repeat (with_reducible (first | refine i_seq ?_ | refine i_next ?_ | refine i_break ?_ | refine i_cont ?_ | refine i_drop ?_ | refine i_ret ?_ | refine i_retN ?_ | refine i_if ?_ | refine i_asg ?_ | refine i_par ?_ | refine i_for ?_ | refine i_nm ?_ | refine i_tp ?_ | refine i_gcons ?_ | refine i_gnil ?_ | refine i_gsub ?_ | refine i_c ?_ | refine i_anil ?_ | refine i_acons ?_ | refine i_tup ?_ | refine i_lst ?_ | refine i_op ?_ | refine i_un ?_ | refine i_call ?_ | refine i_fn ?_ | refine i_test ?_ | refine i_and ?_ | refine i_or ?_ | refine i_not ?_ | refine i_ifx ?_ | refine i_andV ?_ | refine i_orV ?_ | refine i_notV ?_ | refine i_meth ?_ | refine i_sl ?_ | refine i_nopart ?_ | refine i_part ?_ | refine i_revL ?_ | refine i_sortKey ?_ | refine i_sortSet ?_ | refine i_rg1 ?_ | refine i_seqS ?_ | refine i_revR ?_ | refine i_lc ?_ | refine i_yes ?_ | refine i_seqT ?_ | refine i_seqX ?_ | refine i_addI ?_ | refine i_subI ?_ | refine i_negI ?_ | refine i_iaddI ?_ | refine i_eqI ?_ | refine i_neI ?_ | refine i_eqX ?_ | refine i_neX ?_ | refine i_ltI ?_ | refine i_gtI ?_ | refine i_leI ?_ | refine i_geI ?_ | refine i_lenT ?_ | refine i_absI ?_ | refine i_intI ?_ | refine i_lstT ?_ | refine i_slT ?_ | refine i_iteT ?_ | refine i_iteF ?_ | refine i_var (by with_unfolding_all rfl) ?_ | refine i_aug (by with_unfolding_all rfl) ?_ | refine i_ixT (by with_unfolding_all rfl) ?_ | refine ⟨_, _, rfl, ?_⟩ | refine ⟨_, rfl, ?_⟩ | refine ⟨rfl, ?_⟩ | refine ⟨i_tyS, ?_⟩)))
      refine i_mulI (.inl (by decide)) ?_
      (repeat (with_reducible (first | refine i_seq ?_ | refine i_next ?_ | refine i_break ?_ | refine i_cont ?_ | refine i_drop ?_ | refine i_ret ?_ | refine i_retN ?_ | refine i_if ?_ | refine i_asg ?_ | refine i_par ?_ | refine i_for ?_ | refine i_nm ?_ | refine i_tp ?_ | refine i_gcons ?_ | refine i_gnil ?_ | refine i_gsub ?_ | refine i_c ?_ | refine i_anil ?_ | refine i_acons ?_ | refine i_tup ?_ | refine i_lst ?_ | refine i_op ?_ | refine i_un ?_ | refine i_call ?_ | refine i_fn ?_ | refine i_test ?_ | refine i_and ?_ | refine i_or ?_ | refine i_not ?_ | refine i_ifx ?_ | refine i_andV ?_ | refine i_orV ?_ | refine i_notV ?_ | refine i_meth ?_ | refine i_sl ?_ | refine i_nopart ?_ | refine i_part ?_ | refine i_revL ?_ | refine i_sortKey ?_ | refine i_sortSet ?_ | refine i_rg1 ?_ | refine i_seqS ?_ | refine i_revR ?_ | refine i_lc ?_ | refine i_yes ?_ | refine i_seqT ?_ | refine i_seqX ?_ | refine i_addI ?_ | refine i_subI ?_ | refine i_negI ?_ | refine i_iaddI ?_ | refine i_eqI ?_ | refine i_neI ?_ | refine i_eqX ?_ | refine i_neX ?_ | refine i_ltI ?_ | refine i_gtI ?_ | refine i_leI ?_ | refine i_geI ?_ | refine i_lenT ?_ | refine i_absI ?_ | refine i_intI ?_ | refine i_lstT ?_ | refine i_slT ?_ | refine i_iteT ?_ | refine i_iteF ?_ | refine i_var (by with_unfolding_all rfl) ?_ | refine i_aug (by with_unfolding_all rfl) ?_ | refine i_ixT (by with_unfolding_all rfl) ?_ | refine ⟨_, _, rfl, ?_⟩ | refine ⟨_, rfl, ?_⟩ | refine ⟨rfl, ?_⟩ | refine ⟨i_tyS, ?_⟩)))
      have b1 := Int.emod_nonneg z (show (2147483563 : Int) ≠ 0 by decide)
      have b2 := Int.emod_lt_of_pos z (show (0 : Int) < 2147483563 by decide)
      refine i_powI ⟨by decide, by decide, by omega⟩ ?_
      (repeat (with_reducible (first | refine i_seq ?_ | refine i_next ?_ | refine i_break ?_ | refine i_cont ?_ | refine i_drop ?_ | refine i_ret ?_ | refine i_retN ?_ | refine i_if ?_ | refine i_asg ?_ | refine i_par ?_ | refine i_for ?_ | refine i_nm ?_ | refine i_tp ?_ | refine i_gcons ?_ | refine i_gnil ?_ | refine i_gsub ?_ | refine i_c ?_ | refine i_anil ?_ | refine i_acons ?_ | refine i_tup ?_ | refine i_lst ?_ | refine i_op ?_ | refine i_un ?_ | refine i_call ?_ | refine i_fn ?_ | refine i_test ?_ | refine i_and ?_ | refine i_or ?_ | refine i_not ?_ | refine i_ifx ?_ | refine i_andV ?_ | refine i_orV ?_ | refine i_notV ?_ | refine i_meth ?_ | refine i_sl ?_ | refine i_nopart ?_ | refine i_part ?_ | refine i_revL ?_ | refine i_sortKey ?_ | refine i_sortSet ?_ | refine i_rg1 ?_ | refine i_seqS ?_ | refine i_revR ?_ | refine i_lc ?_ | refine i_yes ?_ | refine i_seqT ?_ | refine i_seqX ?_ | refine i_addI ?_ | refine i_subI ?_ | refine i_negI ?_ | refine i_iaddI ?_ | refine i_eqI ?_ | refine i_neI ?_ | refine i_eqX ?_ | refine i_neX ?_ | refine i_ltI ?_ | refine i_gtI ?_ | refine i_leI ?_ | refine i_geI ?_ | refine i_lenT ?_ | refine i_absI ?_ | refine i_intI ?_ | refine i_lstT ?_ | refine i_slT ?_ | refine i_iteT ?_ | refine i_iteF ?_ | refine i_var (by with_unfolding_all rfl) ?_ | refine i_aug (by with_unfolding_all rfl) ?_ | refine i_ixT (by with_unfolding_all rfl) ?_ | refine ⟨_, _, rfl, ?_⟩ | refine ⟨_, rfl, ?_⟩ | refine ⟨rfl, ?_⟩ | refine ⟨i_tyS, ?_⟩)))
      refine i_modI (by decide) ?_
      (repeat (with_reducible (first | refine i_seq ?_ | refine i_next ?_ | refine i_break ?_ | refine i_cont ?_ | refine i_drop ?_ | refine i_ret ?_ | refine i_retN ?_ | refine i_if ?_ | refine i_asg ?_ | refine i_par ?_ | refine i_for ?_ | refine i_nm ?_ | refine i_tp ?_ | refine i_gcons ?_ | refine i_gnil ?_ | refine i_gsub ?_ | refine i_c ?_ | refine i_anil ?_ | refine i_acons ?_ | refine i_tup ?_ | refine i_lst ?_ | refine i_op ?_ | refine i_un ?_ | refine i_call ?_ | refine i_fn ?_ | refine i_test ?_ | refine i_and ?_ | refine i_or ?_ | refine i_not ?_ | refine i_ifx ?_ | refine i_andV ?_ | refine i_orV ?_ | refine i_notV ?_ | refine i_meth ?_ | refine i_sl ?_ | refine i_nopart ?_ | refine i_part ?_ | refine i_revL ?_ | refine i_sortKey ?_ | refine i_sortSet ?_ | refine i_rg1 ?_ | refine i_seqS ?_ | refine i_revR ?_ | refine i_lc ?_ | refine i_yes ?_ | refine i_seqT ?_ | refine i_seqX ?_ | refine i_addI ?_ | refine i_subI ?_ | refine i_negI ?_ | refine i_iaddI ?_ | refine i_eqI ?_ | refine i_neI ?_ | refine i_eqX ?_ | refine i_neX ?_ | refine i_ltI ?_ | refine i_gtI ?_ | refine i_leI ?_ | refine i_geI ?_ | refine i_lenT ?_ | refine i_absI ?_ | refine i_intI ?_ | refine i_lstT ?_ | refine i_slT ?_ | refine i_iteT ?_ | refine i_iteF ?_ | refine i_var (by with_unfolding_all rfl) ?_ | refine i_aug (by with_unfolding_all rfl) ?_ | refine i_ixT (by with_unfolding_all rfl) ?_ | refine ⟨_, _, rfl, ?_⟩ | refine ⟨_, rfl, ?_⟩ | refine ⟨rfl, ?_⟩ | refine ⟨i_tyS, ?_⟩)))
      refine i_modI hm0 ?_
      exact draw_end hac ha1 hc1 hpos hl (by omega) (by omega) hm0 hx1 q
  refine i_ite (fun hb => ?_) fun hb => ?_
  · have hp : 0 < cs.length := by simpa using hb
    (repeat (with_reducible (first | refine i_seq ?_ | refine i_next ?_ | refine i_break ?_ | refine i_cont ?_ | refine i_drop ?_ | refine i_ret ?_ | refine i_retN ?_ | refine i_if ?_ | refine i_asg ?_ | refine i_par ?_ | refine i_for ?_ | refine i_nm ?_ | refine i_tp ?_ | refine i_gcons ?_ | refine i_gnil ?_ | refine i_gsub ?_ | refine i_c ?_ | refine i_anil ?_ | refine i_acons ?_ | refine i_tup ?_ | refine i_lst ?_ | refine i_op ?_ | refine i_un ?_ | refine i_call ?_ | refine i_fn ?_ | refine i_test ?_ | refine i_and ?_ | refine i_or ?_ | refine i_not ?_ | refine i_ifx ?_ | refine i_andV ?_ | refine i_orV ?_ | refine i_notV ?_ | refine i_meth ?_ | refine i_sl ?_ | refine i_nopart ?_ | refine i_part ?_ | refine i_revL ?_ | refine i_sortKey ?_ | refine i_sortSet ?_ | refine i_rg1 ?_ | refine i_seqS ?_ | refine i_revR ?_ | refine i_lc ?_ | refine i_yes ?_ | refine i_seqT ?_ | refine i_seqX ?_ | refine i_addI ?_ | refine i_subI ?_ | refine i_negI ?_ | refine i_iaddI ?_ | refine i_eqI ?_ | refine i_neI ?_ | refine i_eqX ?_ | refine i_neX ?_ | refine i_ltI ?_ | refine i_gtI ?_ | refine i_leI ?_ | refine i_geI ?_ | refine i_lenT ?_ | refine i_absI ?_ | refine i_intI ?_ | refine i_lstT ?_ | refine i_slT ?_ | refine i_iteT ?_ | refine i_iteF ?_ | refine i_var (by with_unfolding_all rfl) ?_ | refine i_aug (by with_unfolding_all rfl) ?_ | refine i_ixT (by with_unfolding_all rfl) ?_ | refine ⟨_, _, rfl, ?_⟩ | refine ⟨_, rfl, ?_⟩ | refine ⟨rfl, ?_⟩ | refine ⟨i_tyS, ?_⟩)))
    refine i_ixL ha1 rfl ?_
    (repeat (with_reducible (first | refine i_seq ?_ | refine i_next ?_ | refine i_break ?_ | refine i_cont ?_ | refine i_drop ?_ | refine i_ret ?_ | refine i_retN ?_ | refine i_if ?_ | refine i_asg ?_ | refine i_par ?_ | refine i_for ?_ | refine i_nm ?_ | refine i_tp ?_ | refine i_gcons ?_ | refine i_gnil ?_ | refine i_gsub ?_ | refine i_c ?_ | refine i_anil ?_ | refine i_acons ?_ | refine i_tup ?_ | refine i_lst ?_ | refine i_op ?_ | refine i_un ?_ | refine i_call ?_ | refine i_fn ?_ | refine i_test ?_ | refine i_and ?_ | refine i_or ?_ | refine i_not ?_ | refine i_ifx ?_ | refine i_andV ?_ | refine i_orV ?_ | refine i_notV ?_ | refine i_meth ?_ | refine i_sl ?_ | refine i_nopart ?_ | refine i_part ?_ | refine i_revL ?_ | refine i_sortKey ?_ | refine i_sortSet ?_ | refine i_rg1 ?_ | refine i_seqS ?_ | refine i_revR ?_ | refine i_lc ?_ | refine i_yes ?_ | refine i_seqT ?_ | refine i_seqX ?_ | refine i_addI ?_ | refine i_subI ?_ | refine i_negI ?_ | refine i_iaddI ?_ | refine i_eqI ?_ | refine i_neI ?_ | refine i_eqX ?_ | refine i_neX ?_ | refine i_ltI ?_ | refine i_gtI ?_ | refine i_leI ?_ | refine i_geI ?_ | refine i_lenT ?_ | refine i_absI ?_ | refine i_intI ?_ | refine i_lstT ?_ | refine i_slT ?_ | refine i_iteT ?_ | refine i_iteF ?_ | refine i_var (by with_unfolding_all rfl) ?_ | refine i_aug (by with_unfolding_all rfl) ?_ | refine i_ixT (by with_unfolding_all rfl) ?_ | refine ⟨_, _, rfl, ?_⟩ | refine ⟨_, rfl, ?_⟩ | refine ⟨rfl, ?_⟩ | refine ⟨i_tyS, ?_⟩)))
    refine i_ixL ha1 rfl ?_
    (repeat (with_reducible (first | refine i_seq ?_ | refine i_next ?_ | refine i_break ?_ | refine i_cont ?_ | refine i_drop ?_ | refine i_ret ?_ | refine i_retN ?_ | refine i_if ?_ | refine i_asg ?_ | refine i_par ?_ | refine i_for ?_ | refine i_nm ?_ | refine i_tp ?_ | refine i_gcons ?_ | refine i_gnil ?_ | refine i_gsub ?_ | refine i_c ?_ | refine i_anil ?_ | refine i_acons ?_ | refine i_tup ?_ | refine i_lst ?_ | refine i_op ?_ | refine i_un ?_ | refine i_call ?_ | refine i_fn ?_ | refine i_test ?_ | refine i_and ?_ | refine i_or ?_ | refine i_not ?_ | refine i_ifx ?_ | refine i_andV ?_ | refine i_orV ?_ | refine i_notV ?_ | refine i_meth ?_ | refine i_sl ?_ | refine i_nopart ?_ | refine i_part ?_ | refine i_revL ?_ | refine i_sortKey ?_ | refine i_sortSet ?_ | refine i_rg1 ?_ | refine i_seqS ?_ | refine i_revR ?_ | refine i_lc ?_ | refine i_yes ?_ | refine i_seqT ?_ | refine i_seqX ?_ | refine i_addI ?_ | refine i_subI ?_ | refine i_negI ?_ | refine i_iaddI ?_ | refine i_eqI ?_ | refine i_neI ?_ | refine i_eqX ?_ | refine i_neX ?_ | refine i_ltI ?_ | refine i_gtI ?_ | refine i_leI ?_ | refine i_geI ?_ | refine i_lenT ?_ | refine i_absI ?_ | refine i_intI ?_ | refine i_lstT ?_ | refine i_slT ?_ | refine i_iteT ?_ | refine i_iteF ?_ | refine i_var (by with_unfolding_all rfl) ?_ | refine i_aug (by with_unfolding_all rfl) ?_ | refine i_ixT (by with_unfolding_all rfl) ?_ | refine ⟨_, _, rfl, ?_⟩ | refine ⟨_, rfl, ?_⟩ | refine ⟨rfl, ?_⟩ | refine ⟨i_tyS, ?_⟩)))
    refine i_lenL hc1 ?_
    rw [hlen]
    refine i_modI (by omega) ?_
    have b1 := Int.emod_nonneg (n + 1) (show (cs.length : Int) ≠ 0 by omega)
    have b2 := Int.emod_lt_of_pos (n + 1) (show (0 : Int) < (cs.length : Int) by omega)
    obtain ⟨y, e1, e2, e3, _⟩ := atI_in (xs := cs.map D.int) b1 (by rw [hlen]; exact b2)
    obtain ⟨z, hz, rfl⟩ := List.mem_map.mp e2
    (repeat (with_reducible (first | refine i_seq ?_ | refine i_next ?_ | refine i_break ?_ | refine i_cont ?_ | refine i_drop ?_ | refine i_ret ?_ | refine i_retN ?_ | refine i_if ?_ | refine i_asg ?_ | refine i_par ?_ | refine i_for ?_ | refine i_nm ?_ | refine i_tp ?_ | refine i_gcons ?_ | refine i_gnil ?_ | refine i_gsub ?_ | refine i_c ?_ | refine i_anil ?_ | refine i_acons ?_ | refine i_tup ?_ | refine i_lst ?_ | refine i_op ?_ | refine i_un ?_ | refine i_call ?_ | refine i_fn ?_ | refine i_test ?_ | refine i_and ?_ | refine i_or ?_ | refine i_not ?_ | refine i_ifx ?_ | refine i_andV ?_ | refine i_orV ?_ | refine i_notV ?_ | refine i_meth ?_ | refine i_sl ?_ | refine i_nopart ?_ | refine i_part ?_ | refine i_revL ?_ | refine i_sortKey ?_ | refine i_sortSet ?_ | refine i_rg1 ?_ | refine i_seqS ?_ | refine i_revR ?_ | refine i_lc ?_ | refine i_yes ?_ | refine i_seqT ?_ | refine i_seqX ?_ | refine i_addI ?_ | refine i_subI ?_ | refine i_negI ?_ | refine i_iaddI ?_ | refine i_eqI ?_ | refine i_neI ?_ | refine i_eqX ?_ | refine i_neX ?_ | refine i_ltI ?_ | refine i_gtI ?_ | refine i_leI ?_ | refine i_geI ?_ | refine i_lenT ?_ | refine i_absI ?_ | refine i_intI ?_ | refine i_lstT ?_ | refine i_slT ?_ | refine i_iteT ?_ | refine i_iteF ?_ | refine i_var (by with_unfolding_all rfl) ?_ | refine i_aug (by with_unfolding_all rfl) ?_ | refine i_ixT (by with_unfolding_all rfl) ?_ | refine ⟨_, _, rfl, ?_⟩ | refine ⟨_, rfl, ?_⟩ | refine ⟨rfl, ?_⟩ | refine ⟨i_tyS, ?_⟩)))
    refine i_ixL ha1 rfl ?_
    (repeat (with_reducible (first | refine i_seq ?_ | refine i_next ?_ | refine i_break ?_ | refine i_cont ?_ | refine i_drop ?_ | refine i_ret ?_ | refine i_retN ?_ | refine i_if ?_ | refine i_asg ?_ | refine i_par ?_ | refine i_for ?_ | refine i_nm ?_ | refine i_tp ?_ | refine i_gcons ?_ | refine i_gnil ?_ | refine i_gsub ?_ | refine i_c ?_ | refine i_anil ?_ | refine i_acons ?_ | refine i_tup ?_ | refine i_lst ?_ | refine i_op ?_ | refine i_un ?_ | refine i_call ?_ | refine i_fn ?_ | refine i_test ?_ | refine i_and ?_ | refine i_or ?_ | refine i_not ?_ | refine i_ifx ?_ | refine i_andV ?_ | refine i_orV ?_ | refine i_notV ?_ | refine i_meth ?_ | refine i_sl ?_ | refine i_nopart ?_ | refine i_part ?_ | refine i_revL ?_ | refine i_sortKey ?_ | refine i_sortSet ?_ | refine i_rg1 ?_ | refine i_seqS ?_ | refine i_revR ?_ | refine i_lc ?_ | refine i_yes ?_ | refine i_seqT ?_ | refine i_seqX ?_ | refine i_addI ?_ | refine i_subI ?_ | refine i_negI ?_ | refine i_iaddI ?_ | refine i_eqI ?_ | refine i_neI ?_ | refine i_eqX ?_ | refine i_neX ?_ | refine i_ltI ?_ | refine i_gtI ?_ | refine i_leI ?_ | refine i_geI ?_ | refine i_lenT ?_ | refine i_absI ?_ | refine i_intI ?_ | refine i_lstT ?_ | refine i_slT ?_ | refine i_iteT ?_ | refine i_iteF ?_ | refine i_var (by with_unfolding_all rfl) ?_ | refine i_aug (by with_unfolding_all rfl) ?_ | refine i_ixT (by with_unfolding_all rfl) ?_ | refine ⟨_, _, rfl, ?_⟩ | refine ⟨_, rfl, ?_⟩ | refine ⟨rfl, ?_⟩ | refine ⟨i_tyS, ?_⟩)))
    refine i_ixL hc1 e1 ?_
    (repeat (with_reducible (first | refine i_seq ?_ | refine i_next ?_ | refine i_break ?_ | refine i_cont ?_ | refine i_drop ?_ | refine i_ret ?_ | refine i_retN ?_ | refine i_if ?_ | refine i_asg ?_ | refine i_par ?_ | refine i_for ?_ | refine i_nm ?_ | refine i_tp ?_ | refine i_gcons ?_ | refine i_gnil ?_ | refine i_gsub ?_ | refine i_c ?_ | refine i_anil ?_ | refine i_acons ?_ | refine i_tup ?_ | refine i_lst ?_ | refine i_op ?_ | refine i_un ?_ | refine i_call ?_ | refine i_fn ?_ | refine i_test ?_ | refine i_and ?_ | refine i_or ?_ | refine i_not ?_ | refine i_ifx ?_ | refine i_andV ?_ | refine i_orV ?_ | refine i_notV ?_ | refine i_meth ?_ | refine i_sl ?_ | refine i_nopart ?_ | refine i_part ?_ | refine i_revL ?_ | refine i_sortKey ?_ | refine i_sortSet ?_ | refine i_rg1 ?_ | refine i_seqS ?_ | refine i_revR ?_ | refine i_lc ?_ | refine i_yes ?_ | refine i_seqT ?_ | refine i_seqX ?_ | refine i_addI ?_ | refine i_subI ?_ | refine i_negI ?_ | refine i_iaddI ?_ | refine i_eqI ?_ | refine i_neI ?_ | refine i_eqX ?_ | refine i_neX ?_ | refine i_ltI ?_ | refine i_gtI ?_ | refine i_leI ?_ | refine i_geI ?_ | refine i_lenT ?_ | refine i_absI ?_ | refine i_intI ?_ | refine i_lstT ?_ | refine i_slT ?_ | refine i_iteT ?_ | refine i_iteF ?_ | refine i_var (by with_unfolding_all rfl) ?_ | refine i_aug (by with_unfolding_all rfl) ?_ | refine i_ixT (by with_unfolding_all rfl) ?_ | refine ⟨_, _, rfl, ?_⟩ | refine ⟨_, rfl, ?_⟩ | refine ⟨rfl, ?_⟩ | refine ⟨i_tyS, ?_⟩)))
    exact rest z _ _ rfl (hpos z hz) (.inr ⟨_, e3⟩)
  · (repeat (with_reducible (first | refine i_seq ?_ | refine i_next ?_ | refine i_break ?_ | refine i_cont ?_ | refine i_drop ?_ | refine i_ret ?_ | refine i_retN ?_ | refine i_if ?_ | refine i_asg ?_ | refine i_par ?_ | refine i_for ?_ | refine i_nm ?_ | refine i_tp ?_ | refine i_gcons ?_ | refine i_gnil ?_ | refine i_gsub ?_ | refine i_c ?_ | refine i_anil ?_ | refine i_acons ?_ | refine i_tup ?_ | refine i_lst ?_ | refine i_op ?_ | refine i_un ?_ | refine i_call ?_ | refine i_fn ?_ | refine i_test ?_ | refine i_and ?_ | refine i_or ?_ | refine i_not ?_ | refine i_ifx ?_ | refine i_andV ?_ | refine i_orV ?_ | refine i_notV ?_ | refine i_meth ?_ | refine i_sl ?_ | refine i_nopart ?_ | refine i_part ?_ | refine i_revL ?_ | refine i_sortKey ?_ | refine i_sortSet ?_ | refine i_rg1 ?_ | refine i_seqS ?_ | refine i_revR ?_ | refine i_lc ?_ | refine i_yes ?_ | refine i_seqT ?_ | refine i_seqX ?_ | refine i_addI ?_ | refine i_subI ?_ | refine i_negI ?_ | refine i_iaddI ?_ | refine i_eqI ?_ | refine i_neI ?_ | refine i_eqX ?_ | refine i_neX ?_ | refine i_ltI ?_ | refine i_gtI ?_ | refine i_leI ?_ | refine i_geI ?_ | refine i_lenT ?_ | refine i_absI ?_ | refine i_intI ?_ | refine i_lstT ?_ | refine i_slT ?_ | refine i_iteT ?_ | refine i_iteF ?_ | refine i_var (by with_unfolding_all rfl) ?_ | refine i_aug (by with_unfolding_all rfl) ?_ | refine i_ixT (by with_unfolding_all rfl) ?_ | refine ⟨_, _, rfl, ?_⟩ | refine ⟨_, rfl, ?_⟩ | refine ⟨rfl, ?_⟩ | refine ⟨i_tyS, ?_⟩)))
    exact rest 0 (-1) _ rfl (by decide) (.inl (by decide))
end AL

namespace AL
open PySem PySem.Spec PyProof.Rows L2

/-! ### texts of small letters -/
def Low (x : Str) : Prop := ∀ c ∈ x.cps.toList, 97 ≤ c ∧ c ≤ 122
def SignOk (x : Str) : Prop := 1 ≤ x.length ∧ x.length ≤ 8 ∧ Low x
theorem Low.append {x y : Str} (h1 : Low x) (h2 : Low y) : Low (x ++ y) := fun c hc => by
  have e : (x ++ y).cps.toList = x.cps.toList ++ y.cps.toList := Array.toList_append
  rw [e, List.mem_append] at hc
  exact hc.elim (h1 c) (h2 c)
theorem sjoin_low : ∀ ys : List Str, (∀ y ∈ ys, y.length = 1 ∧ Low y) → (Str.join "" ys).length = ys.length ∧ Low (Str.join "" ys)
  | [], _ => ⟨rfl, fun c hc => by simp [Str.join, Str.empty] at hc⟩
  | [x], h => ⟨(h x (by simp)).1, (h x (by simp)).2⟩
  | x :: y :: r, h => by
    obtain ⟨i1, i2⟩ := sjoin_low (y :: r) fun z hz => h z (List.mem_cons_of_mem _ hz)
    obtain ⟨h1, h2⟩ := h x List.mem_cons_self
    show (x ++ ("" : Str) ++ Str.join "" (y :: r)).length = _ ∧ Low (x ++ ("" : Str) ++ Str.join "" (y :: r))
    have e0 : (("" : Str)).length = 0 := rfl
    refine ⟨by rw [strLen_append, strLen_append, h1, e0, i1]; simp only [List.length_cons]; omega, (h2.append (fun c hc => ?_)).append i2⟩
    simp [Str.ofString, cpsOfBytes] at hc
theorem join_low {ys : List Str} (h : ∀ y ∈ ys, y.length = 1 ∧ Low y) : (Txt.join "" ys).length = ys.length ∧ Low (Txt.join "" ys) := by
  rw [show Txt.join "" ys = Str.join "" ys from StrLaws.glued_eq_join _ _]
  exact sjoin_low ys h

inductive ItemsD (S : Sto) : D → List D → Prop
  | lst {p : Addr} {ds : List D} : S p = some (.lst ds) → ItemsD S (.ref p) ds
  | tup (ds : List D) : ItemsD S (.tup ds) ds
  | str (x : Str) : x.length ≤ 1000000 → ItemsD S (.str x) (chars x)
def sp_law_one : Spa := fun ds S Q => ∃ a c k x its, ds = [.ref a, x] ∧ Deck S a c k ∧ k < 1000000000 ∧ ItemsD S x its ∧ x ≠ .ref a ∧ x ≠ .ref c ∧ its ≠ [] ∧ its.length ≤ 1000000 ∧
  ∀ d S', d ∈ its → Ext a c S S' → Deck S' a c (k + 1) → Q d S'
def n_law_one : List Str := ["_law_deck_here", "_law_items"]
def t_law_one : TSa :=
  (aRet (aOp ixA (aVar 1) (aFn 2 sp_law_draw (aCons (aVar 0) (aCons (aCall lenA (aCons (aVar 1) aNil)) aNil)))))
theorem pl_law_one : ∀ ds S Q, ds.length = 2 → sp_law_one ds S Q → semA n_law_one t_law_one ds S Q := by
  rintro ds S Q _ ⟨a, c, k, x, its, rfl, hD, hk, hi, xa, xc, hne, hlen, q⟩
  have hpos : 0 < its.length := List.length_pos_iff.mpr hne
  unfold semA t_law_one
  (repeat (with_reducible (first | refine i_seq ?_ | refine i_next ?_ | refine i_break ?_ | refine i_cont ?_ | refine i_drop ?_ | refine i_ret ?_ | refine i_retN ?_ | refine i_if ?_ | refine i_asg ?_ | refine i_par ?_ | refine i_for ?_ | refine i_nm ?_ | refine i_tp ?_ | refine i_gcons ?_ | refine i_gnil ?_ | refine i_gsub ?_ | refine i_c ?_ | refine i_anil ?_ | refine i_acons ?_ | refine i_tup ?_ | refine i_lst ?_ | refine i_op ?_ | refine i_un ?_ | refine i_call ?_ | refine i_fn ?_ | refine i_test ?_ | refine i_and ?_ | refine i_or ?_ | refine i_not ?_ | refine i_ifx ?_ | refine i_andV ?_ | refine i_orV ?_ | refine i_notV ?_ | refine i_meth ?_ | refine i_sl ?_ | refine i_nopart ?_ | refine i_part ?_ | refine i_revL ?_ | refine i_sortKey ?_ | refine i_sortSet ?_ | refine i_rg1 ?_ | refine i_seqS ?_ | refine i_revR ?_ | refine i_lc ?_ | refine i_yes ?_ | refine i_seqT ?_ | refine i_seqX ?_ | refine i_addI ?_ | refine i_subI ?_ | refine i_negI ?_ | refine i_iaddI ?_ | refine i_eqI ?_ | refine i_neI ?_ | refine i_eqX ?_ | refine i_neX ?_ | refine i_ltI ?_ | refine i_gtI ?_ | refine i_leI ?_ | refine i_geI ?_ | refine i_lenT ?_ | refine i_absI ?_ | refine i_intI ?_ | refine i_lstT ?_ | refine i_slT ?_ | refine i_iteT ?_ | refine i_iteF ?_ | refine i_var (by with_unfolding_all rfl) ?_ | refine i_aug (by with_unfolding_all rfl) ?_ | refine i_ixT (by with_unfolding_all rfl) ?_ | refine ⟨_, _, rfl, ?_⟩ | refine ⟨_, rfl, ?_⟩ | refine ⟨rfl, ?_⟩ | refine ⟨i_tyS, ?_⟩)))
  cases hi with
  | @lst p _ hp =>
    refine i_lenL hp ?_
    (repeat (with_reducible (first | refine i_seq ?_ | refine i_next ?_ | refine i_break ?_ | refine i_cont ?_ | refine i_drop ?_ | refine i_ret ?_ | refine i_retN ?_ | refine i_if ?_ | refine i_asg ?_ | refine i_par ?_ | refine i_for ?_ | refine i_nm ?_ | refine i_tp ?_ | refine i_gcons ?_ | refine i_gnil ?_ | refine i_gsub ?_ | refine i_c ?_ | refine i_anil ?_ | refine i_acons ?_ | refine i_tup ?_ | refine i_lst ?_ | refine i_op ?_ | refine i_un ?_ | refine i_call ?_ | refine i_fn ?_ | refine i_test ?_ | refine i_and ?_ | refine i_or ?_ | refine i_not ?_ | refine i_ifx ?_ | refine i_andV ?_ | refine i_orV ?_ | refine i_notV ?_ | refine i_meth ?_ | refine i_sl ?_ | refine i_nopart ?_ | refine i_part ?_ | refine i_revL ?_ | refine i_sortKey ?_ | refine i_sortSet ?_ | refine i_rg1 ?_ | refine i_seqS ?_ | refine i_revR ?_ | refine i_lc ?_ | refine i_yes ?_ | refine i_seqT ?_ | refine i_seqX ?_ | refine i_addI ?_ | refine i_subI ?_ | refine i_negI ?_ | refine i_iaddI ?_ | refine i_eqI ?_ | refine i_neI ?_ | refine i_eqX ?_ | refine i_neX ?_ | refine i_ltI ?_ | refine i_gtI ?_ | refine i_leI ?_ | refine i_geI ?_ | refine i_lenT ?_ | refine i_absI ?_ | refine i_intI ?_ | refine i_lstT ?_ | refine i_slT ?_ | refine i_iteT ?_ | refine i_iteF ?_ | refine i_var (by with_unfolding_all rfl) ?_ | refine i_aug (by with_unfolding_all rfl) ?_ | refine i_ixT (by with_unfolding_all rfl) ?_ | refine ⟨_, _, rfl, ?_⟩ | refine ⟨_, rfl, ?_⟩ | refine ⟨rfl, ?_⟩ | refine ⟨i_tyS, ?_⟩)))
    refine ⟨a, c, k, _, rfl, hD, hk, by omega, by omega, fun r S' h0 h1 hx hD' => ?_⟩
    have hp' := hx p _ hp (fun e => xa (by rw [e])) (fun e => xc (by rw [e]))
    obtain ⟨d, e1, e2, _⟩ := atI_in h0 h1
    exact i_ixL hp' e1 (q d S' e2 hx hD')
  | tup =>
    (repeat (with_reducible (first | refine i_seq ?_ | refine i_next ?_ | refine i_break ?_ | refine i_cont ?_ | refine i_drop ?_ | refine i_ret ?_ | refine i_retN ?_ | refine i_if ?_ | refine i_asg ?_ | refine i_par ?_ | refine i_for ?_ | refine i_nm ?_ | refine i_tp ?_ | refine i_gcons ?_ | refine i_gnil ?_ | refine i_gsub ?_ | refine i_c ?_ | refine i_anil ?_ | refine i_acons ?_ | refine i_tup ?_ | refine i_lst ?_ | refine i_op ?_ | refine i_un ?_ | refine i_call ?_ | refine i_fn ?_ | refine i_test ?_ | refine i_and ?_ | refine i_or ?_ | refine i_not ?_ | refine i_ifx ?_ | refine i_andV ?_ | refine i_orV ?_ | refine i_notV ?_ | refine i_meth ?_ | refine i_sl ?_ | refine i_nopart ?_ | refine i_part ?_ | refine i_revL ?_ | refine i_sortKey ?_ | refine i_sortSet ?_ | refine i_rg1 ?_ | refine i_seqS ?_ | refine i_revR ?_ | refine i_lc ?_ | refine i_yes ?_ | refine i_seqT ?_ | refine i_seqX ?_ | refine i_addI ?_ | refine i_subI ?_ | refine i_negI ?_ | refine i_iaddI ?_ | refine i_eqI ?_ | refine i_neI ?_ | refine i_eqX ?_ | refine i_neX ?_ | refine i_ltI ?_ | refine i_gtI ?_ | refine i_leI ?_ | refine i_geI ?_ | refine i_lenT ?_ | refine i_absI ?_ | refine i_intI ?_ | refine i_lstT ?_ | refine i_slT ?_ | refine i_iteT ?_ | refine i_iteF ?_ | refine i_var (by with_unfolding_all rfl) ?_ | refine i_aug (by with_unfolding_all rfl) ?_ | refine i_ixT (by with_unfolding_all rfl) ?_ | refine ⟨_, _, rfl, ?_⟩ | refine ⟨_, rfl, ?_⟩ | refine ⟨rfl, ?_⟩ | refine ⟨i_tyS, ?_⟩)))
    refine ⟨a, c, k, _, rfl, hD, hk, by omega, by omega, fun r S' h0 h1 hx hD' => ?_⟩
    obtain ⟨d, e1, e2, _⟩ := atI_in h0 h1
    exact i_ixT e1 (q d S' e2 hx hD')
  | str y hy =>
    have hl : (chars y).length = y.length := by simp [chars, Str.length]
    refine i_lenX (by rw [sizeLine_eq]; omega) ?_
    (repeat (with_reducible (first | refine i_seq ?_ | refine i_next ?_ | refine i_break ?_ | refine i_cont ?_ | refine i_drop ?_ | refine i_ret ?_ | refine i_retN ?_ | refine i_if ?_ | refine i_asg ?_ | refine i_par ?_ | refine i_for ?_ | refine i_nm ?_ | refine i_tp ?_ | refine i_gcons ?_ | refine i_gnil ?_ | refine i_gsub ?_ | refine i_c ?_ | refine i_anil ?_ | refine i_acons ?_ | refine i_tup ?_ | refine i_lst ?_ | refine i_op ?_ | refine i_un ?_ | refine i_call ?_ | refine i_fn ?_ | refine i_test ?_ | refine i_and ?_ | refine i_or ?_ | refine i_not ?_ | refine i_ifx ?_ | refine i_andV ?_ | refine i_orV ?_ | refine i_notV ?_ | refine i_meth ?_ | refine i_sl ?_ | refine i_nopart ?_ | refine i_part ?_ | refine i_revL ?_ | refine i_sortKey ?_ | refine i_sortSet ?_ | refine i_rg1 ?_ | refine i_seqS ?_ | refine i_revR ?_ | refine i_lc ?_ | refine i_yes ?_ | refine i_seqT ?_ | refine i_seqX ?_ | refine i_addI ?_ | refine i_subI ?_ | refine i_negI ?_ | refine i_iaddI ?_ | refine i_eqI ?_ | refine i_neI ?_ | refine i_eqX ?_ | refine i_neX ?_ | refine i_ltI ?_ | refine i_gtI ?_ | refine i_leI ?_ | refine i_geI ?_ | refine i_lenT ?_ | refine i_absI ?_ | refine i_intI ?_ | refine i_lstT ?_ | refine i_slT ?_ | refine i_iteT ?_ | refine i_iteF ?_ | refine i_var (by with_unfolding_all rfl) ?_ | refine i_aug (by with_unfolding_all rfl) ?_ | refine i_ixT (by with_unfolding_all rfl) ?_ | refine ⟨_, _, rfl, ?_⟩ | refine ⟨_, rfl, ?_⟩ | refine ⟨rfl, ?_⟩ | refine ⟨i_tyS, ?_⟩)))
    refine ⟨a, c, k, _, rfl, hD, hk, by omega, by omega, fun r S' h0 h1 hx hD' => ?_⟩
    obtain ⟨d, e1, e2, _⟩ := atI_in (xs := y.cps.toList) h0 (by simpa [Str.length] using h1)
    exact i_ixX (by rw [sizeLine_eq]; omega) e1 (q _ S' (List.mem_map.mpr ⟨d, e2, rfl⟩) hx hD')
/-- a letter of the text of letters is one -/
theorem letter_of {d : D} (h : d ∈ chars "abcdefghijklmnopqrstuvwxyz") : ∃ y : Str, d = .str y ∧ y.length = 1 ∧ Low y := by
  obtain ⟨c, hc, rfl⟩ := List.mem_map.mp h
  refine ⟨_, rfl, rfl, fun b hb => ?_⟩
  have e : b = c := by simpa using hb
  subst e
  have all : (("abcdefghijklmnopqrstuvwxyz" : Str).cps.toList.all fun c => decide (97 ≤ c) && decide (c ≤ 122)) = true := by decide +kernel
  have z := List.all_eq_true.mp all b hc
  simpa using z
theorem letters_len : (("abcdefghijklmnopqrstuvwxyz" : Str)).length = 26 := by decide +kernel
theorem letters_chars : (chars "abcdefghijklmnopqrstuvwxyz").length = 26 := by
  rw [← letters_len]; simp [chars, Str.length]

def w_law (m : Int) : TEa := (aMeth "str" joinA (aC (.str "")) (aCons (aLc (iRg1 (aCons (aFn 2 sp_law_draw (aCons (aVar 0) (aCons (aC (.int m)) aNil))) aNil)) (gNm 5) aYes (aFn 2 sp_law_one (aCons (aVar 0) (aCons (aVar 2) aNil))) (ownIx ([("_law_k", 5)] : List (Str × Nat)))) aNil))
theorem word_ok {S : Sto} {Q : DK} {a c : Addr} {k : Nat} {m : Int} {y1 y3 y4 y5 : Option D} (hD : Deck S a c k) (hk : k < 999999000) (hm0 : 0 < m) (hm1 : m < 100)
    (q : ∀ (x : Str) S', (x.length : Int) < m → Low x → Ext a c S S' → Deck S' a c (k + 101) → Q (.str x) S') : w_law m [some (.ref a), y1, some (.str "abcdefghijklmnopqrstuvwxyz"), y3, y4, y5] S Q := by
  unfold w_law
  (repeat (with_reducible (first | refine i_seq ?_ | refine i_next ?_ | refine i_break ?_ | refine i_cont ?_ | refine i_drop ?_ | refine i_ret ?_ | refine i_retN ?_ | refine i_if ?_ | refine i_asg ?_ | refine i_par ?_ | refine i_for ?_ | refine i_nm ?_ | refine i_tp ?_ | refine i_gcons ?_ | refine i_gnil ?_ | refine i_gsub ?_ | refine i_c ?_ | refine i_anil ?_ | refine i_acons ?_ | refine i_tup ?_ | refine i_lst ?_ | refine i_op ?_ | refine i_un ?_ | refine i_call ?_ | refine i_fn ?_ | refine i_test ?_ | refine i_and ?_ | refine i_or ?_ | refine i_not ?_ | refine i_ifx ?_ | refine i_andV ?_ | refine i_orV ?_ | refine i_notV ?_ | refine i_meth ?_ | refine i_sl ?_ | refine i_nopart ?_ | refine i_part ?_ | refine i_revL ?_ | refine i_sortKey ?_ | refine i_sortSet ?_ | refine i_rg1 ?_ | refine i_seqS ?_ | refine i_revR ?_ | refine i_lc ?_ | refine i_yes ?_ | refine i_seqT ?_ | refine i_seqX ?_ | refine i_addI ?_ | refine i_subI ?_ | refine i_negI ?_ | refine i_iaddI ?_ | refine i_eqI ?_ | refine i_neI ?_ | refine i_eqX ?_ | refine i_neX ?_ | refine i_ltI ?_ | refine i_gtI ?_ | refine i_leI ?_ | refine i_geI ?_ | refine i_lenT ?_ | refine i_absI ?_ | refine i_intI ?_ | refine i_lstT ?_ | refine i_slT ?_ | refine i_iteT ?_ | refine i_iteF ?_ | refine i_var (by with_unfolding_all rfl) ?_ | refine i_aug (by with_unfolding_all rfl) ?_ | refine i_ixT (by with_unfolding_all rfl) ?_ | refine ⟨_, _, rfl, ?_⟩ | refine ⟨_, rfl, ?_⟩ | refine ⟨rfl, ?_⟩ | refine ⟨i_tyS, ?_⟩)))
  refine ⟨a, c, k, m, rfl, hD, by omega, hm0, by omega, fun r S1 h0 h1 hx1 hD1 => ?_⟩
  (repeat (with_reducible (first | refine i_seq ?_ | refine i_next ?_ | refine i_break ?_ | refine i_cont ?_ | refine i_drop ?_ | refine i_ret ?_ | refine i_retN ?_ | refine i_if ?_ | refine i_asg ?_ | refine i_par ?_ | refine i_for ?_ | refine i_nm ?_ | refine i_tp ?_ | refine i_gcons ?_ | refine i_gnil ?_ | refine i_gsub ?_ | refine i_c ?_ | refine i_anil ?_ | refine i_acons ?_ | refine i_tup ?_ | refine i_lst ?_ | refine i_op ?_ | refine i_un ?_ | refine i_call ?_ | refine i_fn ?_ | refine i_test ?_ | refine i_and ?_ | refine i_or ?_ | refine i_not ?_ | refine i_ifx ?_ | refine i_andV ?_ | refine i_orV ?_ | refine i_notV ?_ | refine i_meth ?_ | refine i_sl ?_ | refine i_nopart ?_ | refine i_part ?_ | refine i_revL ?_ | refine i_sortKey ?_ | refine i_sortSet ?_ | refine i_rg1 ?_ | refine i_seqS ?_ | refine i_revR ?_ | refine i_lc ?_ | refine i_yes ?_ | refine i_seqT ?_ | refine i_seqX ?_ | refine i_addI ?_ | refine i_subI ?_ | refine i_negI ?_ | refine i_iaddI ?_ | refine i_eqI ?_ | refine i_neI ?_ | refine i_eqX ?_ | refine i_neX ?_ | refine i_ltI ?_ | refine i_gtI ?_ | refine i_leI ?_ | refine i_geI ?_ | refine i_lenT ?_ | refine i_absI ?_ | refine i_intI ?_ | refine i_lstT ?_ | refine i_slT ?_ | refine i_iteT ?_ | refine i_iteF ?_ | refine i_var (by with_unfolding_all rfl) ?_ | refine i_aug (by with_unfolding_all rfl) ?_ | refine i_ixT (by with_unfolding_all rfl) ?_ | refine ⟨_, _, rfl, ?_⟩ | refine ⟨_, rfl, ?_⟩ | refine ⟨rfl, ?_⟩ | refine ⟨i_tyS, ?_⟩)))
  refine ⟨by omega, ?_⟩
  refine lc_inv (P := fun i acc S' => ∃ ys : List Str, acc = ys.map D.str ∧ ys.length = i ∧ (∀ y ∈ ys, y.length = 1 ∧ Low y) ∧ Ext a c S S' ∧ Deck S' a c (k + 1 + i)) ⟨[], rfl, rfl, fun _ h => (nomatch h), hx1, hD1⟩ (fun _ _ _ _ _ => trivial) ?_ ?_
  · rintro i d acc S2 K hd ⟨ys, rfl, hl, hy, hx2, hD2⟩ hK
    have hi := (List.getElem?_eq_some_iff.mp hd).1
    rw [intsD_len] at hi
    (repeat (with_reducible (first | refine i_seq ?_ | refine i_next ?_ | refine i_break ?_ | refine i_cont ?_ | refine i_drop ?_ | refine i_ret ?_ | refine i_retN ?_ | refine i_if ?_ | refine i_asg ?_ | refine i_par ?_ | refine i_for ?_ | refine i_nm ?_ | refine i_tp ?_ | refine i_gcons ?_ | refine i_gnil ?_ | refine i_gsub ?_ | refine i_c ?_ | refine i_anil ?_ | refine i_acons ?_ | refine i_tup ?_ | refine i_lst ?_ | refine i_op ?_ | refine i_un ?_ | refine i_call ?_ | refine i_fn ?_ | refine i_test ?_ | refine i_and ?_ | refine i_or ?_ | refine i_not ?_ | refine i_ifx ?_ | refine i_andV ?_ | refine i_orV ?_ | refine i_notV ?_ | refine i_meth ?_ | refine i_sl ?_ | refine i_nopart ?_ | refine i_part ?_ | refine i_revL ?_ | refine i_sortKey ?_ | refine i_sortSet ?_ | refine i_rg1 ?_ | refine i_seqS ?_ | refine i_revR ?_ | refine i_lc ?_ | refine i_yes ?_ | refine i_seqT ?_ | refine i_seqX ?_ | refine i_addI ?_ | refine i_subI ?_ | refine i_negI ?_ | refine i_iaddI ?_ | refine i_eqI ?_ | refine i_neI ?_ | refine i_eqX ?_ | refine i_neX ?_ | refine i_ltI ?_ | refine i_gtI ?_ | refine i_leI ?_ | refine i_geI ?_ | refine i_lenT ?_ | refine i_absI ?_ | refine i_intI ?_ | refine i_lstT ?_ | refine i_slT ?_ | refine i_iteT ?_ | refine i_iteF ?_ | refine i_var (by with_unfolding_all rfl) ?_ | refine i_aug (by with_unfolding_all rfl) ?_ | refine i_ixT (by with_unfolding_all rfl) ?_ | refine ⟨_, _, rfl, ?_⟩ | refine ⟨_, rfl, ?_⟩ | refine ⟨rfl, ?_⟩ | refine ⟨i_tyS, ?_⟩)))
    refine ⟨a, c, k + 1 + i, _, _, rfl, hD2, by omega, .str _ (by rw [letters_len]; decide), (by intro h; cases h), (by intro h; cases h), ?_, by rw [letters_chars]; decide, fun e S3 he hx3 hD3 => ?_⟩
    · intro h
      have z := letters_chars
      rw [h] at z
      cases z
    · obtain ⟨y, rfl, hy1, hy2⟩ := letter_of he
      refine ⟨by rw [List.length_map, sizeLine_eq]; omega, hK _ _ ⟨ys ++ [y], by simp, by simp [hl], fun z hz => ?_, hx2.trans hx3, hD3⟩⟩
      rcases List.mem_append.mp hz with h | h
      · exact hy z h
      · rw [List.mem_singleton.mp h]; exact ⟨hy1, hy2⟩
  · rintro acc S2 ⟨ys, rfl, hl, hy, hx2, hD2⟩ p hp
    rw [intsD_len] at hl hD2
    (repeat (with_reducible (first | refine i_seq ?_ | refine i_next ?_ | refine i_break ?_ | refine i_cont ?_ | refine i_drop ?_ | refine i_ret ?_ | refine i_retN ?_ | refine i_if ?_ | refine i_asg ?_ | refine i_par ?_ | refine i_for ?_ | refine i_nm ?_ | refine i_tp ?_ | refine i_gcons ?_ | refine i_gnil ?_ | refine i_gsub ?_ | refine i_c ?_ | refine i_anil ?_ | refine i_acons ?_ | refine i_tup ?_ | refine i_lst ?_ | refine i_op ?_ | refine i_un ?_ | refine i_call ?_ | refine i_fn ?_ | refine i_test ?_ | refine i_and ?_ | refine i_or ?_ | refine i_not ?_ | refine i_ifx ?_ | refine i_andV ?_ | refine i_orV ?_ | refine i_notV ?_ | refine i_meth ?_ | refine i_sl ?_ | refine i_nopart ?_ | refine i_part ?_ | refine i_revL ?_ | refine i_sortKey ?_ | refine i_sortSet ?_ | refine i_rg1 ?_ | refine i_seqS ?_ | refine i_revR ?_ | refine i_lc ?_ | refine i_yes ?_ | refine i_seqT ?_ | refine i_seqX ?_ | refine i_addI ?_ | refine i_subI ?_ | refine i_negI ?_ | refine i_iaddI ?_ | refine i_eqI ?_ | refine i_neI ?_ | refine i_eqX ?_ | refine i_neX ?_ | refine i_ltI ?_ | refine i_gtI ?_ | refine i_leI ?_ | refine i_geI ?_ | refine i_lenT ?_ | refine i_absI ?_ | refine i_intI ?_ | refine i_lstT ?_ | refine i_slT ?_ | refine i_iteT ?_ | refine i_iteF ?_ | refine i_var (by with_unfolding_all rfl) ?_ | refine i_aug (by with_unfolding_all rfl) ?_ | refine i_ixT (by with_unfolding_all rfl) ?_ | refine ⟨_, _, rfl, ?_⟩ | refine ⟨_, rfl, ?_⟩ | refine ⟨rfl, ?_⟩ | refine ⟨i_tyS, ?_⟩)))
    obtain ⟨j1, j2⟩ := join_low hy
    refine i_join put_same ?_ ?_
    · have hs : (ys.map (·.length)).sum = ys.length := by
        have : ∀ l : List Str, (∀ y ∈ l, y.length = 1 ∧ Low y) → (l.map (·.length)).sum = l.length := by
          intro l
          induction l with
          | nil => intro _; rfl
          | cons y l ih =>
            intro h
            rw [List.map_cons, List.sum_cons, ih fun z hz => h z (List.mem_cons_of_mem _ hz), (h y List.mem_cons_self).1, List.length_cons]
            omega
        exact this ys hy
      have e0 : (("" : Str)).length = 0 := rfl
      rw [hs, e0]
      omega
    · exact q _ _ (by rw [j1]; omega) j2 (hx2.trans (Ext.new hp)) ((hD2.new hp).mono (by omega))

def sp_law_signs : Spa := fun ds S Q => ∃ a c k m, ds = [.ref a, .int m] ∧ Deck S a c k ∧ k < 999990000 ∧ 0 ≤ m ∧ m ≤ 6 ∧
  ∀ (xs : List Str) p S', xs.length = m.toNat → (∀ x ∈ xs, SignOk x) → S p = none → S' p = some (.lst (xs.map D.str)) → p ≠ a → p ≠ c → Ext a c S S' → Deck S' a c (k + 202) → Q (.ref p) S'
def n_law_signs : List Str := ["_law_deck_here", "_law_many", "_law_letters", "_law_left", "_law_right", "_law_k"]
def t_law_signs : TSa :=
  (aSeq (aAsg (aC (.str "abcdefghijklmnopqrstuvwxyz")) (gNm 2))
  (aSeq (aAsg (w_law 4) (gNm 3))
  (aSeq (aAsg (w_law 5) (gNm 4))
  (aRet (aLc (iRg1 (aCons (aVar 1) aNil)) (gNm 5) aYes (aOp addA (aOp addA (aVar 3) (aOp ixA (aC (.str "bdgkpx")) (aVar 5))) (aVar 4)) (ownIx ([("_law_k", 5)] : List (Str × Nat))))))))
theorem pl_law_signs : ∀ ds S Q, ds.length = 2 → sp_law_signs ds S Q → semA n_law_signs t_law_signs ds S Q := by
  rintro ds S Q _ ⟨a, c, k, m, rfl, hD, hk, hm0, hm1, q⟩
  unfold semA t_law_signs
  (repeat (with_reducible (first | refine i_seq ?_ | refine i_next ?_ | refine i_break ?_ | refine i_cont ?_ | refine i_drop ?_ | refine i_ret ?_ | refine i_retN ?_ | refine i_if ?_ | refine i_asg ?_ | refine i_par ?_ | refine i_for ?_ | refine i_nm ?_ | refine i_tp ?_ | refine i_gcons ?_ | refine i_gnil ?_ | refine i_gsub ?_ | refine i_c ?_ | refine i_anil ?_ | refine i_acons ?_ | refine i_tup ?_ | refine i_lst ?_ | refine i_op ?_ | refine i_un ?_ | refine i_call ?_ | refine i_fn ?_ | refine i_test ?_ | refine i_and ?_ | refine i_or ?_ | refine i_not ?_ | refine i_ifx ?_ | refine i_andV ?_ | refine i_orV ?_ | refine i_notV ?_ | refine i_meth ?_ | refine i_sl ?_ | refine i_nopart ?_ | refine i_part ?_ | refine i_revL ?_ | refine i_sortKey ?_ | refine i_sortSet ?_ | refine i_rg1 ?_ | refine i_seqS ?_ | refine i_revR ?_ | refine i_lc ?_ | refine i_yes ?_ | refine i_seqT ?_ | refine i_seqX ?_ | refine i_addI ?_ | refine i_subI ?_ | refine i_negI ?_ | refine i_iaddI ?_ | refine i_eqI ?_ | refine i_neI ?_ | refine i_eqX ?_ | refine i_neX ?_ | refine i_ltI ?_ | refine i_gtI ?_ | refine i_leI ?_ | refine i_geI ?_ | refine i_lenT ?_ | refine i_absI ?_ | refine i_intI ?_ | refine i_lstT ?_ | refine i_slT ?_ | refine i_iteT ?_ | refine i_iteF ?_ | refine i_var (by with_unfolding_all rfl) ?_ | refine i_aug (by with_unfolding_all rfl) ?_ | refine i_ixT (by with_unfolding_all rfl) ?_ | refine ⟨_, _, rfl, ?_⟩ | refine ⟨_, rfl, ?_⟩ | refine ⟨rfl, ?_⟩ | refine ⟨i_tyS, ?_⟩)))
  refine word_ok hD (by omega) (by decide) (by decide) fun lx S1 hl1 hlow1 hx1 hD1 => ?_
  (repeat (with_reducible (first | refine i_seq ?_ | refine i_next ?_ | refine i_break ?_ | refine i_cont ?_ | refine i_drop ?_ | refine i_ret ?_ | refine i_retN ?_ | refine i_if ?_ | refine i_asg ?_ | refine i_par ?_ | refine i_for ?_ | refine i_nm ?_ | refine i_tp ?_ | refine i_gcons ?_ | refine i_gnil ?_ | refine i_gsub ?_ | refine i_c ?_ | refine i_anil ?_ | refine i_acons ?_ | refine i_tup ?_ | refine i_lst ?_ | refine i_op ?_ | refine i_un ?_ | refine i_call ?_ | refine i_fn ?_ | refine i_test ?_ | refine i_and ?_ | refine i_or ?_ | refine i_not ?_ | refine i_ifx ?_ | refine i_andV ?_ | refine i_orV ?_ | refine i_notV ?_ | refine i_meth ?_ | refine i_sl ?_ | refine i_nopart ?_ | refine i_part ?_ | refine i_revL ?_ | refine i_sortKey ?_ | refine i_sortSet ?_ | refine i_rg1 ?_ | refine i_seqS ?_ | refine i_revR ?_ | refine i_lc ?_ | refine i_yes ?_ | refine i_seqT ?_ | refine i_seqX ?_ | refine i_addI ?_ | refine i_subI ?_ | refine i_negI ?_ | refine i_iaddI ?_ | refine i_eqI ?_ | refine i_neI ?_ | refine i_eqX ?_ | refine i_neX ?_ | refine i_ltI ?_ | refine i_gtI ?_ | refine i_leI ?_ | refine i_geI ?_ | refine i_lenT ?_ | refine i_absI ?_ | refine i_intI ?_ | refine i_lstT ?_ | refine i_slT ?_ | refine i_iteT ?_ | refine i_iteF ?_ | refine i_var (by with_unfolding_all rfl) ?_ | refine i_aug (by with_unfolding_all rfl) ?_ | refine i_ixT (by with_unfolding_all rfl) ?_ | refine ⟨_, _, rfl, ?_⟩ | refine ⟨_, rfl, ?_⟩ | refine ⟨rfl, ?_⟩ | refine ⟨i_tyS, ?_⟩)))
  refine word_ok hD1 (by omega) (by decide) (by decide) fun rx S2 hl2 hlow2 hx2 hD2 => ?_
  (repeat (with_reducible (first | refine i_seq ?_ | refine i_next ?_ | refine i_break ?_ | refine i_cont ?_ | refine i_drop ?_ | refine i_ret ?_ | refine i_retN ?_ | refine i_if ?_ | refine i_asg ?_ | refine i_par ?_ | refine i_for ?_ | refine i_nm ?_ | refine i_tp ?_ | refine i_gcons ?_ | refine i_gnil ?_ | refine i_gsub ?_ | refine i_c ?_ | refine i_anil ?_ | refine i_acons ?_ | refine i_tup ?_ | refine i_lst ?_ | refine i_op ?_ | refine i_un ?_ | refine i_call ?_ | refine i_fn ?_ | refine i_test ?_ | refine i_and ?_ | refine i_or ?_ | refine i_not ?_ | refine i_ifx ?_ | refine i_andV ?_ | refine i_orV ?_ | refine i_notV ?_ | refine i_meth ?_ | refine i_sl ?_ | refine i_nopart ?_ | refine i_part ?_ | refine i_revL ?_ | refine i_sortKey ?_ | refine i_sortSet ?_ | refine i_rg1 ?_ | refine i_seqS ?_ | refine i_revR ?_ | refine i_lc ?_ | refine i_yes ?_ | refine i_seqT ?_ | refine i_seqX ?_ | refine i_addI ?_ | refine i_subI ?_ | refine i_negI ?_ | refine i_iaddI ?_ | refine i_eqI ?_ | refine i_neI ?_ | refine i_eqX ?_ | refine i_neX ?_ | refine i_ltI ?_ | refine i_gtI ?_ | refine i_leI ?_ | refine i_geI ?_ | refine i_lenT ?_ | refine i_absI ?_ | refine i_intI ?_ | refine i_lstT ?_ | refine i_slT ?_ | refine i_iteT ?_ | refine i_iteF ?_ | refine i_var (by with_unfolding_all rfl) ?_ | refine i_aug (by with_unfolding_all rfl) ?_ | refine i_ixT (by with_unfolding_all rfl) ?_ | refine ⟨_, _, rfl, ?_⟩ | refine ⟨_, rfl, ?_⟩ | refine ⟨rfl, ?_⟩ | refine ⟨i_tyS, ?_⟩)))
  refine ⟨by omega, ?_⟩
  have hx12 := hx1.trans hx2
  refine lc_inv (P := fun i acc S' => S' = S2 ∧ ∃ ys : List Str, acc = ys.map D.str ∧ ys.length = i ∧ (∀ y ∈ ys, SignOk y)) ⟨rfl, [], rfl, rfl, fun _ h => (nomatch h)⟩ (fun _ _ _ _ _ => trivial) ?_ ?_
  · rintro i d acc S3 K hd ⟨rfl, ys, rfl, hl, hy⟩ hK
    obtain ⟨hi, rfl⟩ := intsD_get hd
    (repeat (with_reducible (first | refine i_seq ?_ | refine i_next ?_ | refine i_break ?_ | refine i_cont ?_ | refine i_drop ?_ | refine i_ret ?_ | refine i_retN ?_ | refine i_if ?_ | refine i_asg ?_ | refine i_par ?_ | refine i_for ?_ | refine i_nm ?_ | refine i_tp ?_ | refine i_gcons ?_ | refine i_gnil ?_ | refine i_gsub ?_ | refine i_c ?_ | refine i_anil ?_ | refine i_acons ?_ | refine i_tup ?_ | refine i_lst ?_ | refine i_op ?_ | refine i_un ?_ | refine i_call ?_ | refine i_fn ?_ | refine i_test ?_ | refine i_and ?_ | refine i_or ?_ | refine i_not ?_ | refine i_ifx ?_ | refine i_andV ?_ | refine i_orV ?_ | refine i_notV ?_ | refine i_meth ?_ | refine i_sl ?_ | refine i_nopart ?_ | refine i_part ?_ | refine i_revL ?_ | refine i_sortKey ?_ | refine i_sortSet ?_ | refine i_rg1 ?_ | refine i_seqS ?_ | refine i_revR ?_ | refine i_lc ?_ | refine i_yes ?_ | refine i_seqT ?_ | refine i_seqX ?_ | refine i_addI ?_ | refine i_subI ?_ | refine i_negI ?_ | refine i_iaddI ?_ | refine i_eqI ?_ | refine i_neI ?_ | refine i_eqX ?_ | refine i_neX ?_ | refine i_ltI ?_ | refine i_gtI ?_ | refine i_leI ?_ | refine i_geI ?_ | refine i_lenT ?_ | refine i_absI ?_ | refine i_intI ?_ | refine i_lstT ?_ | refine i_slT ?_ | refine i_iteT ?_ | refine i_iteF ?_ | refine i_var (by with_unfolding_all rfl) ?_ | refine i_aug (by with_unfolding_all rfl) ?_ | refine i_ixT (by with_unfolding_all rfl) ?_ | refine ⟨_, _, rfl, ?_⟩ | refine ⟨_, rfl, ?_⟩ | refine ⟨rfl, ?_⟩ | refine ⟨i_tyS, ?_⟩)))
    have h6 : (("bdgkpx" : Str).cps.toList).length = 6 := by decide +kernel
    obtain ⟨cp, e1, e2, _⟩ := atI_in (xs := ("bdgkpx" : Str).cps.toList) (i := 0 + (i : Int)) (by omega) (by rw [h6]; omega)
    have h6' : (("bdgkpx" : Str)).length = 6 := by decide +kernel
    refine i_ixX (by rw [h6', sizeLine_eq]; decide) e1 ?_
    have hc : 97 ≤ cp ∧ cp ≤ 122 := by
      have all : (("bdgkpx" : Str).cps.toList.all fun c => decide (97 ≤ c) && decide (c ≤ 122)) = true := by decide +kernel
      have z := List.all_eq_true.mp all cp e2
      simpa using z
    have lowc : Low (⟨#[cp]⟩ : Str) := fun b hb => by
      have e : b = cp := by simpa using hb
      rw [e]; exact hc
    have l1 : ((⟨#[cp]⟩ : Str)).length = 1 := rfl
    refine i_addX (by rw [l1, sizeLine_eq]; omega) ?_
    (repeat (with_reducible (first | refine i_seq ?_ | refine i_next ?_ | refine i_break ?_ | refine i_cont ?_ | refine i_drop ?_ | refine i_ret ?_ | refine i_retN ?_ | refine i_if ?_ | refine i_asg ?_ | refine i_par ?_ | refine i_for ?_ | refine i_nm ?_ | refine i_tp ?_ | refine i_gcons ?_ | refine i_gnil ?_ | refine i_gsub ?_ | refine i_c ?_ | refine i_anil ?_ | refine i_acons ?_ | refine i_tup ?_ | refine i_lst ?_ | refine i_op ?_ | refine i_un ?_ | refine i_call ?_ | refine i_fn ?_ | refine i_test ?_ | refine i_and ?_ | refine i_or ?_ | refine i_not ?_ | refine i_ifx ?_ | refine i_andV ?_ | refine i_orV ?_ | refine i_notV ?_ | refine i_meth ?_ | refine i_sl ?_ | refine i_nopart ?_ | refine i_part ?_ | refine i_revL ?_ | refine i_sortKey ?_ | refine i_sortSet ?_ | refine i_rg1 ?_ | refine i_seqS ?_ | refine i_revR ?_ | refine i_lc ?_ | refine i_yes ?_ | refine i_seqT ?_ | refine i_seqX ?_ | refine i_addI ?_ | refine i_subI ?_ | refine i_negI ?_ | refine i_iaddI ?_ | refine i_eqI ?_ | refine i_neI ?_ | refine i_eqX ?_ | refine i_neX ?_ | refine i_ltI ?_ | refine i_gtI ?_ | refine i_leI ?_ | refine i_geI ?_ | refine i_lenT ?_ | refine i_absI ?_ | refine i_intI ?_ | refine i_lstT ?_ | refine i_slT ?_ | refine i_iteT ?_ | refine i_iteF ?_ | refine i_var (by with_unfolding_all rfl) ?_ | refine i_aug (by with_unfolding_all rfl) ?_ | refine i_ixT (by with_unfolding_all rfl) ?_ | refine ⟨_, _, rfl, ?_⟩ | refine ⟨_, rfl, ?_⟩ | refine ⟨rfl, ?_⟩ | refine ⟨i_tyS, ?_⟩)))
    refine i_addX (by rw [strLen_append, l1, sizeLine_eq]; omega) ?_
    refine ⟨by rw [List.length_map, sizeLine_eq]; omega, hK _ _ ⟨rfl, ys ++ [lx ++ ⟨#[cp]⟩ ++ rx], by simp, by simp [hl], fun z hz => ?_⟩⟩
    rcases List.mem_append.mp hz with h | h
    · exact hy z h
    · rw [List.mem_singleton.mp h]
      exact ⟨by rw [strLen_append, strLen_append, l1]; omega, by rw [strLen_append, strLen_append, l1]; omega, (hlow1.append lowc).append hlow2⟩
  · rintro acc S3 ⟨rfl, ys, rfl, hl, hy⟩ p hp
    rw [intsD_len] at hl
    obtain ⟨n1, n2⟩ := hD2.ne hp
    refine q ys p _ hl hy ?_ put_same n1 n2 (hx12.trans (Ext.new hp)) (hD2.new hp)
    cases e : S p with
    | none => rfl
    | some o => rw [hx12 p o e n1 n2] at hp; cases hp

def n_law_deck : List Str := ["_law_script", "_law_cell"]
def t_law_deck : TSa :=
  (aRet (aLst (aCons (aLc (iSeq (aSl (aVar 0) aNoPart (aPart (aC (.int 63))))) (gNm 1) aYes (aCall absA (aCons (aVar 1) aNil)) (ownIx ([("_law_cell", 1)] : List (Str × Nat)))) (aCons (aC (.int 0)) aNil))))
theorem pl_law_deck : ∀ ds S Q, ds.length = 1 → sp_law_deck ds S Q → semA n_law_deck t_law_deck ds S Q := by
  rintro ds S Q _ ⟨ns, rfl, q⟩
  unfold semA t_law_deck
  (repeat (with_reducible (first | refine i_seq ?_ | refine i_next ?_ | refine i_break ?_ | refine i_cont ?_ | refine i_drop ?_ | refine i_ret ?_ | refine i_retN ?_ | refine i_if ?_ | refine i_asg ?_ | refine i_par ?_ | refine i_for ?_ | refine i_nm ?_ | refine i_tp ?_ | refine i_gcons ?_ | refine i_gnil ?_ | refine i_gsub ?_ | refine i_c ?_ | refine i_anil ?_ | refine i_acons ?_ | refine i_tup ?_ | refine i_lst ?_ | refine i_op ?_ | refine i_un ?_ | refine i_call ?_ | refine i_fn ?_ | refine i_test ?_ | refine i_and ?_ | refine i_or ?_ | refine i_not ?_ | refine i_ifx ?_ | refine i_andV ?_ | refine i_orV ?_ | refine i_notV ?_ | refine i_meth ?_ | refine i_sl ?_ | refine i_nopart ?_ | refine i_part ?_ | refine i_revL ?_ | refine i_sortKey ?_ | refine i_sortSet ?_ | refine i_rg1 ?_ | refine i_seqS ?_ | refine i_revR ?_ | refine i_lc ?_ | refine i_yes ?_ | refine i_seqT ?_ | refine i_seqX ?_ | refine i_addI ?_ | refine i_subI ?_ | refine i_negI ?_ | refine i_iaddI ?_ | refine i_eqI ?_ | refine i_neI ?_ | refine i_eqX ?_ | refine i_neX ?_ | refine i_ltI ?_ | refine i_gtI ?_ | refine i_leI ?_ | refine i_geI ?_ | refine i_lenT ?_ | refine i_absI ?_ | refine i_intI ?_ | refine i_lstT ?_ | refine i_slT ?_ | refine i_iteT ?_ | refine i_iteF ?_ | refine i_var (by with_unfolding_all rfl) ?_ | refine i_aug (by with_unfolding_all rfl) ?_ | refine i_ixT (by with_unfolding_all rfl) ?_ | refine ⟨_, _, rfl, ?_⟩ | refine ⟨_, rfl, ?_⟩ | refine ⟨rfl, ?_⟩ | refine ⟨i_tyS, ?_⟩)))
  refine i_slR fun p hp => ?_
  have cut : ∃ ms : List Int, cutD (ns.map D.int) none (some 63) = ms.map D.int ∧ ms.length ≤ 63 := by
    refine ⟨(ns.drop 0).take (HT.sIx ns.length ns.length (some 63) - 0), by unfold cutD; rw [List.map_take, List.map_drop, List.length_map]; rfl, ?_⟩
    have e : HT.sIx ns.length ns.length (some 63) = min 63 ns.length := HT.sIx_nat _ _ 63
    rw [List.length_take, e]
    omega
  obtain ⟨ms, e, hms⟩ := cut
  rw [e]
  refine i_seqL put_same ?_
  refine lc_inv (P := fun i acc S' => S' = put S p (.lst (ms.map D.int)) ∧ ∃ zs : List Int, acc = zs.map D.int ∧ zs.length = i ∧ ∀ z ∈ zs, 0 ≤ z) ⟨rfl, [], rfl, rfl, fun _ h => (nomatch h)⟩ (fun i acc S' _ h => by rw [h.1]; exact put_same) ?_ ?_
  · rintro i d acc S1 K hd ⟨rfl, zs, rfl, hl, hz⟩ hK
    rw [List.getElem?_map, Option.map_eq_some_iff] at hd
    obtain ⟨n, hn, rfl⟩ := hd
    have hi := (List.getElem?_eq_some_iff.mp hn).1
    (repeat (with_reducible (first | refine i_seq ?_ | refine i_next ?_ | refine i_break ?_ | refine i_cont ?_ | refine i_drop ?_ | refine i_ret ?_ | refine i_retN ?_ | refine i_if ?_ | refine i_asg ?_ | refine i_par ?_ | refine i_for ?_ | refine i_nm ?_ | refine i_tp ?_ | refine i_gcons ?_ | refine i_gnil ?_ | refine i_gsub ?_ | refine i_c ?_ | refine i_anil ?_ | refine i_acons ?_ | refine i_tup ?_ | refine i_lst ?_ | refine i_op ?_ | refine i_un ?_ | refine i_call ?_ | refine i_fn ?_ | refine i_test ?_ | refine i_and ?_ | refine i_or ?_ | refine i_not ?_ | refine i_ifx ?_ | refine i_andV ?_ | refine i_orV ?_ | refine i_notV ?_ | refine i_meth ?_ | refine i_sl ?_ | refine i_nopart ?_ | refine i_part ?_ | refine i_revL ?_ | refine i_sortKey ?_ | refine i_sortSet ?_ | refine i_rg1 ?_ | refine i_seqS ?_ | refine i_revR ?_ | refine i_lc ?_ | refine i_yes ?_ | refine i_seqT ?_ | refine i_seqX ?_ | refine i_addI ?_ | refine i_subI ?_ | refine i_negI ?_ | refine i_iaddI ?_ | refine i_eqI ?_ | refine i_neI ?_ | refine i_eqX ?_ | refine i_neX ?_ | refine i_ltI ?_ | refine i_gtI ?_ | refine i_leI ?_ | refine i_geI ?_ | refine i_lenT ?_ | refine i_absI ?_ | refine i_intI ?_ | refine i_lstT ?_ | refine i_slT ?_ | refine i_iteT ?_ | refine i_iteF ?_ | refine i_var (by with_unfolding_all rfl) ?_ | refine i_aug (by with_unfolding_all rfl) ?_ | refine i_ixT (by with_unfolding_all rfl) ?_ | refine ⟨_, _, rfl, ?_⟩ | refine ⟨_, rfl, ?_⟩ | refine ⟨rfl, ?_⟩ | refine ⟨i_tyS, ?_⟩)))
    refine ⟨by rw [List.length_map, sizeLine_eq]; omega, hK _ _ ⟨rfl, zs ++ [if n < 0 then -n else n], by simp, by simp [hl], fun z hz' => ?_⟩⟩
    rcases List.mem_append.mp hz' with h | h
    · exact hz z h
    · rw [List.mem_singleton.mp h]; split <;> omega
  · rintro acc S1 ⟨rfl, zs, rfl, hl, hz⟩ c hc
    (repeat (with_reducible (first | refine i_seq ?_ | refine i_next ?_ | refine i_break ?_ | refine i_cont ?_ | refine i_drop ?_ | refine i_ret ?_ | refine i_retN ?_ | refine i_if ?_ | refine i_asg ?_ | refine i_par ?_ | refine i_for ?_ | refine i_nm ?_ | refine i_tp ?_ | refine i_gcons ?_ | refine i_gnil ?_ | refine i_gsub ?_ | refine i_c ?_ | refine i_anil ?_ | refine i_acons ?_ | refine i_tup ?_ | refine i_lst ?_ | refine i_op ?_ | refine i_un ?_ | refine i_call ?_ | refine i_fn ?_ | refine i_test ?_ | refine i_and ?_ | refine i_or ?_ | refine i_not ?_ | refine i_ifx ?_ | refine i_andV ?_ | refine i_orV ?_ | refine i_notV ?_ | refine i_meth ?_ | refine i_sl ?_ | refine i_nopart ?_ | refine i_part ?_ | refine i_revL ?_ | refine i_sortKey ?_ | refine i_sortSet ?_ | refine i_rg1 ?_ | refine i_seqS ?_ | refine i_revR ?_ | refine i_lc ?_ | refine i_yes ?_ | refine i_seqT ?_ | refine i_seqX ?_ | refine i_addI ?_ | refine i_subI ?_ | refine i_negI ?_ | refine i_iaddI ?_ | refine i_eqI ?_ | refine i_neI ?_ | refine i_eqX ?_ | refine i_neX ?_ | refine i_ltI ?_ | refine i_gtI ?_ | refine i_leI ?_ | refine i_geI ?_ | refine i_lenT ?_ | refine i_absI ?_ | refine i_intI ?_ | refine i_lstT ?_ | refine i_slT ?_ | refine i_iteT ?_ | refine i_iteF ?_ | refine i_var (by with_unfolding_all rfl) ?_ | refine i_aug (by with_unfolding_all rfl) ?_ | refine i_ixT (by with_unfolding_all rfl) ?_ | refine ⟨_, _, rfl, ?_⟩ | refine ⟨_, rfl, ?_⟩ | refine ⟨rfl, ?_⟩ | refine ⟨i_tyS, ?_⟩)))
    refine ⟨by simp [sizeLine_eq], fun a ha => ?_⟩
    rw [List.length_map] at hl
    have nca : a ≠ c := fun h => by subst h; rw [put_same] at ha; cases ha
    have hc0 : S c = none := by
      cases e2 : S c with
      | none => rfl
      | some o => rw [put_ne (fun h => by subst h; rw [hp] at e2; cases e2), e2] at hc; cases hc
    have ha0 : S a = none := by
      rw [put_ne nca] at ha
      cases e2 : S a with
      | none => rfl
      | some o => rw [put_ne (fun h => by subst h; rw [hp] at e2; cases e2), e2] at ha; cases ha
    refine q a c _ (((Keeps.new hp).trans (Keeps.new hc)).trans (Keeps.new ha)) ha0 hc0 ⟨nca, zs, 0, put_same, by rw [put_ne nca.symm]; exact put_same, hz, by omega, Int.le_refl _, by omega⟩
end AL

namespace AL
open PySem PySem.Spec PyProof.Rows L2

/-! ### order of keyed trees -/
theorem dlt_total {d e : D} (h1 : d.keyed = true) (h2 : e.keyed = true) (ha : PySem.W.alike d.py e.py = true) (l1 : PySem.W.dataLt d.py e.py = false) (l2 : PySem.W.dataLt e.py d.py = false) : d = e := by
  have et : PySem.W.keyToks d.py = PySem.W.keyToks e.py := lex_total (O := PyProof.Rows.itemOrd) _ _ l1 l2
  refine keyed_eqv d e h1 h2 ?_
  cases hx : PyData.eqv d.py e.py with
  | true => rfl
  | false =>
    have z := (PySem.W.toks_eqv d.py e.py ha).2 hx [] [Sum.inl 0]
    rw [et, lex_irrefl, List.append_nil] at z
    have pre : ∀ t : List (Int ⊕ List Nat), PyProof.Rows.lexLt PyProof.Rows.itemOrd t (t ++ [Sum.inl 0]) = true := fun t => by
      have q := PySem.W.lex_pre t [] [Sum.inl 0]
      rw [List.append_nil] at q
      rw [q]
      rfl
    rw [pre] at z
    cases z
theorem dlt_irrefl (p : PyData) : PySem.W.dataLt p p = false := lex_irrefl _
theorem dlt_trans {p q r : PyData} (h1 : PySem.W.dataLt p q = true) (h2 : PySem.W.dataLt q r = true) : PySem.W.dataLt p r = true := lex_trans _ _ _ h1 h2
theorem dlt_asymm {p q : PyData} (h : PySem.W.dataLt p q = true) : PySem.W.dataLt q p = false := by
  cases e : PySem.W.dataLt q p with
  | false => rfl
  | true => have z := dlt_trans h e; rw [dlt_irrefl] at z; cases z
theorem dle_false {α : Type} (k : α → PyData) (x y : α) : PySem.W.dataLe false k x y = !PySem.W.dataLt (k y) (k x) := rfl

/-! ### mazes -/
inductive Mz where
  | mk (s : Str) (bs : List Mz)
def Mz.sg : Mz → Str | .mk s _ => s
def Mz.bs : Mz → List Mz | .mk _ b => b
mutual
def Mz.d : Mz → D
  | .mk s bs => .tup [.str s, .tup (Mz.ds bs)]
def Mz.ds : List Mz → List D
  | [] => []
  | m :: r => Mz.d m :: Mz.ds r
end
mutual
def Mz.size : Mz → Nat
  | .mk _ bs => 1 + Mz.sizes bs
def Mz.sizes : List Mz → Nat
  | [] => 0
  | m :: r => Mz.size m + Mz.sizes r
end
mutual
def Mz.key : Mz → D
  | .mk s bs => .tup [.int (1 + Mz.sizes bs : Nat), .str s, .int bs.length, .tup (Mz.keys bs)]
def Mz.keys : List Mz → List D
  | [] => []
  | m :: r => Mz.key m :: Mz.keys r
end
mutual
/-- signs as they should be, two branches at most -/
def Mz.Ok : Mz → Prop
  | .mk s bs => SignOk s ∧ bs.length ≤ 2 ∧ Mz.Oks bs
def Mz.Oks : List Mz → Prop
  | [] => True
  | m :: r => Mz.Ok m ∧ Mz.Oks r
end
theorem Mz.ds_map : ∀ bs : List Mz, Mz.ds bs = bs.map Mz.d
  | [] => rfl
  | m :: r => by rw [Mz.ds, Mz.ds_map r]; rfl
theorem Mz.keys_map : ∀ bs : List Mz, Mz.keys bs = bs.map Mz.key
  | [] => rfl
  | m :: r => by rw [Mz.keys, Mz.keys_map r]; rfl
theorem Mz.sizes_sum : ∀ bs : List Mz, Mz.sizes bs = (bs.map Mz.size).sum
  | [] => rfl
  | m :: r => by rw [Mz.sizes, Mz.sizes_sum r]; rfl
theorem Mz.oks_iff : ∀ bs : List Mz, Mz.Oks bs ↔ ∀ m ∈ bs, m.Ok
  | [] => ⟨fun _ _ h => (nomatch h), fun _ => trivial⟩
  | m :: r => by
    rw [Mz.Oks, Mz.oks_iff r]
    exact ⟨fun h x hx => (List.mem_cons.mp hx).elim (fun e => e ▸ h.1) (h.2 x), fun h => ⟨h m List.mem_cons_self, fun x hx => h x (List.mem_cons_of_mem _ hx)⟩⟩
theorem Mz.d_eq (m : Mz) : m.d = .tup [.str m.sg, .tup (m.bs.map Mz.d)] := by
  cases m; rw [Mz.d, Mz.ds_map]; rfl
theorem Mz.key_eq (m : Mz) : m.key = .tup [.int m.size, .str m.sg, .int m.bs.length, .tup (m.bs.map Mz.key)] := by
  cases m; rw [Mz.key, Mz.keys_map]; rfl
theorem Mz.size_eq (m : Mz) : m.size = 1 + (m.bs.map Mz.size).sum := by
  cases m; rw [Mz.size, Mz.sizes_sum]; rfl
theorem Mz.size_pos (m : Mz) : 1 ≤ m.size := by rw [Mz.size_eq]; omega
theorem Mz.ok_eq (m : Mz) : m.Ok ↔ SignOk m.sg ∧ m.bs.length ≤ 2 ∧ ∀ b ∈ m.bs, b.Ok := by
  cases m; rw [Mz.Ok, Mz.oks_iff]; exact Iff.rfl
theorem sum_mem_le : ∀ {l : List Nat} {x : Nat}, x ∈ l → x ≤ l.sum
  | y :: l, x, h => by
    rw [List.sum_cons]
    rcases List.mem_cons.mp h with e | h
    · omega
    · have := sum_mem_le h; omega
theorem Mz.size_lt {m b : Mz} (h : b ∈ m.bs) : b.size < m.size := by
  rw [Mz.size_eq m]
  have := sum_mem_le (List.mem_map.mpr ⟨b, h, rfl⟩ : b.size ∈ m.bs.map Mz.size)
  omega
mutual
theorem Mz.d_keyed : ∀ m : Mz, m.d.keyed = true
  | .mk s bs => by simp [Mz.d, D.keyed, D.keyeds, Mz.ds_keyed bs]
theorem Mz.ds_keyed : ∀ bs : List Mz, D.keyeds (Mz.ds bs) = true
  | [] => rfl
  | m :: r => by simp [Mz.ds, D.keyeds, Mz.d_keyed m, Mz.ds_keyed r]
end
mutual
theorem Mz.key_keyed : ∀ m : Mz, m.key.keyed = true
  | .mk s bs => by simp [Mz.key, D.keyed, D.keyeds, Mz.keys_keyed bs]
theorem Mz.keys_keyed : ∀ bs : List Mz, D.keyeds (Mz.keys bs) = true
  | [] => rfl
  | m :: r => by simp [Mz.keys, D.keyeds, Mz.key_keyed m, Mz.keys_keyed r]
end
mutual
theorem Mz.d_depth : ∀ m : Mz, m.d.py.depth ≤ 2 * m.size
  | .mk s bs => by
    have := Mz.ds_depth bs
    simp only [Mz.d, D.py, D.pys, PyData.depth, PyData.depthAll, Mz.size]
    omega
theorem Mz.ds_depth : ∀ bs : List Mz, PyData.depthAll (D.pys (Mz.ds bs)) ≤ 2 * Mz.sizes bs
  | [] => Nat.le_refl _
  | m :: r => by
    have h1 := Mz.d_depth m
    have h2 := Mz.ds_depth r
    simp only [Mz.ds, D.pys, PyData.depthAll, Mz.sizes]
    omega
end
mutual
theorem Mz.key_depth : ∀ m : Mz, m.key.py.depth ≤ 2 * m.size
  | .mk s bs => by
    have := Mz.keys_depth bs
    simp only [Mz.key, D.py, D.pys, PyData.depth, PyData.depthAll, Mz.size]
    omega
theorem Mz.keys_depth : ∀ bs : List Mz, PyData.depthAll (D.pys (Mz.keys bs)) ≤ 2 * Mz.sizes bs
  | [] => Nat.le_refl _
  | m :: r => by
    have h1 := Mz.key_depth m
    have h2 := Mz.keys_depth r
    simp only [Mz.keys, D.pys, PyData.depthAll, Mz.sizes]
    omega
end
mutual
theorem Mz.key_alike : ∀ m n : Mz, PySem.W.alike m.key.py n.key.py = true
  | .mk s bs, .mk t cs => by simp [Mz.key, D.py, D.pys, PySem.W.alike, PySem.W.alikeAll, Mz.keys_alike bs cs]
theorem Mz.keys_alike : ∀ bs cs : List Mz, PySem.W.alikeAll (D.pys (Mz.keys bs)) (D.pys (Mz.keys cs)) = true
  | [], _ => by simp [Mz.keys, D.pys, PySem.W.alikeAll]
  | _ :: _, [] => by simp [Mz.keys, D.pys, PySem.W.alikeAll]
  | m :: r, n :: q => by simp [Mz.keys, D.pys, PySem.W.alikeAll, Mz.key_alike m n, Mz.keys_alike r q]
end
mutual
theorem Mz.d_alike : ∀ m n : Mz, PySem.W.alike m.d.py n.d.py = true
  | .mk s bs, .mk t cs => by simp [Mz.d, D.py, D.pys, PySem.W.alike, PySem.W.alikeAll, Mz.ds_alike bs cs]
theorem Mz.ds_alike : ∀ bs cs : List Mz, PySem.W.alikeAll (D.pys (Mz.ds bs)) (D.pys (Mz.ds cs)) = true
  | [], _ => by simp [Mz.ds, D.pys, PySem.W.alikeAll]
  | _ :: _, [] => by simp [Mz.ds, D.pys, PySem.W.alikeAll]
  | m :: r, n :: q => by simp [Mz.ds, D.pys, PySem.W.alikeAll, Mz.d_alike m n, Mz.ds_alike r q]
end
mutual
theorem Mz.key_inj : ∀ m n : Mz, m.key = n.key → m = n
  | .mk s bs, .mk t cs, h => by
    simp only [Mz.key, D.tup.injEq, List.cons.injEq, D.str.injEq, and_true] at h
    rw [h.2.1, Mz.keys_inj bs cs h.2.2.2]
theorem Mz.keys_inj : ∀ bs cs : List Mz, Mz.keys bs = Mz.keys cs → bs = cs
  | [], [], _ => rfl
  | [], _ :: _, h => by simp [Mz.keys] at h
  | _ :: _, [], h => by simp [Mz.keys] at h
  | m :: r, n :: q, h => by
    simp only [Mz.keys, List.cons.injEq] at h
    rw [Mz.key_inj m n h.1, Mz.keys_inj r q h.2]
end
mutual
theorem Mz.d_inj : ∀ m n : Mz, m.d = n.d → m = n
  | .mk s bs, .mk t cs, h => by
    simp only [Mz.d, D.tup.injEq, List.cons.injEq, D.str.injEq, and_true] at h
    rw [h.1, Mz.ds_inj bs cs h.2]
theorem Mz.ds_inj : ∀ bs cs : List Mz, Mz.ds bs = Mz.ds cs → bs = cs
  | [], [], _ => rfl
  | [], _ :: _, h => by simp [Mz.ds] at h
  | _ :: _, [], h => by simp [Mz.ds] at h
  | m :: r, n :: q, h => by
    simp only [Mz.ds, List.cons.injEq] at h
    rw [Mz.d_inj m n h.1, Mz.ds_inj r q h.2]
end
/-- the order of mazes -/
def Mz.lt (m n : Mz) : Bool := PySem.W.dataLt m.key.py n.key.py
theorem Mz.lt_total {m n : Mz} (h1 : m.lt n = false) (h2 : n.lt m = false) : m = n := Mz.key_inj m n (dlt_total (Mz.key_keyed m) (Mz.key_keyed n) (Mz.key_alike m n) h1 h2)
theorem Mz.lt_size {m n : Mz} (h : m.size < n.size) : m.lt n = true := by
  unfold Mz.lt
  rw [Mz.key_eq m, Mz.key_eq n]
  simp only [D.py, D.pys]
  rw [PySem.W.dataLt_tuple, PySem.W.dataLt_cons (by simp [PySem.W.alike])]
  have e : PyData.eqv (.int (m.size : Int)) (.int (n.size : Int)) = false := by simp [PyData.eqv]; omega
  rw [e, if_neg Bool.false_ne_true, PySem.W.dataLt_int]
  exact decide_eq_true (by omega)
theorem Mz.lt_irrefl (m : Mz) : m.lt m = false := dlt_irrefl _
theorem Mz.lt_trans {a b c : Mz} (h1 : a.lt b = true) (h2 : b.lt c = true) : a.lt c = true := dlt_trans h1 h2
theorem Mz.lt_asymm {a b : Mz} (h : a.lt b = true) : b.lt a = false := dlt_asymm h
/-- two lists in strict order with the same members are one -/
theorem Mz.sorted_one : ∀ {xs ys : List Mz}, xs.Pairwise (fun a b => a.lt b = true) → ys.Pairwise (fun a b => a.lt b = true) → (∀ m, m ∈ xs ↔ m ∈ ys) → xs = ys
  | [], [], _, _, _ => rfl
  | [], y :: ys, _, _, h => nomatch (h y).mpr List.mem_cons_self
  | x :: xs, [], _, _, h => nomatch (h x).mp List.mem_cons_self
  | x :: xs, y :: ys, h1, h2, h => by
    obtain ⟨a1, a2⟩ := List.pairwise_cons.mp h1
    obtain ⟨b1, b2⟩ := List.pairwise_cons.mp h2
    have e : x = y := by
      rcases List.mem_cons.mp ((h x).mp List.mem_cons_self) with z | z
      · exact z
      · rcases List.mem_cons.mp ((h y).mpr List.mem_cons_self) with w | w
        · exact w.symm
        · have := Mz.lt_asymm (a1 y w); rw [b1 x z] at this; cases this
    subst e
    have n1 : x ∉ xs := fun z => by have := a1 x z; rw [Mz.lt_irrefl] at this; cases this
    have n2 : x ∉ ys := fun z => by have := b1 x z; rw [Mz.lt_irrefl] at this; cases this
    rw [Mz.sorted_one a2 b2 fun m => ⟨fun hm => ((List.mem_cons.mp ((h m).mp (List.mem_cons_of_mem _ hm))).resolve_left fun z => n1 (z ▸ hm)), fun hm => ((List.mem_cons.mp ((h m).mpr (List.mem_cons_of_mem _ hm))).resolve_left fun z => n2 (z ▸ hm))⟩]
-- all branches, in order
mutual
def Mz.subs : Mz → List Mz
  | .mk s bs => .mk s bs :: Mz.subss bs
def Mz.subss : List Mz → List Mz
  | [] => []
  | m :: r => Mz.subs m ++ Mz.subss r
end
theorem Mz.subs_eq (m : Mz) : m.subs = m :: Mz.subss m.bs := by cases m; rfl
theorem Mz.subss_map : ∀ l : List Mz, Mz.subss l = (l.map Mz.subs).flatten
  | [] => rfl
  | m :: r => by rw [Mz.subss, Mz.subss_map r]; rfl
theorem Mz.subss_append : ∀ l r : List Mz, Mz.subss (l ++ r) = Mz.subss l ++ Mz.subss r
  | [], _ => rfl
  | m :: l, r => by rw [List.cons_append, Mz.subss, Mz.subss_append l r, Mz.subss, List.append_assoc]
mutual
theorem Mz.subs_len : ∀ m : Mz, m.subs.length = m.size
  | .mk s bs => by rw [Mz.subs, List.length_cons, Mz.subss_len bs, Mz.size]; omega
theorem Mz.subss_len : ∀ bs : List Mz, (Mz.subss bs).length = Mz.sizes bs
  | [] => rfl
  | m :: r => by rw [Mz.subss, List.length_append, Mz.subs_len m, Mz.subss_len r, Mz.sizes]
end
mutual
theorem Mz.subs_in : ∀ (m x : Mz), x ∈ m.subs → x.size ≤ m.size ∧ (x = m ∨ x.size < m.size) ∧ (m.Ok → x.Ok) ∧ ∀ b ∈ x.bs, b ∈ m.subs
  | .mk s bs, x, h => by
    rw [Mz.subs] at h
    rcases List.mem_cons.mp h with e | h
    · subst e
      refine ⟨Nat.le_refl _, .inl rfl, fun h => h, fun b hb => ?_⟩
      rw [Mz.subs]
      exact List.mem_cons_of_mem _ (Mz.subss_own bs b hb)
    · obtain ⟨h1, h2, h3⟩ := Mz.subss_in bs x h
      rw [Mz.size]
      exact ⟨by omega, .inr (by omega), fun ok => h2 ok.2.2, fun b hb => by rw [Mz.subs]; exact List.mem_cons_of_mem _ (h3 b hb)⟩
theorem Mz.subss_in : ∀ (bs : List Mz) (x : Mz), x ∈ Mz.subss bs → x.size ≤ Mz.sizes bs ∧ (Mz.Oks bs → x.Ok) ∧ ∀ b ∈ x.bs, b ∈ Mz.subss bs
  | [], x, h => nomatch h
  | m :: r, x, h => by
    rw [Mz.subss, List.mem_append] at h
    rw [Mz.sizes]
    rcases h with h | h
    · obtain ⟨h1, _, h2, h3⟩ := Mz.subs_in m x h
      exact ⟨by omega, fun ok => h2 ok.1, fun b hb => by rw [Mz.subss, List.mem_append]; exact .inl (h3 b hb)⟩
    · obtain ⟨h1, h2, h3⟩ := Mz.subss_in r x h
      exact ⟨by omega, fun ok => h2 ok.2, fun b hb => by rw [Mz.subss, List.mem_append]; exact .inr (h3 b hb)⟩
theorem Mz.subss_own : ∀ (bs : List Mz) (b : Mz), b ∈ bs → b ∈ Mz.subss bs
  | m :: r, b, h => by
    rw [Mz.subss, List.mem_append]
    rcases List.mem_cons.mp h with e | h
    · subst e
      left
      rw [Mz.subs_eq]
      exact List.mem_cons_self
    · exact .inr (Mz.subss_own r b h)
end
end AL

namespace AL
open PySem PySem.Spec PyProof.Rows L2

/-! ### small helps -/
mutual
theorem pure_plain : ∀ d : D, d.pure = true → d.py.plain = true
  | .non, _ => rfl
  | .bl _, _ => rfl
  | .int _, _ => rfl
  | .str _, _ => rfl
  | .ref _, h => by simp [D.pure] at h
  | .ty _, h => by simp [D.pure] at h
  | .rol _, h => by simp [D.pure] at h
  | .tup ds, h => by
    simp only [D.pure] at h
    simpa [D.py, PyData.plain] using pures_plain ds h
theorem pures_plain : ∀ ds : List D, D.pures ds = true → PyData.plainAll (D.pys ds) = true
  | [], _ => rfl
  | d :: ds, h => by
    rw [D.pures, Bool.and_eq_true] at h
    simp [D.pys, PyData.plainAll, pure_plain d h.1, pures_plain ds h.2]
end
theorem pures_map {α : Type} {f : α → D} {l : List α} (h : ∀ x ∈ l, (f x).pure = true) : D.pures (l.map f) = true := by
  rw [D.pures_all, List.all_eq_true]
  intro d hd
  obtain ⟨x, hx, rfl⟩ := List.mem_map.mp hd
  exact h x hx
theorem keyeds_map {α : Type} {f : α → D} {l : List α} (h : ∀ x ∈ l, (f x).keyed = true) : D.keyeds (l.map f) = true := by
  induction l with
  | nil => rfl
  | cons x l ih => rw [List.map_cons, D.keyeds, h x List.mem_cons_self, ih fun y hy => h y (List.mem_cons_of_mem _ hy)]; rfl
section
variable {S : Sto} {Q : DK} {a b : Addr} {ds es : List D} {d e : D}
theorem eqv_nil (ps : List PyData) : PyData.eqv (.list ps) (.list []) = ps.isEmpty := by cases ps <;> simp [PyData.eqv, PyData.eqvAll]
theorem pys_empty : ∀ ds : List D, (D.pys ds).isEmpty = ds.isEmpty
  | [] => rfl
  | _ :: _ => rfl
theorem i_eqNil (h1 : S a = some (.lst ds)) (h2 : S b = some (.lst [])) (hp : D.pures ds = true) (q : Q (.bl ds.isEmpty) S) : eqA (.ref a) (.ref b) S Q := by
  refine ⟨_, _, Pd.list h1 hp, Pd.list h2 rfl, ?_, rfl, Nat.le_trans (Nat.min_le_right _ _) (by decide), ?_⟩
  · show PyData.plainAll _ = true
    exact pures_plain ds hp
  · rw [show PyData.eqv (.list (D.pys ds)) (.list (D.pys [])) = (D.pys ds).isEmpty from eqv_nil _, pys_empty]; exact q
theorem i_neNil (h1 : S a = some (.lst ds)) (h2 : S b = some (.lst [])) (hp : D.pures ds = true) (q : Q (.bl (!ds.isEmpty)) S) : neA (.ref a) (.ref b) S Q := by
  refine ⟨_, _, Pd.list h1 hp, Pd.list h2 rfl, ?_, rfl, Nat.le_trans (Nat.min_le_right _ _) (by decide), ?_⟩
  · show PyData.plainAll _ = true
    exact pures_plain ds hp
  · rw [show PyData.eqv (.list (D.pys ds)) (.list (D.pys [])) = (D.pys ds).isEmpty from eqv_nil _, pys_empty]; exact q
/-- != of two keyed trees that are tuples -/
theorem i_neT (h1 : (D.tup ds).keyed = true) (h2 : (D.tup es).keyed = true) (hd : (D.tup es).py.depth ≤ 190) (q : ∀ c, (c = false ↔ D.tup ds = D.tup es) → Q (.bl c) S) : neA (.tup ds) (.tup es) S Q := by
  refine ⟨_, _, Pd.of _ (keyed_pure _ h1), Pd.of _ (keyed_pure _ h2), pure_plain _ (keyed_pure _ h1), pure_plain _ (keyed_pure _ h2), Nat.le_trans (Nat.min_le_right _ _) hd, q _ ?_⟩
  rw [Bool.not_eq_false']
  exact keyed_eqv_iff h1 h2
theorem i_repr (hp : d.pure = true) (hs : d.py.showable = true) (hd : d.py.hasDict = false) (hn : d.py.depth ≤ 190) (hz : d.py.shown.length ≤ sizeLine) (q : Q (.str d.py.shown) S) : reprA [d] S Q := ⟨_, Pd.of d hp, hs, hd, hn, hz, q⟩
theorem Keeps.out {S S' : Sto} {p : Addr} (h : Keeps S S') (hp : S' p = none) : S p = none := by
  cases e : S p with
  | none => rfl
  | some o => rw [h p o e] at hp; cases hp
theorem put_out {S : Sto} {p r : Addr} {o : Ob} (hp : S p = none) (h : put S p o r = none) : S r = none := Keeps.out (Keeps.new (o := o) hp) h
theorem Keeps.ne {S S' : Sto} {p r : Addr} {o : Ob} (h : Keeps S S') (hp : S p = some o) (hr : S' r = none) : r ≠ p := fun e => by subst e; rw [h _ _ hp] at hr; cases hr
/-- a new object, changed later -/
theorem Keeps.chg {S S' : Sto} {p : Addr} {o : Ob} (h : Keeps S S') (hp : S p = none) : Keeps S (put S' p o) := fun b u e => by
  rw [put_ne (fun z => by subst z; rw [hp] at e; cases e)]; exact h b u e
end

/-! ### the rooms of a maze -/
def doorsD (path : List D) (bs : List D) : List D := (bs.mapIdx fun i b => D.tup [.tup (path ++ [.int ((i : Int) + 1)]), b]).reverse
def sp_behind_doors : Spa := fun ds S Q => ∃ path bs, ds = [.tup path, .tup bs] ∧ path.length ≤ 1000 ∧ bs.length ≤ 1000 ∧ ∀ p S', Keeps S S' → S p = none → S' p = some (.lst (doorsD path bs)) → Q (.ref p) S'
def n_behind_doors : List Str := ["path", "branches", "at"]
def t_behind_doors : TSa :=
  (aRet (aLc (iRevR1 (aCall lenA (aCons (aVar 1) aNil))) (gNm 2) aYes (aTup (aCons (aOp addA (aVar 0) (aTup (aCons (aOp addA (aVar 2) (aC (.int 1))) aNil))) (aCons (aOp ixA (aVar 1) (aVar 2)) aNil))) (ownIx ([("at", 2)] : List (Str × Nat)))))
theorem downD_get {n i : Nat} {d : D} (h : (downD n)[i]? = some d) : i < n ∧ d = .int ((n : Int) - 1 - i) := by
  unfold downD at h
  rw [List.getElem?_map] at h
  by_cases hi : i < n
  · rw [List.getElem?_range hi] at h; cases h; exact ⟨hi, rfl⟩
  · rw [List.getElem?_eq_none (by simpa using hi)] at h; cases h
theorem downD_len {n : Nat} : (downD n).length = n := by simp [downD]
theorem pl_behind_doors : ∀ ds S Q, ds.length = 2 → sp_behind_doors ds S Q → semA n_behind_doors t_behind_doors ds S Q := by
  rintro ds S Q _ ⟨path, bs, rfl, hp, hb, q⟩
  unfold semA t_behind_doors
  (repeat (with_reducible (first | refine i_seq ?_ | refine i_next ?_ | refine i_break ?_ | refine i_cont ?_ | refine i_drop ?_ | refine i_ret ?_ | refine i_retN ?_ | refine i_if ?_ | refine i_asg ?_ | refine i_par ?_ | refine i_for ?_ | refine i_nm ?_ | refine i_tp ?_ | refine i_gcons ?_ | refine i_gnil ?_ | refine i_gsub ?_ | refine i_c ?_ | refine i_anil ?_ | refine i_acons ?_ | refine i_tup ?_ | refine i_lst ?_ | refine i_op ?_ | refine i_un ?_ | refine i_call ?_ | refine i_fn ?_ | refine i_test ?_ | refine i_and ?_ | refine i_or ?_ | refine i_not ?_ | refine i_ifx ?_ | refine i_andV ?_ | refine i_orV ?_ | refine i_notV ?_ | refine i_meth ?_ | refine i_sl ?_ | refine i_nopart ?_ | refine i_part ?_ | refine i_revL ?_ | refine i_sortKey ?_ | refine i_sortSet ?_ | refine i_rg1 ?_ | refine i_seqS ?_ | refine i_revR ?_ | refine i_lc ?_ | refine i_yes ?_ | refine i_seqT ?_ | refine i_seqX ?_ | refine i_addI ?_ | refine i_subI ?_ | refine i_negI ?_ | refine i_iaddI ?_ | refine i_eqI ?_ | refine i_neI ?_ | refine i_eqX ?_ | refine i_neX ?_ | refine i_ltI ?_ | refine i_gtI ?_ | refine i_leI ?_ | refine i_geI ?_ | refine i_lenT ?_ | refine i_absI ?_ | refine i_intI ?_ | refine i_lstT ?_ | refine i_slT ?_ | refine i_iteT ?_ | refine i_iteF ?_ | refine i_var (by with_unfolding_all rfl) ?_ | refine i_aug (by with_unfolding_all rfl) ?_ | refine i_ixT (by with_unfolding_all rfl) ?_ | refine ⟨_, _, rfl, ?_⟩ | refine ⟨_, rfl, ?_⟩ | refine ⟨rfl, ?_⟩ | refine ⟨i_tyS, ?_⟩)))
  refine ⟨by omega, ?_⟩
  rw [Int.toNat_natCast]
  refine lc_inv (P := fun i acc S' => S' = S ∧ acc = (doorsD path bs).take i) ⟨rfl, by simp⟩ (fun _ _ _ _ _ => trivial) ?_ ?_
  · rintro i d acc S1 K hd ⟨rfl, rfl⟩ hK
    obtain ⟨hi, rfl⟩ := downD_get hd
    have e0 : ((bs.length : Nat) : Int) - 1 - (i : Int) = ((bs.length - 1 - i : Nat) : Int) := by omega
    rw [e0]
    (repeat (with_reducible (first | refine i_seq ?_ | refine i_next ?_ | refine i_break ?_ | refine i_cont ?_ | refine i_drop ?_ | refine i_ret ?_ | refine i_retN ?_ | refine i_if ?_ | refine i_asg ?_ | refine i_par ?_ | refine i_for ?_ | refine i_nm ?_ | refine i_tp ?_ | refine i_gcons ?_ | refine i_gnil ?_ | refine i_gsub ?_ | refine i_c ?_ | refine i_anil ?_ | refine i_acons ?_ | refine i_tup ?_ | refine i_lst ?_ | refine i_op ?_ | refine i_un ?_ | refine i_call ?_ | refine i_fn ?_ | refine i_test ?_ | refine i_and ?_ | refine i_or ?_ | refine i_not ?_ | refine i_ifx ?_ | refine i_andV ?_ | refine i_orV ?_ | refine i_notV ?_ | refine i_meth ?_ | refine i_sl ?_ | refine i_nopart ?_ | refine i_part ?_ | refine i_revL ?_ | refine i_sortKey ?_ | refine i_sortSet ?_ | refine i_rg1 ?_ | refine i_seqS ?_ | refine i_revR ?_ | refine i_lc ?_ | refine i_yes ?_ | refine i_seqT ?_ | refine i_seqX ?_ | refine i_addI ?_ | refine i_subI ?_ | refine i_negI ?_ | refine i_iaddI ?_ | refine i_eqI ?_ | refine i_neI ?_ | refine i_eqX ?_ | refine i_neX ?_ | refine i_ltI ?_ | refine i_gtI ?_ | refine i_leI ?_ | refine i_geI ?_ | refine i_lenT ?_ | refine i_absI ?_ | refine i_intI ?_ | refine i_lstT ?_ | refine i_slT ?_ | refine i_iteT ?_ | refine i_iteF ?_ | refine i_var (by with_unfolding_all rfl) ?_ | refine i_aug (by with_unfolding_all rfl) ?_ | refine i_ixT (by with_unfolding_all rfl) ?_ | refine ⟨_, _, rfl, ?_⟩ | refine ⟨_, rfl, ?_⟩ | refine ⟨rfl, ?_⟩ | refine ⟨i_tyS, ?_⟩)))
    refine ⟨by simp [sizeLine_eq], ?_⟩
    refine i_addT (by rw [sizeLine_eq]; simp; omega) ?_
    (repeat (with_reducible (first | refine i_seq ?_ | refine i_next ?_ | refine i_break ?_ | refine i_cont ?_ | refine i_drop ?_ | refine i_ret ?_ | refine i_retN ?_ | refine i_if ?_ | refine i_asg ?_ | refine i_par ?_ | refine i_for ?_ | refine i_nm ?_ | refine i_tp ?_ | refine i_gcons ?_ | refine i_gnil ?_ | refine i_gsub ?_ | refine i_c ?_ | refine i_anil ?_ | refine i_acons ?_ | refine i_tup ?_ | refine i_lst ?_ | refine i_op ?_ | refine i_un ?_ | refine i_call ?_ | refine i_fn ?_ | refine i_test ?_ | refine i_and ?_ | refine i_or ?_ | refine i_not ?_ | refine i_ifx ?_ | refine i_andV ?_ | refine i_orV ?_ | refine i_notV ?_ | refine i_meth ?_ | refine i_sl ?_ | refine i_nopart ?_ | refine i_part ?_ | refine i_revL ?_ | refine i_sortKey ?_ | refine i_sortSet ?_ | refine i_rg1 ?_ | refine i_seqS ?_ | refine i_revR ?_ | refine i_lc ?_ | refine i_yes ?_ | refine i_seqT ?_ | refine i_seqX ?_ | refine i_addI ?_ | refine i_subI ?_ | refine i_negI ?_ | refine i_iaddI ?_ | refine i_eqI ?_ | refine i_neI ?_ | refine i_eqX ?_ | refine i_neX ?_ | refine i_ltI ?_ | refine i_gtI ?_ | refine i_leI ?_ | refine i_geI ?_ | refine i_lenT ?_ | refine i_absI ?_ | refine i_intI ?_ | refine i_lstT ?_ | refine i_slT ?_ | refine i_iteT ?_ | refine i_iteF ?_ | refine i_var (by with_unfolding_all rfl) ?_ | refine i_aug (by with_unfolding_all rfl) ?_ | refine i_ixT (by with_unfolding_all rfl) ?_ | refine ⟨_, _, rfl, ?_⟩ | refine ⟨_, rfl, ?_⟩ | refine ⟨rfl, ?_⟩ | refine ⟨i_tyS, ?_⟩)))
    obtain ⟨b, e1, e2, _, e4⟩ := atI_in (xs := bs) (i := ((bs.length - 1 - i : Nat) : Int)) (by omega) (by omega)
    rw [Int.toNat_natCast] at e4
    refine i_ixT e1 ?_
    refine ⟨by simp [sizeLine_eq], ?_⟩
    refine ⟨?_, hK _ _ ⟨rfl, ?_⟩⟩
    · rw [List.length_take, sizeLine_eq]; omega
    · have hl : (doorsD path bs).length = bs.length := by simp [doorsD]
      rw [List.take_add_one]
      congr 1
      unfold doorsD
      rw [List.getElem?_reverse (by simpa using hi), List.getElem?_mapIdx, List.length_mapIdx, e4]
      rfl
  · rintro acc S1 ⟨rfl, rfl⟩ r hr
    rw [downD_len]
    have hl : (doorsD path bs).length = bs.length := by simp [doorsD]
    rw [← hl, List.take_length]
    exact q r _ (Keeps.new hr) hr put_same

/-- a row of a walk: the path, the branch there -/
abbrev Rm := List Int × Mz
def Rm.d (r : Rm) : D := .tup [.tup (r.1.map D.int), r.2.d]
theorem Rm.pure (r : Rm) : r.d.pure = true := by
  simp only [Rm.d, D.pure, D.pures, Bool.and_true, Bool.and_eq_true]
  exact ⟨pures_map fun _ _ => rfl, keyed_pure _ (Mz.d_keyed _)⟩
theorem Rm.pures (l : List Rm) : D.pures (l.map Rm.d) = true := pures_map fun r _ => Rm.pure r
/-- the rows behind a room, the last branch first -/
def behindR (r : Rm) : List Rm := (r.2.bs.mapIdx fun i b => (r.1 ++ [(i : Int) + 1], b)).reverse
theorem behindR_d (r : Rm) : doorsD (r.1.map D.int) (r.2.bs.map Mz.d) = (behindR r).map Rm.d := by
  unfold doorsD behindR
  rw [List.map_reverse]
  congr 1
  apply List.ext_getElem?
  intro i
  rw [List.getElem?_mapIdx, List.getElem?_map, List.getElem?_map, List.getElem?_mapIdx]
  cases r.2.bs[i]? <;> simp [Rm.d]
theorem behindR_snd (r : Rm) : ((behindR r).reverse.map (·.2)) = r.2.bs := by
  unfold behindR
  rw [List.reverse_reverse]
  apply List.ext_getElem?
  intro i
  rw [List.getElem?_map, List.getElem?_mapIdx]
  cases r.2.bs[i]? <;> rfl
theorem behindR_len (r : Rm) : (behindR r).length = r.2.bs.length := by simp [behindR]
theorem behindR_mem {r x : Rm} (h : x ∈ behindR r) : x.2 ∈ r.2.bs ∧ x.1.length = r.1.length + 1 := by
  unfold behindR at h
  rw [List.mem_reverse, List.mem_mapIdx] at h
  obtain ⟨i, hi, rfl⟩ := h
  exact ⟨List.getElem_mem hi, by simp⟩
/-- the sizes of what is left -/
def leftR (l : List Rm) : Nat := (l.map fun r => r.2.size).sum
def sp_room_paths : Spa := fun ds S Q => ∃ m : Mz, ds = [m.d] ∧ m.size ≤ 100 ∧ ∀ p S' (rs : List Rm), rs.map (·.2) = m.subs → Keeps S S' → S p = none → S' p = some (.lst (rs.map Rm.d)) → Q (.ref p) S'
def n_room_paths : List Str := ["maze", "left", "found", "path", "branch"]
def t_room_paths : TSa :=
  (aSeq (aPar 1 2 (aCons (aLst (aCons (aTup (aCons (aTup aNil) (aCons (aVar 0) aNil))) aNil)) (aCons (aLst aNil) aNil)))
  (aSeq (aWhile (aTest (aOp neA (aVar 1) (aLst aNil))) (aSeq (aAsg (aMeth "list" popA (aVar 1) aNil) (gTp 2 (gConsA (gNm 3) (gConsA (gNm 4) gNilA))))
  (aSeq (aDrop (aMeth "list" appendA (aVar 2) (aCons (aTup (aCons (aVar 3) (aCons (aVar 4) aNil))) aNil)))
  (aDrop (aMeth "list" extendA (aVar 1) (aCons (aFn 2 sp_behind_doors (aCons (aVar 3) (aCons (aOp ixA (aVar 4) (aC (.int 1))) aNil))) aNil))))))
  (aRet (aVar 2))))
theorem subss_rev (l : List Rm) : (l.reverse.map fun r => r.2.subs).flatten = Mz.subss (l.reverse.map (·.2)) := by
  rw [Mz.subss_map, List.map_map]; rfl
/-- what a walk over the rooms keeps: the stack L, the rows found F -/
structure WalkR (m : Mz) (L F : List Rm) : Prop where
  all : F.map (·.2) ++ Mz.subss (L.reverse.map (·.2)) = m.subs
  lim : ∀ r ∈ L, r.1.length + r.2.size ≤ m.size
theorem WalkR.start (m : Mz) : WalkR m [([], m)] [] := ⟨by simp [Mz.subss], fun r hr => by rw [List.mem_singleton] at hr; subst hr; simp⟩
theorem WalkR.step {m : Mz} {L F : List Rm} {r : Rm} (w : WalkR m (L ++ [r]) F) : WalkR m (L ++ behindR r) (F ++ [r]) := by
  refine ⟨?_, fun x hx => ?_⟩
  · rw [← w.all]
    simp only [List.map_append, List.reverse_append, List.map_cons, List.map_nil, List.reverse_cons, List.reverse_nil, List.nil_append, List.cons_append, Mz.subss, Mz.subss_append, behindR_snd, List.append_assoc]
    rw [Mz.subs_eq r.2]
    simp
  · rcases List.mem_append.mp hx with h | h
    · exact w.lim x (List.mem_append_left _ h)
    · obtain ⟨h1, h2⟩ := behindR_mem h
      have := w.lim r (List.mem_append_right _ (List.mem_singleton.mpr rfl))
      have := Mz.size_lt h1
      omega
theorem WalkR.few {m : Mz} {L F : List Rm} (w : WalkR m L F) : F.length + leftR L = m.size := by
  have h := congrArg List.length w.all
  rw [List.length_append, List.length_map, Mz.subss_len, Mz.sizes_sum, Mz.subs_len] at h
  unfold leftR
  rw [← h]
  congr 1
  rw [List.map_map, List.map_reverse]
  exact (List.Perm.sum_nat (List.reverse_perm _)).symm
theorem leftR_append (l r : List Rm) : leftR (l ++ r) = leftR l + leftR r := by simp [leftR]
theorem leftR_len (l : List Rm) : l.length ≤ leftR l := by
  induction l with
  | nil => exact Nat.le_refl _
  | cons x l ih =>
    have := Mz.size_pos x.2
    simp only [leftR, List.map_cons, List.sum_cons, List.length_cons] at ih ⊢
    omega
theorem leftR_behind (r : Rm) : leftR (behindR r) + 1 = r.2.size := by
  have h := behindR_snd r
  rw [Mz.size_eq r.2, ← h]
  unfold leftR
  rw [List.map_map, List.map_reverse]
  have e2 := List.Perm.sum_nat (List.reverse_perm ((behindR r).map fun x => x.2.size))
  have e3 : ((behindR r).map (Mz.size ∘ fun x => x.2)).reverse = ((behindR r).map fun x => x.2.size).reverse := rfl
  rw [e3]
  omega
theorem pl_room_paths : ∀ ds S Q, ds.length = 1 → sp_room_paths ds S Q → semA n_room_paths t_room_paths ds S Q := by
  rintro ds S Q _ ⟨m, rfl, hm, q⟩
  unfold semA t_room_paths
  (repeat (with_reducible (first | refine i_seq ?_ | refine i_next ?_ | refine i_break ?_ | refine i_cont ?_ | refine i_drop ?_ | refine i_ret ?_ | refine i_retN ?_ | refine i_if ?_ | refine i_asg ?_ | refine i_par ?_ | refine i_for ?_ | refine i_nm ?_ | refine i_tp ?_ | refine i_gcons ?_ | refine i_gnil ?_ | refine i_gsub ?_ | refine i_c ?_ | refine i_anil ?_ | refine i_acons ?_ | refine i_tup ?_ | refine i_lst ?_ | refine i_op ?_ | refine i_un ?_ | refine i_call ?_ | refine i_fn ?_ | refine i_test ?_ | refine i_and ?_ | refine i_or ?_ | refine i_not ?_ | refine i_ifx ?_ | refine i_andV ?_ | refine i_orV ?_ | refine i_notV ?_ | refine i_meth ?_ | refine i_sl ?_ | refine i_nopart ?_ | refine i_part ?_ | refine i_revL ?_ | refine i_sortKey ?_ | refine i_sortSet ?_ | refine i_rg1 ?_ | refine i_seqS ?_ | refine i_revR ?_ | refine i_lc ?_ | refine i_yes ?_ | refine i_seqT ?_ | refine i_seqX ?_ | refine i_addI ?_ | refine i_subI ?_ | refine i_negI ?_ | refine i_iaddI ?_ | refine i_eqI ?_ | refine i_neI ?_ | refine i_eqX ?_ | refine i_neX ?_ | refine i_ltI ?_ | refine i_gtI ?_ | refine i_leI ?_ | refine i_geI ?_ | refine i_lenT ?_ | refine i_absI ?_ | refine i_intI ?_ | refine i_lstT ?_ | refine i_slT ?_ | refine i_iteT ?_ | refine i_iteF ?_ | refine i_var (by with_unfolding_all rfl) ?_ | refine i_aug (by with_unfolding_all rfl) ?_ | refine i_ixT (by with_unfolding_all rfl) ?_ | refine ⟨_, _, rfl, ?_⟩ | refine ⟨_, rfl, ?_⟩ | refine ⟨rfl, ?_⟩ | refine ⟨i_tyS, ?_⟩)))
  refine ⟨by simp [sizeLine_eq], ?_⟩
  (repeat (with_reducible (first | refine i_seq ?_ | refine i_next ?_ | refine i_break ?_ | refine i_cont ?_ | refine i_drop ?_ | refine i_ret ?_ | refine i_retN ?_ | refine i_if ?_ | refine i_asg ?_ | refine i_par ?_ | refine i_for ?_ | refine i_nm ?_ | refine i_tp ?_ | refine i_gcons ?_ | refine i_gnil ?_ | refine i_gsub ?_ | refine i_c ?_ | refine i_anil ?_ | refine i_acons ?_ | refine i_tup ?_ | refine i_lst ?_ | refine i_op ?_ | refine i_un ?_ | refine i_call ?_ | refine i_fn ?_ | refine i_test ?_ | refine i_and ?_ | refine i_or ?_ | refine i_not ?_ | refine i_ifx ?_ | refine i_andV ?_ | refine i_orV ?_ | refine i_notV ?_ | refine i_meth ?_ | refine i_sl ?_ | refine i_nopart ?_ | refine i_part ?_ | refine i_revL ?_ | refine i_sortKey ?_ | refine i_sortSet ?_ | refine i_rg1 ?_ | refine i_seqS ?_ | refine i_revR ?_ | refine i_lc ?_ | refine i_yes ?_ | refine i_seqT ?_ | refine i_seqX ?_ | refine i_addI ?_ | refine i_subI ?_ | refine i_negI ?_ | refine i_iaddI ?_ | refine i_eqI ?_ | refine i_neI ?_ | refine i_eqX ?_ | refine i_neX ?_ | refine i_ltI ?_ | refine i_gtI ?_ | refine i_leI ?_ | refine i_geI ?_ | refine i_lenT ?_ | refine i_absI ?_ | refine i_intI ?_ | refine i_lstT ?_ | refine i_slT ?_ | refine i_iteT ?_ | refine i_iteF ?_ | refine i_var (by with_unfolding_all rfl) ?_ | refine i_aug (by with_unfolding_all rfl) ?_ | refine i_ixT (by with_unfolding_all rfl) ?_ | refine ⟨_, _, rfl, ?_⟩ | refine ⟨_, rfl, ?_⟩ | refine ⟨rfl, ?_⟩ | refine ⟨i_tyS, ?_⟩)))
  refine ⟨by simp [sizeLine_eq], ?_⟩
  (repeat (with_reducible (first | refine i_seq ?_ | refine i_next ?_ | refine i_break ?_ | refine i_cont ?_ | refine i_drop ?_ | refine i_ret ?_ | refine i_retN ?_ | refine i_if ?_ | refine i_asg ?_ | refine i_par ?_ | refine i_for ?_ | refine i_nm ?_ | refine i_tp ?_ | refine i_gcons ?_ | refine i_gnil ?_ | refine i_gsub ?_ | refine i_c ?_ | refine i_anil ?_ | refine i_acons ?_ | refine i_tup ?_ | refine i_lst ?_ | refine i_op ?_ | refine i_un ?_ | refine i_call ?_ | refine i_fn ?_ | refine i_test ?_ | refine i_and ?_ | refine i_or ?_ | refine i_not ?_ | refine i_ifx ?_ | refine i_andV ?_ | refine i_orV ?_ | refine i_notV ?_ | refine i_meth ?_ | refine i_sl ?_ | refine i_nopart ?_ | refine i_part ?_ | refine i_revL ?_ | refine i_sortKey ?_ | refine i_sortSet ?_ | refine i_rg1 ?_ | refine i_seqS ?_ | refine i_revR ?_ | refine i_lc ?_ | refine i_yes ?_ | refine i_seqT ?_ | refine i_seqX ?_ | refine i_addI ?_ | refine i_subI ?_ | refine i_negI ?_ | refine i_iaddI ?_ | refine i_eqI ?_ | refine i_neI ?_ | refine i_eqX ?_ | refine i_neX ?_ | refine i_ltI ?_ | refine i_gtI ?_ | refine i_leI ?_ | refine i_geI ?_ | refine i_lenT ?_ | refine i_absI ?_ | refine i_intI ?_ | refine i_lstT ?_ | refine i_slT ?_ | refine i_iteT ?_ | refine i_iteF ?_ | refine i_var (by with_unfolding_all rfl) ?_ | refine i_aug (by with_unfolding_all rfl) ?_ | refine i_ixT (by with_unfolding_all rfl) ?_ | refine ⟨_, _, rfl, ?_⟩ | refine ⟨_, rfl, ?_⟩ | refine ⟨rfl, ?_⟩ | refine ⟨i_tyS, ?_⟩)))
  refine ⟨by simp [sizeLine_eq], fun p hp => ?_⟩
  (repeat (with_reducible (first | refine i_seq ?_ | refine i_next ?_ | refine i_break ?_ | refine i_cont ?_ | refine i_drop ?_ | refine i_ret ?_ | refine i_retN ?_ | refine i_if ?_ | refine i_asg ?_ | refine i_par ?_ | refine i_for ?_ | refine i_nm ?_ | refine i_tp ?_ | refine i_gcons ?_ | refine i_gnil ?_ | refine i_gsub ?_ | refine i_c ?_ | refine i_anil ?_ | refine i_acons ?_ | refine i_tup ?_ | refine i_lst ?_ | refine i_op ?_ | refine i_un ?_ | refine i_call ?_ | refine i_fn ?_ | refine i_test ?_ | refine i_and ?_ | refine i_or ?_ | refine i_not ?_ | refine i_ifx ?_ | refine i_andV ?_ | refine i_orV ?_ | refine i_notV ?_ | refine i_meth ?_ | refine i_sl ?_ | refine i_nopart ?_ | refine i_part ?_ | refine i_revL ?_ | refine i_sortKey ?_ | refine i_sortSet ?_ | refine i_rg1 ?_ | refine i_seqS ?_ | refine i_revR ?_ | refine i_lc ?_ | refine i_yes ?_ | refine i_seqT ?_ | refine i_seqX ?_ | refine i_addI ?_ | refine i_subI ?_ | refine i_negI ?_ | refine i_iaddI ?_ | refine i_eqI ?_ | refine i_neI ?_ | refine i_eqX ?_ | refine i_neX ?_ | refine i_ltI ?_ | refine i_gtI ?_ | refine i_leI ?_ | refine i_geI ?_ | refine i_lenT ?_ | refine i_absI ?_ | refine i_intI ?_ | refine i_lstT ?_ | refine i_slT ?_ | refine i_iteT ?_ | refine i_iteF ?_ | refine i_var (by with_unfolding_all rfl) ?_ | refine i_aug (by with_unfolding_all rfl) ?_ | refine i_ixT (by with_unfolding_all rfl) ?_ | refine ⟨_, _, rfl, ?_⟩ | refine ⟨_, rfl, ?_⟩ | refine ⟨rfl, ?_⟩ | refine ⟨i_tyS, ?_⟩)))
  refine ⟨by simp [sizeLine_eq], fun f hf => ?_⟩
  (repeat (with_reducible (first | refine i_seq ?_ | refine i_next ?_ | refine i_break ?_ | refine i_cont ?_ | refine i_drop ?_ | refine i_ret ?_ | refine i_retN ?_ | refine i_if ?_ | refine i_asg ?_ | refine i_par ?_ | refine i_for ?_ | refine i_nm ?_ | refine i_tp ?_ | refine i_gcons ?_ | refine i_gnil ?_ | refine i_gsub ?_ | refine i_c ?_ | refine i_anil ?_ | refine i_acons ?_ | refine i_tup ?_ | refine i_lst ?_ | refine i_op ?_ | refine i_un ?_ | refine i_call ?_ | refine i_fn ?_ | refine i_test ?_ | refine i_and ?_ | refine i_or ?_ | refine i_not ?_ | refine i_ifx ?_ | refine i_andV ?_ | refine i_orV ?_ | refine i_notV ?_ | refine i_meth ?_ | refine i_sl ?_ | refine i_nopart ?_ | refine i_part ?_ | refine i_revL ?_ | refine i_sortKey ?_ | refine i_sortSet ?_ | refine i_rg1 ?_ | refine i_seqS ?_ | refine i_revR ?_ | refine i_lc ?_ | refine i_yes ?_ | refine i_seqT ?_ | refine i_seqX ?_ | refine i_addI ?_ | refine i_subI ?_ | refine i_negI ?_ | refine i_iaddI ?_ | refine i_eqI ?_ | refine i_neI ?_ | refine i_eqX ?_ | refine i_neX ?_ | refine i_ltI ?_ | refine i_gtI ?_ | refine i_leI ?_ | refine i_geI ?_ | refine i_lenT ?_ | refine i_absI ?_ | refine i_intI ?_ | refine i_lstT ?_ | refine i_slT ?_ | refine i_iteT ?_ | refine i_iteF ?_ | refine i_var (by with_unfolding_all rfl) ?_ | refine i_aug (by with_unfolding_all rfl) ?_ | refine i_ixT (by with_unfolding_all rfl) ?_ | refine ⟨_, _, rfl, ?_⟩ | refine ⟨_, rfl, ?_⟩ | refine ⟨rfl, ?_⟩ | refine ⟨i_tyS, ?_⟩)))
  have npf : f ≠ p := fun e => by subst e; rw [put_same] at hf; cases hf
  have hf0 : S f = none := put_out hp hf
  refine i_while (fun n l S' => ∃ L F, n = leftR L ∧ WalkR m L F ∧ (∃ x y, l = [some m.d, some (.ref p), some (.ref f), x, y]) ∧ S' p = some (.lst (L.map Rm.d)) ∧ S' f = some (.lst (F.map Rm.d)) ∧ Keeps S S') (leftR [([], m)])
    ⟨[([], m)], [], rfl, WalkR.start m, ⟨none, none, rfl⟩, (put_ne npf.symm).trans put_same, put_same, Keeps.trans (Keeps.new hp) (Keeps.new hf)⟩ ?_
  rintro n l S1 ⟨L, F, rfl, w, ⟨x, y, rfl⟩, hL, hF, hk⟩
  (repeat (with_reducible (first | refine i_seq ?_ | refine i_next ?_ | refine i_break ?_ | refine i_cont ?_ | refine i_drop ?_ | refine i_ret ?_ | refine i_retN ?_ | refine i_if ?_ | refine i_asg ?_ | refine i_par ?_ | refine i_for ?_ | refine i_nm ?_ | refine i_tp ?_ | refine i_gcons ?_ | refine i_gnil ?_ | refine i_gsub ?_ | refine i_c ?_ | refine i_anil ?_ | refine i_acons ?_ | refine i_tup ?_ | refine i_lst ?_ | refine i_op ?_ | refine i_un ?_ | refine i_call ?_ | refine i_fn ?_ | refine i_test ?_ | refine i_and ?_ | refine i_or ?_ | refine i_not ?_ | refine i_ifx ?_ | refine i_andV ?_ | refine i_orV ?_ | refine i_notV ?_ | refine i_meth ?_ | refine i_sl ?_ | refine i_nopart ?_ | refine i_part ?_ | refine i_revL ?_ | refine i_sortKey ?_ | refine i_sortSet ?_ | refine i_rg1 ?_ | refine i_seqS ?_ | refine i_revR ?_ | refine i_lc ?_ | refine i_yes ?_ | refine i_seqT ?_ | refine i_seqX ?_ | refine i_addI ?_ | refine i_subI ?_ | refine i_negI ?_ | refine i_iaddI ?_ | refine i_eqI ?_ | refine i_neI ?_ | refine i_eqX ?_ | refine i_neX ?_ | refine i_ltI ?_ | refine i_gtI ?_ | refine i_leI ?_ | refine i_geI ?_ | refine i_lenT ?_ | refine i_absI ?_ | refine i_intI ?_ | refine i_lstT ?_ | refine i_slT ?_ | refine i_iteT ?_ | refine i_iteF ?_ | refine i_var (by with_unfolding_all rfl) ?_ | refine i_aug (by with_unfolding_all rfl) ?_ | refine i_ixT (by with_unfolding_all rfl) ?_ | refine ⟨_, _, rfl, ?_⟩ | refine ⟨_, rfl, ?_⟩ | refine ⟨rfl, ?_⟩ | refine ⟨i_tyS, ?_⟩)))
  refine ⟨Nat.zero_le _, fun e he => ?_⟩
  have nep : e ≠ p := fun h => by subst h; rw [hL] at he; cases he
  have nef : e ≠ f := fun h => by subst h; rw [hF] at he; cases he
  refine i_neNil (ds := L.map Rm.d) (by rw [put_ne nep.symm]; exact hL) put_same (Rm.pures L) ?_
  have kp1 : Keeps S1 (put S1 e (.lst [])) := Keeps.new he
  generalize put S1 e (.lst []) = S2 at kp1
  have hL2 := kp1 _ _ hL
  have hF2 := kp1 _ _ hF
  have hk2 := hk.trans kp1
  refine ⟨_, rfl, ?_⟩
  refine i_ite (fun hb => ?_) fun hb => ?_
  · -- a room
    have hne : L ≠ [] := fun h => by subst h; simp at hb
    obtain ⟨L', r, rfl⟩ : ∃ L' r, L = L' ++ [r] := ⟨L.dropLast, L.getLast hne, (List.dropLast_concat_getLast hne).symm⟩
    (repeat (with_reducible (first | refine i_seq ?_ | refine i_next ?_ | refine i_break ?_ | refine i_cont ?_ | refine i_drop ?_ | refine i_ret ?_ | refine i_retN ?_ | refine i_if ?_ | refine i_asg ?_ | refine i_par ?_ | refine i_for ?_ | refine i_nm ?_ | refine i_tp ?_ | refine i_gcons ?_ | refine i_gnil ?_ | refine i_gsub ?_ | refine i_c ?_ | refine i_anil ?_ | refine i_acons ?_ | refine i_tup ?_ | refine i_lst ?_ | refine i_op ?_ | refine i_un ?_ | refine i_call ?_ | refine i_fn ?_ | refine i_test ?_ | refine i_and ?_ | refine i_or ?_ | refine i_not ?_ | refine i_ifx ?_ | refine i_andV ?_ | refine i_orV ?_ | refine i_notV ?_ | refine i_meth ?_ | refine i_sl ?_ | refine i_nopart ?_ | refine i_part ?_ | refine i_revL ?_ | refine i_sortKey ?_ | refine i_sortSet ?_ | refine i_rg1 ?_ | refine i_seqS ?_ | refine i_revR ?_ | refine i_lc ?_ | refine i_yes ?_ | refine i_seqT ?_ | refine i_seqX ?_ | refine i_addI ?_ | refine i_subI ?_ | refine i_negI ?_ | refine i_iaddI ?_ | refine i_eqI ?_ | refine i_neI ?_ | refine i_eqX ?_ | refine i_neX ?_ | refine i_ltI ?_ | refine i_gtI ?_ | refine i_leI ?_ | refine i_geI ?_ | refine i_lenT ?_ | refine i_absI ?_ | refine i_intI ?_ | refine i_lstT ?_ | refine i_slT ?_ | refine i_iteT ?_ | refine i_iteF ?_ | refine i_var (by with_unfolding_all rfl) ?_ | refine i_aug (by with_unfolding_all rfl) ?_ | refine i_ixT (by with_unfolding_all rfl) ?_ | refine ⟨_, _, rfl, ?_⟩ | refine ⟨_, rfl, ?_⟩ | refine ⟨rfl, ?_⟩ | refine ⟨i_tyS, ?_⟩)))
    refine ⟨i_tyL hL2, ?_⟩
    (repeat (with_reducible (first | refine i_seq ?_ | refine i_next ?_ | refine i_break ?_ | refine i_cont ?_ | refine i_drop ?_ | refine i_ret ?_ | refine i_retN ?_ | refine i_if ?_ | refine i_asg ?_ | refine i_par ?_ | refine i_for ?_ | refine i_nm ?_ | refine i_tp ?_ | refine i_gcons ?_ | refine i_gnil ?_ | refine i_gsub ?_ | refine i_c ?_ | refine i_anil ?_ | refine i_acons ?_ | refine i_tup ?_ | refine i_lst ?_ | refine i_op ?_ | refine i_un ?_ | refine i_call ?_ | refine i_fn ?_ | refine i_test ?_ | refine i_and ?_ | refine i_or ?_ | refine i_not ?_ | refine i_ifx ?_ | refine i_andV ?_ | refine i_orV ?_ | refine i_notV ?_ | refine i_meth ?_ | refine i_sl ?_ | refine i_nopart ?_ | refine i_part ?_ | refine i_revL ?_ | refine i_sortKey ?_ | refine i_sortSet ?_ | refine i_rg1 ?_ | refine i_seqS ?_ | refine i_revR ?_ | refine i_lc ?_ | refine i_yes ?_ | refine i_seqT ?_ | refine i_seqX ?_ | refine i_addI ?_ | refine i_subI ?_ | refine i_negI ?_ | refine i_iaddI ?_ | refine i_eqI ?_ | refine i_neI ?_ | refine i_eqX ?_ | refine i_neX ?_ | refine i_ltI ?_ | refine i_gtI ?_ | refine i_leI ?_ | refine i_geI ?_ | refine i_lenT ?_ | refine i_absI ?_ | refine i_intI ?_ | refine i_lstT ?_ | refine i_slT ?_ | refine i_iteT ?_ | refine i_iteF ?_ | refine i_var (by with_unfolding_all rfl) ?_ | refine i_aug (by with_unfolding_all rfl) ?_ | refine i_ixT (by with_unfolding_all rfl) ?_ | refine ⟨_, _, rfl, ?_⟩ | refine ⟨_, rfl, ?_⟩ | refine ⟨rfl, ?_⟩ | refine ⟨i_tyS, ?_⟩)))
    refine i_pop hL2 (d := r.d) (by simp) ?_
    rw [show ((L' ++ [r]).map Rm.d).dropLast = L'.map Rm.d by simp]
    have hL3 : put S2 p (.lst (L'.map Rm.d)) p = some (.lst (L'.map Rm.d)) := put_same
    have hF3 : put S2 p (.lst (L'.map Rm.d)) f = some (.lst (F.map Rm.d)) := by rw [put_ne npf]; exact hF2
    have hk3 : Keeps S (put S2 p (.lst (L'.map Rm.d))) := hk2.chg hp
    generalize put S2 p (.lst (L'.map Rm.d)) = S3 at hL3 hF3 hk3
    show gTp 2 _ (D.tup [.tup (r.1.map D.int), r.2.d]) _ S3 _
    (repeat (with_reducible (first | refine i_seq ?_ | refine i_next ?_ | refine i_break ?_ | refine i_cont ?_ | refine i_drop ?_ | refine i_ret ?_ | refine i_retN ?_ | refine i_if ?_ | refine i_asg ?_ | refine i_par ?_ | refine i_for ?_ | refine i_nm ?_ | refine i_tp ?_ | refine i_gcons ?_ | refine i_gnil ?_ | refine i_gsub ?_ | refine i_c ?_ | refine i_anil ?_ | refine i_acons ?_ | refine i_tup ?_ | refine i_lst ?_ | refine i_op ?_ | refine i_un ?_ | refine i_call ?_ | refine i_fn ?_ | refine i_test ?_ | refine i_and ?_ | refine i_or ?_ | refine i_not ?_ | refine i_ifx ?_ | refine i_andV ?_ | refine i_orV ?_ | refine i_notV ?_ | refine i_meth ?_ | refine i_sl ?_ | refine i_nopart ?_ | refine i_part ?_ | refine i_revL ?_ | refine i_sortKey ?_ | refine i_sortSet ?_ | refine i_rg1 ?_ | refine i_seqS ?_ | refine i_revR ?_ | refine i_lc ?_ | refine i_yes ?_ | refine i_seqT ?_ | refine i_seqX ?_ | refine i_addI ?_ | refine i_subI ?_ | refine i_negI ?_ | refine i_iaddI ?_ | refine i_eqI ?_ | refine i_neI ?_ | refine i_eqX ?_ | refine i_neX ?_ | refine i_ltI ?_ | refine i_gtI ?_ | refine i_leI ?_ | refine i_geI ?_ | refine i_lenT ?_ | refine i_absI ?_ | refine i_intI ?_ | refine i_lstT ?_ | refine i_slT ?_ | refine i_iteT ?_ | refine i_iteF ?_ | refine i_var (by with_unfolding_all rfl) ?_ | refine i_aug (by with_unfolding_all rfl) ?_ | refine i_ixT (by with_unfolding_all rfl) ?_ | refine ⟨_, _, rfl, ?_⟩ | refine ⟨_, rfl, ?_⟩ | refine ⟨rfl, ?_⟩ | refine ⟨i_tyS, ?_⟩)))
    refine ⟨i_tyL hF3, ?_⟩
    (repeat (with_reducible (first | refine i_seq ?_ | refine i_next ?_ | refine i_break ?_ | refine i_cont ?_ | refine i_drop ?_ | refine i_ret ?_ | refine i_retN ?_ | refine i_if ?_ | refine i_asg ?_ | refine i_par ?_ | refine i_for ?_ | refine i_nm ?_ | refine i_tp ?_ | refine i_gcons ?_ | refine i_gnil ?_ | refine i_gsub ?_ | refine i_c ?_ | refine i_anil ?_ | refine i_acons ?_ | refine i_tup ?_ | refine i_lst ?_ | refine i_op ?_ | refine i_un ?_ | refine i_call ?_ | refine i_fn ?_ | refine i_test ?_ | refine i_and ?_ | refine i_or ?_ | refine i_not ?_ | refine i_ifx ?_ | refine i_andV ?_ | refine i_orV ?_ | refine i_notV ?_ | refine i_meth ?_ | refine i_sl ?_ | refine i_nopart ?_ | refine i_part ?_ | refine i_revL ?_ | refine i_sortKey ?_ | refine i_sortSet ?_ | refine i_rg1 ?_ | refine i_seqS ?_ | refine i_revR ?_ | refine i_lc ?_ | refine i_yes ?_ | refine i_seqT ?_ | refine i_seqX ?_ | refine i_addI ?_ | refine i_subI ?_ | refine i_negI ?_ | refine i_iaddI ?_ | refine i_eqI ?_ | refine i_neI ?_ | refine i_eqX ?_ | refine i_neX ?_ | refine i_ltI ?_ | refine i_gtI ?_ | refine i_leI ?_ | refine i_geI ?_ | refine i_lenT ?_ | refine i_absI ?_ | refine i_intI ?_ | refine i_lstT ?_ | refine i_slT ?_ | refine i_iteT ?_ | refine i_iteF ?_ | refine i_var (by with_unfolding_all rfl) ?_ | refine i_aug (by with_unfolding_all rfl) ?_ | refine i_ixT (by with_unfolding_all rfl) ?_ | refine ⟨_, _, rfl, ?_⟩ | refine ⟨_, rfl, ?_⟩ | refine ⟨rfl, ?_⟩ | refine ⟨i_tyS, ?_⟩)))
    refine ⟨by simp [sizeLine_eq], ?_⟩
    (repeat (with_reducible (first | refine i_seq ?_ | refine i_next ?_ | refine i_break ?_ | refine i_cont ?_ | refine i_drop ?_ | refine i_ret ?_ | refine i_retN ?_ | refine i_if ?_ | refine i_asg ?_ | refine i_par ?_ | refine i_for ?_ | refine i_nm ?_ | refine i_tp ?_ | refine i_gcons ?_ | refine i_gnil ?_ | refine i_gsub ?_ | refine i_c ?_ | refine i_anil ?_ | refine i_acons ?_ | refine i_tup ?_ | refine i_lst ?_ | refine i_op ?_ | refine i_un ?_ | refine i_call ?_ | refine i_fn ?_ | refine i_test ?_ | refine i_and ?_ | refine i_or ?_ | refine i_not ?_ | refine i_ifx ?_ | refine i_andV ?_ | refine i_orV ?_ | refine i_notV ?_ | refine i_meth ?_ | refine i_sl ?_ | refine i_nopart ?_ | refine i_part ?_ | refine i_revL ?_ | refine i_sortKey ?_ | refine i_sortSet ?_ | refine i_rg1 ?_ | refine i_seqS ?_ | refine i_revR ?_ | refine i_lc ?_ | refine i_yes ?_ | refine i_seqT ?_ | refine i_seqX ?_ | refine i_addI ?_ | refine i_subI ?_ | refine i_negI ?_ | refine i_iaddI ?_ | refine i_eqI ?_ | refine i_neI ?_ | refine i_eqX ?_ | refine i_neX ?_ | refine i_ltI ?_ | refine i_gtI ?_ | refine i_leI ?_ | refine i_geI ?_ | refine i_lenT ?_ | refine i_absI ?_ | refine i_intI ?_ | refine i_lstT ?_ | refine i_slT ?_ | refine i_iteT ?_ | refine i_iteF ?_ | refine i_var (by with_unfolding_all rfl) ?_ | refine i_aug (by with_unfolding_all rfl) ?_ | refine i_ixT (by with_unfolding_all rfl) ?_ | refine ⟨_, _, rfl, ?_⟩ | refine ⟨_, rfl, ?_⟩ | refine ⟨rfl, ?_⟩ | refine ⟨i_tyS, ?_⟩)))
    have few := w.few
    rw [leftR_append] at few
    have r1 : leftR [r] = r.2.size := by simp [leftR]
    have r2 := Mz.size_pos r.2
    refine i_append hF3 (by rw [List.length_map, sizeLine_eq]; omega) ?_
    have hL4 : put S3 f (.lst (F.map Rm.d ++ [.tup [.tup (r.1.map D.int), r.2.d]])) p = some (.lst (L'.map Rm.d)) := by rw [put_ne npf.symm]; exact hL3
    have hF4 : put S3 f (.lst (F.map Rm.d ++ [.tup [.tup (r.1.map D.int), r.2.d]])) f = some (.lst ((F ++ [r]).map Rm.d)) := by rw [put_same, List.map_append]; rfl
    have hk4 : Keeps S (put S3 f (.lst (F.map Rm.d ++ [.tup [.tup (r.1.map D.int), r.2.d]]))) := hk3.chg hf0
    generalize put S3 f (.lst (F.map Rm.d ++ [.tup [.tup (r.1.map D.int), r.2.d]])) = S4 at hL4 hF4 hk4
    (repeat (with_reducible (first | refine i_seq ?_ | refine i_next ?_ | refine i_break ?_ | refine i_cont ?_ | refine i_drop ?_ | refine i_ret ?_ | refine i_retN ?_ | refine i_if ?_ | refine i_asg ?_ | refine i_par ?_ | refine i_for ?_ | refine i_nm ?_ | refine i_tp ?_ | refine i_gcons ?_ | refine i_gnil ?_ | refine i_gsub ?_ | refine i_c ?_ | refine i_anil ?_ | refine i_acons ?_ | refine i_tup ?_ | refine i_lst ?_ | refine i_op ?_ | refine i_un ?_ | refine i_call ?_ | refine i_fn ?_ | refine i_test ?_ | refine i_and ?_ | refine i_or ?_ | refine i_not ?_ | refine i_ifx ?_ | refine i_andV ?_ | refine i_orV ?_ | refine i_notV ?_ | refine i_meth ?_ | refine i_sl ?_ | refine i_nopart ?_ | refine i_part ?_ | refine i_revL ?_ | refine i_sortKey ?_ | refine i_sortSet ?_ | refine i_rg1 ?_ | refine i_seqS ?_ | refine i_revR ?_ | refine i_lc ?_ | refine i_yes ?_ | refine i_seqT ?_ | refine i_seqX ?_ | refine i_addI ?_ | refine i_subI ?_ | refine i_negI ?_ | refine i_iaddI ?_ | refine i_eqI ?_ | refine i_neI ?_ | refine i_eqX ?_ | refine i_neX ?_ | refine i_ltI ?_ | refine i_gtI ?_ | refine i_leI ?_ | refine i_geI ?_ | refine i_lenT ?_ | refine i_absI ?_ | refine i_intI ?_ | refine i_lstT ?_ | refine i_slT ?_ | refine i_iteT ?_ | refine i_iteF ?_ | refine i_var (by with_unfolding_all rfl) ?_ | refine i_aug (by with_unfolding_all rfl) ?_ | refine i_ixT (by with_unfolding_all rfl) ?_ | refine ⟨_, _, rfl, ?_⟩ | refine ⟨_, rfl, ?_⟩ | refine ⟨rfl, ?_⟩ | refine ⟨i_tyS, ?_⟩)))
    refine ⟨i_tyL hL4, ?_⟩
    (repeat (with_reducible (first | refine i_seq ?_ | refine i_next ?_ | refine i_break ?_ | refine i_cont ?_ | refine i_drop ?_ | refine i_ret ?_ | refine i_retN ?_ | refine i_if ?_ | refine i_asg ?_ | refine i_par ?_ | refine i_for ?_ | refine i_nm ?_ | refine i_tp ?_ | refine i_gcons ?_ | refine i_gnil ?_ | refine i_gsub ?_ | refine i_c ?_ | refine i_anil ?_ | refine i_acons ?_ | refine i_tup ?_ | refine i_lst ?_ | refine i_op ?_ | refine i_un ?_ | refine i_call ?_ | refine i_fn ?_ | refine i_test ?_ | refine i_and ?_ | refine i_or ?_ | refine i_not ?_ | refine i_ifx ?_ | refine i_andV ?_ | refine i_orV ?_ | refine i_notV ?_ | refine i_meth ?_ | refine i_sl ?_ | refine i_nopart ?_ | refine i_part ?_ | refine i_revL ?_ | refine i_sortKey ?_ | refine i_sortSet ?_ | refine i_rg1 ?_ | refine i_seqS ?_ | refine i_revR ?_ | refine i_lc ?_ | refine i_yes ?_ | refine i_seqT ?_ | refine i_seqX ?_ | refine i_addI ?_ | refine i_subI ?_ | refine i_negI ?_ | refine i_iaddI ?_ | refine i_eqI ?_ | refine i_neI ?_ | refine i_eqX ?_ | refine i_neX ?_ | refine i_ltI ?_ | refine i_gtI ?_ | refine i_leI ?_ | refine i_geI ?_ | refine i_lenT ?_ | refine i_absI ?_ | refine i_intI ?_ | refine i_lstT ?_ | refine i_slT ?_ | refine i_iteT ?_ | refine i_iteF ?_ | refine i_var (by with_unfolding_all rfl) ?_ | refine i_aug (by with_unfolding_all rfl) ?_ | refine i_ixT (by with_unfolding_all rfl) ?_ | refine ⟨_, _, rfl, ?_⟩ | refine ⟨_, rfl, ?_⟩ | refine ⟨rfl, ?_⟩ | refine ⟨i_tyS, ?_⟩)))
    rw [Mz.d_eq r.2]
    refine i_ixT rfl ?_
    have lim := w.lim r (List.mem_append_right _ (List.mem_singleton.mpr rfl))
    refine ⟨rfl, r.1.map D.int, r.2.bs.map Mz.d, rfl, by rw [List.length_map]; omega, ?_, fun b S5 kp5 hb0 hb5 => ?_⟩
    · have h1 := leftR_behind r
      have h2 := leftR_len (behindR r)
      rw [behindR_len] at h2
      rw [List.length_map]
      omega
    rw [behindR_d] at hb5
    have nbp : b ≠ p := fun h => by subst h; rw [hL4] at hb0; cases hb0
    have h1 := leftR_behind r
    have h2 := leftR_len (behindR r)
    have h3 := leftR_len L'
    (repeat (with_reducible (first | refine i_seq ?_ | refine i_next ?_ | refine i_break ?_ | refine i_cont ?_ | refine i_drop ?_ | refine i_ret ?_ | refine i_retN ?_ | refine i_if ?_ | refine i_asg ?_ | refine i_par ?_ | refine i_for ?_ | refine i_nm ?_ | refine i_tp ?_ | refine i_gcons ?_ | refine i_gnil ?_ | refine i_gsub ?_ | refine i_c ?_ | refine i_anil ?_ | refine i_acons ?_ | refine i_tup ?_ | refine i_lst ?_ | refine i_op ?_ | refine i_un ?_ | refine i_call ?_ | refine i_fn ?_ | refine i_test ?_ | refine i_and ?_ | refine i_or ?_ | refine i_not ?_ | refine i_ifx ?_ | refine i_andV ?_ | refine i_orV ?_ | refine i_notV ?_ | refine i_meth ?_ | refine i_sl ?_ | refine i_nopart ?_ | refine i_part ?_ | refine i_revL ?_ | refine i_sortKey ?_ | refine i_sortSet ?_ | refine i_rg1 ?_ | refine i_seqS ?_ | refine i_revR ?_ | refine i_lc ?_ | refine i_yes ?_ | refine i_seqT ?_ | refine i_seqX ?_ | refine i_addI ?_ | refine i_subI ?_ | refine i_negI ?_ | refine i_iaddI ?_ | refine i_eqI ?_ | refine i_neI ?_ | refine i_eqX ?_ | refine i_neX ?_ | refine i_ltI ?_ | refine i_gtI ?_ | refine i_leI ?_ | refine i_geI ?_ | refine i_lenT ?_ | refine i_absI ?_ | refine i_intI ?_ | refine i_lstT ?_ | refine i_slT ?_ | refine i_iteT ?_ | refine i_iteF ?_ | refine i_var (by with_unfolding_all rfl) ?_ | refine i_aug (by with_unfolding_all rfl) ?_ | refine i_ixT (by with_unfolding_all rfl) ?_ | refine ⟨_, _, rfl, ?_⟩ | refine ⟨_, rfl, ?_⟩ | refine ⟨rfl, ?_⟩ | refine ⟨i_tyS, ?_⟩)))
    refine i_extend (kp5 _ _ hL4) hb5 (by rw [List.length_map, List.length_map, sizeLine_eq]; omega) ?_
    refine ⟨leftR (L' ++ behindR r), by rw [leftR_append, leftR_append, r1]; omega, L' ++ behindR r, F ++ [r], rfl, w.step, ⟨_, _, rfl⟩, by rw [put_same, List.map_append], by rw [put_ne npf]; exact kp5 _ _ hF4, (hk4.trans kp5).chg hp⟩
  · have hnil : L = [] := by cases L with | nil => rfl | cons _ _ => simp at hb
    subst hnil
    (repeat (with_reducible (first | refine i_seq ?_ | refine i_next ?_ | refine i_break ?_ | refine i_cont ?_ | refine i_drop ?_ | refine i_ret ?_ | refine i_retN ?_ | refine i_if ?_ | refine i_asg ?_ | refine i_par ?_ | refine i_for ?_ | refine i_nm ?_ | refine i_tp ?_ | refine i_gcons ?_ | refine i_gnil ?_ | refine i_gsub ?_ | refine i_c ?_ | refine i_anil ?_ | refine i_acons ?_ | refine i_tup ?_ | refine i_lst ?_ | refine i_op ?_ | refine i_un ?_ | refine i_call ?_ | refine i_fn ?_ | refine i_test ?_ | refine i_and ?_ | refine i_or ?_ | refine i_not ?_ | refine i_ifx ?_ | refine i_andV ?_ | refine i_orV ?_ | refine i_notV ?_ | refine i_meth ?_ | refine i_sl ?_ | refine i_nopart ?_ | refine i_part ?_ | refine i_revL ?_ | refine i_sortKey ?_ | refine i_sortSet ?_ | refine i_rg1 ?_ | refine i_seqS ?_ | refine i_revR ?_ | refine i_lc ?_ | refine i_yes ?_ | refine i_seqT ?_ | refine i_seqX ?_ | refine i_addI ?_ | refine i_subI ?_ | refine i_negI ?_ | refine i_iaddI ?_ | refine i_eqI ?_ | refine i_neI ?_ | refine i_eqX ?_ | refine i_neX ?_ | refine i_ltI ?_ | refine i_gtI ?_ | refine i_leI ?_ | refine i_geI ?_ | refine i_lenT ?_ | refine i_absI ?_ | refine i_intI ?_ | refine i_lstT ?_ | refine i_slT ?_ | refine i_iteT ?_ | refine i_iteF ?_ | refine i_var (by with_unfolding_all rfl) ?_ | refine i_aug (by with_unfolding_all rfl) ?_ | refine i_ixT (by with_unfolding_all rfl) ?_ | refine ⟨_, _, rfl, ?_⟩ | refine ⟨_, rfl, ?_⟩ | refine ⟨rfl, ?_⟩ | refine ⟨i_tyS, ?_⟩)))
    refine q f S2 F ?_ hk2 hf0 hF2
    have := w.all
    simpa [Mz.subss] using this
end AL

namespace AL
open PySem PySem.Spec PyProof.Rows L2

theorem sum_cast {α : Type} (f : α → Nat) : ∀ l : List α, (l.map fun x => (f x : Int)).sum = (((l.map f).sum : Nat) : Int)
  | [] => rfl
  | x :: l => by rw [List.map_cons, List.map_cons, List.sum_cons, List.sum_cons, sum_cast f l]; omega
theorem take_snoc {α : Type} {l : List α} {i : Nat} {x : α} (h : l[i]? = some x) : l.take (i + 1) = l.take i ++ [x] := by rw [List.take_add_one, h]; rfl
theorem negOne {α : Type} {l : List α} {x : α} (h : l.getLast? = some x) : atI l (-1) = some x := by
  cases l with
  | nil => cases h
  | cons y l =>
    unfold atI ixN
    rw [if_neg (by decide), if_pos (by rw [List.length_cons]; omega)]
    show (y :: l)[_]? = _
    rw [List.getLast?_eq_getElem?] at h
    rw [← h]
    congr 1
    rw [List.length_cons]; omega

/-! ### key_of, rank -/
def sp_key (n : Nat) : Spa := fun ds S Q => ∃ m : Mz, ds = [m.d] ∧ m.size ≤ n ∧ ∀ S', Keeps S S' → Q m.key S'
def n_key_of : List Str := ["maze", "keys", "branch", "key"]
def t_key_of (F : Spa) : TSa :=
  (aSeq (aAsg (aCall tupleA (aCons (aLc (iSeq (aOp ixA (aVar 0) (aC (.int 1)))) (gNm 2) aYes (aFn 1 F (aCons (aVar 2) aNil)) (ownIx ([("branch", 2)] : List (Str × Nat)))) aNil)) (gNm 1))
  (aRet (aTup (aCons (aOp addA (aC (.int 1)) (aCall sumA (aCons (aLc (iSeq (aVar 1)) (gNm 3) aYes (aOp ixA (aVar 3) (aC (.int 0))) (ownIx ([("key", 3)] : List (Str × Nat)))) aNil))) (aCons (aOp ixA (aVar 0) (aC (.int 0))) (aCons (aCall lenA (aCons (aVar 1) aNil)) (aCons (aVar 1) aNil)))))))
theorem pl_key_of (n : Nat) (hn : n ≤ 100000) : ∀ ds S Q, ds.length = 1 → sp_key (n + 1) ds S Q → semA n_key_of (t_key_of (sp_key n)) ds S Q := by
  rintro ds S Q _ ⟨m, rfl, hm, q⟩
  have hsz := Mz.size_eq m
  have hlen : m.bs.length ≤ m.size := by
    have : ∀ l : List Mz, l.length ≤ (l.map Mz.size).sum := by
      intro l
      induction l with
      | nil => exact Nat.le_refl _
      | cons x l ih => have := Mz.size_pos x; rw [List.map_cons, List.sum_cons, List.length_cons]; omega
    have := this m.bs
    omega
  rw [Mz.d_eq m]
  unfold semA t_key_of
  (repeat (with_reducible (first | refine i_seq ?_ | refine i_next ?_ | refine i_break ?_ | refine i_cont ?_ | refine i_drop ?_ | refine i_ret ?_ | refine i_retN ?_ | refine i_if ?_ | refine i_asg ?_ | refine i_par ?_ | refine i_for ?_ | refine i_nm ?_ | refine i_tp ?_ | refine i_gcons ?_ | refine i_gnil ?_ | refine i_gsub ?_ | refine i_c ?_ | refine i_anil ?_ | refine i_acons ?_ | refine i_tup ?_ | refine i_lst ?_ | refine i_op ?_ | refine i_un ?_ | refine i_call ?_ | refine i_fn ?_ | refine i_test ?_ | refine i_and ?_ | refine i_or ?_ | refine i_not ?_ | refine i_ifx ?_ | refine i_andV ?_ | refine i_orV ?_ | refine i_notV ?_ | refine i_meth ?_ | refine i_sl ?_ | refine i_nopart ?_ | refine i_part ?_ | refine i_revL ?_ | refine i_sortKey ?_ | refine i_sortSet ?_ | refine i_rg1 ?_ | refine i_seqS ?_ | refine i_revR ?_ | refine i_lc ?_ | refine i_yes ?_ | refine i_seqT ?_ | refine i_seqX ?_ | refine i_addI ?_ | refine i_subI ?_ | refine i_negI ?_ | refine i_iaddI ?_ | refine i_eqI ?_ | refine i_neI ?_ | refine i_eqX ?_ | refine i_neX ?_ | refine i_ltI ?_ | refine i_gtI ?_ | refine i_leI ?_ | refine i_geI ?_ | refine i_lenT ?_ | refine i_absI ?_ | refine i_intI ?_ | refine i_lstT ?_ | refine i_slT ?_ | refine i_iteT ?_ | refine i_iteF ?_ | refine i_var (by with_unfolding_all rfl) ?_ | refine i_aug (by with_unfolding_all rfl) ?_ | refine i_ixT (by with_unfolding_all rfl) ?_ | refine ⟨_, _, rfl, ?_⟩ | refine ⟨_, rfl, ?_⟩ | refine ⟨rfl, ?_⟩ | refine ⟨i_tyS, ?_⟩)))
  refine lc_inv (P := fun i acc S' => acc = (m.bs.take i).map Mz.key ∧ Keeps S S') ⟨rfl, .refl⟩ (fun _ _ _ _ _ => trivial) ?_ ?_
  · rintro i d acc S1 K hd ⟨rfl, hk⟩ hK
    rw [List.getElem?_map, Option.map_eq_some_iff] at hd
    obtain ⟨b, hb, rfl⟩ := hd
    have hmem := List.mem_of_getElem? hb
    have := Mz.size_lt hmem
    have hi := (List.getElem?_eq_some_iff.mp hb).1
    (repeat (with_reducible (first | refine i_seq ?_ | refine i_next ?_ | refine i_break ?_ | refine i_cont ?_ | refine i_drop ?_ | refine i_ret ?_ | refine i_retN ?_ | refine i_if ?_ | refine i_asg ?_ | refine i_par ?_ | refine i_for ?_ | refine i_nm ?_ | refine i_tp ?_ | refine i_gcons ?_ | refine i_gnil ?_ | refine i_gsub ?_ | refine i_c ?_ | refine i_anil ?_ | refine i_acons ?_ | refine i_tup ?_ | refine i_lst ?_ | refine i_op ?_ | refine i_un ?_ | refine i_call ?_ | refine i_fn ?_ | refine i_test ?_ | refine i_and ?_ | refine i_or ?_ | refine i_not ?_ | refine i_ifx ?_ | refine i_andV ?_ | refine i_orV ?_ | refine i_notV ?_ | refine i_meth ?_ | refine i_sl ?_ | refine i_nopart ?_ | refine i_part ?_ | refine i_revL ?_ | refine i_sortKey ?_ | refine i_sortSet ?_ | refine i_rg1 ?_ | refine i_seqS ?_ | refine i_revR ?_ | refine i_lc ?_ | refine i_yes ?_ | refine i_seqT ?_ | refine i_seqX ?_ | refine i_addI ?_ | refine i_subI ?_ | refine i_negI ?_ | refine i_iaddI ?_ | refine i_eqI ?_ | refine i_neI ?_ | refine i_eqX ?_ | refine i_neX ?_ | refine i_ltI ?_ | refine i_gtI ?_ | refine i_leI ?_ | refine i_geI ?_ | refine i_lenT ?_ | refine i_absI ?_ | refine i_intI ?_ | refine i_lstT ?_ | refine i_slT ?_ | refine i_iteT ?_ | refine i_iteF ?_ | refine i_var (by with_unfolding_all rfl) ?_ | refine i_aug (by with_unfolding_all rfl) ?_ | refine i_ixT (by with_unfolding_all rfl) ?_ | refine ⟨_, _, rfl, ?_⟩ | refine ⟨_, rfl, ?_⟩ | refine ⟨rfl, ?_⟩ | refine ⟨i_tyS, ?_⟩)))
    refine ⟨b, rfl, by omega, fun S2 hk2 => ⟨by rw [List.length_map, List.length_take, sizeLine_eq]; omega, hK _ _ ⟨by rw [take_snoc hb, List.map_append]; rfl, hk.trans hk2⟩⟩⟩
  · rintro acc S1 ⟨rfl, hk⟩ p hp
    rw [List.length_map, List.take_length]
    (repeat (with_reducible (first | refine i_seq ?_ | refine i_next ?_ | refine i_break ?_ | refine i_cont ?_ | refine i_drop ?_ | refine i_ret ?_ | refine i_retN ?_ | refine i_if ?_ | refine i_asg ?_ | refine i_par ?_ | refine i_for ?_ | refine i_nm ?_ | refine i_tp ?_ | refine i_gcons ?_ | refine i_gnil ?_ | refine i_gsub ?_ | refine i_c ?_ | refine i_anil ?_ | refine i_acons ?_ | refine i_tup ?_ | refine i_lst ?_ | refine i_op ?_ | refine i_un ?_ | refine i_call ?_ | refine i_fn ?_ | refine i_test ?_ | refine i_and ?_ | refine i_or ?_ | refine i_not ?_ | refine i_ifx ?_ | refine i_andV ?_ | refine i_orV ?_ | refine i_notV ?_ | refine i_meth ?_ | refine i_sl ?_ | refine i_nopart ?_ | refine i_part ?_ | refine i_revL ?_ | refine i_sortKey ?_ | refine i_sortSet ?_ | refine i_rg1 ?_ | refine i_seqS ?_ | refine i_revR ?_ | refine i_lc ?_ | refine i_yes ?_ | refine i_seqT ?_ | refine i_seqX ?_ | refine i_addI ?_ | refine i_subI ?_ | refine i_negI ?_ | refine i_iaddI ?_ | refine i_eqI ?_ | refine i_neI ?_ | refine i_eqX ?_ | refine i_neX ?_ | refine i_ltI ?_ | refine i_gtI ?_ | refine i_leI ?_ | refine i_geI ?_ | refine i_lenT ?_ | refine i_absI ?_ | refine i_intI ?_ | refine i_lstT ?_ | refine i_slT ?_ | refine i_iteT ?_ | refine i_iteF ?_ | refine i_var (by with_unfolding_all rfl) ?_ | refine i_aug (by with_unfolding_all rfl) ?_ | refine i_ixT (by with_unfolding_all rfl) ?_ | refine ⟨_, _, rfl, ?_⟩ | refine ⟨_, rfl, ?_⟩ | refine ⟨rfl, ?_⟩ | refine ⟨i_tyS, ?_⟩)))
    refine i_tupL put_same ?_
    have hk1 : Keeps S (put S1 p (.lst (m.bs.map Mz.key))) := hk.trans (Keeps.new hp)
    generalize put S1 p (.lst (m.bs.map Mz.key)) = S2 at hk1
    (repeat (with_reducible (first | refine i_seq ?_ | refine i_next ?_ | refine i_break ?_ | refine i_cont ?_ | refine i_drop ?_ | refine i_ret ?_ | refine i_retN ?_ | refine i_if ?_ | refine i_asg ?_ | refine i_par ?_ | refine i_for ?_ | refine i_nm ?_ | refine i_tp ?_ | refine i_gcons ?_ | refine i_gnil ?_ | refine i_gsub ?_ | refine i_c ?_ | refine i_anil ?_ | refine i_acons ?_ | refine i_tup ?_ | refine i_lst ?_ | refine i_op ?_ | refine i_un ?_ | refine i_call ?_ | refine i_fn ?_ | refine i_test ?_ | refine i_and ?_ | refine i_or ?_ | refine i_not ?_ | refine i_ifx ?_ | refine i_andV ?_ | refine i_orV ?_ | refine i_notV ?_ | refine i_meth ?_ | refine i_sl ?_ | refine i_nopart ?_ | refine i_part ?_ | refine i_revL ?_ | refine i_sortKey ?_ | refine i_sortSet ?_ | refine i_rg1 ?_ | refine i_seqS ?_ | refine i_revR ?_ | refine i_lc ?_ | refine i_yes ?_ | refine i_seqT ?_ | refine i_seqX ?_ | refine i_addI ?_ | refine i_subI ?_ | refine i_negI ?_ | refine i_iaddI ?_ | refine i_eqI ?_ | refine i_neI ?_ | refine i_eqX ?_ | refine i_neX ?_ | refine i_ltI ?_ | refine i_gtI ?_ | refine i_leI ?_ | refine i_geI ?_ | refine i_lenT ?_ | refine i_absI ?_ | refine i_intI ?_ | refine i_lstT ?_ | refine i_slT ?_ | refine i_iteT ?_ | refine i_iteF ?_ | refine i_var (by with_unfolding_all rfl) ?_ | refine i_aug (by with_unfolding_all rfl) ?_ | refine i_ixT (by with_unfolding_all rfl) ?_ | refine ⟨_, _, rfl, ?_⟩ | refine ⟨_, rfl, ?_⟩ | refine ⟨rfl, ?_⟩ | refine ⟨i_tyS, ?_⟩)))
    refine lc_inv (P := fun i acc S' => S' = S2 ∧ acc = ((m.bs.take i).map fun b => (b.size : Int)).map D.int) ⟨rfl, rfl⟩ (fun _ _ _ _ _ => trivial) ?_ ?_
    · rintro i d acc S3 K hd ⟨rfl, rfl⟩ hK
      rw [List.getElem?_map, Option.map_eq_some_iff] at hd
      obtain ⟨b, hb, rfl⟩ := hd
      have hi := (List.getElem?_eq_some_iff.mp hb).1
      rw [Mz.key_eq b]
      (repeat (with_reducible (first | refine i_seq ?_ | refine i_next ?_ | refine i_break ?_ | refine i_cont ?_ | refine i_drop ?_ | refine i_ret ?_ | refine i_retN ?_ | refine i_if ?_ | refine i_asg ?_ | refine i_par ?_ | refine i_for ?_ | refine i_nm ?_ | refine i_tp ?_ | refine i_gcons ?_ | refine i_gnil ?_ | refine i_gsub ?_ | refine i_c ?_ | refine i_anil ?_ | refine i_acons ?_ | refine i_tup ?_ | refine i_lst ?_ | refine i_op ?_ | refine i_un ?_ | refine i_call ?_ | refine i_fn ?_ | refine i_test ?_ | refine i_and ?_ | refine i_or ?_ | refine i_not ?_ | refine i_ifx ?_ | refine i_andV ?_ | refine i_orV ?_ | refine i_notV ?_ | refine i_meth ?_ | refine i_sl ?_ | refine i_nopart ?_ | refine i_part ?_ | refine i_revL ?_ | refine i_sortKey ?_ | refine i_sortSet ?_ | refine i_rg1 ?_ | refine i_seqS ?_ | refine i_revR ?_ | refine i_lc ?_ | refine i_yes ?_ | refine i_seqT ?_ | refine i_seqX ?_ | refine i_addI ?_ | refine i_subI ?_ | refine i_negI ?_ | refine i_iaddI ?_ | refine i_eqI ?_ | refine i_neI ?_ | refine i_eqX ?_ | refine i_neX ?_ | refine i_ltI ?_ | refine i_gtI ?_ | refine i_leI ?_ | refine i_geI ?_ | refine i_lenT ?_ | refine i_absI ?_ | refine i_intI ?_ | refine i_lstT ?_ | refine i_slT ?_ | refine i_iteT ?_ | refine i_iteF ?_ | refine i_var (by with_unfolding_all rfl) ?_ | refine i_aug (by with_unfolding_all rfl) ?_ | refine i_ixT (by with_unfolding_all rfl) ?_ | refine ⟨_, _, rfl, ?_⟩ | refine ⟨_, rfl, ?_⟩ | refine ⟨rfl, ?_⟩ | refine ⟨i_tyS, ?_⟩)))
      refine ⟨by rw [List.length_map, List.length_map, List.length_take, sizeLine_eq]; omega, hK _ _ ⟨rfl, by rw [take_snoc hb, List.map_append, List.map_append]; rfl⟩⟩
    · rintro acc S3 ⟨rfl, rfl⟩ r hr
      rw [List.length_map, List.take_length]
      (repeat (with_reducible (first | refine i_seq ?_ | refine i_next ?_ | refine i_break ?_ | refine i_cont ?_ | refine i_drop ?_ | refine i_ret ?_ | refine i_retN ?_ | refine i_if ?_ | refine i_asg ?_ | refine i_par ?_ | refine i_for ?_ | refine i_nm ?_ | refine i_tp ?_ | refine i_gcons ?_ | refine i_gnil ?_ | refine i_gsub ?_ | refine i_c ?_ | refine i_anil ?_ | refine i_acons ?_ | refine i_tup ?_ | refine i_lst ?_ | refine i_op ?_ | refine i_un ?_ | refine i_call ?_ | refine i_fn ?_ | refine i_test ?_ | refine i_and ?_ | refine i_or ?_ | refine i_not ?_ | refine i_ifx ?_ | refine i_andV ?_ | refine i_orV ?_ | refine i_notV ?_ | refine i_meth ?_ | refine i_sl ?_ | refine i_nopart ?_ | refine i_part ?_ | refine i_revL ?_ | refine i_sortKey ?_ | refine i_sortSet ?_ | refine i_rg1 ?_ | refine i_seqS ?_ | refine i_revR ?_ | refine i_lc ?_ | refine i_yes ?_ | refine i_seqT ?_ | refine i_seqX ?_ | refine i_addI ?_ | refine i_subI ?_ | refine i_negI ?_ | refine i_iaddI ?_ | refine i_eqI ?_ | refine i_neI ?_ | refine i_eqX ?_ | refine i_neX ?_ | refine i_ltI ?_ | refine i_gtI ?_ | refine i_leI ?_ | refine i_geI ?_ | refine i_lenT ?_ | refine i_absI ?_ | refine i_intI ?_ | refine i_lstT ?_ | refine i_slT ?_ | refine i_iteT ?_ | refine i_iteF ?_ | refine i_var (by with_unfolding_all rfl) ?_ | refine i_aug (by with_unfolding_all rfl) ?_ | refine i_ixT (by with_unfolding_all rfl) ?_ | refine ⟨_, _, rfl, ?_⟩ | refine ⟨_, rfl, ?_⟩ | refine ⟨rfl, ?_⟩ | refine ⟨i_tyS, ?_⟩)))
      refine i_sumL put_same ?_
      (repeat (with_reducible (first | refine i_seq ?_ | refine i_next ?_ | refine i_break ?_ | refine i_cont ?_ | refine i_drop ?_ | refine i_ret ?_ | refine i_retN ?_ | refine i_if ?_ | refine i_asg ?_ | refine i_par ?_ | refine i_for ?_ | refine i_nm ?_ | refine i_tp ?_ | refine i_gcons ?_ | refine i_gnil ?_ | refine i_gsub ?_ | refine i_c ?_ | refine i_anil ?_ | refine i_acons ?_ | refine i_tup ?_ | refine i_lst ?_ | refine i_op ?_ | refine i_un ?_ | refine i_call ?_ | refine i_fn ?_ | refine i_test ?_ | refine i_and ?_ | refine i_or ?_ | refine i_not ?_ | refine i_ifx ?_ | refine i_andV ?_ | refine i_orV ?_ | refine i_notV ?_ | refine i_meth ?_ | refine i_sl ?_ | refine i_nopart ?_ | refine i_part ?_ | refine i_revL ?_ | refine i_sortKey ?_ | refine i_sortSet ?_ | refine i_rg1 ?_ | refine i_seqS ?_ | refine i_revR ?_ | refine i_lc ?_ | refine i_yes ?_ | refine i_seqT ?_ | refine i_seqX ?_ | refine i_addI ?_ | refine i_subI ?_ | refine i_negI ?_ | refine i_iaddI ?_ | refine i_eqI ?_ | refine i_neI ?_ | refine i_eqX ?_ | refine i_neX ?_ | refine i_ltI ?_ | refine i_gtI ?_ | refine i_leI ?_ | refine i_geI ?_ | refine i_lenT ?_ | refine i_absI ?_ | refine i_intI ?_ | refine i_lstT ?_ | refine i_slT ?_ | refine i_iteT ?_ | refine i_iteF ?_ | refine i_var (by with_unfolding_all rfl) ?_ | refine i_aug (by with_unfolding_all rfl) ?_ | refine i_ixT (by with_unfolding_all rfl) ?_ | refine ⟨_, _, rfl, ?_⟩ | refine ⟨_, rfl, ?_⟩ | refine ⟨rfl, ?_⟩ | refine ⟨i_tyS, ?_⟩)))
      refine ⟨by simp [sizeLine_eq], ?_⟩
      rw [sum_cast, List.length_map]
      have e : (1 : Int) + (((m.bs.map Mz.size).sum : Nat) : Int) = ((m.size : Nat) : Int) := by rw [hsz]; omega
      rw [e, ← Mz.key_eq m]
      exact q _ (hk1.trans (Keeps.new hr))
end AL

namespace AL
open PySem PySem.Spec PyProof.Rows L2
/-! ### the law's walk -/
abbrev sp_law_in_order : Spa := sp_room_paths
def n_law_in_order : List Str := ["_law_maze_here", "_law_left", "_law_found", "_law_path", "_law_room", "_law_k"]
def t_law_in_order : TSa :=
  (aSeq (aPar 1 2 (aCons (aLst (aCons (aTup (aCons (aTup aNil) (aCons (aVar 0) aNil))) aNil)) (aCons (aLst aNil) aNil)))
  (aSeq (aWhile (aTest (aOp neA (aVar 1) (aLst aNil))) (aSeq (aAsg (aMeth "list" popA (aVar 1) aNil) (gTp 2 (gConsA (gNm 3) (gConsA (gNm 4) gNilA))))
  (aSeq (aDrop (aMeth "list" appendA (aVar 2) (aCons (aTup (aCons (aVar 3) (aCons (aVar 4) aNil))) aNil)))
  (aDrop (aMeth "list" extendA (aVar 1) (aCons (aRevL (aLc (iRg1 (aCons (aCall lenA (aCons (aOp ixA (aVar 4) (aC (.int 1))) aNil)) aNil)) (gNm 5) aYes (aTup (aCons (aOp addA (aVar 3) (aTup (aCons (aOp addA (aVar 5) (aC (.int 1))) aNil))) (aCons (aOp ixA (aOp ixA (aVar 4) (aC (.int 1))) (aVar 5)) aNil))) (ownIx ([("_law_k", 5)] : List (Str × Nat))))) aNil))))))
  (aRet (aVar 2))))
theorem pl_law_in_order : ∀ ds S Q, ds.length = 1 → sp_law_in_order ds S Q → semA n_law_in_order t_law_in_order ds S Q := by
  rintro ds S Q _ ⟨m, rfl, hm, q⟩
  unfold semA t_law_in_order
  (repeat (with_reducible (first | refine i_seq ?_ | refine i_next ?_ | refine i_break ?_ | refine i_cont ?_ | refine i_drop ?_ | refine i_ret ?_ | refine i_retN ?_ | refine i_if ?_ | refine i_asg ?_ | refine i_par ?_ | refine i_for ?_ | refine i_nm ?_ | refine i_tp ?_ | refine i_gcons ?_ | refine i_gnil ?_ | refine i_gsub ?_ | refine i_c ?_ | refine i_anil ?_ | refine i_acons ?_ | refine i_tup ?_ | refine i_lst ?_ | refine i_op ?_ | refine i_un ?_ | refine i_call ?_ | refine i_fn ?_ | refine i_test ?_ | refine i_and ?_ | refine i_or ?_ | refine i_not ?_ | refine i_ifx ?_ | refine i_andV ?_ | refine i_orV ?_ | refine i_notV ?_ | refine i_meth ?_ | refine i_sl ?_ | refine i_nopart ?_ | refine i_part ?_ | refine i_revL ?_ | refine i_sortKey ?_ | refine i_sortSet ?_ | refine i_rg1 ?_ | refine i_seqS ?_ | refine i_revR ?_ | refine i_lc ?_ | refine i_yes ?_ | refine i_seqT ?_ | refine i_seqX ?_ | refine i_addI ?_ | refine i_subI ?_ | refine i_negI ?_ | refine i_iaddI ?_ | refine i_eqI ?_ | refine i_neI ?_ | refine i_eqX ?_ | refine i_neX ?_ | refine i_ltI ?_ | refine i_gtI ?_ | refine i_leI ?_ | refine i_geI ?_ | refine i_lenT ?_ | refine i_absI ?_ | refine i_intI ?_ | refine i_lstT ?_ | refine i_slT ?_ | refine i_iteT ?_ | refine i_iteF ?_ | refine i_var (by with_unfolding_all rfl) ?_ | refine i_aug (by with_unfolding_all rfl) ?_ | refine i_ixT (by with_unfolding_all rfl) ?_ | refine ⟨_, _, rfl, ?_⟩ | refine ⟨_, rfl, ?_⟩ | refine ⟨rfl, ?_⟩ | refine ⟨i_tyS, ?_⟩)))
  refine ⟨by simp [sizeLine_eq], ?_⟩
  (repeat (with_reducible (first | refine i_seq ?_ | refine i_next ?_ | refine i_break ?_ | refine i_cont ?_ | refine i_drop ?_ | refine i_ret ?_ | refine i_retN ?_ | refine i_if ?_ | refine i_asg ?_ | refine i_par ?_ | refine i_for ?_ | refine i_nm ?_ | refine i_tp ?_ | refine i_gcons ?_ | refine i_gnil ?_ | refine i_gsub ?_ | refine i_c ?_ | refine i_anil ?_ | refine i_acons ?_ | refine i_tup ?_ | refine i_lst ?_ | refine i_op ?_ | refine i_un ?_ | refine i_call ?_ | refine i_fn ?_ | refine i_test ?_ | refine i_and ?_ | refine i_or ?_ | refine i_not ?_ | refine i_ifx ?_ | refine i_andV ?_ | refine i_orV ?_ | refine i_notV ?_ | refine i_meth ?_ | refine i_sl ?_ | refine i_nopart ?_ | refine i_part ?_ | refine i_revL ?_ | refine i_sortKey ?_ | refine i_sortSet ?_ | refine i_rg1 ?_ | refine i_seqS ?_ | refine i_revR ?_ | refine i_lc ?_ | refine i_yes ?_ | refine i_seqT ?_ | refine i_seqX ?_ | refine i_addI ?_ | refine i_subI ?_ | refine i_negI ?_ | refine i_iaddI ?_ | refine i_eqI ?_ | refine i_neI ?_ | refine i_eqX ?_ | refine i_neX ?_ | refine i_ltI ?_ | refine i_gtI ?_ | refine i_leI ?_ | refine i_geI ?_ | refine i_lenT ?_ | refine i_absI ?_ | refine i_intI ?_ | refine i_lstT ?_ | refine i_slT ?_ | refine i_iteT ?_ | refine i_iteF ?_ | refine i_var (by with_unfolding_all rfl) ?_ | refine i_aug (by with_unfolding_all rfl) ?_ | refine i_ixT (by with_unfolding_all rfl) ?_ | refine ⟨_, _, rfl, ?_⟩ | refine ⟨_, rfl, ?_⟩ | refine ⟨rfl, ?_⟩ | refine ⟨i_tyS, ?_⟩)))
  refine ⟨by simp [sizeLine_eq], ?_⟩
  (repeat (with_reducible (first | refine i_seq ?_ | refine i_next ?_ | refine i_break ?_ | refine i_cont ?_ | refine i_drop ?_ | refine i_ret ?_ | refine i_retN ?_ | refine i_if ?_ | refine i_asg ?_ | refine i_par ?_ | refine i_for ?_ | refine i_nm ?_ | refine i_tp ?_ | refine i_gcons ?_ | refine i_gnil ?_ | refine i_gsub ?_ | refine i_c ?_ | refine i_anil ?_ | refine i_acons ?_ | refine i_tup ?_ | refine i_lst ?_ | refine i_op ?_ | refine i_un ?_ | refine i_call ?_ | refine i_fn ?_ | refine i_test ?_ | refine i_and ?_ | refine i_or ?_ | refine i_not ?_ | refine i_ifx ?_ | refine i_andV ?_ | refine i_orV ?_ | refine i_notV ?_ | refine i_meth ?_ | refine i_sl ?_ | refine i_nopart ?_ | refine i_part ?_ | refine i_revL ?_ | refine i_sortKey ?_ | refine i_sortSet ?_ | refine i_rg1 ?_ | refine i_seqS ?_ | refine i_revR ?_ | refine i_lc ?_ | refine i_yes ?_ | refine i_seqT ?_ | refine i_seqX ?_ | refine i_addI ?_ | refine i_subI ?_ | refine i_negI ?_ | refine i_iaddI ?_ | refine i_eqI ?_ | refine i_neI ?_ | refine i_eqX ?_ | refine i_neX ?_ | refine i_ltI ?_ | refine i_gtI ?_ | refine i_leI ?_ | refine i_geI ?_ | refine i_lenT ?_ | refine i_absI ?_ | refine i_intI ?_ | refine i_lstT ?_ | refine i_slT ?_ | refine i_iteT ?_ | refine i_iteF ?_ | refine i_var (by with_unfolding_all rfl) ?_ | refine i_aug (by with_unfolding_all rfl) ?_ | refine i_ixT (by with_unfolding_all rfl) ?_ | refine ⟨_, _, rfl, ?_⟩ | refine ⟨_, rfl, ?_⟩ | refine ⟨rfl, ?_⟩ | refine ⟨i_tyS, ?_⟩)))
  refine ⟨by simp [sizeLine_eq], fun p hp => ?_⟩
  (repeat (with_reducible (first | refine i_seq ?_ | refine i_next ?_ | refine i_break ?_ | refine i_cont ?_ | refine i_drop ?_ | refine i_ret ?_ | refine i_retN ?_ | refine i_if ?_ | refine i_asg ?_ | refine i_par ?_ | refine i_for ?_ | refine i_nm ?_ | refine i_tp ?_ | refine i_gcons ?_ | refine i_gnil ?_ | refine i_gsub ?_ | refine i_c ?_ | refine i_anil ?_ | refine i_acons ?_ | refine i_tup ?_ | refine i_lst ?_ | refine i_op ?_ | refine i_un ?_ | refine i_call ?_ | refine i_fn ?_ | refine i_test ?_ | refine i_and ?_ | refine i_or ?_ | refine i_not ?_ | refine i_ifx ?_ | refine i_andV ?_ | refine i_orV ?_ | refine i_notV ?_ | refine i_meth ?_ | refine i_sl ?_ | refine i_nopart ?_ | refine i_part ?_ | refine i_revL ?_ | refine i_sortKey ?_ | refine i_sortSet ?_ | refine i_rg1 ?_ | refine i_seqS ?_ | refine i_revR ?_ | refine i_lc ?_ | refine i_yes ?_ | refine i_seqT ?_ | refine i_seqX ?_ | refine i_addI ?_ | refine i_subI ?_ | refine i_negI ?_ | refine i_iaddI ?_ | refine i_eqI ?_ | refine i_neI ?_ | refine i_eqX ?_ | refine i_neX ?_ | refine i_ltI ?_ | refine i_gtI ?_ | refine i_leI ?_ | refine i_geI ?_ | refine i_lenT ?_ | refine i_absI ?_ | refine i_intI ?_ | refine i_lstT ?_ | refine i_slT ?_ | refine i_iteT ?_ | refine i_iteF ?_ | refine i_var (by with_unfolding_all rfl) ?_ | refine i_aug (by with_unfolding_all rfl) ?_ | refine i_ixT (by with_unfolding_all rfl) ?_ | refine ⟨_, _, rfl, ?_⟩ | refine ⟨_, rfl, ?_⟩ | refine ⟨rfl, ?_⟩ | refine ⟨i_tyS, ?_⟩)))
  refine ⟨by simp [sizeLine_eq], fun f hf => ?_⟩
  (repeat (with_reducible (first | refine i_seq ?_ | refine i_next ?_ | refine i_break ?_ | refine i_cont ?_ | refine i_drop ?_ | refine i_ret ?_ | refine i_retN ?_ | refine i_if ?_ | refine i_asg ?_ | refine i_par ?_ | refine i_for ?_ | refine i_nm ?_ | refine i_tp ?_ | refine i_gcons ?_ | refine i_gnil ?_ | refine i_gsub ?_ | refine i_c ?_ | refine i_anil ?_ | refine i_acons ?_ | refine i_tup ?_ | refine i_lst ?_ | refine i_op ?_ | refine i_un ?_ | refine i_call ?_ | refine i_fn ?_ | refine i_test ?_ | refine i_and ?_ | refine i_or ?_ | refine i_not ?_ | refine i_ifx ?_ | refine i_andV ?_ | refine i_orV ?_ | refine i_notV ?_ | refine i_meth ?_ | refine i_sl ?_ | refine i_nopart ?_ | refine i_part ?_ | refine i_revL ?_ | refine i_sortKey ?_ | refine i_sortSet ?_ | refine i_rg1 ?_ | refine i_seqS ?_ | refine i_revR ?_ | refine i_lc ?_ | refine i_yes ?_ | refine i_seqT ?_ | refine i_seqX ?_ | refine i_addI ?_ | refine i_subI ?_ | refine i_negI ?_ | refine i_iaddI ?_ | refine i_eqI ?_ | refine i_neI ?_ | refine i_eqX ?_ | refine i_neX ?_ | refine i_ltI ?_ | refine i_gtI ?_ | refine i_leI ?_ | refine i_geI ?_ | refine i_lenT ?_ | refine i_absI ?_ | refine i_intI ?_ | refine i_lstT ?_ | refine i_slT ?_ | refine i_iteT ?_ | refine i_iteF ?_ | refine i_var (by with_unfolding_all rfl) ?_ | refine i_aug (by with_unfolding_all rfl) ?_ | refine i_ixT (by with_unfolding_all rfl) ?_ | refine ⟨_, _, rfl, ?_⟩ | refine ⟨_, rfl, ?_⟩ | refine ⟨rfl, ?_⟩ | refine ⟨i_tyS, ?_⟩)))
  have npf : f ≠ p := fun e => by subst e; rw [put_same] at hf; cases hf
  have hf0 : S f = none := put_out hp hf
  refine i_while (fun n l S' => ∃ L F, n = leftR L ∧ WalkR m L F ∧ (∃ x y z, l = [some m.d, some (.ref p), some (.ref f), x, y, z]) ∧ S' p = some (.lst (L.map Rm.d)) ∧ S' f = some (.lst (F.map Rm.d)) ∧ Keeps S S') (leftR [([], m)])
    ⟨[([], m)], [], rfl, WalkR.start m, ⟨none, none, none, rfl⟩, (put_ne npf.symm).trans put_same, put_same, Keeps.trans (Keeps.new hp) (Keeps.new hf)⟩ ?_
  rintro n l S1 ⟨L, F, rfl, w, ⟨x, y, z, rfl⟩, hL, hF, hk⟩
  (repeat (with_reducible (first | refine i_seq ?_ | refine i_next ?_ | refine i_break ?_ | refine i_cont ?_ | refine i_drop ?_ | refine i_ret ?_ | refine i_retN ?_ | refine i_if ?_ | refine i_asg ?_ | refine i_par ?_ | refine i_for ?_ | refine i_nm ?_ | refine i_tp ?_ | refine i_gcons ?_ | refine i_gnil ?_ | refine i_gsub ?_ | refine i_c ?_ | refine i_anil ?_ | refine i_acons ?_ | refine i_tup ?_ | refine i_lst ?_ | refine i_op ?_ | refine i_un ?_ | refine i_call ?_ | refine i_fn ?_ | refine i_test ?_ | refine i_and ?_ | refine i_or ?_ | refine i_not ?_ | refine i_ifx ?_ | refine i_andV ?_ | refine i_orV ?_ | refine i_notV ?_ | refine i_meth ?_ | refine i_sl ?_ | refine i_nopart ?_ | refine i_part ?_ | refine i_revL ?_ | refine i_sortKey ?_ | refine i_sortSet ?_ | refine i_rg1 ?_ | refine i_seqS ?_ | refine i_revR ?_ | refine i_lc ?_ | refine i_yes ?_ | refine i_seqT ?_ | refine i_seqX ?_ | refine i_addI ?_ | refine i_subI ?_ | refine i_negI ?_ | refine i_iaddI ?_ | refine i_eqI ?_ | refine i_neI ?_ | refine i_eqX ?_ | refine i_neX ?_ | refine i_ltI ?_ | refine i_gtI ?_ | refine i_leI ?_ | refine i_geI ?_ | refine i_lenT ?_ | refine i_absI ?_ | refine i_intI ?_ | refine i_lstT ?_ | refine i_slT ?_ | refine i_iteT ?_ | refine i_iteF ?_ | refine i_var (by with_unfolding_all rfl) ?_ | refine i_aug (by with_unfolding_all rfl) ?_ | refine i_ixT (by with_unfolding_all rfl) ?_ | refine ⟨_, _, rfl, ?_⟩ | refine ⟨_, rfl, ?_⟩ | refine ⟨rfl, ?_⟩ | refine ⟨i_tyS, ?_⟩)))
  refine ⟨Nat.zero_le _, fun e he => ?_⟩
  have nep : e ≠ p := fun h => by subst h; rw [hL] at he; cases he
  have nef : e ≠ f := fun h => by subst h; rw [hF] at he; cases he
  refine i_neNil (ds := L.map Rm.d) (by rw [put_ne nep.symm]; exact hL) put_same (Rm.pures L) ?_
  have kp1 : Keeps S1 (put S1 e (.lst [])) := Keeps.new he
  generalize put S1 e (.lst []) = S2 at kp1
  have hL2 := kp1 _ _ hL
  have hF2 := kp1 _ _ hF
  have hk2 := hk.trans kp1
  refine ⟨_, rfl, ?_⟩
  refine i_ite (fun hb => ?_) fun hb => ?_
  · -- a room
    have hne : L ≠ [] := fun h => by subst h; simp at hb
    obtain ⟨L', r, rfl⟩ : ∃ L' r, L = L' ++ [r] := ⟨L.dropLast, L.getLast hne, (List.dropLast_concat_getLast hne).symm⟩
    (repeat (with_reducible (first | refine i_seq ?_ | refine i_next ?_ | refine i_break ?_ | refine i_cont ?_ | refine i_drop ?_ | refine i_ret ?_ | refine i_retN ?_ | refine i_if ?_ | refine i_asg ?_ | refine i_par ?_ | refine i_for ?_ | refine i_nm ?_ | refine i_tp ?_ | refine i_gcons ?_ | refine i_gnil ?_ | refine i_gsub ?_ | refine i_c ?_ | refine i_anil ?_ | refine i_acons ?_ | refine i_tup ?_ | refine i_lst ?_ | refine i_op ?_ | refine i_un ?_ | refine i_call ?_ | refine i_fn ?_ | refine i_test ?_ | refine i_and ?_ | refine i_or ?_ | refine i_not ?_ | refine i_ifx ?_ | refine i_andV ?_ | refine i_orV ?_ | refine i_notV ?_ | refine i_meth ?_ | refine i_sl ?_ | refine i_nopart ?_ | refine i_part ?_ | refine i_revL ?_ | refine i_sortKey ?_ | refine i_sortSet ?_ | refine i_rg1 ?_ | refine i_seqS ?_ | refine i_revR ?_ | refine i_lc ?_ | refine i_yes ?_ | refine i_seqT ?_ | refine i_seqX ?_ | refine i_addI ?_ | refine i_subI ?_ | refine i_negI ?_ | refine i_iaddI ?_ | refine i_eqI ?_ | refine i_neI ?_ | refine i_eqX ?_ | refine i_neX ?_ | refine i_ltI ?_ | refine i_gtI ?_ | refine i_leI ?_ | refine i_geI ?_ | refine i_lenT ?_ | refine i_absI ?_ | refine i_intI ?_ | refine i_lstT ?_ | refine i_slT ?_ | refine i_iteT ?_ | refine i_iteF ?_ | refine i_var (by with_unfolding_all rfl) ?_ | refine i_aug (by with_unfolding_all rfl) ?_ | refine i_ixT (by with_unfolding_all rfl) ?_ | refine ⟨_, _, rfl, ?_⟩ | refine ⟨_, rfl, ?_⟩ | refine ⟨rfl, ?_⟩ | refine ⟨i_tyS, ?_⟩)))
    refine ⟨i_tyL hL2, ?_⟩
    (repeat (with_reducible (first | refine i_seq ?_ | refine i_next ?_ | refine i_break ?_ | refine i_cont ?_ | refine i_drop ?_ | refine i_ret ?_ | refine i_retN ?_ | refine i_if ?_ | refine i_asg ?_ | refine i_par ?_ | refine i_for ?_ | refine i_nm ?_ | refine i_tp ?_ | refine i_gcons ?_ | refine i_gnil ?_ | refine i_gsub ?_ | refine i_c ?_ | refine i_anil ?_ | refine i_acons ?_ | refine i_tup ?_ | refine i_lst ?_ | refine i_op ?_ | refine i_un ?_ | refine i_call ?_ | refine i_fn ?_ | refine i_test ?_ | refine i_and ?_ | refine i_or ?_ | refine i_not ?_ | refine i_ifx ?_ | refine i_andV ?_ | refine i_orV ?_ | refine i_notV ?_ | refine i_meth ?_ | refine i_sl ?_ | refine i_nopart ?_ | refine i_part ?_ | refine i_revL ?_ | refine i_sortKey ?_ | refine i_sortSet ?_ | refine i_rg1 ?_ | refine i_seqS ?_ | refine i_revR ?_ | refine i_lc ?_ | refine i_yes ?_ | refine i_seqT ?_ | refine i_seqX ?_ | refine i_addI ?_ | refine i_subI ?_ | refine i_negI ?_ | refine i_iaddI ?_ | refine i_eqI ?_ | refine i_neI ?_ | refine i_eqX ?_ | refine i_neX ?_ | refine i_ltI ?_ | refine i_gtI ?_ | refine i_leI ?_ | refine i_geI ?_ | refine i_lenT ?_ | refine i_absI ?_ | refine i_intI ?_ | refine i_lstT ?_ | refine i_slT ?_ | refine i_iteT ?_ | refine i_iteF ?_ | refine i_var (by with_unfolding_all rfl) ?_ | refine i_aug (by with_unfolding_all rfl) ?_ | refine i_ixT (by with_unfolding_all rfl) ?_ | refine ⟨_, _, rfl, ?_⟩ | refine ⟨_, rfl, ?_⟩ | refine ⟨rfl, ?_⟩ | refine ⟨i_tyS, ?_⟩)))
    refine i_pop hL2 (d := r.d) (by simp) ?_
    rw [show ((L' ++ [r]).map Rm.d).dropLast = L'.map Rm.d by simp]
    have hL3 : put S2 p (.lst (L'.map Rm.d)) p = some (.lst (L'.map Rm.d)) := put_same
    have hF3 : put S2 p (.lst (L'.map Rm.d)) f = some (.lst (F.map Rm.d)) := by rw [put_ne npf]; exact hF2
    have hk3 : Keeps S (put S2 p (.lst (L'.map Rm.d))) := hk2.chg hp
    generalize put S2 p (.lst (L'.map Rm.d)) = S3 at hL3 hF3 hk3
    show gTp 2 _ (D.tup [.tup (r.1.map D.int), r.2.d]) _ S3 _
    (repeat (with_reducible (first | refine i_seq ?_ | refine i_next ?_ | refine i_break ?_ | refine i_cont ?_ | refine i_drop ?_ | refine i_ret ?_ | refine i_retN ?_ | refine i_if ?_ | refine i_asg ?_ | refine i_par ?_ | refine i_for ?_ | refine i_nm ?_ | refine i_tp ?_ | refine i_gcons ?_ | refine i_gnil ?_ | refine i_gsub ?_ | refine i_c ?_ | refine i_anil ?_ | refine i_acons ?_ | refine i_tup ?_ | refine i_lst ?_ | refine i_op ?_ | refine i_un ?_ | refine i_call ?_ | refine i_fn ?_ | refine i_test ?_ | refine i_and ?_ | refine i_or ?_ | refine i_not ?_ | refine i_ifx ?_ | refine i_andV ?_ | refine i_orV ?_ | refine i_notV ?_ | refine i_meth ?_ | refine i_sl ?_ | refine i_nopart ?_ | refine i_part ?_ | refine i_revL ?_ | refine i_sortKey ?_ | refine i_sortSet ?_ | refine i_rg1 ?_ | refine i_seqS ?_ | refine i_revR ?_ | refine i_lc ?_ | refine i_yes ?_ | refine i_seqT ?_ | refine i_seqX ?_ | refine i_addI ?_ | refine i_subI ?_ | refine i_negI ?_ | refine i_iaddI ?_ | refine i_eqI ?_ | refine i_neI ?_ | refine i_eqX ?_ | refine i_neX ?_ | refine i_ltI ?_ | refine i_gtI ?_ | refine i_leI ?_ | refine i_geI ?_ | refine i_lenT ?_ | refine i_absI ?_ | refine i_intI ?_ | refine i_lstT ?_ | refine i_slT ?_ | refine i_iteT ?_ | refine i_iteF ?_ | refine i_var (by with_unfolding_all rfl) ?_ | refine i_aug (by with_unfolding_all rfl) ?_ | refine i_ixT (by with_unfolding_all rfl) ?_ | refine ⟨_, _, rfl, ?_⟩ | refine ⟨_, rfl, ?_⟩ | refine ⟨rfl, ?_⟩ | refine ⟨i_tyS, ?_⟩)))
    refine ⟨i_tyL hF3, ?_⟩
    (repeat (with_reducible (first | refine i_seq ?_ | refine i_next ?_ | refine i_break ?_ | refine i_cont ?_ | refine i_drop ?_ | refine i_ret ?_ | refine i_retN ?_ | refine i_if ?_ | refine i_asg ?_ | refine i_par ?_ | refine i_for ?_ | refine i_nm ?_ | refine i_tp ?_ | refine i_gcons ?_ | refine i_gnil ?_ | refine i_gsub ?_ | refine i_c ?_ | refine i_anil ?_ | refine i_acons ?_ | refine i_tup ?_ | refine i_lst ?_ | refine i_op ?_ | refine i_un ?_ | refine i_call ?_ | refine i_fn ?_ | refine i_test ?_ | refine i_and ?_ | refine i_or ?_ | refine i_not ?_ | refine i_ifx ?_ | refine i_andV ?_ | refine i_orV ?_ | refine i_notV ?_ | refine i_meth ?_ | refine i_sl ?_ | refine i_nopart ?_ | refine i_part ?_ | refine i_revL ?_ | refine i_sortKey ?_ | refine i_sortSet ?_ | refine i_rg1 ?_ | refine i_seqS ?_ | refine i_revR ?_ | refine i_lc ?_ | refine i_yes ?_ | refine i_seqT ?_ | refine i_seqX ?_ | refine i_addI ?_ | refine i_subI ?_ | refine i_negI ?_ | refine i_iaddI ?_ | refine i_eqI ?_ | refine i_neI ?_ | refine i_eqX ?_ | refine i_neX ?_ | refine i_ltI ?_ | refine i_gtI ?_ | refine i_leI ?_ | refine i_geI ?_ | refine i_lenT ?_ | refine i_absI ?_ | refine i_intI ?_ | refine i_lstT ?_ | refine i_slT ?_ | refine i_iteT ?_ | refine i_iteF ?_ | refine i_var (by with_unfolding_all rfl) ?_ | refine i_aug (by with_unfolding_all rfl) ?_ | refine i_ixT (by with_unfolding_all rfl) ?_ | refine ⟨_, _, rfl, ?_⟩ | refine ⟨_, rfl, ?_⟩ | refine ⟨rfl, ?_⟩ | refine ⟨i_tyS, ?_⟩)))
    refine ⟨by simp [sizeLine_eq], ?_⟩
    (repeat (with_reducible (first | refine i_seq ?_ | refine i_next ?_ | refine i_break ?_ | refine i_cont ?_ | refine i_drop ?_ | refine i_ret ?_ | refine i_retN ?_ | refine i_if ?_ | refine i_asg ?_ | refine i_par ?_ | refine i_for ?_ | refine i_nm ?_ | refine i_tp ?_ | refine i_gcons ?_ | refine i_gnil ?_ | refine i_gsub ?_ | refine i_c ?_ | refine i_anil ?_ | refine i_acons ?_ | refine i_tup ?_ | refine i_lst ?_ | refine i_op ?_ | refine i_un ?_ | refine i_call ?_ | refine i_fn ?_ | refine i_test ?_ | refine i_and ?_ | refine i_or ?_ | refine i_not ?_ | refine i_ifx ?_ | refine i_andV ?_ | refine i_orV ?_ | refine i_notV ?_ | refine i_meth ?_ | refine i_sl ?_ | refine i_nopart ?_ | refine i_part ?_ | refine i_revL ?_ | refine i_sortKey ?_ | refine i_sortSet ?_ | refine i_rg1 ?_ | refine i_seqS ?_ | refine i_revR ?_ | refine i_lc ?_ | refine i_yes ?_ | refine i_seqT ?_ | refine i_seqX ?_ | refine i_addI ?_ | refine i_subI ?_ | refine i_negI ?_ | refine i_iaddI ?_ | refine i_eqI ?_ | refine i_neI ?_ | refine i_eqX ?_ | refine i_neX ?_ | refine i_ltI ?_ | refine i_gtI ?_ | refine i_leI ?_ | refine i_geI ?_ | refine i_lenT ?_ | refine i_absI ?_ | refine i_intI ?_ | refine i_lstT ?_ | refine i_slT ?_ | refine i_iteT ?_ | refine i_iteF ?_ | refine i_var (by with_unfolding_all rfl) ?_ | refine i_aug (by with_unfolding_all rfl) ?_ | refine i_ixT (by with_unfolding_all rfl) ?_ | refine ⟨_, _, rfl, ?_⟩ | refine ⟨_, rfl, ?_⟩ | refine ⟨rfl, ?_⟩ | refine ⟨i_tyS, ?_⟩)))
    have few := w.few
    rw [leftR_append] at few
    have r1 : leftR [r] = r.2.size := by simp [leftR]
    have r2 := Mz.size_pos r.2
    refine i_append hF3 (by rw [List.length_map, sizeLine_eq]; omega) ?_
    have hL4 : put S3 f (.lst (F.map Rm.d ++ [.tup [.tup (r.1.map D.int), r.2.d]])) p = some (.lst (L'.map Rm.d)) := by rw [put_ne npf.symm]; exact hL3
    have hF4 : put S3 f (.lst (F.map Rm.d ++ [.tup [.tup (r.1.map D.int), r.2.d]])) f = some (.lst ((F ++ [r]).map Rm.d)) := by rw [put_same, List.map_append]; rfl
    have hk4 : Keeps S (put S3 f (.lst (F.map Rm.d ++ [.tup [.tup (r.1.map D.int), r.2.d]]))) := hk3.chg hf0
    generalize put S3 f (.lst (F.map Rm.d ++ [.tup [.tup (r.1.map D.int), r.2.d]])) = S4 at hL4 hF4 hk4
    (repeat (with_reducible (first | refine i_seq ?_ | refine i_next ?_ | refine i_break ?_ | refine i_cont ?_ | refine i_drop ?_ | refine i_ret ?_ | refine i_retN ?_ | refine i_if ?_ | refine i_asg ?_ | refine i_par ?_ | refine i_for ?_ | refine i_nm ?_ | refine i_tp ?_ | refine i_gcons ?_ | refine i_gnil ?_ | refine i_gsub ?_ | refine i_c ?_ | refine i_anil ?_ | refine i_acons ?_ | refine i_tup ?_ | refine i_lst ?_ | refine i_op ?_ | refine i_un ?_ | refine i_call ?_ | refine i_fn ?_ | refine i_test ?_ | refine i_and ?_ | refine i_or ?_ | refine i_not ?_ | refine i_ifx ?_ | refine i_andV ?_ | refine i_orV ?_ | refine i_notV ?_ | refine i_meth ?_ | refine i_sl ?_ | refine i_nopart ?_ | refine i_part ?_ | refine i_revL ?_ | refine i_sortKey ?_ | refine i_sortSet ?_ | refine i_rg1 ?_ | refine i_seqS ?_ | refine i_revR ?_ | refine i_lc ?_ | refine i_yes ?_ | refine i_seqT ?_ | refine i_seqX ?_ | refine i_addI ?_ | refine i_subI ?_ | refine i_negI ?_ | refine i_iaddI ?_ | refine i_eqI ?_ | refine i_neI ?_ | refine i_eqX ?_ | refine i_neX ?_ | refine i_ltI ?_ | refine i_gtI ?_ | refine i_leI ?_ | refine i_geI ?_ | refine i_lenT ?_ | refine i_absI ?_ | refine i_intI ?_ | refine i_lstT ?_ | refine i_slT ?_ | refine i_iteT ?_ | refine i_iteF ?_ | refine i_var (by with_unfolding_all rfl) ?_ | refine i_aug (by with_unfolding_all rfl) ?_ | refine i_ixT (by with_unfolding_all rfl) ?_ | refine ⟨_, _, rfl, ?_⟩ | refine ⟨_, rfl, ?_⟩ | refine ⟨rfl, ?_⟩ | refine ⟨i_tyS, ?_⟩)))
    refine ⟨i_tyL hL4, ?_⟩
    (repeat (with_reducible (first | refine i_seq ?_ | refine i_next ?_ | refine i_break ?_ | refine i_cont ?_ | refine i_drop ?_ | refine i_ret ?_ | refine i_retN ?_ | refine i_if ?_ | refine i_asg ?_ | refine i_par ?_ | refine i_for ?_ | refine i_nm ?_ | refine i_tp ?_ | refine i_gcons ?_ | refine i_gnil ?_ | refine i_gsub ?_ | refine i_c ?_ | refine i_anil ?_ | refine i_acons ?_ | refine i_tup ?_ | refine i_lst ?_ | refine i_op ?_ | refine i_un ?_ | refine i_call ?_ | refine i_fn ?_ | refine i_test ?_ | refine i_and ?_ | refine i_or ?_ | refine i_not ?_ | refine i_ifx ?_ | refine i_andV ?_ | refine i_orV ?_ | refine i_notV ?_ | refine i_meth ?_ | refine i_sl ?_ | refine i_nopart ?_ | refine i_part ?_ | refine i_revL ?_ | refine i_sortKey ?_ | refine i_sortSet ?_ | refine i_rg1 ?_ | refine i_seqS ?_ | refine i_revR ?_ | refine i_lc ?_ | refine i_yes ?_ | refine i_seqT ?_ | refine i_seqX ?_ | refine i_addI ?_ | refine i_subI ?_ | refine i_negI ?_ | refine i_iaddI ?_ | refine i_eqI ?_ | refine i_neI ?_ | refine i_eqX ?_ | refine i_neX ?_ | refine i_ltI ?_ | refine i_gtI ?_ | refine i_leI ?_ | refine i_geI ?_ | refine i_lenT ?_ | refine i_absI ?_ | refine i_intI ?_ | refine i_lstT ?_ | refine i_slT ?_ | refine i_iteT ?_ | refine i_iteF ?_ | refine i_var (by with_unfolding_all rfl) ?_ | refine i_aug (by with_unfolding_all rfl) ?_ | refine i_ixT (by with_unfolding_all rfl) ?_ | refine ⟨_, _, rfl, ?_⟩ | refine ⟨_, rfl, ?_⟩ | refine ⟨rfl, ?_⟩ | refine ⟨i_tyS, ?_⟩)))
    rw [Mz.d_eq r.2]
    refine i_ixT rfl ?_
    have lim := w.lim r (List.mem_append_right _ (List.mem_singleton.mpr rfl))
    have h1 := leftR_behind r
    have h2 := leftR_len (behindR r)
    rw [behindR_len] at h2
    (repeat (with_reducible (first | refine i_seq ?_ | refine i_next ?_ | refine i_break ?_ | refine i_cont ?_ | refine i_drop ?_ | refine i_ret ?_ | refine i_retN ?_ | refine i_if ?_ | refine i_asg ?_ | refine i_par ?_ | refine i_for ?_ | refine i_nm ?_ | refine i_tp ?_ | refine i_gcons ?_ | refine i_gnil ?_ | refine i_gsub ?_ | refine i_c ?_ | refine i_anil ?_ | refine i_acons ?_ | refine i_tup ?_ | refine i_lst ?_ | refine i_op ?_ | refine i_un ?_ | refine i_call ?_ | refine i_fn ?_ | refine i_test ?_ | refine i_and ?_ | refine i_or ?_ | refine i_not ?_ | refine i_ifx ?_ | refine i_andV ?_ | refine i_orV ?_ | refine i_notV ?_ | refine i_meth ?_ | refine i_sl ?_ | refine i_nopart ?_ | refine i_part ?_ | refine i_revL ?_ | refine i_sortKey ?_ | refine i_sortSet ?_ | refine i_rg1 ?_ | refine i_seqS ?_ | refine i_revR ?_ | refine i_lc ?_ | refine i_yes ?_ | refine i_seqT ?_ | refine i_seqX ?_ | refine i_addI ?_ | refine i_subI ?_ | refine i_negI ?_ | refine i_iaddI ?_ | refine i_eqI ?_ | refine i_neI ?_ | refine i_eqX ?_ | refine i_neX ?_ | refine i_ltI ?_ | refine i_gtI ?_ | refine i_leI ?_ | refine i_geI ?_ | refine i_lenT ?_ | refine i_absI ?_ | refine i_intI ?_ | refine i_lstT ?_ | refine i_slT ?_ | refine i_iteT ?_ | refine i_iteF ?_ | refine i_var (by with_unfolding_all rfl) ?_ | refine i_aug (by with_unfolding_all rfl) ?_ | refine i_ixT (by with_unfolding_all rfl) ?_ | refine ⟨_, _, rfl, ?_⟩ | refine ⟨_, rfl, ?_⟩ | refine ⟨rfl, ?_⟩ | refine ⟨i_tyS, ?_⟩)))
    rw [List.length_map]
    refine ⟨by omega, ?_⟩
    rw [Int.toNat_natCast]
    refine lc_inv (P := fun i acc S' => S' = S4 ∧ acc = ((behindR r).reverse.take i).map Rm.d) ⟨rfl, by simp⟩ (fun _ _ _ _ _ => trivial) ?_ ?_
    · rintro i d acc S5 K hd ⟨rfl, rfl⟩ hK
      obtain ⟨hi, rfl⟩ := intsD_get hd
      (repeat (with_reducible (first | refine i_seq ?_ | refine i_next ?_ | refine i_break ?_ | refine i_cont ?_ | refine i_drop ?_ | refine i_ret ?_ | refine i_retN ?_ | refine i_if ?_ | refine i_asg ?_ | refine i_par ?_ | refine i_for ?_ | refine i_nm ?_ | refine i_tp ?_ | refine i_gcons ?_ | refine i_gnil ?_ | refine i_gsub ?_ | refine i_c ?_ | refine i_anil ?_ | refine i_acons ?_ | refine i_tup ?_ | refine i_lst ?_ | refine i_op ?_ | refine i_un ?_ | refine i_call ?_ | refine i_fn ?_ | refine i_test ?_ | refine i_and ?_ | refine i_or ?_ | refine i_not ?_ | refine i_ifx ?_ | refine i_andV ?_ | refine i_orV ?_ | refine i_notV ?_ | refine i_meth ?_ | refine i_sl ?_ | refine i_nopart ?_ | refine i_part ?_ | refine i_revL ?_ | refine i_sortKey ?_ | refine i_sortSet ?_ | refine i_rg1 ?_ | refine i_seqS ?_ | refine i_revR ?_ | refine i_lc ?_ | refine i_yes ?_ | refine i_seqT ?_ | refine i_seqX ?_ | refine i_addI ?_ | refine i_subI ?_ | refine i_negI ?_ | refine i_iaddI ?_ | refine i_eqI ?_ | refine i_neI ?_ | refine i_eqX ?_ | refine i_neX ?_ | refine i_ltI ?_ | refine i_gtI ?_ | refine i_leI ?_ | refine i_geI ?_ | refine i_lenT ?_ | refine i_absI ?_ | refine i_intI ?_ | refine i_lstT ?_ | refine i_slT ?_ | refine i_iteT ?_ | refine i_iteF ?_ | refine i_var (by with_unfolding_all rfl) ?_ | refine i_aug (by with_unfolding_all rfl) ?_ | refine i_ixT (by with_unfolding_all rfl) ?_ | refine ⟨_, _, rfl, ?_⟩ | refine ⟨_, rfl, ?_⟩ | refine ⟨rfl, ?_⟩ | refine ⟨i_tyS, ?_⟩)))
      refine ⟨by simp [sizeLine_eq], ?_⟩
      refine i_addT (by rw [sizeLine_eq]; simp; omega) ?_
      (repeat (with_reducible (first | refine i_seq ?_ | refine i_next ?_ | refine i_break ?_ | refine i_cont ?_ | refine i_drop ?_ | refine i_ret ?_ | refine i_retN ?_ | refine i_if ?_ | refine i_asg ?_ | refine i_par ?_ | refine i_for ?_ | refine i_nm ?_ | refine i_tp ?_ | refine i_gcons ?_ | refine i_gnil ?_ | refine i_gsub ?_ | refine i_c ?_ | refine i_anil ?_ | refine i_acons ?_ | refine i_tup ?_ | refine i_lst ?_ | refine i_op ?_ | refine i_un ?_ | refine i_call ?_ | refine i_fn ?_ | refine i_test ?_ | refine i_and ?_ | refine i_or ?_ | refine i_not ?_ | refine i_ifx ?_ | refine i_andV ?_ | refine i_orV ?_ | refine i_notV ?_ | refine i_meth ?_ | refine i_sl ?_ | refine i_nopart ?_ | refine i_part ?_ | refine i_revL ?_ | refine i_sortKey ?_ | refine i_sortSet ?_ | refine i_rg1 ?_ | refine i_seqS ?_ | refine i_revR ?_ | refine i_lc ?_ | refine i_yes ?_ | refine i_seqT ?_ | refine i_seqX ?_ | refine i_addI ?_ | refine i_subI ?_ | refine i_negI ?_ | refine i_iaddI ?_ | refine i_eqI ?_ | refine i_neI ?_ | refine i_eqX ?_ | refine i_neX ?_ | refine i_ltI ?_ | refine i_gtI ?_ | refine i_leI ?_ | refine i_geI ?_ | refine i_lenT ?_ | refine i_absI ?_ | refine i_intI ?_ | refine i_lstT ?_ | refine i_slT ?_ | refine i_iteT ?_ | refine i_iteF ?_ | refine i_var (by with_unfolding_all rfl) ?_ | refine i_aug (by with_unfolding_all rfl) ?_ | refine i_ixT (by with_unfolding_all rfl) ?_ | refine ⟨_, _, rfl, ?_⟩ | refine ⟨_, rfl, ?_⟩ | refine ⟨rfl, ?_⟩ | refine ⟨i_tyS, ?_⟩)))
      obtain ⟨b, e1, e2, _, e4⟩ := atI_in (xs := r.2.bs.map Mz.d) (i := 0 + (i : Int)) (by omega) (by rw [List.length_map]; omega)
      refine i_ixT e1 ?_
      (repeat (with_reducible (first | refine i_seq ?_ | refine i_next ?_ | refine i_break ?_ | refine i_cont ?_ | refine i_drop ?_ | refine i_ret ?_ | refine i_retN ?_ | refine i_if ?_ | refine i_asg ?_ | refine i_par ?_ | refine i_for ?_ | refine i_nm ?_ | refine i_tp ?_ | refine i_gcons ?_ | refine i_gnil ?_ | refine i_gsub ?_ | refine i_c ?_ | refine i_anil ?_ | refine i_acons ?_ | refine i_tup ?_ | refine i_lst ?_ | refine i_op ?_ | refine i_un ?_ | refine i_call ?_ | refine i_fn ?_ | refine i_test ?_ | refine i_and ?_ | refine i_or ?_ | refine i_not ?_ | refine i_ifx ?_ | refine i_andV ?_ | refine i_orV ?_ | refine i_notV ?_ | refine i_meth ?_ | refine i_sl ?_ | refine i_nopart ?_ | refine i_part ?_ | refine i_revL ?_ | refine i_sortKey ?_ | refine i_sortSet ?_ | refine i_rg1 ?_ | refine i_seqS ?_ | refine i_revR ?_ | refine i_lc ?_ | refine i_yes ?_ | refine i_seqT ?_ | refine i_seqX ?_ | refine i_addI ?_ | refine i_subI ?_ | refine i_negI ?_ | refine i_iaddI ?_ | refine i_eqI ?_ | refine i_neI ?_ | refine i_eqX ?_ | refine i_neX ?_ | refine i_ltI ?_ | refine i_gtI ?_ | refine i_leI ?_ | refine i_geI ?_ | refine i_lenT ?_ | refine i_absI ?_ | refine i_intI ?_ | refine i_lstT ?_ | refine i_slT ?_ | refine i_iteT ?_ | refine i_iteF ?_ | refine i_var (by with_unfolding_all rfl) ?_ | refine i_aug (by with_unfolding_all rfl) ?_ | refine i_ixT (by with_unfolding_all rfl) ?_ | refine ⟨_, _, rfl, ?_⟩ | refine ⟨_, rfl, ?_⟩ | refine ⟨rfl, ?_⟩ | refine ⟨i_tyS, ?_⟩)))
      have e5 : (0 + (i : Int)).toNat = i := by omega
      rw [e5, List.getElem?_map, Option.map_eq_some_iff] at e4
      obtain ⟨b', hb', rfl⟩ := e4
      refine ⟨by simp [sizeLine_eq], by rw [List.length_map, List.length_take, sizeLine_eq]; omega, hK _ _ ⟨rfl, ?_⟩⟩
      have e6 : (behindR r).reverse[i]? = some (r.1 ++ [(i : Int) + 1], b') := by
        unfold behindR
        rw [List.reverse_reverse, List.getElem?_mapIdx, hb']
        rfl
      rw [take_snoc e6, List.map_append]
      congr 1
      simp [Rm.d]
    · rintro acc S5 ⟨rfl, rfl⟩ b hb0
      rw [intsD_len]
      have e7 : (behindR r).reverse.take r.2.bs.length = (behindR r).reverse := by
        rw [← behindR_len r, ← List.length_reverse, List.take_length]
      rw [e7]
      refine ⟨_, _, rfl, put_same, fun c hc0 => ?_⟩
      have kpb : Keeps S5 (put S5 b (.lst ((behindR r).reverse.map Rm.d))) := Keeps.new hb0
      generalize put S5 b (.lst ((behindR r).reverse.map Rm.d)) = S6 at kpb hc0
      rw [List.map_reverse, List.reverse_reverse]
      have kpc : Keeps S6 (put S6 c (.lst ((behindR r).map Rm.d))) := Keeps.new hc0
      have h3 := leftR_len L'
      have h4 := behindR_len r
      (repeat (with_reducible (first | refine i_seq ?_ | refine i_next ?_ | refine i_break ?_ | refine i_cont ?_ | refine i_drop ?_ | refine i_ret ?_ | refine i_retN ?_ | refine i_if ?_ | refine i_asg ?_ | refine i_par ?_ | refine i_for ?_ | refine i_nm ?_ | refine i_tp ?_ | refine i_gcons ?_ | refine i_gnil ?_ | refine i_gsub ?_ | refine i_c ?_ | refine i_anil ?_ | refine i_acons ?_ | refine i_tup ?_ | refine i_lst ?_ | refine i_op ?_ | refine i_un ?_ | refine i_call ?_ | refine i_fn ?_ | refine i_test ?_ | refine i_and ?_ | refine i_or ?_ | refine i_not ?_ | refine i_ifx ?_ | refine i_andV ?_ | refine i_orV ?_ | refine i_notV ?_ | refine i_meth ?_ | refine i_sl ?_ | refine i_nopart ?_ | refine i_part ?_ | refine i_revL ?_ | refine i_sortKey ?_ | refine i_sortSet ?_ | refine i_rg1 ?_ | refine i_seqS ?_ | refine i_revR ?_ | refine i_lc ?_ | refine i_yes ?_ | refine i_seqT ?_ | refine i_seqX ?_ | refine i_addI ?_ | refine i_subI ?_ | refine i_negI ?_ | refine i_iaddI ?_ | refine i_eqI ?_ | refine i_neI ?_ | refine i_eqX ?_ | refine i_neX ?_ | refine i_ltI ?_ | refine i_gtI ?_ | refine i_leI ?_ | refine i_geI ?_ | refine i_lenT ?_ | refine i_absI ?_ | refine i_intI ?_ | refine i_lstT ?_ | refine i_slT ?_ | refine i_iteT ?_ | refine i_iteF ?_ | refine i_var (by with_unfolding_all rfl) ?_ | refine i_aug (by with_unfolding_all rfl) ?_ | refine i_ixT (by with_unfolding_all rfl) ?_ | refine ⟨_, _, rfl, ?_⟩ | refine ⟨_, rfl, ?_⟩ | refine ⟨rfl, ?_⟩ | refine ⟨i_tyS, ?_⟩)))
      refine i_extend (kpc _ _ (kpb _ _ hL4)) put_same (by rw [List.length_map, List.length_map, sizeLine_eq]; omega) ?_
      refine ⟨leftR (L' ++ behindR r), by rw [leftR_append, leftR_append, r1]; omega, L' ++ behindR r, F ++ [r], rfl, w.step, ⟨_, _, _, rfl⟩, by rw [put_same, List.map_append], by rw [put_ne npf]; exact kpc _ _ (kpb _ _ hF4), ((hk4.trans kpb).trans kpc).chg hp⟩
  · have hnil : L = [] := by cases L with | nil => rfl | cons _ _ => simp at hb
    subst hnil
    (repeat (with_reducible (first | refine i_seq ?_ | refine i_next ?_ | refine i_break ?_ | refine i_cont ?_ | refine i_drop ?_ | refine i_ret ?_ | refine i_retN ?_ | refine i_if ?_ | refine i_asg ?_ | refine i_par ?_ | refine i_for ?_ | refine i_nm ?_ | refine i_tp ?_ | refine i_gcons ?_ | refine i_gnil ?_ | refine i_gsub ?_ | refine i_c ?_ | refine i_anil ?_ | refine i_acons ?_ | refine i_tup ?_ | refine i_lst ?_ | refine i_op ?_ | refine i_un ?_ | refine i_call ?_ | refine i_fn ?_ | refine i_test ?_ | refine i_and ?_ | refine i_or ?_ | refine i_not ?_ | refine i_ifx ?_ | refine i_andV ?_ | refine i_orV ?_ | refine i_notV ?_ | refine i_meth ?_ | refine i_sl ?_ | refine i_nopart ?_ | refine i_part ?_ | refine i_revL ?_ | refine i_sortKey ?_ | refine i_sortSet ?_ | refine i_rg1 ?_ | refine i_seqS ?_ | refine i_revR ?_ | refine i_lc ?_ | refine i_yes ?_ | refine i_seqT ?_ | refine i_seqX ?_ | refine i_addI ?_ | refine i_subI ?_ | refine i_negI ?_ | refine i_iaddI ?_ | refine i_eqI ?_ | refine i_neI ?_ | refine i_eqX ?_ | refine i_neX ?_ | refine i_ltI ?_ | refine i_gtI ?_ | refine i_leI ?_ | refine i_geI ?_ | refine i_lenT ?_ | refine i_absI ?_ | refine i_intI ?_ | refine i_lstT ?_ | refine i_slT ?_ | refine i_iteT ?_ | refine i_iteF ?_ | refine i_var (by with_unfolding_all rfl) ?_ | refine i_aug (by with_unfolding_all rfl) ?_ | refine i_ixT (by with_unfolding_all rfl) ?_ | refine ⟨_, _, rfl, ?_⟩ | refine ⟨_, rfl, ?_⟩ | refine ⟨rfl, ?_⟩ | refine ⟨i_tyS, ?_⟩)))
    refine q f S2 F ?_ hk2 hf0 hF2
    have := w.all
    simpa [Mz.subss] using this
end AL

namespace AL
open PySem PySem.Spec PyProof.Rows L2

theorem Ext.at {a c p : Addr} {S S' : Sto} {o : Ob} (h : Ext a c S S') (e : S p = some o) (n1 : p ≠ a) (n2 : p ≠ c) : S' p = some o := h p o e n1 n2
theorem Ext.out {a c p : Addr} {S S' : Sto} (h : Ext a c S S') (hp : S' p = none) (n1 : p ≠ a) (n2 : p ≠ c) : S p = none := by
  cases e : S p with
  | none => rfl
  | some o => rw [h p o e n1 n2] at hp; cases hp
theorem Ext.chg {a c p : Addr} {S S' : Sto} {o : Ob} (h : Ext a c S S') (hp : S p = none) : Ext a c S (put S' p o) := fun b u e h1 h2 => by
  rw [put_ne (fun z => by subst z; rw [hp] at e; cases e)]; exact h b u e h1 h2
theorem Ext.of {a c : Addr} {S S' : Sto} (h : Keeps S S') : Ext a c S S' := fun b o e _ _ => h b o e
/-- a shape -/
abbrev Sh := Str × Int
def Sh.d (s : Sh) : D := .tup [.str s.1, .int s.2]
def ShOk (s : Sh) : Prop := SignOk s.1 ∧ 0 ≤ s.2 ∧ s.2 ≤ 2
def sp_law_mazes : Spa := fun ds S Q => ∃ (a c sh : Addr) (k : Nat) (ss : List Sh) (many most : Int), ds = [.ref a, .ref sh, .int many, .int most] ∧ Deck S a c k ∧ k < 990000000 ∧ S sh = some (.lst (ss.map Sh.d)) ∧ sh ≠ a ∧ sh ≠ c ∧
  (∀ s ∈ ss, ShOk s) ∧ (∃ s ∈ ss, s.2 = 0) ∧ ss.length ≤ 100 ∧ 0 ≤ many ∧ many ≤ 100 ∧ 1 ≤ most ∧
  ∀ (p : Addr) S' (ms : List Mz), ms ≠ [] → (∀ m ∈ ms, m.Ok ∧ (m.size : Int) ≤ most) → S p = none → S' p = some (.lst (ms.map Mz.d)) → Ext a c S S' → Deck S' a c (k + 1000) → Q (.ref p) S'
def n_law_mazes : List Str := ["_law_deck_here", "_law_kind", "_law_many", "_law_most", "_law_found", "_law_sizes", "_law_k", "_law_parts", "_law_size_here", "_law_sign", "_law_count", "_law_j", "_law_part"]
def r_law_mazes : TSa :=
  (aSeq (aAsg (aOp addA (aC (.int 1)) (aCall sumA (aCons (aLc (iSeq (aVar 7)) (gNm 12) aYes (aOp ixA (aVar 5) (aVar 12)) (ownIx ([("_law_part", 12)] : List (Str × Nat)))) aNil))) (gNm 8))
  (aIfS (aTest (aOp leA (aVar 8) (aVar 3))) (aSeq (aDrop (aMeth "list" appendA (aVar 4) (aCons (aTup (aCons (aVar 9) (aCons (aCall tupleA (aCons (aLc (iSeq (aVar 7)) (gNm 12) aYes (aOp ixA (aVar 4) (aVar 12)) (ownIx ([("_law_part", 12)] : List (Str × Nat)))) aNil)) aNil))) aNil)))
  (aDrop (aMeth "list" appendA (aVar 5) (aCons (aVar 8) aNil)))) aNext))
def b2_law_mazes : TSa :=
  (aSeq (aAsg (aFn 2 sp_law_one (aCons (aVar 0) (aCons (aVar 1) aNil))) (gTp 2 (gConsA (gNm 9) (gConsA (gNm 10) gNilA))))
  (aSeq (aAsg (aLc (iRg1 (aCons (aVar 10) aNil)) (gNm 11) aYes (aFn 2 sp_law_draw (aCons (aVar 0) (aCons (aCall lenA (aCons (aVar 4) aNil)) aNil))) (ownIx ([("_law_j", 11)] : List (Str × Nat)))) (gNm 7))
  (aSeq (aIfS (aAnd (aTest (aOp gtA (aVar 10) (aC (.int 0)))) (aTest (aOp gtA (aFn 2 sp_law_draw (aCons (aVar 0) (aCons (aC (.int 3)) aNil))) (aC (.int 0))))) (aAsg (aOp subA (aCall lenA (aCons (aVar 4) aNil)) (aC (.int 1))) (gSubA (aVar 7) (aFn 2 sp_law_draw (aCons (aVar 0) (aCons (aVar 10) aNil))))) aNext)
  r_law_mazes)))
def t_law_mazes : TSa :=
  (aSeq (aAsg (aLc (iSeq (aVar 1)) (gTp 2 (gConsA (gNm 9) (gConsA (gNm 10) gNilA))) (aTest (aOp eqA (aVar 10) (aC (.int 0)))) (aTup (aCons (aVar 9) (aCons (aTup aNil) aNil))) (ownIx ([("_law_sign", 9), ("_law_count", 10)] : List (Str × Nat)))) (gNm 4))
  (aSeq (aAsg (aOp mulA (aLst (aCons (aC (.int 1)) aNil)) (aCall lenA (aCons (aVar 4) aNil))) (gNm 5))
  (aSeq (aFor (iRg1 (aCons (aVar 2) aNil)) (gNm 6) b2_law_mazes)
  (aRet (aVar 4)))))
/-- mazes found, their sizes -/
structure Fnd (S : Sto) (f z : Addr) (most : Int) (n : Nat) (ms : List Mz) : Prop where
  f : S f = some (.lst (ms.map Mz.d))
  z : S z = some (.lst ((ms.map fun m => (m.size : Int)).map D.int))
  ne : ms ≠ []
  ok : ∀ m ∈ ms, m.Ok ∧ (m.size : Int) ≤ most
  len : ms.length ≤ n
theorem parts_of {ms : List Mz} : ∀ {ps : List Int}, (∀ i ∈ ps, ∃ m : Mz, ms[i.toNat]? = some m) → ∃ qs : List Mz, qs.length = ps.length ∧ ∀ (j : Nat) (i : Int), ps[j]? = some i → ∃ m : Mz, qs[j]? = some m ∧ ms[i.toNat]? = some m
  | [], _ => ⟨[], rfl, fun j i h => by simp at h⟩
  | i :: ps, h => by
    obtain ⟨m, hm⟩ := h i List.mem_cons_self
    obtain ⟨qs, h1, h2⟩ := parts_of (ps := ps) fun j hj => h j (List.mem_cons_of_mem _ hj)
    refine ⟨m :: qs, by simp [h1], fun j i' e => ?_⟩
    cases j with
    | zero => simp at e; subst e; exact ⟨m, rfl, hm⟩
    | succ j => simpa using h2 j i' (by simpa using e)
/-- the rest of a turn, once the parts are drawn -/
theorem mazes_rest {S : Sto} {a c sh f z pp : Addr} {k n : Nat} {many most : Int} {ms : List Mz} {s : Sh} {ps : List Int} {x6 x8 x11 x12 : Option D} {K rt2 : Lc → Sto → Prop} {Q : DK}
    (F : Fnd S f z most n ms) (hn : n ≤ 1000) (hs : ShOk s) (hp : S pp = some (.lst (ps.map D.int))) (hpl : ps.length ≤ 2) (hpb : ∀ i ∈ ps, 0 ≤ i ∧ i < ms.length) (hD : Deck S a c k) (nf : f ≠ a ∧ f ≠ c) (nz : z ≠ a ∧ z ≠ c) (nfz : f ≠ z)
    (q : ∀ (l : Lc) (S' : Sto) (ms' : List Mz), (∃ x6 x7 x8 x9 x10 x11 x12, l = [some (.ref a), some (.ref sh), some (.int many), some (.int most), some (.ref f), some (.ref z), x6, x7, x8, x9, x10, x11, x12]) → Fnd S' f z most (n + 1) ms' → Deck S' a c k →
      (∀ b o, S b = some o → b ≠ f → b ≠ z → S' b = some o) → K l S') :
    r_law_mazes ⟨K, Q, rt2, K⟩ [some (.ref a), some (.ref sh), some (.int many), some (.int most), some (.ref f), some (.ref z), x6, some (.ref pp), x8, some (.str s.1), some (.int s.2), x11, x12] S := by
  have ppz : pp ≠ f ∨ True := .inr trivial
  unfold r_law_mazes
  (repeat (with_reducible (first | refine i_seq ?_ | refine i_next ?_ | refine i_break ?_ | refine i_cont ?_ | refine i_drop ?_ | refine i_ret ?_ | refine i_retN ?_ | refine i_if ?_ | refine i_asg ?_ | refine i_par ?_ | refine i_for ?_ | refine i_nm ?_ | refine i_tp ?_ | refine i_gcons ?_ | refine i_gnil ?_ | refine i_gsub ?_ | refine i_c ?_ | refine i_anil ?_ | refine i_acons ?_ | refine i_tup ?_ | refine i_lst ?_ | refine i_op ?_ | refine i_un ?_ | refine i_call ?_ | refine i_fn ?_ | refine i_test ?_ | refine i_and ?_ | refine i_or ?_ | refine i_not ?_ | refine i_ifx ?_ | refine i_andV ?_ | refine i_orV ?_ | refine i_notV ?_ | refine i_meth ?_ | refine i_sl ?_ | refine i_nopart ?_ | refine i_part ?_ | refine i_revL ?_ | refine i_sortKey ?_ | refine i_sortSet ?_ | refine i_rg1 ?_ | refine i_seqS ?_ | refine i_revR ?_ | refine i_lc ?_ | refine i_yes ?_ | refine i_seqT ?_ | refine i_seqX ?_ | refine i_addI ?_ | refine i_subI ?_ | refine i_negI ?_ | refine i_iaddI ?_ | refine i_eqI ?_ | refine i_neI ?_ | refine i_eqX ?_ | refine i_neX ?_ | refine i_ltI ?_ | refine i_gtI ?_ | refine i_leI ?_ | refine i_geI ?_ | refine i_lenT ?_ | refine i_absI ?_ | refine i_intI ?_ | refine i_lstT ?_ | refine i_slT ?_ | refine i_iteT ?_ | refine i_iteF ?_ | refine i_var (by with_unfolding_all rfl) ?_ | refine i_aug (by with_unfolding_all rfl) ?_ | refine i_ixT (by with_unfolding_all rfl) ?_ | refine ⟨_, _, rfl, ?_⟩ | refine ⟨_, rfl, ?_⟩ | refine ⟨rfl, ?_⟩ | refine ⟨i_tyS, ?_⟩)))
  refine i_seqL hp ?_
  have hml : ms.length ≤ 1000 := Nat.le_trans F.len hn
  have at_ : ∀ i ∈ ps, ∃ m : Mz, ms[i.toNat]? = some m ∧ atI (ms.map Mz.d) i = some m.d ∧ atI ((ms.map fun m => (m.size : Int)).map D.int) i = some (.int m.size) := fun i hi => by
    obtain ⟨h0, h1⟩ := hpb i hi
    have hlt : i.toNat < ms.length := by omega
    refine ⟨ms[i.toNat], List.getElem?_eq_getElem hlt, ?_, ?_⟩
    · obtain ⟨y, e1, _, _, e4⟩ := atI_in (xs := ms.map Mz.d) h0 (by rw [List.length_map]; exact h1)
      rw [e1, ← e4, List.getElem?_map, List.getElem?_eq_getElem hlt]; rfl
    · obtain ⟨y, e1, _, _, e4⟩ := atI_in (xs := (ms.map fun m => (m.size : Int)).map D.int) h0 (by rw [List.length_map, List.length_map]; exact h1)
      rw [e1, ← e4, List.getElem?_map, List.getElem?_map, List.getElem?_eq_getElem hlt]; rfl
  -- the mazes of the parts
  obtain ⟨qs, hq1, hq2⟩ := parts_of (ms := ms) (ps := ps) fun i hi => by obtain ⟨m, h, _⟩ := at_ i hi; exact ⟨m, h⟩
  refine lc_inv (P := fun i acc S' => S' = S ∧ acc = ((qs.take i).map fun m => (m.size : Int)).map D.int) ⟨rfl, rfl⟩ (fun i acc S' _ h => by rw [h.1]; exact hp) ?_ ?_
  · rintro i d acc S1 K1 hd ⟨rfl, rfl⟩ hK
    rw [List.getElem?_map, Option.map_eq_some_iff] at hd
    obtain ⟨j, hj, rfl⟩ := hd
    obtain ⟨m, hm1, hm2⟩ := hq2 i j hj
    obtain ⟨m', e1, _, e3⟩ := at_ j (List.mem_of_getElem? hj)
    rw [hm2] at e1
    cases e1
    have hi := (List.getElem?_eq_some_iff.mp hj).1
    (repeat (with_reducible (first | refine i_seq ?_ | refine i_next ?_ | refine i_break ?_ | refine i_cont ?_ | refine i_drop ?_ | refine i_ret ?_ | refine i_retN ?_ | refine i_if ?_ | refine i_asg ?_ | refine i_par ?_ | refine i_for ?_ | refine i_nm ?_ | refine i_tp ?_ | refine i_gcons ?_ | refine i_gnil ?_ | refine i_gsub ?_ | refine i_c ?_ | refine i_anil ?_ | refine i_acons ?_ | refine i_tup ?_ | refine i_lst ?_ | refine i_op ?_ | refine i_un ?_ | refine i_call ?_ | refine i_fn ?_ | refine i_test ?_ | refine i_and ?_ | refine i_or ?_ | refine i_not ?_ | refine i_ifx ?_ | refine i_andV ?_ | refine i_orV ?_ | refine i_notV ?_ | refine i_meth ?_ | refine i_sl ?_ | refine i_nopart ?_ | refine i_part ?_ | refine i_revL ?_ | refine i_sortKey ?_ | refine i_sortSet ?_ | refine i_rg1 ?_ | refine i_seqS ?_ | refine i_revR ?_ | refine i_lc ?_ | refine i_yes ?_ | refine i_seqT ?_ | refine i_seqX ?_ | refine i_addI ?_ | refine i_subI ?_ | refine i_negI ?_ | refine i_iaddI ?_ | refine i_eqI ?_ | refine i_neI ?_ | refine i_eqX ?_ | refine i_neX ?_ | refine i_ltI ?_ | refine i_gtI ?_ | refine i_leI ?_ | refine i_geI ?_ | refine i_lenT ?_ | refine i_absI ?_ | refine i_intI ?_ | refine i_lstT ?_ | refine i_slT ?_ | refine i_iteT ?_ | refine i_iteF ?_ | refine i_var (by with_unfolding_all rfl) ?_ | refine i_aug (by with_unfolding_all rfl) ?_ | refine i_ixT (by with_unfolding_all rfl) ?_ | refine ⟨_, _, rfl, ?_⟩ | refine ⟨_, rfl, ?_⟩ | refine ⟨rfl, ?_⟩ | refine ⟨i_tyS, ?_⟩)))
    refine i_ixL F.z e3 ?_
    refine ⟨by rw [List.length_map, List.length_map, List.length_take, sizeLine_eq]; omega, hK _ _ ⟨rfl, by rw [take_snoc hm1, List.map_append, List.map_append]; rfl⟩⟩
  rintro acc S1 ⟨rfl, rfl⟩ r hr
  rw [List.length_map, ← hq1, List.take_length]
  (repeat (with_reducible (first | refine i_seq ?_ | refine i_next ?_ | refine i_break ?_ | refine i_cont ?_ | refine i_drop ?_ | refine i_ret ?_ | refine i_retN ?_ | refine i_if ?_ | refine i_asg ?_ | refine i_par ?_ | refine i_for ?_ | refine i_nm ?_ | refine i_tp ?_ | refine i_gcons ?_ | refine i_gnil ?_ | refine i_gsub ?_ | refine i_c ?_ | refine i_anil ?_ | refine i_acons ?_ | refine i_tup ?_ | refine i_lst ?_ | refine i_op ?_ | refine i_un ?_ | refine i_call ?_ | refine i_fn ?_ | refine i_test ?_ | refine i_and ?_ | refine i_or ?_ | refine i_not ?_ | refine i_ifx ?_ | refine i_andV ?_ | refine i_orV ?_ | refine i_notV ?_ | refine i_meth ?_ | refine i_sl ?_ | refine i_nopart ?_ | refine i_part ?_ | refine i_revL ?_ | refine i_sortKey ?_ | refine i_sortSet ?_ | refine i_rg1 ?_ | refine i_seqS ?_ | refine i_revR ?_ | refine i_lc ?_ | refine i_yes ?_ | refine i_seqT ?_ | refine i_seqX ?_ | refine i_addI ?_ | refine i_subI ?_ | refine i_negI ?_ | refine i_iaddI ?_ | refine i_eqI ?_ | refine i_neI ?_ | refine i_eqX ?_ | refine i_neX ?_ | refine i_ltI ?_ | refine i_gtI ?_ | refine i_leI ?_ | refine i_geI ?_ | refine i_lenT ?_ | refine i_absI ?_ | refine i_intI ?_ | refine i_lstT ?_ | refine i_slT ?_ | refine i_iteT ?_ | refine i_iteF ?_ | refine i_var (by with_unfolding_all rfl) ?_ | refine i_aug (by with_unfolding_all rfl) ?_ | refine i_ixT (by with_unfolding_all rfl) ?_ | refine ⟨_, _, rfl, ?_⟩ | refine ⟨_, rfl, ?_⟩ | refine ⟨rfl, ?_⟩ | refine ⟨i_tyS, ?_⟩)))
  refine i_sumL put_same ?_
  rw [sum_cast]
  have kr : Keeps S1 (put S1 r (.lst ((qs.map fun m => (m.size : Int)).map D.int))) := Keeps.new hr
  have hDr : Deck (put S1 r (.lst ((qs.map fun m => (m.size : Int)).map D.int))) a c k := hD.new hr
  generalize put S1 r (.lst ((qs.map fun m => (m.size : Int)).map D.int)) = S2 at kr hDr
  have esz : (1 : Int) + (((qs.map Mz.size).sum : Nat) : Int) = (((Mz.mk s.1 qs).size : Nat) : Int) := by rw [Mz.size_eq (Mz.mk s.1 qs)]; show _ = ((1 + (qs.map Mz.size).sum : Nat) : Int); omega
  refine i_addI ?_
  rw [esz]
  (repeat (with_reducible (first | refine i_seq ?_ | refine i_next ?_ | refine i_break ?_ | refine i_cont ?_ | refine i_drop ?_ | refine i_ret ?_ | refine i_retN ?_ | refine i_if ?_ | refine i_asg ?_ | refine i_par ?_ | refine i_for ?_ | refine i_nm ?_ | refine i_tp ?_ | refine i_gcons ?_ | refine i_gnil ?_ | refine i_gsub ?_ | refine i_c ?_ | refine i_anil ?_ | refine i_acons ?_ | refine i_tup ?_ | refine i_lst ?_ | refine i_op ?_ | refine i_un ?_ | refine i_call ?_ | refine i_fn ?_ | refine i_test ?_ | refine i_and ?_ | refine i_or ?_ | refine i_not ?_ | refine i_ifx ?_ | refine i_andV ?_ | refine i_orV ?_ | refine i_notV ?_ | refine i_meth ?_ | refine i_sl ?_ | refine i_nopart ?_ | refine i_part ?_ | refine i_revL ?_ | refine i_sortKey ?_ | refine i_sortSet ?_ | refine i_rg1 ?_ | refine i_seqS ?_ | refine i_revR ?_ | refine i_lc ?_ | refine i_yes ?_ | refine i_seqT ?_ | refine i_seqX ?_ | refine i_addI ?_ | refine i_subI ?_ | refine i_negI ?_ | refine i_iaddI ?_ | refine i_eqI ?_ | refine i_neI ?_ | refine i_eqX ?_ | refine i_neX ?_ | refine i_ltI ?_ | refine i_gtI ?_ | refine i_leI ?_ | refine i_geI ?_ | refine i_lenT ?_ | refine i_absI ?_ | refine i_intI ?_ | refine i_lstT ?_ | refine i_slT ?_ | refine i_iteT ?_ | refine i_iteF ?_ | refine i_var (by with_unfolding_all rfl) ?_ | refine i_aug (by with_unfolding_all rfl) ?_ | refine i_ixT (by with_unfolding_all rfl) ?_ | refine ⟨_, _, rfl, ?_⟩ | refine ⟨_, rfl, ?_⟩ | refine ⟨rfl, ?_⟩ | refine ⟨i_tyS, ?_⟩)))
  refine i_ite (fun hb => ?_) fun hb => ?_
  · have hle : (((Mz.mk s.1 qs).size : Nat) : Int) ≤ most := by simpa using hb
    (repeat (with_reducible (first | refine i_seq ?_ | refine i_next ?_ | refine i_break ?_ | refine i_cont ?_ | refine i_drop ?_ | refine i_ret ?_ | refine i_retN ?_ | refine i_if ?_ | refine i_asg ?_ | refine i_par ?_ | refine i_for ?_ | refine i_nm ?_ | refine i_tp ?_ | refine i_gcons ?_ | refine i_gnil ?_ | refine i_gsub ?_ | refine i_c ?_ | refine i_anil ?_ | refine i_acons ?_ | refine i_tup ?_ | refine i_lst ?_ | refine i_op ?_ | refine i_un ?_ | refine i_call ?_ | refine i_fn ?_ | refine i_test ?_ | refine i_and ?_ | refine i_or ?_ | refine i_not ?_ | refine i_ifx ?_ | refine i_andV ?_ | refine i_orV ?_ | refine i_notV ?_ | refine i_meth ?_ | refine i_sl ?_ | refine i_nopart ?_ | refine i_part ?_ | refine i_revL ?_ | refine i_sortKey ?_ | refine i_sortSet ?_ | refine i_rg1 ?_ | refine i_seqS ?_ | refine i_revR ?_ | refine i_lc ?_ | refine i_yes ?_ | refine i_seqT ?_ | refine i_seqX ?_ | refine i_addI ?_ | refine i_subI ?_ | refine i_negI ?_ | refine i_iaddI ?_ | refine i_eqI ?_ | refine i_neI ?_ | refine i_eqX ?_ | refine i_neX ?_ | refine i_ltI ?_ | refine i_gtI ?_ | refine i_leI ?_ | refine i_geI ?_ | refine i_lenT ?_ | refine i_absI ?_ | refine i_intI ?_ | refine i_lstT ?_ | refine i_slT ?_ | refine i_iteT ?_ | refine i_iteF ?_ | refine i_var (by with_unfolding_all rfl) ?_ | refine i_aug (by with_unfolding_all rfl) ?_ | refine i_ixT (by with_unfolding_all rfl) ?_ | refine ⟨_, _, rfl, ?_⟩ | refine ⟨_, rfl, ?_⟩ | refine ⟨rfl, ?_⟩ | refine ⟨i_tyS, ?_⟩)))
    refine ⟨i_tyL (kr _ _ F.f), ?_⟩
    (repeat (with_reducible (first | refine i_seq ?_ | refine i_next ?_ | refine i_break ?_ | refine i_cont ?_ | refine i_drop ?_ | refine i_ret ?_ | refine i_retN ?_ | refine i_if ?_ | refine i_asg ?_ | refine i_par ?_ | refine i_for ?_ | refine i_nm ?_ | refine i_tp ?_ | refine i_gcons ?_ | refine i_gnil ?_ | refine i_gsub ?_ | refine i_c ?_ | refine i_anil ?_ | refine i_acons ?_ | refine i_tup ?_ | refine i_lst ?_ | refine i_op ?_ | refine i_un ?_ | refine i_call ?_ | refine i_fn ?_ | refine i_test ?_ | refine i_and ?_ | refine i_or ?_ | refine i_not ?_ | refine i_ifx ?_ | refine i_andV ?_ | refine i_orV ?_ | refine i_notV ?_ | refine i_meth ?_ | refine i_sl ?_ | refine i_nopart ?_ | refine i_part ?_ | refine i_revL ?_ | refine i_sortKey ?_ | refine i_sortSet ?_ | refine i_rg1 ?_ | refine i_seqS ?_ | refine i_revR ?_ | refine i_lc ?_ | refine i_yes ?_ | refine i_seqT ?_ | refine i_seqX ?_ | refine i_addI ?_ | refine i_subI ?_ | refine i_negI ?_ | refine i_iaddI ?_ | refine i_eqI ?_ | refine i_neI ?_ | refine i_eqX ?_ | refine i_neX ?_ | refine i_ltI ?_ | refine i_gtI ?_ | refine i_leI ?_ | refine i_geI ?_ | refine i_lenT ?_ | refine i_absI ?_ | refine i_intI ?_ | refine i_lstT ?_ | refine i_slT ?_ | refine i_iteT ?_ | refine i_iteF ?_ | refine i_var (by with_unfolding_all rfl) ?_ | refine i_aug (by with_unfolding_all rfl) ?_ | refine i_ixT (by with_unfolding_all rfl) ?_ | refine ⟨_, _, rfl, ?_⟩ | refine ⟨_, rfl, ?_⟩ | refine ⟨rfl, ?_⟩ | refine ⟨i_tyS, ?_⟩)))
    refine i_seqL (kr _ _ hp) ?_
    refine lc_inv (P := fun i acc S' => S' = S2 ∧ acc = (qs.take i).map Mz.d) ⟨rfl, rfl⟩ (fun i acc S' _ h => by rw [h.1]; exact kr _ _ hp) ?_ ?_
    · rintro i d acc S3 K1 hd ⟨rfl, rfl⟩ hK
      rw [List.getElem?_map, Option.map_eq_some_iff] at hd
      obtain ⟨j, hj, rfl⟩ := hd
      obtain ⟨m, hm1, hm2⟩ := hq2 i j hj
      obtain ⟨m', e1, e2, _⟩ := at_ j (List.mem_of_getElem? hj)
      rw [hm2] at e1
      cases e1
      have hi := (List.getElem?_eq_some_iff.mp hj).1
      (repeat (with_reducible (first | refine i_seq ?_ | refine i_next ?_ | refine i_break ?_ | refine i_cont ?_ | refine i_drop ?_ | refine i_ret ?_ | refine i_retN ?_ | refine i_if ?_ | refine i_asg ?_ | refine i_par ?_ | refine i_for ?_ | refine i_nm ?_ | refine i_tp ?_ | refine i_gcons ?_ | refine i_gnil ?_ | refine i_gsub ?_ | refine i_c ?_ | refine i_anil ?_ | refine i_acons ?_ | refine i_tup ?_ | refine i_lst ?_ | refine i_op ?_ | refine i_un ?_ | refine i_call ?_ | refine i_fn ?_ | refine i_test ?_ | refine i_and ?_ | refine i_or ?_ | refine i_not ?_ | refine i_ifx ?_ | refine i_andV ?_ | refine i_orV ?_ | refine i_notV ?_ | refine i_meth ?_ | refine i_sl ?_ | refine i_nopart ?_ | refine i_part ?_ | refine i_revL ?_ | refine i_sortKey ?_ | refine i_sortSet ?_ | refine i_rg1 ?_ | refine i_seqS ?_ | refine i_revR ?_ | refine i_lc ?_ | refine i_yes ?_ | refine i_seqT ?_ | refine i_seqX ?_ | refine i_addI ?_ | refine i_subI ?_ | refine i_negI ?_ | refine i_iaddI ?_ | refine i_eqI ?_ | refine i_neI ?_ | refine i_eqX ?_ | refine i_neX ?_ | refine i_ltI ?_ | refine i_gtI ?_ | refine i_leI ?_ | refine i_geI ?_ | refine i_lenT ?_ | refine i_absI ?_ | refine i_intI ?_ | refine i_lstT ?_ | refine i_slT ?_ | refine i_iteT ?_ | refine i_iteF ?_ | refine i_var (by with_unfolding_all rfl) ?_ | refine i_aug (by with_unfolding_all rfl) ?_ | refine i_ixT (by with_unfolding_all rfl) ?_ | refine ⟨_, _, rfl, ?_⟩ | refine ⟨_, rfl, ?_⟩ | refine ⟨rfl, ?_⟩ | refine ⟨i_tyS, ?_⟩)))
      refine i_ixL (kr _ _ F.f) e2 ?_
      refine ⟨by rw [List.length_map, List.length_take, sizeLine_eq]; omega, hK _ _ ⟨rfl, by rw [take_snoc hm1, List.map_append]; rfl⟩⟩
    rintro acc S3 ⟨rfl, rfl⟩ t ht
    rw [List.length_map, ← hq1, List.take_length]
    have kt : Keeps S3 (put S3 t (.lst (qs.map Mz.d))) := Keeps.new ht
    have hDt : Deck (put S3 t (.lst (qs.map Mz.d))) a c k := hDr.new ht
    (repeat (with_reducible (first | refine i_seq ?_ | refine i_next ?_ | refine i_break ?_ | refine i_cont ?_ | refine i_drop ?_ | refine i_ret ?_ | refine i_retN ?_ | refine i_if ?_ | refine i_asg ?_ | refine i_par ?_ | refine i_for ?_ | refine i_nm ?_ | refine i_tp ?_ | refine i_gcons ?_ | refine i_gnil ?_ | refine i_gsub ?_ | refine i_c ?_ | refine i_anil ?_ | refine i_acons ?_ | refine i_tup ?_ | refine i_lst ?_ | refine i_op ?_ | refine i_un ?_ | refine i_call ?_ | refine i_fn ?_ | refine i_test ?_ | refine i_and ?_ | refine i_or ?_ | refine i_not ?_ | refine i_ifx ?_ | refine i_andV ?_ | refine i_orV ?_ | refine i_notV ?_ | refine i_meth ?_ | refine i_sl ?_ | refine i_nopart ?_ | refine i_part ?_ | refine i_revL ?_ | refine i_sortKey ?_ | refine i_sortSet ?_ | refine i_rg1 ?_ | refine i_seqS ?_ | refine i_revR ?_ | refine i_lc ?_ | refine i_yes ?_ | refine i_seqT ?_ | refine i_seqX ?_ | refine i_addI ?_ | refine i_subI ?_ | refine i_negI ?_ | refine i_iaddI ?_ | refine i_eqI ?_ | refine i_neI ?_ | refine i_eqX ?_ | refine i_neX ?_ | refine i_ltI ?_ | refine i_gtI ?_ | refine i_leI ?_ | refine i_geI ?_ | refine i_lenT ?_ | refine i_absI ?_ | refine i_intI ?_ | refine i_lstT ?_ | refine i_slT ?_ | refine i_iteT ?_ | refine i_iteF ?_ | refine i_var (by with_unfolding_all rfl) ?_ | refine i_aug (by with_unfolding_all rfl) ?_ | refine i_ixT (by with_unfolding_all rfl) ?_ | refine ⟨_, _, rfl, ?_⟩ | refine ⟨_, rfl, ?_⟩ | refine ⟨rfl, ?_⟩ | refine ⟨i_tyS, ?_⟩)))
    refine i_tupL put_same ?_
    generalize put S3 t (.lst (qs.map Mz.d)) = S4 at kt hDt
    have k14 := kr.trans kt
    (repeat (with_reducible (first | refine i_seq ?_ | refine i_next ?_ | refine i_break ?_ | refine i_cont ?_ | refine i_drop ?_ | refine i_ret ?_ | refine i_retN ?_ | refine i_if ?_ | refine i_asg ?_ | refine i_par ?_ | refine i_for ?_ | refine i_nm ?_ | refine i_tp ?_ | refine i_gcons ?_ | refine i_gnil ?_ | refine i_gsub ?_ | refine i_c ?_ | refine i_anil ?_ | refine i_acons ?_ | refine i_tup ?_ | refine i_lst ?_ | refine i_op ?_ | refine i_un ?_ | refine i_call ?_ | refine i_fn ?_ | refine i_test ?_ | refine i_and ?_ | refine i_or ?_ | refine i_not ?_ | refine i_ifx ?_ | refine i_andV ?_ | refine i_orV ?_ | refine i_notV ?_ | refine i_meth ?_ | refine i_sl ?_ | refine i_nopart ?_ | refine i_part ?_ | refine i_revL ?_ | refine i_sortKey ?_ | refine i_sortSet ?_ | refine i_rg1 ?_ | refine i_seqS ?_ | refine i_revR ?_ | refine i_lc ?_ | refine i_yes ?_ | refine i_seqT ?_ | refine i_seqX ?_ | refine i_addI ?_ | refine i_subI ?_ | refine i_negI ?_ | refine i_iaddI ?_ | refine i_eqI ?_ | refine i_neI ?_ | refine i_eqX ?_ | refine i_neX ?_ | refine i_ltI ?_ | refine i_gtI ?_ | refine i_leI ?_ | refine i_geI ?_ | refine i_lenT ?_ | refine i_absI ?_ | refine i_intI ?_ | refine i_lstT ?_ | refine i_slT ?_ | refine i_iteT ?_ | refine i_iteF ?_ | refine i_var (by with_unfolding_all rfl) ?_ | refine i_aug (by with_unfolding_all rfl) ?_ | refine i_ixT (by with_unfolding_all rfl) ?_ | refine ⟨_, _, rfl, ?_⟩ | refine ⟨_, rfl, ?_⟩ | refine ⟨rfl, ?_⟩ | refine ⟨i_tyS, ?_⟩)))
    refine ⟨by simp [sizeLine_eq], ?_⟩
    (repeat (with_reducible (first | refine i_seq ?_ | refine i_next ?_ | refine i_break ?_ | refine i_cont ?_ | refine i_drop ?_ | refine i_ret ?_ | refine i_retN ?_ | refine i_if ?_ | refine i_asg ?_ | refine i_par ?_ | refine i_for ?_ | refine i_nm ?_ | refine i_tp ?_ | refine i_gcons ?_ | refine i_gnil ?_ | refine i_gsub ?_ | refine i_c ?_ | refine i_anil ?_ | refine i_acons ?_ | refine i_tup ?_ | refine i_lst ?_ | refine i_op ?_ | refine i_un ?_ | refine i_call ?_ | refine i_fn ?_ | refine i_test ?_ | refine i_and ?_ | refine i_or ?_ | refine i_not ?_ | refine i_ifx ?_ | refine i_andV ?_ | refine i_orV ?_ | refine i_notV ?_ | refine i_meth ?_ | refine i_sl ?_ | refine i_nopart ?_ | refine i_part ?_ | refine i_revL ?_ | refine i_sortKey ?_ | refine i_sortSet ?_ | refine i_rg1 ?_ | refine i_seqS ?_ | refine i_revR ?_ | refine i_lc ?_ | refine i_yes ?_ | refine i_seqT ?_ | refine i_seqX ?_ | refine i_addI ?_ | refine i_subI ?_ | refine i_negI ?_ | refine i_iaddI ?_ | refine i_eqI ?_ | refine i_neI ?_ | refine i_eqX ?_ | refine i_neX ?_ | refine i_ltI ?_ | refine i_gtI ?_ | refine i_leI ?_ | refine i_geI ?_ | refine i_lenT ?_ | refine i_absI ?_ | refine i_intI ?_ | refine i_lstT ?_ | refine i_slT ?_ | refine i_iteT ?_ | refine i_iteF ?_ | refine i_var (by with_unfolding_all rfl) ?_ | refine i_aug (by with_unfolding_all rfl) ?_ | refine i_ixT (by with_unfolding_all rfl) ?_ | refine ⟨_, _, rfl, ?_⟩ | refine ⟨_, rfl, ?_⟩ | refine ⟨rfl, ?_⟩ | refine ⟨i_tyS, ?_⟩)))
    refine i_append (k14 _ _ F.f) (by rw [List.length_map, sizeLine_eq]; omega) ?_
    (repeat (with_reducible (first | refine i_seq ?_ | refine i_next ?_ | refine i_break ?_ | refine i_cont ?_ | refine i_drop ?_ | refine i_ret ?_ | refine i_retN ?_ | refine i_if ?_ | refine i_asg ?_ | refine i_par ?_ | refine i_for ?_ | refine i_nm ?_ | refine i_tp ?_ | refine i_gcons ?_ | refine i_gnil ?_ | refine i_gsub ?_ | refine i_c ?_ | refine i_anil ?_ | refine i_acons ?_ | refine i_tup ?_ | refine i_lst ?_ | refine i_op ?_ | refine i_un ?_ | refine i_call ?_ | refine i_fn ?_ | refine i_test ?_ | refine i_and ?_ | refine i_or ?_ | refine i_not ?_ | refine i_ifx ?_ | refine i_andV ?_ | refine i_orV ?_ | refine i_notV ?_ | refine i_meth ?_ | refine i_sl ?_ | refine i_nopart ?_ | refine i_part ?_ | refine i_revL ?_ | refine i_sortKey ?_ | refine i_sortSet ?_ | refine i_rg1 ?_ | refine i_seqS ?_ | refine i_revR ?_ | refine i_lc ?_ | refine i_yes ?_ | refine i_seqT ?_ | refine i_seqX ?_ | refine i_addI ?_ | refine i_subI ?_ | refine i_negI ?_ | refine i_iaddI ?_ | refine i_eqI ?_ | refine i_neI ?_ | refine i_eqX ?_ | refine i_neX ?_ | refine i_ltI ?_ | refine i_gtI ?_ | refine i_leI ?_ | refine i_geI ?_ | refine i_lenT ?_ | refine i_absI ?_ | refine i_intI ?_ | refine i_lstT ?_ | refine i_slT ?_ | refine i_iteT ?_ | refine i_iteF ?_ | refine i_var (by with_unfolding_all rfl) ?_ | refine i_aug (by with_unfolding_all rfl) ?_ | refine i_ixT (by with_unfolding_all rfl) ?_ | refine ⟨_, _, rfl, ?_⟩ | refine ⟨_, rfl, ?_⟩ | refine ⟨rfl, ?_⟩ | refine ⟨i_tyS, ?_⟩)))
    refine ⟨i_tyL (by rw [put_ne nfz.symm]; exact k14 _ _ F.z), ?_⟩
    (repeat (with_reducible (first | refine i_seq ?_ | refine i_next ?_ | refine i_break ?_ | refine i_cont ?_ | refine i_drop ?_ | refine i_ret ?_ | refine i_retN ?_ | refine i_if ?_ | refine i_asg ?_ | refine i_par ?_ | refine i_for ?_ | refine i_nm ?_ | refine i_tp ?_ | refine i_gcons ?_ | refine i_gnil ?_ | refine i_gsub ?_ | refine i_c ?_ | refine i_anil ?_ | refine i_acons ?_ | refine i_tup ?_ | refine i_lst ?_ | refine i_op ?_ | refine i_un ?_ | refine i_call ?_ | refine i_fn ?_ | refine i_test ?_ | refine i_and ?_ | refine i_or ?_ | refine i_not ?_ | refine i_ifx ?_ | refine i_andV ?_ | refine i_orV ?_ | refine i_notV ?_ | refine i_meth ?_ | refine i_sl ?_ | refine i_nopart ?_ | refine i_part ?_ | refine i_revL ?_ | refine i_sortKey ?_ | refine i_sortSet ?_ | refine i_rg1 ?_ | refine i_seqS ?_ | refine i_revR ?_ | refine i_lc ?_ | refine i_yes ?_ | refine i_seqT ?_ | refine i_seqX ?_ | refine i_addI ?_ | refine i_subI ?_ | refine i_negI ?_ | refine i_iaddI ?_ | refine i_eqI ?_ | refine i_neI ?_ | refine i_eqX ?_ | refine i_neX ?_ | refine i_ltI ?_ | refine i_gtI ?_ | refine i_leI ?_ | refine i_geI ?_ | refine i_lenT ?_ | refine i_absI ?_ | refine i_intI ?_ | refine i_lstT ?_ | refine i_slT ?_ | refine i_iteT ?_ | refine i_iteF ?_ | refine i_var (by with_unfolding_all rfl) ?_ | refine i_aug (by with_unfolding_all rfl) ?_ | refine i_ixT (by with_unfolding_all rfl) ?_ | refine ⟨_, _, rfl, ?_⟩ | refine ⟨_, rfl, ?_⟩ | refine ⟨rfl, ?_⟩ | refine ⟨i_tyS, ?_⟩)))
    refine i_append (by rw [put_ne nfz.symm]; exact k14 _ _ F.z) (by rw [List.length_map, List.length_map, sizeLine_eq]; omega) ?_
    have eD : D.tup [.str s.1, .tup (qs.map Mz.d)] = (Mz.mk s.1 qs).d := by rw [Mz.d_eq (Mz.mk s.1 qs)]; rfl
    refine q _ _ (ms ++ [Mz.mk s.1 qs]) ⟨_, _, _, _, _, _, _, rfl⟩ ⟨?_, ?_, by simp, fun m hm => ?_, by rw [List.length_append, List.length_singleton]; exact Nat.succ_le_succ F.len⟩ ((hDt.chg nf.1 nf.2).chg nz.1 nz.2) fun b o e h1 h2 => ?_
    · rw [put_ne nfz, put_same, List.map_append, eD]; rfl
    · rw [put_same, List.map_append, List.map_append]; rfl
    · rcases List.mem_append.mp hm with h | h
      · exact F.ok m h
      · rw [List.mem_singleton.mp h]
        refine ⟨(Mz.ok_eq _).mpr ⟨hs.1, by show qs.length ≤ 2; omega, fun b hb => ?_⟩, hle⟩
        obtain ⟨j, hj⟩ := List.getElem?_of_mem (show b ∈ qs from hb)
        have hjl := (List.getElem?_eq_some_iff.mp hj).1
        obtain ⟨i, hi⟩ : ∃ i, ps[j]? = some i := ⟨_, List.getElem?_eq_getElem (by omega)⟩
        obtain ⟨m2, e1, e2⟩ := hq2 j i hi
        rw [hj] at e1
        cases e1
        exact (F.ok _ (List.mem_of_getElem? e2)).1
    · rw [put_ne h2, put_ne h1]; exact k14 b o e
  · (repeat (with_reducible (first | refine i_seq ?_ | refine i_next ?_ | refine i_break ?_ | refine i_cont ?_ | refine i_drop ?_ | refine i_ret ?_ | refine i_retN ?_ | refine i_if ?_ | refine i_asg ?_ | refine i_par ?_ | refine i_for ?_ | refine i_nm ?_ | refine i_tp ?_ | refine i_gcons ?_ | refine i_gnil ?_ | refine i_gsub ?_ | refine i_c ?_ | refine i_anil ?_ | refine i_acons ?_ | refine i_tup ?_ | refine i_lst ?_ | refine i_op ?_ | refine i_un ?_ | refine i_call ?_ | refine i_fn ?_ | refine i_test ?_ | refine i_and ?_ | refine i_or ?_ | refine i_not ?_ | refine i_ifx ?_ | refine i_andV ?_ | refine i_orV ?_ | refine i_notV ?_ | refine i_meth ?_ | refine i_sl ?_ | refine i_nopart ?_ | refine i_part ?_ | refine i_revL ?_ | refine i_sortKey ?_ | refine i_sortSet ?_ | refine i_rg1 ?_ | refine i_seqS ?_ | refine i_revR ?_ | refine i_lc ?_ | refine i_yes ?_ | refine i_seqT ?_ | refine i_seqX ?_ | refine i_addI ?_ | refine i_subI ?_ | refine i_negI ?_ | refine i_iaddI ?_ | refine i_eqI ?_ | refine i_neI ?_ | refine i_eqX ?_ | refine i_neX ?_ | refine i_ltI ?_ | refine i_gtI ?_ | refine i_leI ?_ | refine i_geI ?_ | refine i_lenT ?_ | refine i_absI ?_ | refine i_intI ?_ | refine i_lstT ?_ | refine i_slT ?_ | refine i_iteT ?_ | refine i_iteF ?_ | refine i_var (by with_unfolding_all rfl) ?_ | refine i_aug (by with_unfolding_all rfl) ?_ | refine i_ixT (by with_unfolding_all rfl) ?_ | refine ⟨_, _, rfl, ?_⟩ | refine ⟨_, rfl, ?_⟩ | refine ⟨rfl, ?_⟩ | refine ⟨i_tyS, ?_⟩)))
    exact q _ _ ms ⟨_, _, _, _, _, _, _, rfl⟩ ⟨kr _ _ F.f, kr _ _ F.z, F.ne, F.ok, Nat.le_succ_of_le F.len⟩ hDr fun b o e _ _ => kr b o e
end AL

namespace AL
open PySem PySem.Spec PyProof.Rows L2

theorem Fnd.ext {S S' : Sto} {a c f z : Addr} {most : Int} {n : Nat} {ms : List Mz} (F : Fnd S f z most n ms) (x : Ext a c S S') (nf : f ≠ a ∧ f ≠ c) (nz : z ≠ a ∧ z ≠ c) : Fnd S' f z most n ms :=
  ⟨x _ _ F.f nf.1 nf.2, x _ _ F.z nz.1 nz.2, F.ne, F.ok, F.len⟩
theorem ones_of {ms : List Mz} (h : ∀ m ∈ ms, m.Ok ∧ m.size = 1) : (List.replicate ms.length [D.int 1]).flatten = (ms.map fun m => (m.size : Int)).map D.int := by
  induction ms with
  | nil => rfl
  | cons m ms ih =>
    rw [List.length_cons, List.replicate_succ, List.flatten_cons, ih fun x hx => h x (List.mem_cons_of_mem _ hx), List.map_cons, List.map_cons, (h m List.mem_cons_self).2]
    rfl
theorem pl_law_mazes : ∀ ds S Q, ds.length = 4 → sp_law_mazes ds S Q → semA n_law_mazes t_law_mazes ds S Q := by
  rintro ds S Q _ ⟨a, c, sh, k, ss, many, most, rfl, hD, hk, hsh, nsa, nsc, hss, ⟨s0, hs0, hs00⟩, hssl, hm0, hm1, hmost, q⟩
  unfold semA t_law_mazes
  (repeat (with_reducible (first | refine i_seq ?_ | refine i_next ?_ | refine i_break ?_ | refine i_cont ?_ | refine i_drop ?_ | refine i_ret ?_ | refine i_retN ?_ | refine i_if ?_ | refine i_asg ?_ | refine i_par ?_ | refine i_for ?_ | refine i_nm ?_ | refine i_tp ?_ | refine i_gcons ?_ | refine i_gnil ?_ | refine i_gsub ?_ | refine i_c ?_ | refine i_anil ?_ | refine i_acons ?_ | refine i_tup ?_ | refine i_lst ?_ | refine i_op ?_ | refine i_un ?_ | refine i_call ?_ | refine i_fn ?_ | refine i_test ?_ | refine i_and ?_ | refine i_or ?_ | refine i_not ?_ | refine i_ifx ?_ | refine i_andV ?_ | refine i_orV ?_ | refine i_notV ?_ | refine i_meth ?_ | refine i_sl ?_ | refine i_nopart ?_ | refine i_part ?_ | refine i_revL ?_ | refine i_sortKey ?_ | refine i_sortSet ?_ | refine i_rg1 ?_ | refine i_seqS ?_ | refine i_revR ?_ | refine i_lc ?_ | refine i_yes ?_ | refine i_seqT ?_ | refine i_seqX ?_ | refine i_addI ?_ | refine i_subI ?_ | refine i_negI ?_ | refine i_iaddI ?_ | refine i_eqI ?_ | refine i_neI ?_ | refine i_eqX ?_ | refine i_neX ?_ | refine i_ltI ?_ | refine i_gtI ?_ | refine i_leI ?_ | refine i_geI ?_ | refine i_lenT ?_ | refine i_absI ?_ | refine i_intI ?_ | refine i_lstT ?_ | refine i_slT ?_ | refine i_iteT ?_ | refine i_iteF ?_ | refine i_var (by with_unfolding_all rfl) ?_ | refine i_aug (by with_unfolding_all rfl) ?_ | refine i_ixT (by with_unfolding_all rfl) ?_ | refine ⟨_, _, rfl, ?_⟩ | refine ⟨_, rfl, ?_⟩ | refine ⟨rfl, ?_⟩ | refine ⟨i_tyS, ?_⟩)))
  refine i_seqL hsh ?_
  refine lc_inv (P := fun i acc S' => S' = S ∧ ∃ ms : List Mz, acc = ms.map Mz.d ∧ ms.length ≤ i ∧ (∀ m ∈ ms, m.Ok ∧ m.size = 1) ∧ (∀ s ∈ ss.take i, s.2 = 0 → ms ≠ [])) ⟨rfl, [], rfl, Nat.le_refl _, fun _ h => (nomatch h), fun s h => by simp at h⟩ (fun i acc S' _ h => by rw [h.1]; exact hsh) ?_ ?_
  · rintro i d acc S1 K1 hd ⟨rfl, ms, rfl, hl, hok, hne⟩ hK
    rw [List.getElem?_map, Option.map_eq_some_iff] at hd
    obtain ⟨s, hs, rfl⟩ := hd
    have hi := (List.getElem?_eq_some_iff.mp hs).1
    show gTp 2 _ (D.tup [.str s.1, .int s.2]) _ _ _
    (repeat (with_reducible (first | refine i_seq ?_ | refine i_next ?_ | refine i_break ?_ | refine i_cont ?_ | refine i_drop ?_ | refine i_ret ?_ | refine i_retN ?_ | refine i_if ?_ | refine i_asg ?_ | refine i_par ?_ | refine i_for ?_ | refine i_nm ?_ | refine i_tp ?_ | refine i_gcons ?_ | refine i_gnil ?_ | refine i_gsub ?_ | refine i_c ?_ | refine i_anil ?_ | refine i_acons ?_ | refine i_tup ?_ | refine i_lst ?_ | refine i_op ?_ | refine i_un ?_ | refine i_call ?_ | refine i_fn ?_ | refine i_test ?_ | refine i_and ?_ | refine i_or ?_ | refine i_not ?_ | refine i_ifx ?_ | refine i_andV ?_ | refine i_orV ?_ | refine i_notV ?_ | refine i_meth ?_ | refine i_sl ?_ | refine i_nopart ?_ | refine i_part ?_ | refine i_revL ?_ | refine i_sortKey ?_ | refine i_sortSet ?_ | refine i_rg1 ?_ | refine i_seqS ?_ | refine i_revR ?_ | refine i_lc ?_ | refine i_yes ?_ | refine i_seqT ?_ | refine i_seqX ?_ | refine i_addI ?_ | refine i_subI ?_ | refine i_negI ?_ | refine i_iaddI ?_ | refine i_eqI ?_ | refine i_neI ?_ | refine i_eqX ?_ | refine i_neX ?_ | refine i_ltI ?_ | refine i_gtI ?_ | refine i_leI ?_ | refine i_geI ?_ | refine i_lenT ?_ | refine i_absI ?_ | refine i_intI ?_ | refine i_lstT ?_ | refine i_slT ?_ | refine i_iteT ?_ | refine i_iteF ?_ | refine i_var (by with_unfolding_all rfl) ?_ | refine i_aug (by with_unfolding_all rfl) ?_ | refine i_ixT (by with_unfolding_all rfl) ?_ | refine ⟨_, _, rfl, ?_⟩ | refine ⟨_, rfl, ?_⟩ | refine ⟨rfl, ?_⟩ | refine ⟨i_tyS, ?_⟩)))
    refine i_ite (fun hb => ?_) fun hb => ?_
    · (repeat (with_reducible (first | refine i_seq ?_ | refine i_next ?_ | refine i_break ?_ | refine i_cont ?_ | refine i_drop ?_ | refine i_ret ?_ | refine i_retN ?_ | refine i_if ?_ | refine i_asg ?_ | refine i_par ?_ | refine i_for ?_ | refine i_nm ?_ | refine i_tp ?_ | refine i_gcons ?_ | refine i_gnil ?_ | refine i_gsub ?_ | refine i_c ?_ | refine i_anil ?_ | refine i_acons ?_ | refine i_tup ?_ | refine i_lst ?_ | refine i_op ?_ | refine i_un ?_ | refine i_call ?_ | refine i_fn ?_ | refine i_test ?_ | refine i_and ?_ | refine i_or ?_ | refine i_not ?_ | refine i_ifx ?_ | refine i_andV ?_ | refine i_orV ?_ | refine i_notV ?_ | refine i_meth ?_ | refine i_sl ?_ | refine i_nopart ?_ | refine i_part ?_ | refine i_revL ?_ | refine i_sortKey ?_ | refine i_sortSet ?_ | refine i_rg1 ?_ | refine i_seqS ?_ | refine i_revR ?_ | refine i_lc ?_ | refine i_yes ?_ | refine i_seqT ?_ | refine i_seqX ?_ | refine i_addI ?_ | refine i_subI ?_ | refine i_negI ?_ | refine i_iaddI ?_ | refine i_eqI ?_ | refine i_neI ?_ | refine i_eqX ?_ | refine i_neX ?_ | refine i_ltI ?_ | refine i_gtI ?_ | refine i_leI ?_ | refine i_geI ?_ | refine i_lenT ?_ | refine i_absI ?_ | refine i_intI ?_ | refine i_lstT ?_ | refine i_slT ?_ | refine i_iteT ?_ | refine i_iteF ?_ | refine i_var (by with_unfolding_all rfl) ?_ | refine i_aug (by with_unfolding_all rfl) ?_ | refine i_ixT (by with_unfolding_all rfl) ?_ | refine ⟨_, _, rfl, ?_⟩ | refine ⟨_, rfl, ?_⟩ | refine ⟨rfl, ?_⟩ | refine ⟨i_tyS, ?_⟩)))
      refine ⟨by simp [sizeLine_eq], ?_⟩
      (repeat (with_reducible (first | refine i_seq ?_ | refine i_next ?_ | refine i_break ?_ | refine i_cont ?_ | refine i_drop ?_ | refine i_ret ?_ | refine i_retN ?_ | refine i_if ?_ | refine i_asg ?_ | refine i_par ?_ | refine i_for ?_ | refine i_nm ?_ | refine i_tp ?_ | refine i_gcons ?_ | refine i_gnil ?_ | refine i_gsub ?_ | refine i_c ?_ | refine i_anil ?_ | refine i_acons ?_ | refine i_tup ?_ | refine i_lst ?_ | refine i_op ?_ | refine i_un ?_ | refine i_call ?_ | refine i_fn ?_ | refine i_test ?_ | refine i_and ?_ | refine i_or ?_ | refine i_not ?_ | refine i_ifx ?_ | refine i_andV ?_ | refine i_orV ?_ | refine i_notV ?_ | refine i_meth ?_ | refine i_sl ?_ | refine i_nopart ?_ | refine i_part ?_ | refine i_revL ?_ | refine i_sortKey ?_ | refine i_sortSet ?_ | refine i_rg1 ?_ | refine i_seqS ?_ | refine i_revR ?_ | refine i_lc ?_ | refine i_yes ?_ | refine i_seqT ?_ | refine i_seqX ?_ | refine i_addI ?_ | refine i_subI ?_ | refine i_negI ?_ | refine i_iaddI ?_ | refine i_eqI ?_ | refine i_neI ?_ | refine i_eqX ?_ | refine i_neX ?_ | refine i_ltI ?_ | refine i_gtI ?_ | refine i_leI ?_ | refine i_geI ?_ | refine i_lenT ?_ | refine i_absI ?_ | refine i_intI ?_ | refine i_lstT ?_ | refine i_slT ?_ | refine i_iteT ?_ | refine i_iteF ?_ | refine i_var (by with_unfolding_all rfl) ?_ | refine i_aug (by with_unfolding_all rfl) ?_ | refine i_ixT (by with_unfolding_all rfl) ?_ | refine ⟨_, _, rfl, ?_⟩ | refine ⟨_, rfl, ?_⟩ | refine ⟨rfl, ?_⟩ | refine ⟨i_tyS, ?_⟩)))
      refine ⟨by simp [sizeLine_eq], by rw [List.length_map, sizeLine_eq]; omega, hK _ _ ⟨rfl, ms ++ [Mz.mk s.1 []], by rw [List.map_append]; rfl, by simp; omega, fun m hm => ?_, fun _ _ _ => by simp⟩⟩
      rcases List.mem_append.mp hm with h | h
      · exact hok m h
      · rw [List.mem_singleton.mp h]
        exact ⟨(Mz.ok_eq _).mpr ⟨(hss s (List.mem_of_getElem? hs)).1, Nat.zero_le _, fun _ h => (nomatch h)⟩, rfl⟩
    · refine hK _ _ ⟨rfl, ms, rfl, by omega, hok, fun s' hs' h0 => ?_⟩
      rw [take_snoc hs] at hs'
      rcases List.mem_append.mp hs' with h | h
      · exact hne s' h h0
      · rw [List.mem_singleton.mp h] at h0; simp [h0] at hb
  rintro acc S1 ⟨rfl, ms, rfl, hl, hok, hne⟩ f hf
  rw [List.length_map] at hl hne
  rw [List.take_length] at hne
  have hne := hne s0 hs0 hs00
  have nf := hD.ne hf
  have kf : Keeps S1 (put S1 f (.lst (ms.map Mz.d))) := Keeps.new hf
  have hDf : Deck (put S1 f (.lst (ms.map Mz.d))) a c k := hD.new hf
  have hff : put S1 f (.lst (ms.map Mz.d)) f = some (.lst (ms.map Mz.d)) := put_same
  generalize put S1 f (.lst (ms.map Mz.d)) = S2 at kf hDf hff
  (repeat (with_reducible (first | refine i_seq ?_ | refine i_next ?_ | refine i_break ?_ | refine i_cont ?_ | refine i_drop ?_ | refine i_ret ?_ | refine i_retN ?_ | refine i_if ?_ | refine i_asg ?_ | refine i_par ?_ | refine i_for ?_ | refine i_nm ?_ | refine i_tp ?_ | refine i_gcons ?_ | refine i_gnil ?_ | refine i_gsub ?_ | refine i_c ?_ | refine i_anil ?_ | refine i_acons ?_ | refine i_tup ?_ | refine i_lst ?_ | refine i_op ?_ | refine i_un ?_ | refine i_call ?_ | refine i_fn ?_ | refine i_test ?_ | refine i_and ?_ | refine i_or ?_ | refine i_not ?_ | refine i_ifx ?_ | refine i_andV ?_ | refine i_orV ?_ | refine i_notV ?_ | refine i_meth ?_ | refine i_sl ?_ | refine i_nopart ?_ | refine i_part ?_ | refine i_revL ?_ | refine i_sortKey ?_ | refine i_sortSet ?_ | refine i_rg1 ?_ | refine i_seqS ?_ | refine i_revR ?_ | refine i_lc ?_ | refine i_yes ?_ | refine i_seqT ?_ | refine i_seqX ?_ | refine i_addI ?_ | refine i_subI ?_ | refine i_negI ?_ | refine i_iaddI ?_ | refine i_eqI ?_ | refine i_neI ?_ | refine i_eqX ?_ | refine i_neX ?_ | refine i_ltI ?_ | refine i_gtI ?_ | refine i_leI ?_ | refine i_geI ?_ | refine i_lenT ?_ | refine i_absI ?_ | refine i_intI ?_ | refine i_lstT ?_ | refine i_slT ?_ | refine i_iteT ?_ | refine i_iteF ?_ | refine i_var (by with_unfolding_all rfl) ?_ | refine i_aug (by with_unfolding_all rfl) ?_ | refine i_ixT (by with_unfolding_all rfl) ?_ | refine ⟨_, _, rfl, ?_⟩ | refine ⟨_, rfl, ?_⟩ | refine ⟨rfl, ?_⟩ | refine ⟨i_tyS, ?_⟩)))
  refine ⟨by simp [sizeLine_eq], fun u hu => ?_⟩
  have ku : Keeps S2 (put S2 u (.lst [.int 1])) := Keeps.new hu
  have hDu : Deck (put S2 u (.lst [.int 1])) a c k := hDf.new hu
  have huu : put S2 u (.lst [.int 1]) u = some (.lst [.int 1]) := put_same
  generalize put S2 u (.lst [.int 1]) = S3 at ku hDu huu
  (repeat (with_reducible (first | refine i_seq ?_ | refine i_next ?_ | refine i_break ?_ | refine i_cont ?_ | refine i_drop ?_ | refine i_ret ?_ | refine i_retN ?_ | refine i_if ?_ | refine i_asg ?_ | refine i_par ?_ | refine i_for ?_ | refine i_nm ?_ | refine i_tp ?_ | refine i_gcons ?_ | refine i_gnil ?_ | refine i_gsub ?_ | refine i_c ?_ | refine i_anil ?_ | refine i_acons ?_ | refine i_tup ?_ | refine i_lst ?_ | refine i_op ?_ | refine i_un ?_ | refine i_call ?_ | refine i_fn ?_ | refine i_test ?_ | refine i_and ?_ | refine i_or ?_ | refine i_not ?_ | refine i_ifx ?_ | refine i_andV ?_ | refine i_orV ?_ | refine i_notV ?_ | refine i_meth ?_ | refine i_sl ?_ | refine i_nopart ?_ | refine i_part ?_ | refine i_revL ?_ | refine i_sortKey ?_ | refine i_sortSet ?_ | refine i_rg1 ?_ | refine i_seqS ?_ | refine i_revR ?_ | refine i_lc ?_ | refine i_yes ?_ | refine i_seqT ?_ | refine i_seqX ?_ | refine i_addI ?_ | refine i_subI ?_ | refine i_negI ?_ | refine i_iaddI ?_ | refine i_eqI ?_ | refine i_neI ?_ | refine i_eqX ?_ | refine i_neX ?_ | refine i_ltI ?_ | refine i_gtI ?_ | refine i_leI ?_ | refine i_geI ?_ | refine i_lenT ?_ | refine i_absI ?_ | refine i_intI ?_ | refine i_lstT ?_ | refine i_slT ?_ | refine i_iteT ?_ | refine i_iteF ?_ | refine i_var (by with_unfolding_all rfl) ?_ | refine i_aug (by with_unfolding_all rfl) ?_ | refine i_ixT (by with_unfolding_all rfl) ?_ | refine ⟨_, _, rfl, ?_⟩ | refine ⟨_, rfl, ?_⟩ | refine ⟨rfl, ?_⟩ | refine ⟨i_tyS, ?_⟩)))
  refine i_lenL (ku _ _ hff) ?_
  rw [List.length_map]
  refine i_mulL huu (by omega) (by omega) (by simp [sizeLine_eq]; omega) fun z hz => ?_
  rw [Int.toNat_natCast, ones_of hok]
  have kz : Keeps S3 (put S3 z (.lst ((ms.map fun m => (m.size : Int)).map D.int))) := Keeps.new hz
  have hDz : Deck (put S3 z (.lst ((ms.map fun m => (m.size : Int)).map D.int))) a c k := hDu.new hz
  have nz := hDu.ne hz
  have nfz : f ≠ z := fun e => by subst e; rw [ku _ _ hff] at hz; cases hz
  have hz0 : S1 z = none := (kf.trans ku).out hz
  have hzz : put S3 z (.lst ((ms.map fun m => (m.size : Int)).map D.int)) z = some (.lst ((ms.map fun m => (m.size : Int)).map D.int)) := put_same
  generalize put S3 z (.lst ((ms.map fun m => (m.size : Int)).map D.int)) = S4 at kz hDz hzz
  have k4 := (kf.trans ku).trans kz
  have F0 : Fnd S4 f z most (100 + 0) ms := ⟨kz _ _ (ku _ _ hff), hzz, hne, fun m hm => ⟨(hok m hm).1, by have := (hok m hm).2; omega⟩, by omega⟩
  have nsf : sh ≠ f := fun e => by subst e; rw [hsh] at hf; cases hf
  have nsz : sh ≠ z := fun e => by subst e; rw [hsh] at hz0; cases hz0
  clear hff huu hzz ku kz
  (repeat (with_reducible (first | refine i_seq ?_ | refine i_next ?_ | refine i_break ?_ | refine i_cont ?_ | refine i_drop ?_ | refine i_ret ?_ | refine i_retN ?_ | refine i_if ?_ | refine i_asg ?_ | refine i_par ?_ | refine i_for ?_ | refine i_nm ?_ | refine i_tp ?_ | refine i_gcons ?_ | refine i_gnil ?_ | refine i_gsub ?_ | refine i_c ?_ | refine i_anil ?_ | refine i_acons ?_ | refine i_tup ?_ | refine i_lst ?_ | refine i_op ?_ | refine i_un ?_ | refine i_call ?_ | refine i_fn ?_ | refine i_test ?_ | refine i_and ?_ | refine i_or ?_ | refine i_not ?_ | refine i_ifx ?_ | refine i_andV ?_ | refine i_orV ?_ | refine i_notV ?_ | refine i_meth ?_ | refine i_sl ?_ | refine i_nopart ?_ | refine i_part ?_ | refine i_revL ?_ | refine i_sortKey ?_ | refine i_sortSet ?_ | refine i_rg1 ?_ | refine i_seqS ?_ | refine i_revR ?_ | refine i_lc ?_ | refine i_yes ?_ | refine i_seqT ?_ | refine i_seqX ?_ | refine i_addI ?_ | refine i_subI ?_ | refine i_negI ?_ | refine i_iaddI ?_ | refine i_eqI ?_ | refine i_neI ?_ | refine i_eqX ?_ | refine i_neX ?_ | refine i_ltI ?_ | refine i_gtI ?_ | refine i_leI ?_ | refine i_geI ?_ | refine i_lenT ?_ | refine i_absI ?_ | refine i_intI ?_ | refine i_lstT ?_ | refine i_slT ?_ | refine i_iteT ?_ | refine i_iteF ?_ | refine i_var (by with_unfolding_all rfl) ?_ | refine i_aug (by with_unfolding_all rfl) ?_ | refine i_ixT (by with_unfolding_all rfl) ?_ | refine ⟨_, _, rfl, ?_⟩ | refine ⟨_, rfl, ?_⟩ | refine ⟨rfl, ?_⟩ | refine ⟨i_tyS, ?_⟩)))
  refine ⟨by omega, ?_⟩
  refine for_inv (P := fun i l S' => (∃ x6 x7 x8 x9 x10 x11 x12, l = [some (.ref a), some (.ref sh), some (.int many), some (.int most), some (.ref f), some (.ref z), x6, x7, x8, x9, x10, x11, x12]) ∧ (∃ ms', Fnd S' f z most (100 + i) ms') ∧ Deck S' a c (k + 5 * i) ∧ Ext a c S1 S') ⟨⟨_, _, _, _, _, _, _, rfl⟩, ⟨ms, F0⟩, hDz, Ext.of k4⟩ (fun _ _ _ _ _ => trivial) ?_ ?_
  · rintro i d l S5 K1 hd ⟨⟨x6, x7, x8, x9, x10, x11, x12, rfl⟩, ⟨ms', F⟩, hD5, hx5⟩ hK
    obtain ⟨hi, rfl⟩ := intsD_get hd
    unfold b2_law_mazes
    (repeat (with_reducible (first | refine i_seq ?_ | refine i_next ?_ | refine i_break ?_ | refine i_cont ?_ | refine i_drop ?_ | refine i_ret ?_ | refine i_retN ?_ | refine i_if ?_ | refine i_asg ?_ | refine i_par ?_ | refine i_for ?_ | refine i_nm ?_ | refine i_tp ?_ | refine i_gcons ?_ | refine i_gnil ?_ | refine i_gsub ?_ | refine i_c ?_ | refine i_anil ?_ | refine i_acons ?_ | refine i_tup ?_ | refine i_lst ?_ | refine i_op ?_ | refine i_un ?_ | refine i_call ?_ | refine i_fn ?_ | refine i_test ?_ | refine i_and ?_ | refine i_or ?_ | refine i_not ?_ | refine i_ifx ?_ | refine i_andV ?_ | refine i_orV ?_ | refine i_notV ?_ | refine i_meth ?_ | refine i_sl ?_ | refine i_nopart ?_ | refine i_part ?_ | refine i_revL ?_ | refine i_sortKey ?_ | refine i_sortSet ?_ | refine i_rg1 ?_ | refine i_seqS ?_ | refine i_revR ?_ | refine i_lc ?_ | refine i_yes ?_ | refine i_seqT ?_ | refine i_seqX ?_ | refine i_addI ?_ | refine i_subI ?_ | refine i_negI ?_ | refine i_iaddI ?_ | refine i_eqI ?_ | refine i_neI ?_ | refine i_eqX ?_ | refine i_neX ?_ | refine i_ltI ?_ | refine i_gtI ?_ | refine i_leI ?_ | refine i_geI ?_ | refine i_lenT ?_ | refine i_absI ?_ | refine i_intI ?_ | refine i_lstT ?_ | refine i_slT ?_ | refine i_iteT ?_ | refine i_iteF ?_ | refine i_var (by with_unfolding_all rfl) ?_ | refine i_aug (by with_unfolding_all rfl) ?_ | refine i_ixT (by with_unfolding_all rfl) ?_ | refine ⟨_, _, rfl, ?_⟩ | refine ⟨_, rfl, ?_⟩ | refine ⟨rfl, ?_⟩ | refine ⟨i_tyS, ?_⟩)))
    refine ⟨a, c, _, _, _, rfl, hD5, by omega, .lst (hx5 _ _ hsh nsa nsc), (fun e => nsa (D.ref.inj e)), (fun e => nsc (D.ref.inj e)), ?_, by rw [List.length_map]; omega, fun e S6 he hx6 hD6 => ?_⟩
    · intro e
      have := List.map_eq_nil_iff.mp e
      rw [this] at hs0; exact nomatch hs0
    obtain ⟨s, hs, rfl⟩ := List.mem_map.mp he
    obtain ⟨so, sc0, sc2⟩ := hss s hs
    show gTp 2 _ (D.tup [.str s.1, .int s.2]) _ _ _
    (repeat (with_reducible (first | refine i_seq ?_ | refine i_next ?_ | refine i_break ?_ | refine i_cont ?_ | refine i_drop ?_ | refine i_ret ?_ | refine i_retN ?_ | refine i_if ?_ | refine i_asg ?_ | refine i_par ?_ | refine i_for ?_ | refine i_nm ?_ | refine i_tp ?_ | refine i_gcons ?_ | refine i_gnil ?_ | refine i_gsub ?_ | refine i_c ?_ | refine i_anil ?_ | refine i_acons ?_ | refine i_tup ?_ | refine i_lst ?_ | refine i_op ?_ | refine i_un ?_ | refine i_call ?_ | refine i_fn ?_ | refine i_test ?_ | refine i_and ?_ | refine i_or ?_ | refine i_not ?_ | refine i_ifx ?_ | refine i_andV ?_ | refine i_orV ?_ | refine i_notV ?_ | refine i_meth ?_ | refine i_sl ?_ | refine i_nopart ?_ | refine i_part ?_ | refine i_revL ?_ | refine i_sortKey ?_ | refine i_sortSet ?_ | refine i_rg1 ?_ | refine i_seqS ?_ | refine i_revR ?_ | refine i_lc ?_ | refine i_yes ?_ | refine i_seqT ?_ | refine i_seqX ?_ | refine i_addI ?_ | refine i_subI ?_ | refine i_negI ?_ | refine i_iaddI ?_ | refine i_eqI ?_ | refine i_neI ?_ | refine i_eqX ?_ | refine i_neX ?_ | refine i_ltI ?_ | refine i_gtI ?_ | refine i_leI ?_ | refine i_geI ?_ | refine i_lenT ?_ | refine i_absI ?_ | refine i_intI ?_ | refine i_lstT ?_ | refine i_slT ?_ | refine i_iteT ?_ | refine i_iteF ?_ | refine i_var (by with_unfolding_all rfl) ?_ | refine i_aug (by with_unfolding_all rfl) ?_ | refine i_ixT (by with_unfolding_all rfl) ?_ | refine ⟨_, _, rfl, ?_⟩ | refine ⟨_, rfl, ?_⟩ | refine ⟨rfl, ?_⟩ | refine ⟨i_tyS, ?_⟩)))
    refine ⟨by omega, ?_⟩
    have F6 := F.ext hx6 nf nz
    have hl6 := F6.len
    have hp6 := List.length_pos_iff.mpr F6.ne
    refine lc_inv (P := fun j acc S' => ∃ ps : List Int, acc = ps.map D.int ∧ ps.length = j ∧ (∀ x ∈ ps, 0 ≤ x ∧ x < ms'.length) ∧ Ext a c S6 S' ∧ Deck S' a c (k + 5 * i + 1 + j)) ⟨[], rfl, rfl, fun _ h => (nomatch h), .refl, hD6⟩ (fun _ _ _ _ _ => trivial) ?_ ?_
    · rintro j d acc S7 K2 hd ⟨ps, rfl, hpl, hpr, hx7, hD7⟩ hK2
      obtain ⟨hj, rfl⟩ := intsD_get hd
      (repeat (with_reducible (first | refine i_seq ?_ | refine i_next ?_ | refine i_break ?_ | refine i_cont ?_ | refine i_drop ?_ | refine i_ret ?_ | refine i_retN ?_ | refine i_if ?_ | refine i_asg ?_ | refine i_par ?_ | refine i_for ?_ | refine i_nm ?_ | refine i_tp ?_ | refine i_gcons ?_ | refine i_gnil ?_ | refine i_gsub ?_ | refine i_c ?_ | refine i_anil ?_ | refine i_acons ?_ | refine i_tup ?_ | refine i_lst ?_ | refine i_op ?_ | refine i_un ?_ | refine i_call ?_ | refine i_fn ?_ | refine i_test ?_ | refine i_and ?_ | refine i_or ?_ | refine i_not ?_ | refine i_ifx ?_ | refine i_andV ?_ | refine i_orV ?_ | refine i_notV ?_ | refine i_meth ?_ | refine i_sl ?_ | refine i_nopart ?_ | refine i_part ?_ | refine i_revL ?_ | refine i_sortKey ?_ | refine i_sortSet ?_ | refine i_rg1 ?_ | refine i_seqS ?_ | refine i_revR ?_ | refine i_lc ?_ | refine i_yes ?_ | refine i_seqT ?_ | refine i_seqX ?_ | refine i_addI ?_ | refine i_subI ?_ | refine i_negI ?_ | refine i_iaddI ?_ | refine i_eqI ?_ | refine i_neI ?_ | refine i_eqX ?_ | refine i_neX ?_ | refine i_ltI ?_ | refine i_gtI ?_ | refine i_leI ?_ | refine i_geI ?_ | refine i_lenT ?_ | refine i_absI ?_ | refine i_intI ?_ | refine i_lstT ?_ | refine i_slT ?_ | refine i_iteT ?_ | refine i_iteF ?_ | refine i_var (by with_unfolding_all rfl) ?_ | refine i_aug (by with_unfolding_all rfl) ?_ | refine i_ixT (by with_unfolding_all rfl) ?_ | refine ⟨_, _, rfl, ?_⟩ | refine ⟨_, rfl, ?_⟩ | refine ⟨rfl, ?_⟩ | refine ⟨i_tyS, ?_⟩)))
      refine i_lenL (hx7 _ _ F6.f nf.1 nf.2) ?_
      rw [List.length_map]
      (repeat (with_reducible (first | refine i_seq ?_ | refine i_next ?_ | refine i_break ?_ | refine i_cont ?_ | refine i_drop ?_ | refine i_ret ?_ | refine i_retN ?_ | refine i_if ?_ | refine i_asg ?_ | refine i_par ?_ | refine i_for ?_ | refine i_nm ?_ | refine i_tp ?_ | refine i_gcons ?_ | refine i_gnil ?_ | refine i_gsub ?_ | refine i_c ?_ | refine i_anil ?_ | refine i_acons ?_ | refine i_tup ?_ | refine i_lst ?_ | refine i_op ?_ | refine i_un ?_ | refine i_call ?_ | refine i_fn ?_ | refine i_test ?_ | refine i_and ?_ | refine i_or ?_ | refine i_not ?_ | refine i_ifx ?_ | refine i_andV ?_ | refine i_orV ?_ | refine i_notV ?_ | refine i_meth ?_ | refine i_sl ?_ | refine i_nopart ?_ | refine i_part ?_ | refine i_revL ?_ | refine i_sortKey ?_ | refine i_sortSet ?_ | refine i_rg1 ?_ | refine i_seqS ?_ | refine i_revR ?_ | refine i_lc ?_ | refine i_yes ?_ | refine i_seqT ?_ | refine i_seqX ?_ | refine i_addI ?_ | refine i_subI ?_ | refine i_negI ?_ | refine i_iaddI ?_ | refine i_eqI ?_ | refine i_neI ?_ | refine i_eqX ?_ | refine i_neX ?_ | refine i_ltI ?_ | refine i_gtI ?_ | refine i_leI ?_ | refine i_geI ?_ | refine i_lenT ?_ | refine i_absI ?_ | refine i_intI ?_ | refine i_lstT ?_ | refine i_slT ?_ | refine i_iteT ?_ | refine i_iteF ?_ | refine i_var (by with_unfolding_all rfl) ?_ | refine i_aug (by with_unfolding_all rfl) ?_ | refine i_ixT (by with_unfolding_all rfl) ?_ | refine ⟨_, _, rfl, ?_⟩ | refine ⟨_, rfl, ?_⟩ | refine ⟨rfl, ?_⟩ | refine ⟨i_tyS, ?_⟩)))
      refine ⟨a, c, _, _, rfl, hD7, by omega, by omega, by omega, fun r S8 h0 h1 hx8 hD8 => ?_⟩
      refine ⟨by rw [List.length_map, sizeLine_eq]; omega, hK2 _ _ ⟨ps ++ [r], by simp, by simp [hpl], fun x hx => ?_, hx7.trans hx8, hD8⟩⟩
      rcases List.mem_append.mp hx with h | h
      · exact hpr x h
      · rw [List.mem_singleton.mp h]; exact ⟨h0, h1⟩
    rintro acc S7 ⟨ps, rfl, hpl, hpr, hx7, hD7⟩ pp hpp
    rw [intsD_len] at hpl hD7
    have npp := hD7.ne hpp
    have kpp : Keeps S7 (put S7 pp (.lst (ps.map D.int))) := Keeps.new hpp
    have hD8 : Deck (put S7 pp (.lst (ps.map D.int))) a c (k + 5 * i + 3) := (hD7.new hpp).mono (by omega)
    have hp8 : put S7 pp (.lst (ps.map D.int)) pp = some (.lst (ps.map D.int)) := put_same
    have F7 := F6.ext hx7 nf nz
    have npf : pp ≠ f := fun e => by subst e; rw [F7.f] at hpp; cases hpp
    have npz : pp ≠ z := fun e => by subst e; rw [F7.z] at hpp; cases hpp
    have F8 := F7.ext (Ext.of kpp) nf nz
    have hx8 : Ext a c S1 (put S7 pp (.lst (ps.map D.int))) := ((hx5.trans hx6).trans hx7).trans (Ext.of kpp)
    have hpo : S1 pp = none := ((hx5.trans hx6).trans hx7).out hpp npp.1 npp.2
    generalize put S7 pp (.lst (ps.map D.int)) = S8 at kpp hD8 hp8 F8 hx8
    -- the rest of the turn
    have rest : ∀ (S9 : Sto) (qs : List Int), S9 pp = some (.lst (qs.map D.int)) → qs.length ≤ 2 → (∀ x ∈ qs, 0 ≤ x ∧ x < ms'.length) → Deck S9 a c (k + 5 * (i + 1)) → Fnd S9 f z most (100 + i) ms' → Ext a c S1 S9 →
        r_law_mazes ⟨K1, Q, fun l S' => aRet (aVar 4) ⟨fun x S' => Q .non S', Q, fun _ _ => False, fun _ _ => False⟩ l S', K1⟩ [some (.ref a), some (.ref sh), some (.int many), some (.int most), some (.ref f), some (.ref z), some (.int (0 + (i : Int))), some (.ref pp), x8, some (.str s.1), some (.int s.2), x11, x12] S9 := by
      intro S9 qs hq hql hqr hD9 F9 hx9
      refine mazes_rest F9 (by omega) ⟨so, sc0, sc2⟩ hq hql hqr hD9 nf nz nfz fun l S' ms2 hl F2 hD2 hfr => hK _ _ ⟨hl, ⟨ms2, F2⟩, hD2, fun b o e h1 h2 => hfr b o (hx9 b o e h1 h2) ?_ ?_⟩
      · intro e2; subst e2; rw [hf] at e; cases e
      · intro e2; subst e2; rw [hz0] at e; cases e
    (repeat (with_reducible (first | refine i_seq ?_ | refine i_next ?_ | refine i_break ?_ | refine i_cont ?_ | refine i_drop ?_ | refine i_ret ?_ | refine i_retN ?_ | refine i_if ?_ | refine i_asg ?_ | refine i_par ?_ | refine i_for ?_ | refine i_nm ?_ | refine i_tp ?_ | refine i_gcons ?_ | refine i_gnil ?_ | refine i_gsub ?_ | refine i_c ?_ | refine i_anil ?_ | refine i_acons ?_ | refine i_tup ?_ | refine i_lst ?_ | refine i_op ?_ | refine i_un ?_ | refine i_call ?_ | refine i_fn ?_ | refine i_test ?_ | refine i_and ?_ | refine i_or ?_ | refine i_not ?_ | refine i_ifx ?_ | refine i_andV ?_ | refine i_orV ?_ | refine i_notV ?_ | refine i_meth ?_ | refine i_sl ?_ | refine i_nopart ?_ | refine i_part ?_ | refine i_revL ?_ | refine i_sortKey ?_ | refine i_sortSet ?_ | refine i_rg1 ?_ | refine i_seqS ?_ | refine i_revR ?_ | refine i_lc ?_ | refine i_yes ?_ | refine i_seqT ?_ | refine i_seqX ?_ | refine i_addI ?_ | refine i_subI ?_ | refine i_negI ?_ | refine i_iaddI ?_ | refine i_eqI ?_ | refine i_neI ?_ | refine i_eqX ?_ | refine i_neX ?_ | refine i_ltI ?_ | refine i_gtI ?_ | refine i_leI ?_ | refine i_geI ?_ | refine i_lenT ?_ | refine i_absI ?_ | refine i_intI ?_ | refine i_lstT ?_ | refine i_slT ?_ | refine i_iteT ?_ | refine i_iteF ?_ | refine i_var (by with_unfolding_all rfl) ?_ | refine i_aug (by with_unfolding_all rfl) ?_ | refine i_ixT (by with_unfolding_all rfl) ?_ | refine ⟨_, _, rfl, ?_⟩ | refine ⟨_, rfl, ?_⟩ | refine ⟨rfl, ?_⟩ | refine ⟨i_tyS, ?_⟩)))
    refine i_ite (fun hb => ?_) fun hb => ?_
    · have hc : 0 < s.2 := by simpa using hb
      (repeat (with_reducible (first | refine i_seq ?_ | refine i_next ?_ | refine i_break ?_ | refine i_cont ?_ | refine i_drop ?_ | refine i_ret ?_ | refine i_retN ?_ | refine i_if ?_ | refine i_asg ?_ | refine i_par ?_ | refine i_for ?_ | refine i_nm ?_ | refine i_tp ?_ | refine i_gcons ?_ | refine i_gnil ?_ | refine i_gsub ?_ | refine i_c ?_ | refine i_anil ?_ | refine i_acons ?_ | refine i_tup ?_ | refine i_lst ?_ | refine i_op ?_ | refine i_un ?_ | refine i_call ?_ | refine i_fn ?_ | refine i_test ?_ | refine i_and ?_ | refine i_or ?_ | refine i_not ?_ | refine i_ifx ?_ | refine i_andV ?_ | refine i_orV ?_ | refine i_notV ?_ | refine i_meth ?_ | refine i_sl ?_ | refine i_nopart ?_ | refine i_part ?_ | refine i_revL ?_ | refine i_sortKey ?_ | refine i_sortSet ?_ | refine i_rg1 ?_ | refine i_seqS ?_ | refine i_revR ?_ | refine i_lc ?_ | refine i_yes ?_ | refine i_seqT ?_ | refine i_seqX ?_ | refine i_addI ?_ | refine i_subI ?_ | refine i_negI ?_ | refine i_iaddI ?_ | refine i_eqI ?_ | refine i_neI ?_ | refine i_eqX ?_ | refine i_neX ?_ | refine i_ltI ?_ | refine i_gtI ?_ | refine i_leI ?_ | refine i_geI ?_ | refine i_lenT ?_ | refine i_absI ?_ | refine i_intI ?_ | refine i_lstT ?_ | refine i_slT ?_ | refine i_iteT ?_ | refine i_iteF ?_ | refine i_var (by with_unfolding_all rfl) ?_ | refine i_aug (by with_unfolding_all rfl) ?_ | refine i_ixT (by with_unfolding_all rfl) ?_ | refine ⟨_, _, rfl, ?_⟩ | refine ⟨_, rfl, ?_⟩ | refine ⟨rfl, ?_⟩ | refine ⟨i_tyS, ?_⟩)))
      refine ⟨a, c, _, _, rfl, hD8, by omega, by decide, by decide, fun r S9 h0 h1 hx9 hD9 => ?_⟩
      (repeat (with_reducible (first | refine i_seq ?_ | refine i_next ?_ | refine i_break ?_ | refine i_cont ?_ | refine i_drop ?_ | refine i_ret ?_ | refine i_retN ?_ | refine i_if ?_ | refine i_asg ?_ | refine i_par ?_ | refine i_for ?_ | refine i_nm ?_ | refine i_tp ?_ | refine i_gcons ?_ | refine i_gnil ?_ | refine i_gsub ?_ | refine i_c ?_ | refine i_anil ?_ | refine i_acons ?_ | refine i_tup ?_ | refine i_lst ?_ | refine i_op ?_ | refine i_un ?_ | refine i_call ?_ | refine i_fn ?_ | refine i_test ?_ | refine i_and ?_ | refine i_or ?_ | refine i_not ?_ | refine i_ifx ?_ | refine i_andV ?_ | refine i_orV ?_ | refine i_notV ?_ | refine i_meth ?_ | refine i_sl ?_ | refine i_nopart ?_ | refine i_part ?_ | refine i_revL ?_ | refine i_sortKey ?_ | refine i_sortSet ?_ | refine i_rg1 ?_ | refine i_seqS ?_ | refine i_revR ?_ | refine i_lc ?_ | refine i_yes ?_ | refine i_seqT ?_ | refine i_seqX ?_ | refine i_addI ?_ | refine i_subI ?_ | refine i_negI ?_ | refine i_iaddI ?_ | refine i_eqI ?_ | refine i_neI ?_ | refine i_eqX ?_ | refine i_neX ?_ | refine i_ltI ?_ | refine i_gtI ?_ | refine i_leI ?_ | refine i_geI ?_ | refine i_lenT ?_ | refine i_absI ?_ | refine i_intI ?_ | refine i_lstT ?_ | refine i_slT ?_ | refine i_iteT ?_ | refine i_iteF ?_ | refine i_var (by with_unfolding_all rfl) ?_ | refine i_aug (by with_unfolding_all rfl) ?_ | refine i_ixT (by with_unfolding_all rfl) ?_ | refine ⟨_, _, rfl, ?_⟩ | refine ⟨_, rfl, ?_⟩ | refine ⟨rfl, ?_⟩ | refine ⟨i_tyS, ?_⟩)))
      have F9 := F8.ext hx9 nf nz
      refine i_ite (fun hb2 => ?_) fun hb2 => ?_
      · (repeat (with_reducible (first | refine i_seq ?_ | refine i_next ?_ | refine i_break ?_ | refine i_cont ?_ | refine i_drop ?_ | refine i_ret ?_ | refine i_retN ?_ | refine i_if ?_ | refine i_asg ?_ | refine i_par ?_ | refine i_for ?_ | refine i_nm ?_ | refine i_tp ?_ | refine i_gcons ?_ | refine i_gnil ?_ | refine i_gsub ?_ | refine i_c ?_ | refine i_anil ?_ | refine i_acons ?_ | refine i_tup ?_ | refine i_lst ?_ | refine i_op ?_ | refine i_un ?_ | refine i_call ?_ | refine i_fn ?_ | refine i_test ?_ | refine i_and ?_ | refine i_or ?_ | refine i_not ?_ | refine i_ifx ?_ | refine i_andV ?_ | refine i_orV ?_ | refine i_notV ?_ | refine i_meth ?_ | refine i_sl ?_ | refine i_nopart ?_ | refine i_part ?_ | refine i_revL ?_ | refine i_sortKey ?_ | refine i_sortSet ?_ | refine i_rg1 ?_ | refine i_seqS ?_ | refine i_revR ?_ | refine i_lc ?_ | refine i_yes ?_ | refine i_seqT ?_ | refine i_seqX ?_ | refine i_addI ?_ | refine i_subI ?_ | refine i_negI ?_ | refine i_iaddI ?_ | refine i_eqI ?_ | refine i_neI ?_ | refine i_eqX ?_ | refine i_neX ?_ | refine i_ltI ?_ | refine i_gtI ?_ | refine i_leI ?_ | refine i_geI ?_ | refine i_lenT ?_ | refine i_absI ?_ | refine i_intI ?_ | refine i_lstT ?_ | refine i_slT ?_ | refine i_iteT ?_ | refine i_iteF ?_ | refine i_var (by with_unfolding_all rfl) ?_ | refine i_aug (by with_unfolding_all rfl) ?_ | refine i_ixT (by with_unfolding_all rfl) ?_ | refine ⟨_, _, rfl, ?_⟩ | refine ⟨_, rfl, ?_⟩ | refine ⟨rfl, ?_⟩ | refine ⟨i_tyS, ?_⟩)))
        refine i_lenL F9.f ?_
        rw [List.length_map]
        (repeat (with_reducible (first | refine i_seq ?_ | refine i_next ?_ | refine i_break ?_ | refine i_cont ?_ | refine i_drop ?_ | refine i_ret ?_ | refine i_retN ?_ | refine i_if ?_ | refine i_asg ?_ | refine i_par ?_ | refine i_for ?_ | refine i_nm ?_ | refine i_tp ?_ | refine i_gcons ?_ | refine i_gnil ?_ | refine i_gsub ?_ | refine i_c ?_ | refine i_anil ?_ | refine i_acons ?_ | refine i_tup ?_ | refine i_lst ?_ | refine i_op ?_ | refine i_un ?_ | refine i_call ?_ | refine i_fn ?_ | refine i_test ?_ | refine i_and ?_ | refine i_or ?_ | refine i_not ?_ | refine i_ifx ?_ | refine i_andV ?_ | refine i_orV ?_ | refine i_notV ?_ | refine i_meth ?_ | refine i_sl ?_ | refine i_nopart ?_ | refine i_part ?_ | refine i_revL ?_ | refine i_sortKey ?_ | refine i_sortSet ?_ | refine i_rg1 ?_ | refine i_seqS ?_ | refine i_revR ?_ | refine i_lc ?_ | refine i_yes ?_ | refine i_seqT ?_ | refine i_seqX ?_ | refine i_addI ?_ | refine i_subI ?_ | refine i_negI ?_ | refine i_iaddI ?_ | refine i_eqI ?_ | refine i_neI ?_ | refine i_eqX ?_ | refine i_neX ?_ | refine i_ltI ?_ | refine i_gtI ?_ | refine i_leI ?_ | refine i_geI ?_ | refine i_lenT ?_ | refine i_absI ?_ | refine i_intI ?_ | refine i_lstT ?_ | refine i_slT ?_ | refine i_iteT ?_ | refine i_iteF ?_ | refine i_var (by with_unfolding_all rfl) ?_ | refine i_aug (by with_unfolding_all rfl) ?_ | refine i_ixT (by with_unfolding_all rfl) ?_ | refine ⟨_, _, rfl, ?_⟩ | refine ⟨_, rfl, ?_⟩ | refine ⟨rfl, ?_⟩ | refine ⟨i_tyS, ?_⟩)))
        refine ⟨a, c, _, _, rfl, hD9, by omega, hc, by omega, fun r2 S10 g0 g1 hx10 hD10 => ?_⟩
        have hp10 := hx10 _ _ (hx9 _ _ hp8 npp.1 npp.2) npp.1 npp.2
        have F10 := F9.ext hx10 nf nz
        obtain ⟨_, _, _, e3, _⟩ := atI_in (xs := ps.map D.int) g0 (by rw [List.length_map]; omega)
        refine i_setL hp10 e3 ?_
        rw [show (ps.map D.int).set r2.toNat (.int ((ms'.length : Int) - 1)) = (ps.set r2.toNat ((ms'.length : Int) - 1)).map D.int by rw [List.map_set]]
        refine rest _ _ put_same (by rw [List.length_set]; omega) (fun x hx => ?_) ((hD10.chg npp.1 npp.2).mono (by omega)) ⟨by rw [put_ne npf.symm]; exact F10.f, by rw [put_ne npz.symm]; exact F10.z, F10.ne, F10.ok, F10.len⟩ (((hx8.trans hx9).trans hx10).chg hpo)
        rcases List.mem_or_eq_of_mem_set hx with h | h
        · exact hpr x h
        · subst h; omega
      · (repeat (with_reducible (first | refine i_seq ?_ | refine i_next ?_ | refine i_break ?_ | refine i_cont ?_ | refine i_drop ?_ | refine i_ret ?_ | refine i_retN ?_ | refine i_if ?_ | refine i_asg ?_ | refine i_par ?_ | refine i_for ?_ | refine i_nm ?_ | refine i_tp ?_ | refine i_gcons ?_ | refine i_gnil ?_ | refine i_gsub ?_ | refine i_c ?_ | refine i_anil ?_ | refine i_acons ?_ | refine i_tup ?_ | refine i_lst ?_ | refine i_op ?_ | refine i_un ?_ | refine i_call ?_ | refine i_fn ?_ | refine i_test ?_ | refine i_and ?_ | refine i_or ?_ | refine i_not ?_ | refine i_ifx ?_ | refine i_andV ?_ | refine i_orV ?_ | refine i_notV ?_ | refine i_meth ?_ | refine i_sl ?_ | refine i_nopart ?_ | refine i_part ?_ | refine i_revL ?_ | refine i_sortKey ?_ | refine i_sortSet ?_ | refine i_rg1 ?_ | refine i_seqS ?_ | refine i_revR ?_ | refine i_lc ?_ | refine i_yes ?_ | refine i_seqT ?_ | refine i_seqX ?_ | refine i_addI ?_ | refine i_subI ?_ | refine i_negI ?_ | refine i_iaddI ?_ | refine i_eqI ?_ | refine i_neI ?_ | refine i_eqX ?_ | refine i_neX ?_ | refine i_ltI ?_ | refine i_gtI ?_ | refine i_leI ?_ | refine i_geI ?_ | refine i_lenT ?_ | refine i_absI ?_ | refine i_intI ?_ | refine i_lstT ?_ | refine i_slT ?_ | refine i_iteT ?_ | refine i_iteF ?_ | refine i_var (by with_unfolding_all rfl) ?_ | refine i_aug (by with_unfolding_all rfl) ?_ | refine i_ixT (by with_unfolding_all rfl) ?_ | refine ⟨_, _, rfl, ?_⟩ | refine ⟨_, rfl, ?_⟩ | refine ⟨rfl, ?_⟩ | refine ⟨i_tyS, ?_⟩)))
        exact rest _ ps (hx9 _ _ hp8 npp.1 npp.2) (by omega) hpr (hD9.mono (by omega)) F9 (hx8.trans hx9)
    · (repeat (with_reducible (first | refine i_seq ?_ | refine i_next ?_ | refine i_break ?_ | refine i_cont ?_ | refine i_drop ?_ | refine i_ret ?_ | refine i_retN ?_ | refine i_if ?_ | refine i_asg ?_ | refine i_par ?_ | refine i_for ?_ | refine i_nm ?_ | refine i_tp ?_ | refine i_gcons ?_ | refine i_gnil ?_ | refine i_gsub ?_ | refine i_c ?_ | refine i_anil ?_ | refine i_acons ?_ | refine i_tup ?_ | refine i_lst ?_ | refine i_op ?_ | refine i_un ?_ | refine i_call ?_ | refine i_fn ?_ | refine i_test ?_ | refine i_and ?_ | refine i_or ?_ | refine i_not ?_ | refine i_ifx ?_ | refine i_andV ?_ | refine i_orV ?_ | refine i_notV ?_ | refine i_meth ?_ | refine i_sl ?_ | refine i_nopart ?_ | refine i_part ?_ | refine i_revL ?_ | refine i_sortKey ?_ | refine i_sortSet ?_ | refine i_rg1 ?_ | refine i_seqS ?_ | refine i_revR ?_ | refine i_lc ?_ | refine i_yes ?_ | refine i_seqT ?_ | refine i_seqX ?_ | refine i_addI ?_ | refine i_subI ?_ | refine i_negI ?_ | refine i_iaddI ?_ | refine i_eqI ?_ | refine i_neI ?_ | refine i_eqX ?_ | refine i_neX ?_ | refine i_ltI ?_ | refine i_gtI ?_ | refine i_leI ?_ | refine i_geI ?_ | refine i_lenT ?_ | refine i_absI ?_ | refine i_intI ?_ | refine i_lstT ?_ | refine i_slT ?_ | refine i_iteT ?_ | refine i_iteF ?_ | refine i_var (by with_unfolding_all rfl) ?_ | refine i_aug (by with_unfolding_all rfl) ?_ | refine i_ixT (by with_unfolding_all rfl) ?_ | refine ⟨_, _, rfl, ?_⟩ | refine ⟨_, rfl, ?_⟩ | refine ⟨rfl, ?_⟩ | refine ⟨i_tyS, ?_⟩)))
      exact rest _ ps hp8 (by omega) hpr (hD8.mono (by omega)) F8 hx8
  · rintro l S5 ⟨⟨x6, x7, x8, x9, x10, x11, x12, rfl⟩, ⟨ms', F⟩, hD5, hx5⟩
    rw [intsD_len] at hD5
    (repeat (with_reducible (first | refine i_seq ?_ | refine i_next ?_ | refine i_break ?_ | refine i_cont ?_ | refine i_drop ?_ | refine i_ret ?_ | refine i_retN ?_ | refine i_if ?_ | refine i_asg ?_ | refine i_par ?_ | refine i_for ?_ | refine i_nm ?_ | refine i_tp ?_ | refine i_gcons ?_ | refine i_gnil ?_ | refine i_gsub ?_ | refine i_c ?_ | refine i_anil ?_ | refine i_acons ?_ | refine i_tup ?_ | refine i_lst ?_ | refine i_op ?_ | refine i_un ?_ | refine i_call ?_ | refine i_fn ?_ | refine i_test ?_ | refine i_and ?_ | refine i_or ?_ | refine i_not ?_ | refine i_ifx ?_ | refine i_andV ?_ | refine i_orV ?_ | refine i_notV ?_ | refine i_meth ?_ | refine i_sl ?_ | refine i_nopart ?_ | refine i_part ?_ | refine i_revL ?_ | refine i_sortKey ?_ | refine i_sortSet ?_ | refine i_rg1 ?_ | refine i_seqS ?_ | refine i_revR ?_ | refine i_lc ?_ | refine i_yes ?_ | refine i_seqT ?_ | refine i_seqX ?_ | refine i_addI ?_ | refine i_subI ?_ | refine i_negI ?_ | refine i_iaddI ?_ | refine i_eqI ?_ | refine i_neI ?_ | refine i_eqX ?_ | refine i_neX ?_ | refine i_ltI ?_ | refine i_gtI ?_ | refine i_leI ?_ | refine i_geI ?_ | refine i_lenT ?_ | refine i_absI ?_ | refine i_intI ?_ | refine i_lstT ?_ | refine i_slT ?_ | refine i_iteT ?_ | refine i_iteF ?_ | refine i_var (by with_unfolding_all rfl) ?_ | refine i_aug (by with_unfolding_all rfl) ?_ | refine i_ixT (by with_unfolding_all rfl) ?_ | refine ⟨_, _, rfl, ?_⟩ | refine ⟨_, rfl, ?_⟩ | refine ⟨rfl, ?_⟩ | refine ⟨i_tyS, ?_⟩)))
    exact q f S5 ms' F.ne F.ok hf F.f hx5 (hD5.mono (by omega))
end AL

namespace AL
open PySem PySem.Spec PyProof.Rows L2

/-! ### a maze drawn -/
def sp_law_maze : Spa := fun ds S Q => ∃ (a c sg : Addr) (k : Nat) (xs : List Str), ds = [.ref a, .ref sg, .int 60] ∧ Deck S a c k ∧ k < 980000000 ∧ S sg = some (.lst (xs.map D.str)) ∧ sg ≠ a ∧ sg ≠ c ∧ (∀ x ∈ xs, SignOk x) ∧ xs ≠ [] ∧ xs.length ≤ 6 ∧
  ∀ S' (m : Mz), m.Ok → m.size ≤ 60 → Ext a c S S' → Deck S' a c (k + 2000) → Q m.d S'
def n_law_maze : List Str := ["_law_deck_here", "_law_signs_here", "_law_most", "_law_shapes", "_law_sign", "_law_count"]
def t_law_maze : TSa :=
  (aSeq (aAsg (aLst aNil) (gNm 3))
  (aSeq (aFor (iSeq (aVar 1)) (gNm 4) (aDrop (aMeth "list" extendA (aVar 3) (aCons (aLc (iRg1 (aCons (aC (.int 3)) aNil)) (gNm 5) aYes (aTup (aCons (aVar 4) (aCons (aVar 5) aNil))) (ownIx ([("_law_count", 5)] : List (Str × Nat)))) aNil))))
  (aRet (aOp ixA (aFn 4 sp_law_mazes (aCons (aVar 0) (aCons (aVar 3) (aCons (aOp addA (aC (.int 3)) (aFn 2 sp_law_draw (aCons (aVar 0) (aCons (aC (.int 30)) aNil)))) (aCons (aVar 2) aNil))))) (aUn negA (aC (.int 1)))))))
theorem pl_law_maze : ∀ ds S Q, ds.length = 3 → sp_law_maze ds S Q → semA n_law_maze t_law_maze ds S Q := by
  rintro ds S Q _ ⟨a, c, sg, k, xs, rfl, hD, hk, hsg, nsa, nsc, hxs, hne, hlen, q⟩
  unfold semA t_law_maze
  (repeat (with_reducible (first | refine i_seq ?_ | refine i_next ?_ | refine i_break ?_ | refine i_cont ?_ | refine i_drop ?_ | refine i_ret ?_ | refine i_retN ?_ | refine i_if ?_ | refine i_asg ?_ | refine i_par ?_ | refine i_for ?_ | refine i_nm ?_ | refine i_tp ?_ | refine i_gcons ?_ | refine i_gnil ?_ | refine i_gsub ?_ | refine i_c ?_ | refine i_anil ?_ | refine i_acons ?_ | refine i_tup ?_ | refine i_lst ?_ | refine i_op ?_ | refine i_un ?_ | refine i_call ?_ | refine i_fn ?_ | refine i_test ?_ | refine i_and ?_ | refine i_or ?_ | refine i_not ?_ | refine i_ifx ?_ | refine i_andV ?_ | refine i_orV ?_ | refine i_notV ?_ | refine i_meth ?_ | refine i_sl ?_ | refine i_nopart ?_ | refine i_part ?_ | refine i_revL ?_ | refine i_sortKey ?_ | refine i_sortSet ?_ | refine i_rg1 ?_ | refine i_seqS ?_ | refine i_revR ?_ | refine i_lc ?_ | refine i_yes ?_ | refine i_seqT ?_ | refine i_seqX ?_ | refine i_addI ?_ | refine i_subI ?_ | refine i_negI ?_ | refine i_iaddI ?_ | refine i_eqI ?_ | refine i_neI ?_ | refine i_eqX ?_ | refine i_neX ?_ | refine i_ltI ?_ | refine i_gtI ?_ | refine i_leI ?_ | refine i_geI ?_ | refine i_lenT ?_ | refine i_absI ?_ | refine i_intI ?_ | refine i_lstT ?_ | refine i_slT ?_ | refine i_iteT ?_ | refine i_iteF ?_ | refine i_var (by with_unfolding_all rfl) ?_ | refine i_aug (by with_unfolding_all rfl) ?_ | refine i_ixT (by with_unfolding_all rfl) ?_ | refine ⟨_, _, rfl, ?_⟩ | refine ⟨_, rfl, ?_⟩ | refine ⟨rfl, ?_⟩ | refine ⟨i_tyS, ?_⟩)))
  refine ⟨by simp [sizeLine_eq], fun f hf => ?_⟩
  have nf := hD.ne hf
  have nfs : f ≠ sg := fun e => by subst e; rw [hsg] at hf; cases hf
  (repeat (with_reducible (first | refine i_seq ?_ | refine i_next ?_ | refine i_break ?_ | refine i_cont ?_ | refine i_drop ?_ | refine i_ret ?_ | refine i_retN ?_ | refine i_if ?_ | refine i_asg ?_ | refine i_par ?_ | refine i_for ?_ | refine i_nm ?_ | refine i_tp ?_ | refine i_gcons ?_ | refine i_gnil ?_ | refine i_gsub ?_ | refine i_c ?_ | refine i_anil ?_ | refine i_acons ?_ | refine i_tup ?_ | refine i_lst ?_ | refine i_op ?_ | refine i_un ?_ | refine i_call ?_ | refine i_fn ?_ | refine i_test ?_ | refine i_and ?_ | refine i_or ?_ | refine i_not ?_ | refine i_ifx ?_ | refine i_andV ?_ | refine i_orV ?_ | refine i_notV ?_ | refine i_meth ?_ | refine i_sl ?_ | refine i_nopart ?_ | refine i_part ?_ | refine i_revL ?_ | refine i_sortKey ?_ | refine i_sortSet ?_ | refine i_rg1 ?_ | refine i_seqS ?_ | refine i_revR ?_ | refine i_lc ?_ | refine i_yes ?_ | refine i_seqT ?_ | refine i_seqX ?_ | refine i_addI ?_ | refine i_subI ?_ | refine i_negI ?_ | refine i_iaddI ?_ | refine i_eqI ?_ | refine i_neI ?_ | refine i_eqX ?_ | refine i_neX ?_ | refine i_ltI ?_ | refine i_gtI ?_ | refine i_leI ?_ | refine i_geI ?_ | refine i_lenT ?_ | refine i_absI ?_ | refine i_intI ?_ | refine i_lstT ?_ | refine i_slT ?_ | refine i_iteT ?_ | refine i_iteF ?_ | refine i_var (by with_unfolding_all rfl) ?_ | refine i_aug (by with_unfolding_all rfl) ?_ | refine i_ixT (by with_unfolding_all rfl) ?_ | refine ⟨_, _, rfl, ?_⟩ | refine ⟨_, rfl, ?_⟩ | refine ⟨rfl, ?_⟩ | refine ⟨i_tyS, ?_⟩)))
  refine i_seqL (by rw [put_ne nfs.symm]; exact hsg) ?_
  refine for_inv (P := fun i l S' => (∃ x4 x5, l = [some (.ref a), some (.ref sg), some (.int 60), some (.ref f), x4, x5]) ∧ (∃ ss : List Sh, S' f = some (.lst (ss.map Sh.d)) ∧ (∀ s ∈ ss, ShOk s) ∧ ss.length = 3 * i ∧ (1 ≤ i → ∃ s ∈ ss, s.2 = 0)) ∧ Keeps S S') ⟨⟨_, _, rfl⟩, ⟨[], put_same, fun _ h => (nomatch h), rfl, fun h => absurd h (by decide)⟩, Keeps.new hf⟩ (fun i l S' _ h => h.2.2 _ _ hsg) ?_ ?_
  · rintro i d l S1 K1 hd ⟨⟨x4, x5, rfl⟩, ⟨ss, hF, hss, hl, hz⟩, hk1⟩ hK
    rw [List.getElem?_map, Option.map_eq_some_iff] at hd
    obtain ⟨x, hx, rfl⟩ := hd
    have hi := (List.getElem?_eq_some_iff.mp hx).1
    have hxo := hxs x (List.mem_of_getElem? hx)
    (repeat (with_reducible (first | refine i_seq ?_ | refine i_next ?_ | refine i_break ?_ | refine i_cont ?_ | refine i_drop ?_ | refine i_ret ?_ | refine i_retN ?_ | refine i_if ?_ | refine i_asg ?_ | refine i_par ?_ | refine i_for ?_ | refine i_nm ?_ | refine i_tp ?_ | refine i_gcons ?_ | refine i_gnil ?_ | refine i_gsub ?_ | refine i_c ?_ | refine i_anil ?_ | refine i_acons ?_ | refine i_tup ?_ | refine i_lst ?_ | refine i_op ?_ | refine i_un ?_ | refine i_call ?_ | refine i_fn ?_ | refine i_test ?_ | refine i_and ?_ | refine i_or ?_ | refine i_not ?_ | refine i_ifx ?_ | refine i_andV ?_ | refine i_orV ?_ | refine i_notV ?_ | refine i_meth ?_ | refine i_sl ?_ | refine i_nopart ?_ | refine i_part ?_ | refine i_revL ?_ | refine i_sortKey ?_ | refine i_sortSet ?_ | refine i_rg1 ?_ | refine i_seqS ?_ | refine i_revR ?_ | refine i_lc ?_ | refine i_yes ?_ | refine i_seqT ?_ | refine i_seqX ?_ | refine i_addI ?_ | refine i_subI ?_ | refine i_negI ?_ | refine i_iaddI ?_ | refine i_eqI ?_ | refine i_neI ?_ | refine i_eqX ?_ | refine i_neX ?_ | refine i_ltI ?_ | refine i_gtI ?_ | refine i_leI ?_ | refine i_geI ?_ | refine i_lenT ?_ | refine i_absI ?_ | refine i_intI ?_ | refine i_lstT ?_ | refine i_slT ?_ | refine i_iteT ?_ | refine i_iteF ?_ | refine i_var (by with_unfolding_all rfl) ?_ | refine i_aug (by with_unfolding_all rfl) ?_ | refine i_ixT (by with_unfolding_all rfl) ?_ | refine ⟨_, _, rfl, ?_⟩ | refine ⟨_, rfl, ?_⟩ | refine ⟨rfl, ?_⟩ | refine ⟨i_tyS, ?_⟩)))
    refine ⟨i_tyL hF, ?_⟩
    (repeat (with_reducible (first | refine i_seq ?_ | refine i_next ?_ | refine i_break ?_ | refine i_cont ?_ | refine i_drop ?_ | refine i_ret ?_ | refine i_retN ?_ | refine i_if ?_ | refine i_asg ?_ | refine i_par ?_ | refine i_for ?_ | refine i_nm ?_ | refine i_tp ?_ | refine i_gcons ?_ | refine i_gnil ?_ | refine i_gsub ?_ | refine i_c ?_ | refine i_anil ?_ | refine i_acons ?_ | refine i_tup ?_ | refine i_lst ?_ | refine i_op ?_ | refine i_un ?_ | refine i_call ?_ | refine i_fn ?_ | refine i_test ?_ | refine i_and ?_ | refine i_or ?_ | refine i_not ?_ | refine i_ifx ?_ | refine i_andV ?_ | refine i_orV ?_ | refine i_notV ?_ | refine i_meth ?_ | refine i_sl ?_ | refine i_nopart ?_ | refine i_part ?_ | refine i_revL ?_ | refine i_sortKey ?_ | refine i_sortSet ?_ | refine i_rg1 ?_ | refine i_seqS ?_ | refine i_revR ?_ | refine i_lc ?_ | refine i_yes ?_ | refine i_seqT ?_ | refine i_seqX ?_ | refine i_addI ?_ | refine i_subI ?_ | refine i_negI ?_ | refine i_iaddI ?_ | refine i_eqI ?_ | refine i_neI ?_ | refine i_eqX ?_ | refine i_neX ?_ | refine i_ltI ?_ | refine i_gtI ?_ | refine i_leI ?_ | refine i_geI ?_ | refine i_lenT ?_ | refine i_absI ?_ | refine i_intI ?_ | refine i_lstT ?_ | refine i_slT ?_ | refine i_iteT ?_ | refine i_iteF ?_ | refine i_var (by with_unfolding_all rfl) ?_ | refine i_aug (by with_unfolding_all rfl) ?_ | refine i_ixT (by with_unfolding_all rfl) ?_ | refine ⟨_, _, rfl, ?_⟩ | refine ⟨_, rfl, ?_⟩ | refine ⟨rfl, ?_⟩ | refine ⟨i_tyS, ?_⟩)))
    refine ⟨by omega, ?_⟩
    refine lc_inv (P := fun j acc S' => S' = S1 ∧ ∃ ts : List Sh, acc = ts.map Sh.d ∧ ts.length = j ∧ (∀ s ∈ ts, ShOk s) ∧ (1 ≤ j → ∃ s ∈ ts, s.2 = 0)) ⟨rfl, [], rfl, rfl, fun _ h => (nomatch h), fun h => absurd h (by decide)⟩ (fun _ _ _ _ _ => trivial) ?_ ?_
    · rintro j d acc S2 K2 hd ⟨rfl, ts, rfl, htl, hts, htz⟩ hK2
      obtain ⟨hj, rfl⟩ := intsD_get hd
      have hj3 : j < 3 := by simpa using hj
      (repeat (with_reducible (first | refine i_seq ?_ | refine i_next ?_ | refine i_break ?_ | refine i_cont ?_ | refine i_drop ?_ | refine i_ret ?_ | refine i_retN ?_ | refine i_if ?_ | refine i_asg ?_ | refine i_par ?_ | refine i_for ?_ | refine i_nm ?_ | refine i_tp ?_ | refine i_gcons ?_ | refine i_gnil ?_ | refine i_gsub ?_ | refine i_c ?_ | refine i_anil ?_ | refine i_acons ?_ | refine i_tup ?_ | refine i_lst ?_ | refine i_op ?_ | refine i_un ?_ | refine i_call ?_ | refine i_fn ?_ | refine i_test ?_ | refine i_and ?_ | refine i_or ?_ | refine i_not ?_ | refine i_ifx ?_ | refine i_andV ?_ | refine i_orV ?_ | refine i_notV ?_ | refine i_meth ?_ | refine i_sl ?_ | refine i_nopart ?_ | refine i_part ?_ | refine i_revL ?_ | refine i_sortKey ?_ | refine i_sortSet ?_ | refine i_rg1 ?_ | refine i_seqS ?_ | refine i_revR ?_ | refine i_lc ?_ | refine i_yes ?_ | refine i_seqT ?_ | refine i_seqX ?_ | refine i_addI ?_ | refine i_subI ?_ | refine i_negI ?_ | refine i_iaddI ?_ | refine i_eqI ?_ | refine i_neI ?_ | refine i_eqX ?_ | refine i_neX ?_ | refine i_ltI ?_ | refine i_gtI ?_ | refine i_leI ?_ | refine i_geI ?_ | refine i_lenT ?_ | refine i_absI ?_ | refine i_intI ?_ | refine i_lstT ?_ | refine i_slT ?_ | refine i_iteT ?_ | refine i_iteF ?_ | refine i_var (by with_unfolding_all rfl) ?_ | refine i_aug (by with_unfolding_all rfl) ?_ | refine i_ixT (by with_unfolding_all rfl) ?_ | refine ⟨_, _, rfl, ?_⟩ | refine ⟨_, rfl, ?_⟩ | refine ⟨rfl, ?_⟩ | refine ⟨i_tyS, ?_⟩)))
      refine ⟨by simp [sizeLine_eq], by rw [List.length_map, sizeLine_eq]; omega, hK2 _ _ ⟨rfl, ts ++ [(x, (j : Int))], ?_, by simp [htl], fun s hs => ?_, fun _ => ?_⟩⟩
      · rw [List.map_append]; simp [Sh.d]
      · rcases List.mem_append.mp hs with h | h
        · exact hts s h
        · rw [List.mem_singleton.mp h]; exact ⟨hxo, by show (0 : Int) ≤ (j : Int); omega, by show (j : Int) ≤ 2; omega⟩
      · by_cases h0 : j = 0
        · subst h0; exact ⟨(x, 0), by simp, rfl⟩
        · obtain ⟨s, h1, h2⟩ := htz (by omega)
          exact ⟨s, List.mem_append_left _ h1, h2⟩
    rintro acc S2 ⟨rfl, ts, rfl, htl, hts, htz⟩ p hp
    rw [intsD_len] at htl htz
    have npf : p ≠ f := fun e => by subst e; rw [hF] at hp; cases hp
    (repeat (with_reducible (first | refine i_seq ?_ | refine i_next ?_ | refine i_break ?_ | refine i_cont ?_ | refine i_drop ?_ | refine i_ret ?_ | refine i_retN ?_ | refine i_if ?_ | refine i_asg ?_ | refine i_par ?_ | refine i_for ?_ | refine i_nm ?_ | refine i_tp ?_ | refine i_gcons ?_ | refine i_gnil ?_ | refine i_gsub ?_ | refine i_c ?_ | refine i_anil ?_ | refine i_acons ?_ | refine i_tup ?_ | refine i_lst ?_ | refine i_op ?_ | refine i_un ?_ | refine i_call ?_ | refine i_fn ?_ | refine i_test ?_ | refine i_and ?_ | refine i_or ?_ | refine i_not ?_ | refine i_ifx ?_ | refine i_andV ?_ | refine i_orV ?_ | refine i_notV ?_ | refine i_meth ?_ | refine i_sl ?_ | refine i_nopart ?_ | refine i_part ?_ | refine i_revL ?_ | refine i_sortKey ?_ | refine i_sortSet ?_ | refine i_rg1 ?_ | refine i_seqS ?_ | refine i_revR ?_ | refine i_lc ?_ | refine i_yes ?_ | refine i_seqT ?_ | refine i_seqX ?_ | refine i_addI ?_ | refine i_subI ?_ | refine i_negI ?_ | refine i_iaddI ?_ | refine i_eqI ?_ | refine i_neI ?_ | refine i_eqX ?_ | refine i_neX ?_ | refine i_ltI ?_ | refine i_gtI ?_ | refine i_leI ?_ | refine i_geI ?_ | refine i_lenT ?_ | refine i_absI ?_ | refine i_intI ?_ | refine i_lstT ?_ | refine i_slT ?_ | refine i_iteT ?_ | refine i_iteF ?_ | refine i_var (by with_unfolding_all rfl) ?_ | refine i_aug (by with_unfolding_all rfl) ?_ | refine i_ixT (by with_unfolding_all rfl) ?_ | refine ⟨_, _, rfl, ?_⟩ | refine ⟨_, rfl, ?_⟩ | refine ⟨rfl, ?_⟩ | refine ⟨i_tyS, ?_⟩)))
    refine i_extend (by rw [put_ne npf.symm]; exact hF) put_same (by rw [List.length_map, List.length_map, htl, sizeLine_eq]; simp; omega) ?_
    refine hK _ _ ⟨⟨_, _, rfl⟩, ⟨ss ++ ts, by rw [put_same, List.map_append], fun s hs => (List.mem_append.mp hs).elim (hss s) (hts s), by rw [List.length_append, hl, htl]; simp; omega, fun _ => ?_⟩, ((hk1.trans (Keeps.new hp)).chg hf)⟩
    obtain ⟨s, h1, h2⟩ := htz (by decide)
    exact ⟨s, List.mem_append_right _ h1, h2⟩
  rintro l S1 ⟨⟨x4, x5, rfl⟩, ⟨ss, hF, hss, hl, hz⟩, hk1⟩
  rw [List.length_map] at hl hz
  have hD1 : Deck S1 a c k := by
    obtain ⟨h1, cs, n, h2, h3, h4⟩ := hD
    exact ⟨h1, cs, n, hk1 _ _ h2, hk1 _ _ h3, h4⟩
  (repeat (with_reducible (first | refine i_seq ?_ | refine i_next ?_ | refine i_break ?_ | refine i_cont ?_ | refine i_drop ?_ | refine i_ret ?_ | refine i_retN ?_ | refine i_if ?_ | refine i_asg ?_ | refine i_par ?_ | refine i_for ?_ | refine i_nm ?_ | refine i_tp ?_ | refine i_gcons ?_ | refine i_gnil ?_ | refine i_gsub ?_ | refine i_c ?_ | refine i_anil ?_ | refine i_acons ?_ | refine i_tup ?_ | refine i_lst ?_ | refine i_op ?_ | refine i_un ?_ | refine i_call ?_ | refine i_fn ?_ | refine i_test ?_ | refine i_and ?_ | refine i_or ?_ | refine i_not ?_ | refine i_ifx ?_ | refine i_andV ?_ | refine i_orV ?_ | refine i_notV ?_ | refine i_meth ?_ | refine i_sl ?_ | refine i_nopart ?_ | refine i_part ?_ | refine i_revL ?_ | refine i_sortKey ?_ | refine i_sortSet ?_ | refine i_rg1 ?_ | refine i_seqS ?_ | refine i_revR ?_ | refine i_lc ?_ | refine i_yes ?_ | refine i_seqT ?_ | refine i_seqX ?_ | refine i_addI ?_ | refine i_subI ?_ | refine i_negI ?_ | refine i_iaddI ?_ | refine i_eqI ?_ | refine i_neI ?_ | refine i_eqX ?_ | refine i_neX ?_ | refine i_ltI ?_ | refine i_gtI ?_ | refine i_leI ?_ | refine i_geI ?_ | refine i_lenT ?_ | refine i_absI ?_ | refine i_intI ?_ | refine i_lstT ?_ | refine i_slT ?_ | refine i_iteT ?_ | refine i_iteF ?_ | refine i_var (by with_unfolding_all rfl) ?_ | refine i_aug (by with_unfolding_all rfl) ?_ | refine i_ixT (by with_unfolding_all rfl) ?_ | refine ⟨_, _, rfl, ?_⟩ | refine ⟨_, rfl, ?_⟩ | refine ⟨rfl, ?_⟩ | refine ⟨i_tyS, ?_⟩)))
  refine ⟨a, c, _, _, rfl, hD1, by omega, by decide, by decide, fun r S2 h0 h1 hx2 hD2 => ?_⟩
  (repeat (with_reducible (first | refine i_seq ?_ | refine i_next ?_ | refine i_break ?_ | refine i_cont ?_ | refine i_drop ?_ | refine i_ret ?_ | refine i_retN ?_ | refine i_if ?_ | refine i_asg ?_ | refine i_par ?_ | refine i_for ?_ | refine i_nm ?_ | refine i_tp ?_ | refine i_gcons ?_ | refine i_gnil ?_ | refine i_gsub ?_ | refine i_c ?_ | refine i_anil ?_ | refine i_acons ?_ | refine i_tup ?_ | refine i_lst ?_ | refine i_op ?_ | refine i_un ?_ | refine i_call ?_ | refine i_fn ?_ | refine i_test ?_ | refine i_and ?_ | refine i_or ?_ | refine i_not ?_ | refine i_ifx ?_ | refine i_andV ?_ | refine i_orV ?_ | refine i_notV ?_ | refine i_meth ?_ | refine i_sl ?_ | refine i_nopart ?_ | refine i_part ?_ | refine i_revL ?_ | refine i_sortKey ?_ | refine i_sortSet ?_ | refine i_rg1 ?_ | refine i_seqS ?_ | refine i_revR ?_ | refine i_lc ?_ | refine i_yes ?_ | refine i_seqT ?_ | refine i_seqX ?_ | refine i_addI ?_ | refine i_subI ?_ | refine i_negI ?_ | refine i_iaddI ?_ | refine i_eqI ?_ | refine i_neI ?_ | refine i_eqX ?_ | refine i_neX ?_ | refine i_ltI ?_ | refine i_gtI ?_ | refine i_leI ?_ | refine i_geI ?_ | refine i_lenT ?_ | refine i_absI ?_ | refine i_intI ?_ | refine i_lstT ?_ | refine i_slT ?_ | refine i_iteT ?_ | refine i_iteF ?_ | refine i_var (by with_unfolding_all rfl) ?_ | refine i_aug (by with_unfolding_all rfl) ?_ | refine i_ixT (by with_unfolding_all rfl) ?_ | refine ⟨_, _, rfl, ?_⟩ | refine ⟨_, rfl, ?_⟩ | refine ⟨rfl, ?_⟩ | refine ⟨i_tyS, ?_⟩)))
  refine ⟨a, c, f, _, ss, _, _, rfl, hD2, by omega, hx2 _ _ hF nf.1 nf.2, nf.1, nf.2, hss, hz (List.length_pos_iff.mpr hne), by omega, by omega, by omega, by decide, fun p S3 ms hms hok hp h3 hx3 hD3 => ?_⟩
  (repeat (with_reducible (first | refine i_seq ?_ | refine i_next ?_ | refine i_break ?_ | refine i_cont ?_ | refine i_drop ?_ | refine i_ret ?_ | refine i_retN ?_ | refine i_if ?_ | refine i_asg ?_ | refine i_par ?_ | refine i_for ?_ | refine i_nm ?_ | refine i_tp ?_ | refine i_gcons ?_ | refine i_gnil ?_ | refine i_gsub ?_ | refine i_c ?_ | refine i_anil ?_ | refine i_acons ?_ | refine i_tup ?_ | refine i_lst ?_ | refine i_op ?_ | refine i_un ?_ | refine i_call ?_ | refine i_fn ?_ | refine i_test ?_ | refine i_and ?_ | refine i_or ?_ | refine i_not ?_ | refine i_ifx ?_ | refine i_andV ?_ | refine i_orV ?_ | refine i_notV ?_ | refine i_meth ?_ | refine i_sl ?_ | refine i_nopart ?_ | refine i_part ?_ | refine i_revL ?_ | refine i_sortKey ?_ | refine i_sortSet ?_ | refine i_rg1 ?_ | refine i_seqS ?_ | refine i_revR ?_ | refine i_lc ?_ | refine i_yes ?_ | refine i_seqT ?_ | refine i_seqX ?_ | refine i_addI ?_ | refine i_subI ?_ | refine i_negI ?_ | refine i_iaddI ?_ | refine i_eqI ?_ | refine i_neI ?_ | refine i_eqX ?_ | refine i_neX ?_ | refine i_ltI ?_ | refine i_gtI ?_ | refine i_leI ?_ | refine i_geI ?_ | refine i_lenT ?_ | refine i_absI ?_ | refine i_intI ?_ | refine i_lstT ?_ | refine i_slT ?_ | refine i_iteT ?_ | refine i_iteF ?_ | refine i_var (by with_unfolding_all rfl) ?_ | refine i_aug (by with_unfolding_all rfl) ?_ | refine i_ixT (by with_unfolding_all rfl) ?_ | refine ⟨_, _, rfl, ?_⟩ | refine ⟨_, rfl, ?_⟩ | refine ⟨rfl, ?_⟩ | refine ⟨i_tyS, ?_⟩)))
  refine i_ixL h3 (negOne (x := (ms.getLast hms).d) (by rw [List.getLast?_map, List.getLast?_eq_some_getLast hms]; rfl)) ?_
  obtain ⟨g1, g2⟩ := hok _ (List.getLast_mem hms)
  exact q _ _ g1 (by omega) (((Ext.of hk1).trans hx2).trans hx3) (hD3.mono (by omega))

/-! ### plans -/
abbrev Row := Str × List Nat
def natD (n : Nat) : D := .int (n : Int)
def Row.d (r : Row) : D := .tup [.str r.1, .tup (r.2.map natD)]
def planD (P : List Row) : D := .tup (P.map Row.d)
/-- P tells how the mazes B are built -/
structure PlanM (P : List Row) (B : List Mz) : Prop where
  len : B.length = P.length
  row : ∀ (i : Nat) (r : Row), P[i]? = some r → ∃ bs, B[i]? = some (Mz.mk r.1 bs) ∧ bs.length = r.2.length ∧ r.2.length ≤ 2 ∧ ∀ (j n : Nat), r.2[j]? = some n → n < i ∧ ∃ b, bs[j]? = some b ∧ B[n]? = some b
  ok : ∀ m ∈ B, m.Ok
theorem PlanM.nil : PlanM [] [] := ⟨rfl, fun i r h => by simp at h, fun _ h => nomatch h⟩
theorem picks {B : List Mz} : ∀ {ns : List Nat}, (∀ n ∈ ns, n < B.length) → ∃ bs : List Mz, bs.length = ns.length ∧ ∀ (j n : Nat), ns[j]? = some n → ∃ b, bs[j]? = some b ∧ B[n]? = some b
  | [], _ => ⟨[], rfl, fun j i h => by simp at h⟩
  | i :: ps, h => by
    have hi := h i List.mem_cons_self
    obtain ⟨qs, h1, h2⟩ := picks (ns := ps) fun j hj => h j (List.mem_cons_of_mem _ hj)
    refine ⟨B[i] :: qs, by simp [h1], fun j i' e => ?_⟩
    cases j with
    | zero => simp at e; subst e; exact ⟨B[i], rfl, List.getElem?_eq_getElem hi⟩
    | succ j => simpa using h2 j i' (by simpa using e)
theorem PlanM.snoc {P : List Row} {B : List Mz} {s : Str} {ns : List Nat} (h : PlanM P B) (hs : SignOk s) (hn : ∀ n ∈ ns, n < P.length) (hl : ns.length ≤ 2) : ∃ m, PlanM (P ++ [(s, ns)]) (B ++ [m]) := by
  obtain ⟨bs, h1, h2⟩ := picks (B := B) (ns := ns) fun n x => by rw [h.len]; exact hn n x
  refine ⟨Mz.mk s bs, by simp [h.len], fun i r e => ?_, fun m hm => ?_⟩
  · by_cases hi : i < P.length
    · rw [List.getElem?_append_left hi] at e
      obtain ⟨cs, c1, c2, c3, c4⟩ := h.row i r e
      refine ⟨cs, by rw [List.getElem?_append_left (by rw [h.len]; exact hi)]; exact c1, c2, c3, fun j n hj => ?_⟩
      obtain ⟨d1, b, d2, d3⟩ := c4 j n hj
      exact ⟨d1, b, d2, by rw [List.getElem?_append_left (by rw [h.len]; omega)]; exact d3⟩
    · have hi' : i = P.length := by
        have := (List.getElem?_eq_some_iff.mp e).1
        rw [List.length_append, List.length_singleton] at this
        omega
      subst hi'
      rw [List.getElem?_append_right (Nat.le_refl _), Nat.sub_self] at e
      simp at e
      subst e
      refine ⟨bs, by rw [List.getElem?_append_right (by rw [h.len]; exact Nat.le_refl _), h.len, Nat.sub_self]; rfl, h1, hl, fun j n hj => ?_⟩
      obtain ⟨b, d2, d3⟩ := h2 j n hj
      have hlt := hn n (List.mem_of_getElem? hj)
      exact ⟨hlt, b, d2, by rw [List.getElem?_append_left (by rw [h.len]; exact hlt)]; exact d3⟩
  · rcases List.mem_append.mp hm with x | x
    · exact h.ok m x
    · rw [List.mem_singleton.mp x]
      refine (Mz.ok_eq _).mpr ⟨hs, by show bs.length ≤ 2; omega, fun b hb => ?_⟩
      obtain ⟨j, hj⟩ := List.getElem?_of_mem (show b ∈ bs from hb)
      have hjl := (List.getElem?_eq_some_iff.mp hj).1
      obtain ⟨n, hn'⟩ : ∃ n, ns[j]? = some n := ⟨_, List.getElem?_eq_getElem (by omega)⟩
      obtain ⟨b2, e1, e2⟩ := h2 j n hn'
      rw [hj] at e1
      cases e1
      exact h.ok _ (List.mem_of_getElem? e2)
theorem PlanM.drop {P : List Row} {B : List Mz} (h : PlanM P B) : PlanM P.dropLast B.dropLast := by
  refine ⟨by rw [List.length_dropLast, List.length_dropLast, h.len], fun i r e => ?_, fun m hm => h.ok m (List.dropLast_subset _ hm)⟩
  rw [List.dropLast_eq_take] at e
  rw [List.getElem?_take] at e
  split at e
  · rename_i hi
    obtain ⟨cs, c1, c2, c3, c4⟩ := h.row i r e
    have hb : ∀ n, n < P.length - 1 → B.dropLast[n]? = B[n]? := fun n hn => by rw [List.dropLast_eq_take, List.getElem?_take, h.len, if_pos hn]
    refine ⟨cs, by rw [hb i hi]; exact c1, c2, c3, fun j n hj => ?_⟩
    obtain ⟨d1, b, d2, d3⟩ := c4 j n hj
    exact ⟨d1, b, d2, by rw [hb n (by omega)]; exact d3⟩
  · cases e
theorem atI_nat {α : Type} {xs : List α} {n : Nat} {x : α} (h : xs[n]? = some x) : atI xs (n : Int) = some x := by
  have hn := (List.getElem?_eq_some_iff.mp h).1
  obtain ⟨y, e1, _, _, e4⟩ := atI_in (xs := xs) (i := (n : Int)) (by omega) (by omega)
  rw [Int.toNat_natCast, h] at e4
  rw [e1, ← e4]

def sp_law_size : Spa := fun ds S Q => ∃ P B m, ds = [planD P] ∧ PlanM P B ∧ B.getLast? = some m ∧ P.length ≤ 1000 ∧ ∀ S', Keeps S S' → Q (.int (m.size : Int)) S'
def n_law_size : List Str := ["_law_plan_here", "_law_sizes", "_law_sign", "_law_numbers", "_law_number"]
def t_law_size : TSa :=
  (aSeq (aAsg (aLst aNil) (gNm 1))
  (aSeq (aFor (iSeq (aVar 0)) (gTp 2 (gConsA (gNm 2) (gConsA (gNm 3) gNilA))) (aDrop (aMeth "list" appendA (aVar 1) (aCons (aOp addA (aC (.int 1)) (aCall sumA (aCons (aLc (iSeq (aVar 3)) (gNm 4) aYes (aOp ixA (aVar 1) (aVar 4)) (ownIx ([("_law_number", 4)] : List (Str × Nat)))) aNil))) aNil))))
  (aRet (aOp ixA (aVar 1) (aUn negA (aC (.int 1)))))))
theorem pl_law_size : ∀ ds S Q, ds.length = 1 → sp_law_size ds S Q → semA n_law_size t_law_size ds S Q := by
  rintro ds S Q _ ⟨P, B, m, rfl, hP, hm, hl, q⟩
  unfold semA t_law_size planD
  have hBl := hP.len
  (repeat (with_reducible (first | refine i_seq ?_ | refine i_next ?_ | refine i_break ?_ | refine i_cont ?_ | refine i_drop ?_ | refine i_ret ?_ | refine i_retN ?_ | refine i_if ?_ | refine i_asg ?_ | refine i_par ?_ | refine i_for ?_ | refine i_nm ?_ | refine i_tp ?_ | refine i_gcons ?_ | refine i_gnil ?_ | refine i_gsub ?_ | refine i_c ?_ | refine i_anil ?_ | refine i_acons ?_ | refine i_tup ?_ | refine i_lst ?_ | refine i_op ?_ | refine i_un ?_ | refine i_call ?_ | refine i_fn ?_ | refine i_test ?_ | refine i_and ?_ | refine i_or ?_ | refine i_not ?_ | refine i_ifx ?_ | refine i_andV ?_ | refine i_orV ?_ | refine i_notV ?_ | refine i_meth ?_ | refine i_sl ?_ | refine i_nopart ?_ | refine i_part ?_ | refine i_revL ?_ | refine i_sortKey ?_ | refine i_sortSet ?_ | refine i_rg1 ?_ | refine i_seqS ?_ | refine i_revR ?_ | refine i_lc ?_ | refine i_yes ?_ | refine i_seqT ?_ | refine i_seqX ?_ | refine i_addI ?_ | refine i_subI ?_ | refine i_negI ?_ | refine i_iaddI ?_ | refine i_eqI ?_ | refine i_neI ?_ | refine i_eqX ?_ | refine i_neX ?_ | refine i_ltI ?_ | refine i_gtI ?_ | refine i_leI ?_ | refine i_geI ?_ | refine i_lenT ?_ | refine i_absI ?_ | refine i_intI ?_ | refine i_lstT ?_ | refine i_slT ?_ | refine i_iteT ?_ | refine i_iteF ?_ | refine i_var (by with_unfolding_all rfl) ?_ | refine i_aug (by with_unfolding_all rfl) ?_ | refine i_ixT (by with_unfolding_all rfl) ?_ | refine ⟨_, _, rfl, ?_⟩ | refine ⟨_, rfl, ?_⟩ | refine ⟨rfl, ?_⟩ | refine ⟨i_tyS, ?_⟩)))
  refine ⟨by simp [sizeLine_eq], fun z hz => ?_⟩
  (repeat (with_reducible (first | refine i_seq ?_ | refine i_next ?_ | refine i_break ?_ | refine i_cont ?_ | refine i_drop ?_ | refine i_ret ?_ | refine i_retN ?_ | refine i_if ?_ | refine i_asg ?_ | refine i_par ?_ | refine i_for ?_ | refine i_nm ?_ | refine i_tp ?_ | refine i_gcons ?_ | refine i_gnil ?_ | refine i_gsub ?_ | refine i_c ?_ | refine i_anil ?_ | refine i_acons ?_ | refine i_tup ?_ | refine i_lst ?_ | refine i_op ?_ | refine i_un ?_ | refine i_call ?_ | refine i_fn ?_ | refine i_test ?_ | refine i_and ?_ | refine i_or ?_ | refine i_not ?_ | refine i_ifx ?_ | refine i_andV ?_ | refine i_orV ?_ | refine i_notV ?_ | refine i_meth ?_ | refine i_sl ?_ | refine i_nopart ?_ | refine i_part ?_ | refine i_revL ?_ | refine i_sortKey ?_ | refine i_sortSet ?_ | refine i_rg1 ?_ | refine i_seqS ?_ | refine i_revR ?_ | refine i_lc ?_ | refine i_yes ?_ | refine i_seqT ?_ | refine i_seqX ?_ | refine i_addI ?_ | refine i_subI ?_ | refine i_negI ?_ | refine i_iaddI ?_ | refine i_eqI ?_ | refine i_neI ?_ | refine i_eqX ?_ | refine i_neX ?_ | refine i_ltI ?_ | refine i_gtI ?_ | refine i_leI ?_ | refine i_geI ?_ | refine i_lenT ?_ | refine i_absI ?_ | refine i_intI ?_ | refine i_lstT ?_ | refine i_slT ?_ | refine i_iteT ?_ | refine i_iteF ?_ | refine i_var (by with_unfolding_all rfl) ?_ | refine i_aug (by with_unfolding_all rfl) ?_ | refine i_ixT (by with_unfolding_all rfl) ?_ | refine ⟨_, _, rfl, ?_⟩ | refine ⟨_, rfl, ?_⟩ | refine ⟨rfl, ?_⟩ | refine ⟨i_tyS, ?_⟩)))
  refine for_inv (P := fun i l S' => (∃ x2 x3 x4, l = [some (.tup (P.map Row.d)), some (.ref z), x2, x3, x4]) ∧ S' z = some (.lst (((B.take i).map fun m => (m.size : Int)).map D.int)) ∧ Keeps S S') ⟨⟨_, _, _, rfl⟩, put_same, Keeps.new hz⟩ (fun _ _ _ _ _ => trivial) ?_ ?_
  · rintro i d l S1 K1 hd ⟨⟨x2, x3, x4, rfl⟩, hZ, hk⟩ hK
    rw [List.getElem?_map, Option.map_eq_some_iff] at hd
    obtain ⟨r, hr, rfl⟩ := hd
    obtain ⟨bs, b1, b2, b3, b4⟩ := hP.row i r hr
    have hi := (List.getElem?_eq_some_iff.mp hr).1
    show gTp 2 _ (D.tup [.str r.1, .tup (r.2.map natD)]) _ _ _
    (repeat (with_reducible (first | refine i_seq ?_ | refine i_next ?_ | refine i_break ?_ | refine i_cont ?_ | refine i_drop ?_ | refine i_ret ?_ | refine i_retN ?_ | refine i_if ?_ | refine i_asg ?_ | refine i_par ?_ | refine i_for ?_ | refine i_nm ?_ | refine i_tp ?_ | refine i_gcons ?_ | refine i_gnil ?_ | refine i_gsub ?_ | refine i_c ?_ | refine i_anil ?_ | refine i_acons ?_ | refine i_tup ?_ | refine i_lst ?_ | refine i_op ?_ | refine i_un ?_ | refine i_call ?_ | refine i_fn ?_ | refine i_test ?_ | refine i_and ?_ | refine i_or ?_ | refine i_not ?_ | refine i_ifx ?_ | refine i_andV ?_ | refine i_orV ?_ | refine i_notV ?_ | refine i_meth ?_ | refine i_sl ?_ | refine i_nopart ?_ | refine i_part ?_ | refine i_revL ?_ | refine i_sortKey ?_ | refine i_sortSet ?_ | refine i_rg1 ?_ | refine i_seqS ?_ | refine i_revR ?_ | refine i_lc ?_ | refine i_yes ?_ | refine i_seqT ?_ | refine i_seqX ?_ | refine i_addI ?_ | refine i_subI ?_ | refine i_negI ?_ | refine i_iaddI ?_ | refine i_eqI ?_ | refine i_neI ?_ | refine i_eqX ?_ | refine i_neX ?_ | refine i_ltI ?_ | refine i_gtI ?_ | refine i_leI ?_ | refine i_geI ?_ | refine i_lenT ?_ | refine i_absI ?_ | refine i_intI ?_ | refine i_lstT ?_ | refine i_slT ?_ | refine i_iteT ?_ | refine i_iteF ?_ | refine i_var (by with_unfolding_all rfl) ?_ | refine i_aug (by with_unfolding_all rfl) ?_ | refine i_ixT (by with_unfolding_all rfl) ?_ | refine ⟨_, _, rfl, ?_⟩ | refine ⟨_, rfl, ?_⟩ | refine ⟨rfl, ?_⟩ | refine ⟨i_tyS, ?_⟩)))
    refine ⟨i_tyL hZ, ?_⟩
    (repeat (with_reducible (first | refine i_seq ?_ | refine i_next ?_ | refine i_break ?_ | refine i_cont ?_ | refine i_drop ?_ | refine i_ret ?_ | refine i_retN ?_ | refine i_if ?_ | refine i_asg ?_ | refine i_par ?_ | refine i_for ?_ | refine i_nm ?_ | refine i_tp ?_ | refine i_gcons ?_ | refine i_gnil ?_ | refine i_gsub ?_ | refine i_c ?_ | refine i_anil ?_ | refine i_acons ?_ | refine i_tup ?_ | refine i_lst ?_ | refine i_op ?_ | refine i_un ?_ | refine i_call ?_ | refine i_fn ?_ | refine i_test ?_ | refine i_and ?_ | refine i_or ?_ | refine i_not ?_ | refine i_ifx ?_ | refine i_andV ?_ | refine i_orV ?_ | refine i_notV ?_ | refine i_meth ?_ | refine i_sl ?_ | refine i_nopart ?_ | refine i_part ?_ | refine i_revL ?_ | refine i_sortKey ?_ | refine i_sortSet ?_ | refine i_rg1 ?_ | refine i_seqS ?_ | refine i_revR ?_ | refine i_lc ?_ | refine i_yes ?_ | refine i_seqT ?_ | refine i_seqX ?_ | refine i_addI ?_ | refine i_subI ?_ | refine i_negI ?_ | refine i_iaddI ?_ | refine i_eqI ?_ | refine i_neI ?_ | refine i_eqX ?_ | refine i_neX ?_ | refine i_ltI ?_ | refine i_gtI ?_ | refine i_leI ?_ | refine i_geI ?_ | refine i_lenT ?_ | refine i_absI ?_ | refine i_intI ?_ | refine i_lstT ?_ | refine i_slT ?_ | refine i_iteT ?_ | refine i_iteF ?_ | refine i_var (by with_unfolding_all rfl) ?_ | refine i_aug (by with_unfolding_all rfl) ?_ | refine i_ixT (by with_unfolding_all rfl) ?_ | refine ⟨_, _, rfl, ?_⟩ | refine ⟨_, rfl, ?_⟩ | refine ⟨rfl, ?_⟩ | refine ⟨i_tyS, ?_⟩)))
    refine lc_inv (P := fun j acc S' => S' = S1 ∧ acc = ((bs.take j).map fun b => (b.size : Int)).map D.int) ⟨rfl, rfl⟩ (fun _ _ _ _ _ => trivial) ?_ ?_
    · rintro j d acc S2 K2 hd ⟨rfl, rfl⟩ hK2
      rw [List.getElem?_map, Option.map_eq_some_iff] at hd
      obtain ⟨n, hn, rfl⟩ := hd
      obtain ⟨d1, b, d2, d3⟩ := b4 j n hn
      show gNm 4 (D.int (n : Int)) _ _ _
      (repeat (with_reducible (first | refine i_seq ?_ | refine i_next ?_ | refine i_break ?_ | refine i_cont ?_ | refine i_drop ?_ | refine i_ret ?_ | refine i_retN ?_ | refine i_if ?_ | refine i_asg ?_ | refine i_par ?_ | refine i_for ?_ | refine i_nm ?_ | refine i_tp ?_ | refine i_gcons ?_ | refine i_gnil ?_ | refine i_gsub ?_ | refine i_c ?_ | refine i_anil ?_ | refine i_acons ?_ | refine i_tup ?_ | refine i_lst ?_ | refine i_op ?_ | refine i_un ?_ | refine i_call ?_ | refine i_fn ?_ | refine i_test ?_ | refine i_and ?_ | refine i_or ?_ | refine i_not ?_ | refine i_ifx ?_ | refine i_andV ?_ | refine i_orV ?_ | refine i_notV ?_ | refine i_meth ?_ | refine i_sl ?_ | refine i_nopart ?_ | refine i_part ?_ | refine i_revL ?_ | refine i_sortKey ?_ | refine i_sortSet ?_ | refine i_rg1 ?_ | refine i_seqS ?_ | refine i_revR ?_ | refine i_lc ?_ | refine i_yes ?_ | refine i_seqT ?_ | refine i_seqX ?_ | refine i_addI ?_ | refine i_subI ?_ | refine i_negI ?_ | refine i_iaddI ?_ | refine i_eqI ?_ | refine i_neI ?_ | refine i_eqX ?_ | refine i_neX ?_ | refine i_ltI ?_ | refine i_gtI ?_ | refine i_leI ?_ | refine i_geI ?_ | refine i_lenT ?_ | refine i_absI ?_ | refine i_intI ?_ | refine i_lstT ?_ | refine i_slT ?_ | refine i_iteT ?_ | refine i_iteF ?_ | refine i_var (by with_unfolding_all rfl) ?_ | refine i_aug (by with_unfolding_all rfl) ?_ | refine i_ixT (by with_unfolding_all rfl) ?_ | refine ⟨_, _, rfl, ?_⟩ | refine ⟨_, rfl, ?_⟩ | refine ⟨rfl, ?_⟩ | refine ⟨i_tyS, ?_⟩)))
      refine i_ixL hZ (atI_nat (x := D.int (b.size : Int)) (by rw [List.getElem?_map, List.getElem?_map, List.getElem?_take, if_pos d1, d3]; rfl)) ?_
      refine ⟨by rw [List.length_map, List.length_map, List.length_take, sizeLine_eq]; omega, hK2 _ _ ⟨rfl, by rw [take_snoc d2, List.map_append, List.map_append]; rfl⟩⟩
    rintro acc S2 ⟨rfl, rfl⟩ p hp
    rw [List.length_map, ← b2, List.take_length]
    have npz : p ≠ z := fun e => by subst e; rw [hZ] at hp; cases hp
    (repeat (with_reducible (first | refine i_seq ?_ | refine i_next ?_ | refine i_break ?_ | refine i_cont ?_ | refine i_drop ?_ | refine i_ret ?_ | refine i_retN ?_ | refine i_if ?_ | refine i_asg ?_ | refine i_par ?_ | refine i_for ?_ | refine i_nm ?_ | refine i_tp ?_ | refine i_gcons ?_ | refine i_gnil ?_ | refine i_gsub ?_ | refine i_c ?_ | refine i_anil ?_ | refine i_acons ?_ | refine i_tup ?_ | refine i_lst ?_ | refine i_op ?_ | refine i_un ?_ | refine i_call ?_ | refine i_fn ?_ | refine i_test ?_ | refine i_and ?_ | refine i_or ?_ | refine i_not ?_ | refine i_ifx ?_ | refine i_andV ?_ | refine i_orV ?_ | refine i_notV ?_ | refine i_meth ?_ | refine i_sl ?_ | refine i_nopart ?_ | refine i_part ?_ | refine i_revL ?_ | refine i_sortKey ?_ | refine i_sortSet ?_ | refine i_rg1 ?_ | refine i_seqS ?_ | refine i_revR ?_ | refine i_lc ?_ | refine i_yes ?_ | refine i_seqT ?_ | refine i_seqX ?_ | refine i_addI ?_ | refine i_subI ?_ | refine i_negI ?_ | refine i_iaddI ?_ | refine i_eqI ?_ | refine i_neI ?_ | refine i_eqX ?_ | refine i_neX ?_ | refine i_ltI ?_ | refine i_gtI ?_ | refine i_leI ?_ | refine i_geI ?_ | refine i_lenT ?_ | refine i_absI ?_ | refine i_intI ?_ | refine i_lstT ?_ | refine i_slT ?_ | refine i_iteT ?_ | refine i_iteF ?_ | refine i_var (by with_unfolding_all rfl) ?_ | refine i_aug (by with_unfolding_all rfl) ?_ | refine i_ixT (by with_unfolding_all rfl) ?_ | refine ⟨_, _, rfl, ?_⟩ | refine ⟨_, rfl, ?_⟩ | refine ⟨rfl, ?_⟩ | refine ⟨i_tyS, ?_⟩)))
    refine i_sumL put_same ?_
    rw [sum_cast]
    refine i_addI ?_
    have e : (1 : Int) + (((bs.map Mz.size).sum : Nat) : Int) = (((Mz.mk r.1 bs).size : Nat) : Int) := by rw [Mz.size_eq (Mz.mk r.1 bs)]; show _ = ((1 + (bs.map Mz.size).sum : Nat) : Int); omega
    rw [e]
    (repeat (with_reducible (first | refine i_seq ?_ | refine i_next ?_ | refine i_break ?_ | refine i_cont ?_ | refine i_drop ?_ | refine i_ret ?_ | refine i_retN ?_ | refine i_if ?_ | refine i_asg ?_ | refine i_par ?_ | refine i_for ?_ | refine i_nm ?_ | refine i_tp ?_ | refine i_gcons ?_ | refine i_gnil ?_ | refine i_gsub ?_ | refine i_c ?_ | refine i_anil ?_ | refine i_acons ?_ | refine i_tup ?_ | refine i_lst ?_ | refine i_op ?_ | refine i_un ?_ | refine i_call ?_ | refine i_fn ?_ | refine i_test ?_ | refine i_and ?_ | refine i_or ?_ | refine i_not ?_ | refine i_ifx ?_ | refine i_andV ?_ | refine i_orV ?_ | refine i_notV ?_ | refine i_meth ?_ | refine i_sl ?_ | refine i_nopart ?_ | refine i_part ?_ | refine i_revL ?_ | refine i_sortKey ?_ | refine i_sortSet ?_ | refine i_rg1 ?_ | refine i_seqS ?_ | refine i_revR ?_ | refine i_lc ?_ | refine i_yes ?_ | refine i_seqT ?_ | refine i_seqX ?_ | refine i_addI ?_ | refine i_subI ?_ | refine i_negI ?_ | refine i_iaddI ?_ | refine i_eqI ?_ | refine i_neI ?_ | refine i_eqX ?_ | refine i_neX ?_ | refine i_ltI ?_ | refine i_gtI ?_ | refine i_leI ?_ | refine i_geI ?_ | refine i_lenT ?_ | refine i_absI ?_ | refine i_intI ?_ | refine i_lstT ?_ | refine i_slT ?_ | refine i_iteT ?_ | refine i_iteF ?_ | refine i_var (by with_unfolding_all rfl) ?_ | refine i_aug (by with_unfolding_all rfl) ?_ | refine i_ixT (by with_unfolding_all rfl) ?_ | refine ⟨_, _, rfl, ?_⟩ | refine ⟨_, rfl, ?_⟩ | refine ⟨rfl, ?_⟩ | refine ⟨i_tyS, ?_⟩)))
    refine i_append (by rw [put_ne npz.symm]; exact hZ) (by rw [List.length_map, List.length_map, List.length_take, sizeLine_eq]; omega) ?_
    exact hK _ _ ⟨⟨_, _, _, rfl⟩, by rw [put_same, take_snoc b1, List.map_append, List.map_append]; rfl, (hk.trans (Keeps.new hp)).chg hz⟩
  rintro l S1 ⟨⟨x2, x3, x4, rfl⟩, hZ, hk⟩
  rw [List.length_map, ← hBl, List.take_length] at hZ
  (repeat (with_reducible (first | refine i_seq ?_ | refine i_next ?_ | refine i_break ?_ | refine i_cont ?_ | refine i_drop ?_ | refine i_ret ?_ | refine i_retN ?_ | refine i_if ?_ | refine i_asg ?_ | refine i_par ?_ | refine i_for ?_ | refine i_nm ?_ | refine i_tp ?_ | refine i_gcons ?_ | refine i_gnil ?_ | refine i_gsub ?_ | refine i_c ?_ | refine i_anil ?_ | refine i_acons ?_ | refine i_tup ?_ | refine i_lst ?_ | refine i_op ?_ | refine i_un ?_ | refine i_call ?_ | refine i_fn ?_ | refine i_test ?_ | refine i_and ?_ | refine i_or ?_ | refine i_not ?_ | refine i_ifx ?_ | refine i_andV ?_ | refine i_orV ?_ | refine i_notV ?_ | refine i_meth ?_ | refine i_sl ?_ | refine i_nopart ?_ | refine i_part ?_ | refine i_revL ?_ | refine i_sortKey ?_ | refine i_sortSet ?_ | refine i_rg1 ?_ | refine i_seqS ?_ | refine i_revR ?_ | refine i_lc ?_ | refine i_yes ?_ | refine i_seqT ?_ | refine i_seqX ?_ | refine i_addI ?_ | refine i_subI ?_ | refine i_negI ?_ | refine i_iaddI ?_ | refine i_eqI ?_ | refine i_neI ?_ | refine i_eqX ?_ | refine i_neX ?_ | refine i_ltI ?_ | refine i_gtI ?_ | refine i_leI ?_ | refine i_geI ?_ | refine i_lenT ?_ | refine i_absI ?_ | refine i_intI ?_ | refine i_lstT ?_ | refine i_slT ?_ | refine i_iteT ?_ | refine i_iteF ?_ | refine i_var (by with_unfolding_all rfl) ?_ | refine i_aug (by with_unfolding_all rfl) ?_ | refine i_ixT (by with_unfolding_all rfl) ?_ | refine ⟨_, _, rfl, ?_⟩ | refine ⟨_, rfl, ?_⟩ | refine ⟨rfl, ?_⟩ | refine ⟨i_tyS, ?_⟩)))
  refine i_ixL hZ (negOne (x := D.int (m.size : Int)) (by rw [List.getLast?_map, List.getLast?_map, hm]; rfl)) ?_
  exact q _ hk

def sp_law_unfolded : Spa := fun ds S Q => ∃ P B m, ds = [planD P] ∧ PlanM P B ∧ B.getLast? = some m ∧ P.length ≤ 1000 ∧ ∀ S', Keeps S S' → Q m.d S'
def n_law_unfolded : List Str := ["_law_plan_here", "_law_mazes_here", "_law_sign", "_law_numbers", "_law_number"]
def t_law_unfolded : TSa :=
  (aSeq (aAsg (aLst aNil) (gNm 1))
  (aSeq (aFor (iSeq (aVar 0)) (gTp 2 (gConsA (gNm 2) (gConsA (gNm 3) gNilA))) (aDrop (aMeth "list" appendA (aVar 1) (aCons (aTup (aCons (aVar 2) (aCons (aCall tupleA (aCons (aLc (iSeq (aVar 3)) (gNm 4) aYes (aOp ixA (aVar 1) (aVar 4)) (ownIx ([("_law_number", 4)] : List (Str × Nat)))) aNil)) aNil))) aNil))))
  (aRet (aOp ixA (aVar 1) (aUn negA (aC (.int 1)))))))
theorem pl_law_unfolded : ∀ ds S Q, ds.length = 1 → sp_law_unfolded ds S Q → semA n_law_unfolded t_law_unfolded ds S Q := by
  rintro ds S Q _ ⟨P, B, m, rfl, hP, hm, hl, q⟩
  unfold semA t_law_unfolded planD
  have hBl := hP.len
  (repeat (with_reducible (first | refine i_seq ?_ | refine i_next ?_ | refine i_break ?_ | refine i_cont ?_ | refine i_drop ?_ | refine i_ret ?_ | refine i_retN ?_ | refine i_if ?_ | refine i_asg ?_ | refine i_par ?_ | refine i_for ?_ | refine i_nm ?_ | refine i_tp ?_ | refine i_gcons ?_ | refine i_gnil ?_ | refine i_gsub ?_ | refine i_c ?_ | refine i_anil ?_ | refine i_acons ?_ | refine i_tup ?_ | refine i_lst ?_ | refine i_op ?_ | refine i_un ?_ | refine i_call ?_ | refine i_fn ?_ | refine i_test ?_ | refine i_and ?_ | refine i_or ?_ | refine i_not ?_ | refine i_ifx ?_ | refine i_andV ?_ | refine i_orV ?_ | refine i_notV ?_ | refine i_meth ?_ | refine i_sl ?_ | refine i_nopart ?_ | refine i_part ?_ | refine i_revL ?_ | refine i_sortKey ?_ | refine i_sortSet ?_ | refine i_rg1 ?_ | refine i_seqS ?_ | refine i_revR ?_ | refine i_lc ?_ | refine i_yes ?_ | refine i_seqT ?_ | refine i_seqX ?_ | refine i_addI ?_ | refine i_subI ?_ | refine i_negI ?_ | refine i_iaddI ?_ | refine i_eqI ?_ | refine i_neI ?_ | refine i_eqX ?_ | refine i_neX ?_ | refine i_ltI ?_ | refine i_gtI ?_ | refine i_leI ?_ | refine i_geI ?_ | refine i_lenT ?_ | refine i_absI ?_ | refine i_intI ?_ | refine i_lstT ?_ | refine i_slT ?_ | refine i_iteT ?_ | refine i_iteF ?_ | refine i_var (by with_unfolding_all rfl) ?_ | refine i_aug (by with_unfolding_all rfl) ?_ | refine i_ixT (by with_unfolding_all rfl) ?_ | refine ⟨_, _, rfl, ?_⟩ | refine ⟨_, rfl, ?_⟩ | refine ⟨rfl, ?_⟩ | refine ⟨i_tyS, ?_⟩)))
  refine ⟨by simp [sizeLine_eq], fun z hz => ?_⟩
  (repeat (with_reducible (first | refine i_seq ?_ | refine i_next ?_ | refine i_break ?_ | refine i_cont ?_ | refine i_drop ?_ | refine i_ret ?_ | refine i_retN ?_ | refine i_if ?_ | refine i_asg ?_ | refine i_par ?_ | refine i_for ?_ | refine i_nm ?_ | refine i_tp ?_ | refine i_gcons ?_ | refine i_gnil ?_ | refine i_gsub ?_ | refine i_c ?_ | refine i_anil ?_ | refine i_acons ?_ | refine i_tup ?_ | refine i_lst ?_ | refine i_op ?_ | refine i_un ?_ | refine i_call ?_ | refine i_fn ?_ | refine i_test ?_ | refine i_and ?_ | refine i_or ?_ | refine i_not ?_ | refine i_ifx ?_ | refine i_andV ?_ | refine i_orV ?_ | refine i_notV ?_ | refine i_meth ?_ | refine i_sl ?_ | refine i_nopart ?_ | refine i_part ?_ | refine i_revL ?_ | refine i_sortKey ?_ | refine i_sortSet ?_ | refine i_rg1 ?_ | refine i_seqS ?_ | refine i_revR ?_ | refine i_lc ?_ | refine i_yes ?_ | refine i_seqT ?_ | refine i_seqX ?_ | refine i_addI ?_ | refine i_subI ?_ | refine i_negI ?_ | refine i_iaddI ?_ | refine i_eqI ?_ | refine i_neI ?_ | refine i_eqX ?_ | refine i_neX ?_ | refine i_ltI ?_ | refine i_gtI ?_ | refine i_leI ?_ | refine i_geI ?_ | refine i_lenT ?_ | refine i_absI ?_ | refine i_intI ?_ | refine i_lstT ?_ | refine i_slT ?_ | refine i_iteT ?_ | refine i_iteF ?_ | refine i_var (by with_unfolding_all rfl) ?_ | refine i_aug (by with_unfolding_all rfl) ?_ | refine i_ixT (by with_unfolding_all rfl) ?_ | refine ⟨_, _, rfl, ?_⟩ | refine ⟨_, rfl, ?_⟩ | refine ⟨rfl, ?_⟩ | refine ⟨i_tyS, ?_⟩)))
  refine for_inv (P := fun i l S' => (∃ x2 x3 x4, l = [some (.tup (P.map Row.d)), some (.ref z), x2, x3, x4]) ∧ S' z = some (.lst ((B.take i).map Mz.d)) ∧ Keeps S S') ⟨⟨_, _, _, rfl⟩, put_same, Keeps.new hz⟩ (fun _ _ _ _ _ => trivial) ?_ ?_
  · rintro i d l S1 K1 hd ⟨⟨x2, x3, x4, rfl⟩, hZ, hk⟩ hK
    rw [List.getElem?_map, Option.map_eq_some_iff] at hd
    obtain ⟨r, hr, rfl⟩ := hd
    obtain ⟨bs, b1, b2, b3, b4⟩ := hP.row i r hr
    have hi := (List.getElem?_eq_some_iff.mp hr).1
    show gTp 2 _ (D.tup [.str r.1, .tup (r.2.map natD)]) _ _ _
    (repeat (with_reducible (first | refine i_seq ?_ | refine i_next ?_ | refine i_break ?_ | refine i_cont ?_ | refine i_drop ?_ | refine i_ret ?_ | refine i_retN ?_ | refine i_if ?_ | refine i_asg ?_ | refine i_par ?_ | refine i_for ?_ | refine i_nm ?_ | refine i_tp ?_ | refine i_gcons ?_ | refine i_gnil ?_ | refine i_gsub ?_ | refine i_c ?_ | refine i_anil ?_ | refine i_acons ?_ | refine i_tup ?_ | refine i_lst ?_ | refine i_op ?_ | refine i_un ?_ | refine i_call ?_ | refine i_fn ?_ | refine i_test ?_ | refine i_and ?_ | refine i_or ?_ | refine i_not ?_ | refine i_ifx ?_ | refine i_andV ?_ | refine i_orV ?_ | refine i_notV ?_ | refine i_meth ?_ | refine i_sl ?_ | refine i_nopart ?_ | refine i_part ?_ | refine i_revL ?_ | refine i_sortKey ?_ | refine i_sortSet ?_ | refine i_rg1 ?_ | refine i_seqS ?_ | refine i_revR ?_ | refine i_lc ?_ | refine i_yes ?_ | refine i_seqT ?_ | refine i_seqX ?_ | refine i_addI ?_ | refine i_subI ?_ | refine i_negI ?_ | refine i_iaddI ?_ | refine i_eqI ?_ | refine i_neI ?_ | refine i_eqX ?_ | refine i_neX ?_ | refine i_ltI ?_ | refine i_gtI ?_ | refine i_leI ?_ | refine i_geI ?_ | refine i_lenT ?_ | refine i_absI ?_ | refine i_intI ?_ | refine i_lstT ?_ | refine i_slT ?_ | refine i_iteT ?_ | refine i_iteF ?_ | refine i_var (by with_unfolding_all rfl) ?_ | refine i_aug (by with_unfolding_all rfl) ?_ | refine i_ixT (by with_unfolding_all rfl) ?_ | refine ⟨_, _, rfl, ?_⟩ | refine ⟨_, rfl, ?_⟩ | refine ⟨rfl, ?_⟩ | refine ⟨i_tyS, ?_⟩)))
    refine ⟨i_tyL hZ, ?_⟩
    (repeat (with_reducible (first | refine i_seq ?_ | refine i_next ?_ | refine i_break ?_ | refine i_cont ?_ | refine i_drop ?_ | refine i_ret ?_ | refine i_retN ?_ | refine i_if ?_ | refine i_asg ?_ | refine i_par ?_ | refine i_for ?_ | refine i_nm ?_ | refine i_tp ?_ | refine i_gcons ?_ | refine i_gnil ?_ | refine i_gsub ?_ | refine i_c ?_ | refine i_anil ?_ | refine i_acons ?_ | refine i_tup ?_ | refine i_lst ?_ | refine i_op ?_ | refine i_un ?_ | refine i_call ?_ | refine i_fn ?_ | refine i_test ?_ | refine i_and ?_ | refine i_or ?_ | refine i_not ?_ | refine i_ifx ?_ | refine i_andV ?_ | refine i_orV ?_ | refine i_notV ?_ | refine i_meth ?_ | refine i_sl ?_ | refine i_nopart ?_ | refine i_part ?_ | refine i_revL ?_ | refine i_sortKey ?_ | refine i_sortSet ?_ | refine i_rg1 ?_ | refine i_seqS ?_ | refine i_revR ?_ | refine i_lc ?_ | refine i_yes ?_ | refine i_seqT ?_ | refine i_seqX ?_ | refine i_addI ?_ | refine i_subI ?_ | refine i_negI ?_ | refine i_iaddI ?_ | refine i_eqI ?_ | refine i_neI ?_ | refine i_eqX ?_ | refine i_neX ?_ | refine i_ltI ?_ | refine i_gtI ?_ | refine i_leI ?_ | refine i_geI ?_ | refine i_lenT ?_ | refine i_absI ?_ | refine i_intI ?_ | refine i_lstT ?_ | refine i_slT ?_ | refine i_iteT ?_ | refine i_iteF ?_ | refine i_var (by with_unfolding_all rfl) ?_ | refine i_aug (by with_unfolding_all rfl) ?_ | refine i_ixT (by with_unfolding_all rfl) ?_ | refine ⟨_, _, rfl, ?_⟩ | refine ⟨_, rfl, ?_⟩ | refine ⟨rfl, ?_⟩ | refine ⟨i_tyS, ?_⟩)))
    refine lc_inv (P := fun j acc S' => S' = S1 ∧ acc = (bs.take j).map Mz.d) ⟨rfl, rfl⟩ (fun _ _ _ _ _ => trivial) ?_ ?_
    · rintro j d acc S2 K2 hd ⟨rfl, rfl⟩ hK2
      rw [List.getElem?_map, Option.map_eq_some_iff] at hd
      obtain ⟨n, hn, rfl⟩ := hd
      obtain ⟨d1, b, d2, d3⟩ := b4 j n hn
      show gNm 4 (D.int (n : Int)) _ _ _
      (repeat (with_reducible (first | refine i_seq ?_ | refine i_next ?_ | refine i_break ?_ | refine i_cont ?_ | refine i_drop ?_ | refine i_ret ?_ | refine i_retN ?_ | refine i_if ?_ | refine i_asg ?_ | refine i_par ?_ | refine i_for ?_ | refine i_nm ?_ | refine i_tp ?_ | refine i_gcons ?_ | refine i_gnil ?_ | refine i_gsub ?_ | refine i_c ?_ | refine i_anil ?_ | refine i_acons ?_ | refine i_tup ?_ | refine i_lst ?_ | refine i_op ?_ | refine i_un ?_ | refine i_call ?_ | refine i_fn ?_ | refine i_test ?_ | refine i_and ?_ | refine i_or ?_ | refine i_not ?_ | refine i_ifx ?_ | refine i_andV ?_ | refine i_orV ?_ | refine i_notV ?_ | refine i_meth ?_ | refine i_sl ?_ | refine i_nopart ?_ | refine i_part ?_ | refine i_revL ?_ | refine i_sortKey ?_ | refine i_sortSet ?_ | refine i_rg1 ?_ | refine i_seqS ?_ | refine i_revR ?_ | refine i_lc ?_ | refine i_yes ?_ | refine i_seqT ?_ | refine i_seqX ?_ | refine i_addI ?_ | refine i_subI ?_ | refine i_negI ?_ | refine i_iaddI ?_ | refine i_eqI ?_ | refine i_neI ?_ | refine i_eqX ?_ | refine i_neX ?_ | refine i_ltI ?_ | refine i_gtI ?_ | refine i_leI ?_ | refine i_geI ?_ | refine i_lenT ?_ | refine i_absI ?_ | refine i_intI ?_ | refine i_lstT ?_ | refine i_slT ?_ | refine i_iteT ?_ | refine i_iteF ?_ | refine i_var (by with_unfolding_all rfl) ?_ | refine i_aug (by with_unfolding_all rfl) ?_ | refine i_ixT (by with_unfolding_all rfl) ?_ | refine ⟨_, _, rfl, ?_⟩ | refine ⟨_, rfl, ?_⟩ | refine ⟨rfl, ?_⟩ | refine ⟨i_tyS, ?_⟩)))
      refine i_ixL hZ (atI_nat (x := b.d) (by rw [List.getElem?_map, List.getElem?_take, if_pos d1, d3]; rfl)) ?_
      refine ⟨by rw [List.length_map, List.length_take, sizeLine_eq]; omega, hK2 _ _ ⟨rfl, by rw [take_snoc d2, List.map_append]; rfl⟩⟩
    rintro acc S2 ⟨rfl, rfl⟩ p hp
    rw [List.length_map, ← b2, List.take_length]
    have npz : p ≠ z := fun e => by subst e; rw [hZ] at hp; cases hp
    (repeat (with_reducible (first | refine i_seq ?_ | refine i_next ?_ | refine i_break ?_ | refine i_cont ?_ | refine i_drop ?_ | refine i_ret ?_ | refine i_retN ?_ | refine i_if ?_ | refine i_asg ?_ | refine i_par ?_ | refine i_for ?_ | refine i_nm ?_ | refine i_tp ?_ | refine i_gcons ?_ | refine i_gnil ?_ | refine i_gsub ?_ | refine i_c ?_ | refine i_anil ?_ | refine i_acons ?_ | refine i_tup ?_ | refine i_lst ?_ | refine i_op ?_ | refine i_un ?_ | refine i_call ?_ | refine i_fn ?_ | refine i_test ?_ | refine i_and ?_ | refine i_or ?_ | refine i_not ?_ | refine i_ifx ?_ | refine i_andV ?_ | refine i_orV ?_ | refine i_notV ?_ | refine i_meth ?_ | refine i_sl ?_ | refine i_nopart ?_ | refine i_part ?_ | refine i_revL ?_ | refine i_sortKey ?_ | refine i_sortSet ?_ | refine i_rg1 ?_ | refine i_seqS ?_ | refine i_revR ?_ | refine i_lc ?_ | refine i_yes ?_ | refine i_seqT ?_ | refine i_seqX ?_ | refine i_addI ?_ | refine i_subI ?_ | refine i_negI ?_ | refine i_iaddI ?_ | refine i_eqI ?_ | refine i_neI ?_ | refine i_eqX ?_ | refine i_neX ?_ | refine i_ltI ?_ | refine i_gtI ?_ | refine i_leI ?_ | refine i_geI ?_ | refine i_lenT ?_ | refine i_absI ?_ | refine i_intI ?_ | refine i_lstT ?_ | refine i_slT ?_ | refine i_iteT ?_ | refine i_iteF ?_ | refine i_var (by with_unfolding_all rfl) ?_ | refine i_aug (by with_unfolding_all rfl) ?_ | refine i_ixT (by with_unfolding_all rfl) ?_ | refine ⟨_, _, rfl, ?_⟩ | refine ⟨_, rfl, ?_⟩ | refine ⟨rfl, ?_⟩ | refine ⟨i_tyS, ?_⟩)))
    refine i_tupL put_same ?_
    (repeat (with_reducible (first | refine i_seq ?_ | refine i_next ?_ | refine i_break ?_ | refine i_cont ?_ | refine i_drop ?_ | refine i_ret ?_ | refine i_retN ?_ | refine i_if ?_ | refine i_asg ?_ | refine i_par ?_ | refine i_for ?_ | refine i_nm ?_ | refine i_tp ?_ | refine i_gcons ?_ | refine i_gnil ?_ | refine i_gsub ?_ | refine i_c ?_ | refine i_anil ?_ | refine i_acons ?_ | refine i_tup ?_ | refine i_lst ?_ | refine i_op ?_ | refine i_un ?_ | refine i_call ?_ | refine i_fn ?_ | refine i_test ?_ | refine i_and ?_ | refine i_or ?_ | refine i_not ?_ | refine i_ifx ?_ | refine i_andV ?_ | refine i_orV ?_ | refine i_notV ?_ | refine i_meth ?_ | refine i_sl ?_ | refine i_nopart ?_ | refine i_part ?_ | refine i_revL ?_ | refine i_sortKey ?_ | refine i_sortSet ?_ | refine i_rg1 ?_ | refine i_seqS ?_ | refine i_revR ?_ | refine i_lc ?_ | refine i_yes ?_ | refine i_seqT ?_ | refine i_seqX ?_ | refine i_addI ?_ | refine i_subI ?_ | refine i_negI ?_ | refine i_iaddI ?_ | refine i_eqI ?_ | refine i_neI ?_ | refine i_eqX ?_ | refine i_neX ?_ | refine i_ltI ?_ | refine i_gtI ?_ | refine i_leI ?_ | refine i_geI ?_ | refine i_lenT ?_ | refine i_absI ?_ | refine i_intI ?_ | refine i_lstT ?_ | refine i_slT ?_ | refine i_iteT ?_ | refine i_iteF ?_ | refine i_var (by with_unfolding_all rfl) ?_ | refine i_aug (by with_unfolding_all rfl) ?_ | refine i_ixT (by with_unfolding_all rfl) ?_ | refine ⟨_, _, rfl, ?_⟩ | refine ⟨_, rfl, ?_⟩ | refine ⟨rfl, ?_⟩ | refine ⟨i_tyS, ?_⟩)))
    refine ⟨by simp [sizeLine_eq], ?_⟩
    (repeat (with_reducible (first | refine i_seq ?_ | refine i_next ?_ | refine i_break ?_ | refine i_cont ?_ | refine i_drop ?_ | refine i_ret ?_ | refine i_retN ?_ | refine i_if ?_ | refine i_asg ?_ | refine i_par ?_ | refine i_for ?_ | refine i_nm ?_ | refine i_tp ?_ | refine i_gcons ?_ | refine i_gnil ?_ | refine i_gsub ?_ | refine i_c ?_ | refine i_anil ?_ | refine i_acons ?_ | refine i_tup ?_ | refine i_lst ?_ | refine i_op ?_ | refine i_un ?_ | refine i_call ?_ | refine i_fn ?_ | refine i_test ?_ | refine i_and ?_ | refine i_or ?_ | refine i_not ?_ | refine i_ifx ?_ | refine i_andV ?_ | refine i_orV ?_ | refine i_notV ?_ | refine i_meth ?_ | refine i_sl ?_ | refine i_nopart ?_ | refine i_part ?_ | refine i_revL ?_ | refine i_sortKey ?_ | refine i_sortSet ?_ | refine i_rg1 ?_ | refine i_seqS ?_ | refine i_revR ?_ | refine i_lc ?_ | refine i_yes ?_ | refine i_seqT ?_ | refine i_seqX ?_ | refine i_addI ?_ | refine i_subI ?_ | refine i_negI ?_ | refine i_iaddI ?_ | refine i_eqI ?_ | refine i_neI ?_ | refine i_eqX ?_ | refine i_neX ?_ | refine i_ltI ?_ | refine i_gtI ?_ | refine i_leI ?_ | refine i_geI ?_ | refine i_lenT ?_ | refine i_absI ?_ | refine i_intI ?_ | refine i_lstT ?_ | refine i_slT ?_ | refine i_iteT ?_ | refine i_iteF ?_ | refine i_var (by with_unfolding_all rfl) ?_ | refine i_aug (by with_unfolding_all rfl) ?_ | refine i_ixT (by with_unfolding_all rfl) ?_ | refine ⟨_, _, rfl, ?_⟩ | refine ⟨_, rfl, ?_⟩ | refine ⟨rfl, ?_⟩ | refine ⟨i_tyS, ?_⟩)))
    refine i_append (by rw [put_ne npz.symm]; exact hZ) (by rw [List.length_map, List.length_take, sizeLine_eq]; omega) ?_
    exact hK _ _ ⟨⟨_, _, _, rfl⟩, by rw [put_same, take_snoc b1, List.map_append, List.map_cons, List.map_nil, Mz.d_eq (Mz.mk r.1 bs)]; rfl, (hk.trans (Keeps.new hp)).chg hz⟩
  rintro l S1 ⟨⟨x2, x3, x4, rfl⟩, hZ, hk⟩
  rw [List.length_map, ← hBl, List.take_length] at hZ
  (repeat (with_reducible (first | refine i_seq ?_ | refine i_next ?_ | refine i_break ?_ | refine i_cont ?_ | refine i_drop ?_ | refine i_ret ?_ | refine i_retN ?_ | refine i_if ?_ | refine i_asg ?_ | refine i_par ?_ | refine i_for ?_ | refine i_nm ?_ | refine i_tp ?_ | refine i_gcons ?_ | refine i_gnil ?_ | refine i_gsub ?_ | refine i_c ?_ | refine i_anil ?_ | refine i_acons ?_ | refine i_tup ?_ | refine i_lst ?_ | refine i_op ?_ | refine i_un ?_ | refine i_call ?_ | refine i_fn ?_ | refine i_test ?_ | refine i_and ?_ | refine i_or ?_ | refine i_not ?_ | refine i_ifx ?_ | refine i_andV ?_ | refine i_orV ?_ | refine i_notV ?_ | refine i_meth ?_ | refine i_sl ?_ | refine i_nopart ?_ | refine i_part ?_ | refine i_revL ?_ | refine i_sortKey ?_ | refine i_sortSet ?_ | refine i_rg1 ?_ | refine i_seqS ?_ | refine i_revR ?_ | refine i_lc ?_ | refine i_yes ?_ | refine i_seqT ?_ | refine i_seqX ?_ | refine i_addI ?_ | refine i_subI ?_ | refine i_negI ?_ | refine i_iaddI ?_ | refine i_eqI ?_ | refine i_neI ?_ | refine i_eqX ?_ | refine i_neX ?_ | refine i_ltI ?_ | refine i_gtI ?_ | refine i_leI ?_ | refine i_geI ?_ | refine i_lenT ?_ | refine i_absI ?_ | refine i_intI ?_ | refine i_lstT ?_ | refine i_slT ?_ | refine i_iteT ?_ | refine i_iteF ?_ | refine i_var (by with_unfolding_all rfl) ?_ | refine i_aug (by with_unfolding_all rfl) ?_ | refine i_ixT (by with_unfolding_all rfl) ?_ | refine ⟨_, _, rfl, ?_⟩ | refine ⟨_, rfl, ?_⟩ | refine ⟨rfl, ?_⟩ | refine ⟨i_tyS, ?_⟩)))
  refine i_ixL hZ (negOne (x := m.d) (by rw [List.getLast?_map, hm]; rfl)) ?_
  exact q _ hk
end AL

namespace AL
open PySem PySem.Spec PyProof.Rows L2

def sp_law_plan : Spa := fun ds S Q => ∃ (a c sg : Addr) (k : Nat) (many : Int) (xs : List Str), ds = [.ref a, .ref sg, .int many] ∧ Deck S a c k ∧ k < 980000000 ∧ S sg = some (.lst (xs.map D.str)) ∧ sg ≠ a ∧ sg ≠ c ∧ (∀ x ∈ xs, SignOk x) ∧ xs ≠ [] ∧ xs.length ≤ 6 ∧ 1 ≤ many ∧ many ≤ 20 ∧
  ∀ S' P B, PlanM P B → P.length = many.toNat → Ext a c S S' → Deck S' a c (k + 200) → Q (planD P) S'
def n_law_plan : List Str := ["_law_deck_here", "_law_signs_here", "_law_many", "_law_plan_here", "_law_index", "_law_numbers", "_law_k"]
def t_law_plan : TSa :=
  (aSeq (aAsg (aLst aNil) (gNm 3))
  (aSeq (aFor (iRg1 (aCons (aVar 2) aNil)) (gNm 4) (aSeq (aAsg (aLst aNil) (gNm 5))
  (aSeq (aFor (iRg1 (aCons (aIf (aTest (aOp gtA (aVar 4) (aC (.int 0)))) (aFn 2 sp_law_draw (aCons (aVar 0) (aCons (aC (.int 3)) aNil))) (aC (.int 0))) aNil)) (gNm 6) (aDrop (aMeth "list" appendA (aVar 5) (aCons (aIf (aTest (aOp gtA (aFn 2 sp_law_draw (aCons (aVar 0) (aCons (aC (.int 3)) aNil))) (aC (.int 0)))) (aOp subA (aVar 4) (aC (.int 1))) (aFn 2 sp_law_draw (aCons (aVar 0) (aCons (aVar 4) aNil)))) aNil))))
  (aDrop (aMeth "list" appendA (aVar 3) (aCons (aTup (aCons (aFn 2 sp_law_one (aCons (aVar 0) (aCons (aVar 1) aNil))) (aCons (aCall tupleA (aCons (aVar 5) aNil)) aNil))) aNil))))))
  (aRet (aCall tupleA (aCons (aVar 3) aNil)))))
theorem pl_law_plan : ∀ ds S Q, ds.length = 3 → sp_law_plan ds S Q → semA n_law_plan t_law_plan ds S Q := by
  rintro ds S Q _ ⟨a, c, sg, k, many, xs, rfl, hD, hk, hsg, nsa, nsc, hxs, hne, hxl, hm1, hm2, q⟩
  unfold semA t_law_plan
  (repeat (with_reducible (first | refine i_seq ?_ | refine i_next ?_ | refine i_break ?_ | refine i_cont ?_ | refine i_drop ?_ | refine i_ret ?_ | refine i_retN ?_ | refine i_if ?_ | refine i_asg ?_ | refine i_par ?_ | refine i_for ?_ | refine i_nm ?_ | refine i_tp ?_ | refine i_gcons ?_ | refine i_gnil ?_ | refine i_gsub ?_ | refine i_c ?_ | refine i_anil ?_ | refine i_acons ?_ | refine i_tup ?_ | refine i_lst ?_ | refine i_op ?_ | refine i_un ?_ | refine i_call ?_ | refine i_fn ?_ | refine i_test ?_ | refine i_and ?_ | refine i_or ?_ | refine i_not ?_ | refine i_ifx ?_ | refine i_andV ?_ | refine i_orV ?_ | refine i_notV ?_ | refine i_meth ?_ | refine i_sl ?_ | refine i_nopart ?_ | refine i_part ?_ | refine i_revL ?_ | refine i_sortKey ?_ | refine i_sortSet ?_ | refine i_rg1 ?_ | refine i_seqS ?_ | refine i_revR ?_ | refine i_lc ?_ | refine i_yes ?_ | refine i_seqT ?_ | refine i_seqX ?_ | refine i_addI ?_ | refine i_subI ?_ | refine i_negI ?_ | refine i_iaddI ?_ | refine i_eqI ?_ | refine i_neI ?_ | refine i_eqX ?_ | refine i_neX ?_ | refine i_ltI ?_ | refine i_gtI ?_ | refine i_leI ?_ | refine i_geI ?_ | refine i_lenT ?_ | refine i_absI ?_ | refine i_intI ?_ | refine i_lstT ?_ | refine i_slT ?_ | refine i_iteT ?_ | refine i_iteF ?_ | refine i_var (by with_unfolding_all rfl) ?_ | refine i_aug (by with_unfolding_all rfl) ?_ | refine i_ixT (by with_unfolding_all rfl) ?_ | refine ⟨_, _, rfl, ?_⟩ | refine ⟨_, rfl, ?_⟩ | refine ⟨rfl, ?_⟩ | refine ⟨i_tyS, ?_⟩)))
  refine ⟨by simp [sizeLine_eq], fun f hf => ?_⟩
  have nf := hD.ne hf
  have nfs : f ≠ sg := fun e => by subst e; rw [hsg] at hf; cases hf
  (repeat (with_reducible (first | refine i_seq ?_ | refine i_next ?_ | refine i_break ?_ | refine i_cont ?_ | refine i_drop ?_ | refine i_ret ?_ | refine i_retN ?_ | refine i_if ?_ | refine i_asg ?_ | refine i_par ?_ | refine i_for ?_ | refine i_nm ?_ | refine i_tp ?_ | refine i_gcons ?_ | refine i_gnil ?_ | refine i_gsub ?_ | refine i_c ?_ | refine i_anil ?_ | refine i_acons ?_ | refine i_tup ?_ | refine i_lst ?_ | refine i_op ?_ | refine i_un ?_ | refine i_call ?_ | refine i_fn ?_ | refine i_test ?_ | refine i_and ?_ | refine i_or ?_ | refine i_not ?_ | refine i_ifx ?_ | refine i_andV ?_ | refine i_orV ?_ | refine i_notV ?_ | refine i_meth ?_ | refine i_sl ?_ | refine i_nopart ?_ | refine i_part ?_ | refine i_revL ?_ | refine i_sortKey ?_ | refine i_sortSet ?_ | refine i_rg1 ?_ | refine i_seqS ?_ | refine i_revR ?_ | refine i_lc ?_ | refine i_yes ?_ | refine i_seqT ?_ | refine i_seqX ?_ | refine i_addI ?_ | refine i_subI ?_ | refine i_negI ?_ | refine i_iaddI ?_ | refine i_eqI ?_ | refine i_neI ?_ | refine i_eqX ?_ | refine i_neX ?_ | refine i_ltI ?_ | refine i_gtI ?_ | refine i_leI ?_ | refine i_geI ?_ | refine i_lenT ?_ | refine i_absI ?_ | refine i_intI ?_ | refine i_lstT ?_ | refine i_slT ?_ | refine i_iteT ?_ | refine i_iteF ?_ | refine i_var (by with_unfolding_all rfl) ?_ | refine i_aug (by with_unfolding_all rfl) ?_ | refine i_ixT (by with_unfolding_all rfl) ?_ | refine ⟨_, _, rfl, ?_⟩ | refine ⟨_, rfl, ?_⟩ | refine ⟨rfl, ?_⟩ | refine ⟨i_tyS, ?_⟩)))
  refine ⟨by omega, ?_⟩
  refine for_inv (P := fun i l S' => (∃ x4 x5 x6, l = [some (.ref a), some (.ref sg), some (.int many), some (.ref f), x4, x5, x6]) ∧ (∃ P B, PlanM P B ∧ P.length = i ∧ S' f = some (.lst (P.map Row.d))) ∧ Deck S' a c (k + 6 * i) ∧ Ext a c S S') ⟨⟨_, _, _, rfl⟩, ⟨[], [], PlanM.nil, rfl, put_same⟩, hD.new hf, Ext.new hf⟩ (fun _ _ _ _ _ => trivial) ?_ ?_
  · rintro i d l S1 K1 hd ⟨⟨x4, x5, x6, rfl⟩, ⟨P, B, hP, hPl, hF⟩, hD1, hx1⟩ hK
    obtain ⟨hi, rfl⟩ := intsD_get hd
    (repeat (with_reducible (first | refine i_seq ?_ | refine i_next ?_ | refine i_break ?_ | refine i_cont ?_ | refine i_drop ?_ | refine i_ret ?_ | refine i_retN ?_ | refine i_if ?_ | refine i_asg ?_ | refine i_par ?_ | refine i_for ?_ | refine i_nm ?_ | refine i_tp ?_ | refine i_gcons ?_ | refine i_gnil ?_ | refine i_gsub ?_ | refine i_c ?_ | refine i_anil ?_ | refine i_acons ?_ | refine i_tup ?_ | refine i_lst ?_ | refine i_op ?_ | refine i_un ?_ | refine i_call ?_ | refine i_fn ?_ | refine i_test ?_ | refine i_and ?_ | refine i_or ?_ | refine i_not ?_ | refine i_ifx ?_ | refine i_andV ?_ | refine i_orV ?_ | refine i_notV ?_ | refine i_meth ?_ | refine i_sl ?_ | refine i_nopart ?_ | refine i_part ?_ | refine i_revL ?_ | refine i_sortKey ?_ | refine i_sortSet ?_ | refine i_rg1 ?_ | refine i_seqS ?_ | refine i_revR ?_ | refine i_lc ?_ | refine i_yes ?_ | refine i_seqT ?_ | refine i_seqX ?_ | refine i_addI ?_ | refine i_subI ?_ | refine i_negI ?_ | refine i_iaddI ?_ | refine i_eqI ?_ | refine i_neI ?_ | refine i_eqX ?_ | refine i_neX ?_ | refine i_ltI ?_ | refine i_gtI ?_ | refine i_leI ?_ | refine i_geI ?_ | refine i_lenT ?_ | refine i_absI ?_ | refine i_intI ?_ | refine i_lstT ?_ | refine i_slT ?_ | refine i_iteT ?_ | refine i_iteF ?_ | refine i_var (by with_unfolding_all rfl) ?_ | refine i_aug (by with_unfolding_all rfl) ?_ | refine i_ixT (by with_unfolding_all rfl) ?_ | refine ⟨_, _, rfl, ?_⟩ | refine ⟨_, rfl, ?_⟩ | refine ⟨rfl, ?_⟩ | refine ⟨i_tyS, ?_⟩)))
    refine ⟨by simp [sizeLine_eq], fun nu hnu => ?_⟩
    have nnu := hD1.ne hnu
    have nnf : nu ≠ f := fun e => by subst e; rw [hF] at hnu; cases hnu
    have hno : S nu = none := hx1.out hnu nnu.1 nnu.2
    have hN : put S1 nu (.lst []) nu = some (.lst (([] : List Nat).map natD)) := put_same
    have k2 : Keeps S1 (put S1 nu (.lst [])) := Keeps.new hnu
    have hD2 : Deck (put S1 nu (.lst [])) a c (k + 6 * i) := hD1.new hnu
    generalize put S1 nu (.lst []) = S2 at hN k2 hD2
    -- the rest, with the number of numbers known
    have rest : ∀ (r : Int) (S3 : Sto), 0 ≤ r → r ≤ 2 → (i = 0 → r = 0) → S3 nu = some (.lst (([] : List Nat).map natD)) → Ext a c S1 S3 → Deck S3 a c (k + 6 * i + 1) →
        (fun (r : Int) (S3 : Sto) => forA (fun _ => True) (gNm 6) (aDrop (aMeth "list" appendA (aVar 5) (aCons (aIf (aTest (aOp gtA (aFn 2 sp_law_draw (aCons (aVar 0) (aCons (aC (.int 3)) aNil))) (aC (.int 0)))) (aOp subA (aVar 4) (aC (.int 1))) (aFn 2 sp_law_draw (aCons (aVar 0) (aCons (aVar 4) aNil)))) aNil))) (intsD 0 r.toNat)
          ⟨fun l S' => aDrop (aMeth "list" appendA (aVar 3) (aCons (aTup (aCons (aFn 2 sp_law_one (aCons (aVar 0) (aCons (aVar 1) aNil))) (aCons (aCall tupleA (aCons (aVar 5) aNil)) aNil))) aNil)) ⟨K1, Q, fun l S' => aRet (aCall tupleA (aCons (aVar 3) aNil)) ⟨fun x S' => Q .non S', Q, fun _ _ => False, fun _ _ => False⟩ l S', K1⟩ l S', Q, fun l S' => aRet (aCall tupleA (aCons (aVar 3) aNil)) ⟨fun x S' => Q .non S', Q, fun _ _ => False, fun _ _ => False⟩ l S', K1⟩
          [some (.ref a), some (.ref sg), some (.int many), some (.ref f), some (.int (0 + (i : Int))), some (.ref nu), x6] S3) r S3 := by
      intro r S3 hr0 hr2 hri hN3 hx3 hD3
      refine for_inv (P := fun j l S' => (∃ x6, l = [some (.ref a), some (.ref sg), some (.int many), some (.ref f), some (.int (0 + (i : Int))), some (.ref nu), x6]) ∧ (∃ ns : List Nat, S' nu = some (.lst (ns.map natD)) ∧ ns.length = j ∧ ∀ n ∈ ns, n < i) ∧ Deck S' a c (k + 6 * i + 1 + 2 * j) ∧ Ext a c S1 S') ⟨⟨_, rfl⟩, ⟨[], hN3, rfl, fun _ h => nomatch h⟩, hD3, hx3⟩ (fun _ _ _ _ _ => trivial) ?_ ?_
      · rintro j d l S4 K2 hd ⟨⟨y6, rfl⟩, ⟨ns, hN4, hnl, hnr⟩, hD4, hx4⟩ hK2
        obtain ⟨hj, rfl⟩ := intsD_get hd
        have hi0 : i ≠ 0 := fun h0 => by rw [hri h0] at hj; simp at hj
        have tail : ∀ (v : Nat) (S5 : Sto), v < i → Ext a c S4 S5 → Deck S5 a c (k + 6 * i + 1 + 2 * (j + 1)) → appendA (.ref nu) [.int (v : Int)] S5 (fun _ S1 => K2 [some (.ref a), some (.ref sg), some (.int many), some (.ref f), some (.int (0 + (i : Int))), some (.ref nu), some (.int (0 + (j : Int)))] S1) := by
          intro v S5 hv hx5 hD5
          refine i_append (hx5 _ _ hN4 nnu.1 nnu.2) (by rw [List.length_map, sizeLine_eq]; omega) ?_
          refine hK2 _ _ ⟨⟨_, rfl⟩, ⟨ns ++ [v], by rw [put_same, List.map_append]; rfl, by simp [hnl], fun n hn => ?_⟩, hD5.chg nnu.1 nnu.2, (hx4.trans hx5).chg hnu⟩
          rcases List.mem_append.mp hn with h | h
          · exact hnr n h
          · rw [List.mem_singleton.mp h]; exact hv
        (repeat (with_reducible (first | refine i_seq ?_ | refine i_next ?_ | refine i_break ?_ | refine i_cont ?_ | refine i_drop ?_ | refine i_ret ?_ | refine i_retN ?_ | refine i_if ?_ | refine i_asg ?_ | refine i_par ?_ | refine i_for ?_ | refine i_nm ?_ | refine i_tp ?_ | refine i_gcons ?_ | refine i_gnil ?_ | refine i_gsub ?_ | refine i_c ?_ | refine i_anil ?_ | refine i_acons ?_ | refine i_tup ?_ | refine i_lst ?_ | refine i_op ?_ | refine i_un ?_ | refine i_call ?_ | refine i_fn ?_ | refine i_test ?_ | refine i_and ?_ | refine i_or ?_ | refine i_not ?_ | refine i_ifx ?_ | refine i_andV ?_ | refine i_orV ?_ | refine i_notV ?_ | refine i_meth ?_ | refine i_sl ?_ | refine i_nopart ?_ | refine i_part ?_ | refine i_revL ?_ | refine i_sortKey ?_ | refine i_sortSet ?_ | refine i_rg1 ?_ | refine i_seqS ?_ | refine i_revR ?_ | refine i_lc ?_ | refine i_yes ?_ | refine i_seqT ?_ | refine i_seqX ?_ | refine i_addI ?_ | refine i_subI ?_ | refine i_negI ?_ | refine i_iaddI ?_ | refine i_eqI ?_ | refine i_neI ?_ | refine i_eqX ?_ | refine i_neX ?_ | refine i_ltI ?_ | refine i_gtI ?_ | refine i_leI ?_ | refine i_geI ?_ | refine i_lenT ?_ | refine i_absI ?_ | refine i_intI ?_ | refine i_lstT ?_ | refine i_slT ?_ | refine i_iteT ?_ | refine i_iteF ?_ | refine i_var (by with_unfolding_all rfl) ?_ | refine i_aug (by with_unfolding_all rfl) ?_ | refine i_ixT (by with_unfolding_all rfl) ?_ | refine ⟨_, _, rfl, ?_⟩ | refine ⟨_, rfl, ?_⟩ | refine ⟨rfl, ?_⟩ | refine ⟨i_tyS, ?_⟩)))
        refine ⟨i_tyL hN4, ?_⟩
        (repeat (with_reducible (first | refine i_seq ?_ | refine i_next ?_ | refine i_break ?_ | refine i_cont ?_ | refine i_drop ?_ | refine i_ret ?_ | refine i_retN ?_ | refine i_if ?_ | refine i_asg ?_ | refine i_par ?_ | refine i_for ?_ | refine i_nm ?_ | refine i_tp ?_ | refine i_gcons ?_ | refine i_gnil ?_ | refine i_gsub ?_ | refine i_c ?_ | refine i_anil ?_ | refine i_acons ?_ | refine i_tup ?_ | refine i_lst ?_ | refine i_op ?_ | refine i_un ?_ | refine i_call ?_ | refine i_fn ?_ | refine i_test ?_ | refine i_and ?_ | refine i_or ?_ | refine i_not ?_ | refine i_ifx ?_ | refine i_andV ?_ | refine i_orV ?_ | refine i_notV ?_ | refine i_meth ?_ | refine i_sl ?_ | refine i_nopart ?_ | refine i_part ?_ | refine i_revL ?_ | refine i_sortKey ?_ | refine i_sortSet ?_ | refine i_rg1 ?_ | refine i_seqS ?_ | refine i_revR ?_ | refine i_lc ?_ | refine i_yes ?_ | refine i_seqT ?_ | refine i_seqX ?_ | refine i_addI ?_ | refine i_subI ?_ | refine i_negI ?_ | refine i_iaddI ?_ | refine i_eqI ?_ | refine i_neI ?_ | refine i_eqX ?_ | refine i_neX ?_ | refine i_ltI ?_ | refine i_gtI ?_ | refine i_leI ?_ | refine i_geI ?_ | refine i_lenT ?_ | refine i_absI ?_ | refine i_intI ?_ | refine i_lstT ?_ | refine i_slT ?_ | refine i_iteT ?_ | refine i_iteF ?_ | refine i_var (by with_unfolding_all rfl) ?_ | refine i_aug (by with_unfolding_all rfl) ?_ | refine i_ixT (by with_unfolding_all rfl) ?_ | refine ⟨_, _, rfl, ?_⟩ | refine ⟨_, rfl, ?_⟩ | refine ⟨rfl, ?_⟩ | refine ⟨i_tyS, ?_⟩)))
        refine ⟨a, c, _, _, rfl, hD4, by omega, by decide, by decide, fun r2 S5 g0 g1 hx5 hD5 => ?_⟩
        (repeat (with_reducible (first | refine i_seq ?_ | refine i_next ?_ | refine i_break ?_ | refine i_cont ?_ | refine i_drop ?_ | refine i_ret ?_ | refine i_retN ?_ | refine i_if ?_ | refine i_asg ?_ | refine i_par ?_ | refine i_for ?_ | refine i_nm ?_ | refine i_tp ?_ | refine i_gcons ?_ | refine i_gnil ?_ | refine i_gsub ?_ | refine i_c ?_ | refine i_anil ?_ | refine i_acons ?_ | refine i_tup ?_ | refine i_lst ?_ | refine i_op ?_ | refine i_un ?_ | refine i_call ?_ | refine i_fn ?_ | refine i_test ?_ | refine i_and ?_ | refine i_or ?_ | refine i_not ?_ | refine i_ifx ?_ | refine i_andV ?_ | refine i_orV ?_ | refine i_notV ?_ | refine i_meth ?_ | refine i_sl ?_ | refine i_nopart ?_ | refine i_part ?_ | refine i_revL ?_ | refine i_sortKey ?_ | refine i_sortSet ?_ | refine i_rg1 ?_ | refine i_seqS ?_ | refine i_revR ?_ | refine i_lc ?_ | refine i_yes ?_ | refine i_seqT ?_ | refine i_seqX ?_ | refine i_addI ?_ | refine i_subI ?_ | refine i_negI ?_ | refine i_iaddI ?_ | refine i_eqI ?_ | refine i_neI ?_ | refine i_eqX ?_ | refine i_neX ?_ | refine i_ltI ?_ | refine i_gtI ?_ | refine i_leI ?_ | refine i_geI ?_ | refine i_lenT ?_ | refine i_absI ?_ | refine i_intI ?_ | refine i_lstT ?_ | refine i_slT ?_ | refine i_iteT ?_ | refine i_iteF ?_ | refine i_var (by with_unfolding_all rfl) ?_ | refine i_aug (by with_unfolding_all rfl) ?_ | refine i_ixT (by with_unfolding_all rfl) ?_ | refine ⟨_, _, rfl, ?_⟩ | refine ⟨_, rfl, ?_⟩ | refine ⟨rfl, ?_⟩ | refine ⟨i_tyS, ?_⟩)))
        refine i_ite (fun hb => ?_) fun hb => ?_
        · (repeat (with_reducible (first | refine i_seq ?_ | refine i_next ?_ | refine i_break ?_ | refine i_cont ?_ | refine i_drop ?_ | refine i_ret ?_ | refine i_retN ?_ | refine i_if ?_ | refine i_asg ?_ | refine i_par ?_ | refine i_for ?_ | refine i_nm ?_ | refine i_tp ?_ | refine i_gcons ?_ | refine i_gnil ?_ | refine i_gsub ?_ | refine i_c ?_ | refine i_anil ?_ | refine i_acons ?_ | refine i_tup ?_ | refine i_lst ?_ | refine i_op ?_ | refine i_un ?_ | refine i_call ?_ | refine i_fn ?_ | refine i_test ?_ | refine i_and ?_ | refine i_or ?_ | refine i_not ?_ | refine i_ifx ?_ | refine i_andV ?_ | refine i_orV ?_ | refine i_notV ?_ | refine i_meth ?_ | refine i_sl ?_ | refine i_nopart ?_ | refine i_part ?_ | refine i_revL ?_ | refine i_sortKey ?_ | refine i_sortSet ?_ | refine i_rg1 ?_ | refine i_seqS ?_ | refine i_revR ?_ | refine i_lc ?_ | refine i_yes ?_ | refine i_seqT ?_ | refine i_seqX ?_ | refine i_addI ?_ | refine i_subI ?_ | refine i_negI ?_ | refine i_iaddI ?_ | refine i_eqI ?_ | refine i_neI ?_ | refine i_eqX ?_ | refine i_neX ?_ | refine i_ltI ?_ | refine i_gtI ?_ | refine i_leI ?_ | refine i_geI ?_ | refine i_lenT ?_ | refine i_absI ?_ | refine i_intI ?_ | refine i_lstT ?_ | refine i_slT ?_ | refine i_iteT ?_ | refine i_iteF ?_ | refine i_var (by with_unfolding_all rfl) ?_ | refine i_aug (by with_unfolding_all rfl) ?_ | refine i_ixT (by with_unfolding_all rfl) ?_ | refine ⟨_, _, rfl, ?_⟩ | refine ⟨_, rfl, ?_⟩ | refine ⟨rfl, ?_⟩ | refine ⟨i_tyS, ?_⟩)))
          have e : (0 : Int) + (i : Int) - 1 = ((i - 1 : Nat) : Int) := by omega
          rw [e]
          exact tail _ _ (by omega) hx5 (hD5.mono (by omega))
        · (repeat (with_reducible (first | refine i_seq ?_ | refine i_next ?_ | refine i_break ?_ | refine i_cont ?_ | refine i_drop ?_ | refine i_ret ?_ | refine i_retN ?_ | refine i_if ?_ | refine i_asg ?_ | refine i_par ?_ | refine i_for ?_ | refine i_nm ?_ | refine i_tp ?_ | refine i_gcons ?_ | refine i_gnil ?_ | refine i_gsub ?_ | refine i_c ?_ | refine i_anil ?_ | refine i_acons ?_ | refine i_tup ?_ | refine i_lst ?_ | refine i_op ?_ | refine i_un ?_ | refine i_call ?_ | refine i_fn ?_ | refine i_test ?_ | refine i_and ?_ | refine i_or ?_ | refine i_not ?_ | refine i_ifx ?_ | refine i_andV ?_ | refine i_orV ?_ | refine i_notV ?_ | refine i_meth ?_ | refine i_sl ?_ | refine i_nopart ?_ | refine i_part ?_ | refine i_revL ?_ | refine i_sortKey ?_ | refine i_sortSet ?_ | refine i_rg1 ?_ | refine i_seqS ?_ | refine i_revR ?_ | refine i_lc ?_ | refine i_yes ?_ | refine i_seqT ?_ | refine i_seqX ?_ | refine i_addI ?_ | refine i_subI ?_ | refine i_negI ?_ | refine i_iaddI ?_ | refine i_eqI ?_ | refine i_neI ?_ | refine i_eqX ?_ | refine i_neX ?_ | refine i_ltI ?_ | refine i_gtI ?_ | refine i_leI ?_ | refine i_geI ?_ | refine i_lenT ?_ | refine i_absI ?_ | refine i_intI ?_ | refine i_lstT ?_ | refine i_slT ?_ | refine i_iteT ?_ | refine i_iteF ?_ | refine i_var (by with_unfolding_all rfl) ?_ | refine i_aug (by with_unfolding_all rfl) ?_ | refine i_ixT (by with_unfolding_all rfl) ?_ | refine ⟨_, _, rfl, ?_⟩ | refine ⟨_, rfl, ?_⟩ | refine ⟨rfl, ?_⟩ | refine ⟨i_tyS, ?_⟩)))
          refine ⟨a, c, _, _, rfl, hD5, by omega, by omega, by omega, fun r3 S6 f0 f1 hx6 hD6 => ?_⟩
          obtain ⟨v, rfl⟩ := Int.eq_ofNat_of_zero_le f0
          exact tail v _ (by omega) (hx5.trans hx6) (hD6.mono (by omega))
      · rintro l S4 ⟨⟨y6, rfl⟩, ⟨ns, hN4, hnl, hnr⟩, hD4, hx4⟩
        rw [intsD_len] at hnl hD4
        (repeat (with_reducible (first | refine i_seq ?_ | refine i_next ?_ | refine i_break ?_ | refine i_cont ?_ | refine i_drop ?_ | refine i_ret ?_ | refine i_retN ?_ | refine i_if ?_ | refine i_asg ?_ | refine i_par ?_ | refine i_for ?_ | refine i_nm ?_ | refine i_tp ?_ | refine i_gcons ?_ | refine i_gnil ?_ | refine i_gsub ?_ | refine i_c ?_ | refine i_anil ?_ | refine i_acons ?_ | refine i_tup ?_ | refine i_lst ?_ | refine i_op ?_ | refine i_un ?_ | refine i_call ?_ | refine i_fn ?_ | refine i_test ?_ | refine i_and ?_ | refine i_or ?_ | refine i_not ?_ | refine i_ifx ?_ | refine i_andV ?_ | refine i_orV ?_ | refine i_notV ?_ | refine i_meth ?_ | refine i_sl ?_ | refine i_nopart ?_ | refine i_part ?_ | refine i_revL ?_ | refine i_sortKey ?_ | refine i_sortSet ?_ | refine i_rg1 ?_ | refine i_seqS ?_ | refine i_revR ?_ | refine i_lc ?_ | refine i_yes ?_ | refine i_seqT ?_ | refine i_seqX ?_ | refine i_addI ?_ | refine i_subI ?_ | refine i_negI ?_ | refine i_iaddI ?_ | refine i_eqI ?_ | refine i_neI ?_ | refine i_eqX ?_ | refine i_neX ?_ | refine i_ltI ?_ | refine i_gtI ?_ | refine i_leI ?_ | refine i_geI ?_ | refine i_lenT ?_ | refine i_absI ?_ | refine i_intI ?_ | refine i_lstT ?_ | refine i_slT ?_ | refine i_iteT ?_ | refine i_iteF ?_ | refine i_var (by with_unfolding_all rfl) ?_ | refine i_aug (by with_unfolding_all rfl) ?_ | refine i_ixT (by with_unfolding_all rfl) ?_ | refine ⟨_, _, rfl, ?_⟩ | refine ⟨_, rfl, ?_⟩ | refine ⟨rfl, ?_⟩ | refine ⟨i_tyS, ?_⟩)))
        refine ⟨i_tyL (hx4 _ _ hF nf.1 nf.2), ?_⟩
        (repeat (with_reducible (first | refine i_seq ?_ | refine i_next ?_ | refine i_break ?_ | refine i_cont ?_ | refine i_drop ?_ | refine i_ret ?_ | refine i_retN ?_ | refine i_if ?_ | refine i_asg ?_ | refine i_par ?_ | refine i_for ?_ | refine i_nm ?_ | refine i_tp ?_ | refine i_gcons ?_ | refine i_gnil ?_ | refine i_gsub ?_ | refine i_c ?_ | refine i_anil ?_ | refine i_acons ?_ | refine i_tup ?_ | refine i_lst ?_ | refine i_op ?_ | refine i_un ?_ | refine i_call ?_ | refine i_fn ?_ | refine i_test ?_ | refine i_and ?_ | refine i_or ?_ | refine i_not ?_ | refine i_ifx ?_ | refine i_andV ?_ | refine i_orV ?_ | refine i_notV ?_ | refine i_meth ?_ | refine i_sl ?_ | refine i_nopart ?_ | refine i_part ?_ | refine i_revL ?_ | refine i_sortKey ?_ | refine i_sortSet ?_ | refine i_rg1 ?_ | refine i_seqS ?_ | refine i_revR ?_ | refine i_lc ?_ | refine i_yes ?_ | refine i_seqT ?_ | refine i_seqX ?_ | refine i_addI ?_ | refine i_subI ?_ | refine i_negI ?_ | refine i_iaddI ?_ | refine i_eqI ?_ | refine i_neI ?_ | refine i_eqX ?_ | refine i_neX ?_ | refine i_ltI ?_ | refine i_gtI ?_ | refine i_leI ?_ | refine i_geI ?_ | refine i_lenT ?_ | refine i_absI ?_ | refine i_intI ?_ | refine i_lstT ?_ | refine i_slT ?_ | refine i_iteT ?_ | refine i_iteF ?_ | refine i_var (by with_unfolding_all rfl) ?_ | refine i_aug (by with_unfolding_all rfl) ?_ | refine i_ixT (by with_unfolding_all rfl) ?_ | refine ⟨_, _, rfl, ?_⟩ | refine ⟨_, rfl, ?_⟩ | refine ⟨rfl, ?_⟩ | refine ⟨i_tyS, ?_⟩)))
        refine ⟨a, c, _, _, _, rfl, hD4, by omega, .lst (hx4 _ _ (hx1 _ _ hsg nsa nsc) nsa nsc), (fun e => nsa (D.ref.inj e)), (fun e => nsc (D.ref.inj e)), ?_, by rw [List.length_map]; omega, fun e S5 he hx5 hD5 => ?_⟩
        · intro e; exact hne (List.map_eq_nil_iff.mp e)
        obtain ⟨x, hx, rfl⟩ := List.mem_map.mp he
        (repeat (with_reducible (first | refine i_seq ?_ | refine i_next ?_ | refine i_break ?_ | refine i_cont ?_ | refine i_drop ?_ | refine i_ret ?_ | refine i_retN ?_ | refine i_if ?_ | refine i_asg ?_ | refine i_par ?_ | refine i_for ?_ | refine i_nm ?_ | refine i_tp ?_ | refine i_gcons ?_ | refine i_gnil ?_ | refine i_gsub ?_ | refine i_c ?_ | refine i_anil ?_ | refine i_acons ?_ | refine i_tup ?_ | refine i_lst ?_ | refine i_op ?_ | refine i_un ?_ | refine i_call ?_ | refine i_fn ?_ | refine i_test ?_ | refine i_and ?_ | refine i_or ?_ | refine i_not ?_ | refine i_ifx ?_ | refine i_andV ?_ | refine i_orV ?_ | refine i_notV ?_ | refine i_meth ?_ | refine i_sl ?_ | refine i_nopart ?_ | refine i_part ?_ | refine i_revL ?_ | refine i_sortKey ?_ | refine i_sortSet ?_ | refine i_rg1 ?_ | refine i_seqS ?_ | refine i_revR ?_ | refine i_lc ?_ | refine i_yes ?_ | refine i_seqT ?_ | refine i_seqX ?_ | refine i_addI ?_ | refine i_subI ?_ | refine i_negI ?_ | refine i_iaddI ?_ | refine i_eqI ?_ | refine i_neI ?_ | refine i_eqX ?_ | refine i_neX ?_ | refine i_ltI ?_ | refine i_gtI ?_ | refine i_leI ?_ | refine i_geI ?_ | refine i_lenT ?_ | refine i_absI ?_ | refine i_intI ?_ | refine i_lstT ?_ | refine i_slT ?_ | refine i_iteT ?_ | refine i_iteF ?_ | refine i_var (by with_unfolding_all rfl) ?_ | refine i_aug (by with_unfolding_all rfl) ?_ | refine i_ixT (by with_unfolding_all rfl) ?_ | refine ⟨_, _, rfl, ?_⟩ | refine ⟨_, rfl, ?_⟩ | refine ⟨rfl, ?_⟩ | refine ⟨i_tyS, ?_⟩)))
        refine i_tupL (hx5 _ _ hN4 nnu.1 nnu.2) ?_
        (repeat (with_reducible (first | refine i_seq ?_ | refine i_next ?_ | refine i_break ?_ | refine i_cont ?_ | refine i_drop ?_ | refine i_ret ?_ | refine i_retN ?_ | refine i_if ?_ | refine i_asg ?_ | refine i_par ?_ | refine i_for ?_ | refine i_nm ?_ | refine i_tp ?_ | refine i_gcons ?_ | refine i_gnil ?_ | refine i_gsub ?_ | refine i_c ?_ | refine i_anil ?_ | refine i_acons ?_ | refine i_tup ?_ | refine i_lst ?_ | refine i_op ?_ | refine i_un ?_ | refine i_call ?_ | refine i_fn ?_ | refine i_test ?_ | refine i_and ?_ | refine i_or ?_ | refine i_not ?_ | refine i_ifx ?_ | refine i_andV ?_ | refine i_orV ?_ | refine i_notV ?_ | refine i_meth ?_ | refine i_sl ?_ | refine i_nopart ?_ | refine i_part ?_ | refine i_revL ?_ | refine i_sortKey ?_ | refine i_sortSet ?_ | refine i_rg1 ?_ | refine i_seqS ?_ | refine i_revR ?_ | refine i_lc ?_ | refine i_yes ?_ | refine i_seqT ?_ | refine i_seqX ?_ | refine i_addI ?_ | refine i_subI ?_ | refine i_negI ?_ | refine i_iaddI ?_ | refine i_eqI ?_ | refine i_neI ?_ | refine i_eqX ?_ | refine i_neX ?_ | refine i_ltI ?_ | refine i_gtI ?_ | refine i_leI ?_ | refine i_geI ?_ | refine i_lenT ?_ | refine i_absI ?_ | refine i_intI ?_ | refine i_lstT ?_ | refine i_slT ?_ | refine i_iteT ?_ | refine i_iteF ?_ | refine i_var (by with_unfolding_all rfl) ?_ | refine i_aug (by with_unfolding_all rfl) ?_ | refine i_ixT (by with_unfolding_all rfl) ?_ | refine ⟨_, _, rfl, ?_⟩ | refine ⟨_, rfl, ?_⟩ | refine ⟨rfl, ?_⟩ | refine ⟨i_tyS, ?_⟩)))
        refine ⟨by simp [sizeLine_eq], ?_⟩
        (repeat (with_reducible (first | refine i_seq ?_ | refine i_next ?_ | refine i_break ?_ | refine i_cont ?_ | refine i_drop ?_ | refine i_ret ?_ | refine i_retN ?_ | refine i_if ?_ | refine i_asg ?_ | refine i_par ?_ | refine i_for ?_ | refine i_nm ?_ | refine i_tp ?_ | refine i_gcons ?_ | refine i_gnil ?_ | refine i_gsub ?_ | refine i_c ?_ | refine i_anil ?_ | refine i_acons ?_ | refine i_tup ?_ | refine i_lst ?_ | refine i_op ?_ | refine i_un ?_ | refine i_call ?_ | refine i_fn ?_ | refine i_test ?_ | refine i_and ?_ | refine i_or ?_ | refine i_not ?_ | refine i_ifx ?_ | refine i_andV ?_ | refine i_orV ?_ | refine i_notV ?_ | refine i_meth ?_ | refine i_sl ?_ | refine i_nopart ?_ | refine i_part ?_ | refine i_revL ?_ | refine i_sortKey ?_ | refine i_sortSet ?_ | refine i_rg1 ?_ | refine i_seqS ?_ | refine i_revR ?_ | refine i_lc ?_ | refine i_yes ?_ | refine i_seqT ?_ | refine i_seqX ?_ | refine i_addI ?_ | refine i_subI ?_ | refine i_negI ?_ | refine i_iaddI ?_ | refine i_eqI ?_ | refine i_neI ?_ | refine i_eqX ?_ | refine i_neX ?_ | refine i_ltI ?_ | refine i_gtI ?_ | refine i_leI ?_ | refine i_geI ?_ | refine i_lenT ?_ | refine i_absI ?_ | refine i_intI ?_ | refine i_lstT ?_ | refine i_slT ?_ | refine i_iteT ?_ | refine i_iteF ?_ | refine i_var (by with_unfolding_all rfl) ?_ | refine i_aug (by with_unfolding_all rfl) ?_ | refine i_ixT (by with_unfolding_all rfl) ?_ | refine ⟨_, _, rfl, ?_⟩ | refine ⟨_, rfl, ?_⟩ | refine ⟨rfl, ?_⟩ | refine ⟨i_tyS, ?_⟩)))
        refine i_append (hx5 _ _ (hx4 _ _ hF nf.1 nf.2) nf.1 nf.2) (by rw [List.length_map, sizeLine_eq]; omega) ?_
        obtain ⟨m, hm⟩ := hP.snoc (hxs x hx) (ns := ns) (fun n hn => by rw [hPl]; exact hnr n hn) (by omega)
        exact hK _ _ ⟨⟨_, _, _, rfl⟩, ⟨_, _, hm, by rw [List.length_append, hPl]; rfl, by rw [put_same, List.map_append]; rfl⟩, (hD5.chg nf.1 nf.2).mono (by omega), ((hx1.trans hx4).trans hx5).chg hf⟩
    (repeat (with_reducible (first | refine i_seq ?_ | refine i_next ?_ | refine i_break ?_ | refine i_cont ?_ | refine i_drop ?_ | refine i_ret ?_ | refine i_retN ?_ | refine i_if ?_ | refine i_asg ?_ | refine i_par ?_ | refine i_for ?_ | refine i_nm ?_ | refine i_tp ?_ | refine i_gcons ?_ | refine i_gnil ?_ | refine i_gsub ?_ | refine i_c ?_ | refine i_anil ?_ | refine i_acons ?_ | refine i_tup ?_ | refine i_lst ?_ | refine i_op ?_ | refine i_un ?_ | refine i_call ?_ | refine i_fn ?_ | refine i_test ?_ | refine i_and ?_ | refine i_or ?_ | refine i_not ?_ | refine i_ifx ?_ | refine i_andV ?_ | refine i_orV ?_ | refine i_notV ?_ | refine i_meth ?_ | refine i_sl ?_ | refine i_nopart ?_ | refine i_part ?_ | refine i_revL ?_ | refine i_sortKey ?_ | refine i_sortSet ?_ | refine i_rg1 ?_ | refine i_seqS ?_ | refine i_revR ?_ | refine i_lc ?_ | refine i_yes ?_ | refine i_seqT ?_ | refine i_seqX ?_ | refine i_addI ?_ | refine i_subI ?_ | refine i_negI ?_ | refine i_iaddI ?_ | refine i_eqI ?_ | refine i_neI ?_ | refine i_eqX ?_ | refine i_neX ?_ | refine i_ltI ?_ | refine i_gtI ?_ | refine i_leI ?_ | refine i_geI ?_ | refine i_lenT ?_ | refine i_absI ?_ | refine i_intI ?_ | refine i_lstT ?_ | refine i_slT ?_ | refine i_iteT ?_ | refine i_iteF ?_ | refine i_var (by with_unfolding_all rfl) ?_ | refine i_aug (by with_unfolding_all rfl) ?_ | refine i_ixT (by with_unfolding_all rfl) ?_ | refine ⟨_, _, rfl, ?_⟩ | refine ⟨_, rfl, ?_⟩ | refine ⟨rfl, ?_⟩ | refine ⟨i_tyS, ?_⟩)))
    refine i_ite (fun hb => ?_) fun hb => ?_
    · (repeat (with_reducible (first | refine i_seq ?_ | refine i_next ?_ | refine i_break ?_ | refine i_cont ?_ | refine i_drop ?_ | refine i_ret ?_ | refine i_retN ?_ | refine i_if ?_ | refine i_asg ?_ | refine i_par ?_ | refine i_for ?_ | refine i_nm ?_ | refine i_tp ?_ | refine i_gcons ?_ | refine i_gnil ?_ | refine i_gsub ?_ | refine i_c ?_ | refine i_anil ?_ | refine i_acons ?_ | refine i_tup ?_ | refine i_lst ?_ | refine i_op ?_ | refine i_un ?_ | refine i_call ?_ | refine i_fn ?_ | refine i_test ?_ | refine i_and ?_ | refine i_or ?_ | refine i_not ?_ | refine i_ifx ?_ | refine i_andV ?_ | refine i_orV ?_ | refine i_notV ?_ | refine i_meth ?_ | refine i_sl ?_ | refine i_nopart ?_ | refine i_part ?_ | refine i_revL ?_ | refine i_sortKey ?_ | refine i_sortSet ?_ | refine i_rg1 ?_ | refine i_seqS ?_ | refine i_revR ?_ | refine i_lc ?_ | refine i_yes ?_ | refine i_seqT ?_ | refine i_seqX ?_ | refine i_addI ?_ | refine i_subI ?_ | refine i_negI ?_ | refine i_iaddI ?_ | refine i_eqI ?_ | refine i_neI ?_ | refine i_eqX ?_ | refine i_neX ?_ | refine i_ltI ?_ | refine i_gtI ?_ | refine i_leI ?_ | refine i_geI ?_ | refine i_lenT ?_ | refine i_absI ?_ | refine i_intI ?_ | refine i_lstT ?_ | refine i_slT ?_ | refine i_iteT ?_ | refine i_iteF ?_ | refine i_var (by with_unfolding_all rfl) ?_ | refine i_aug (by with_unfolding_all rfl) ?_ | refine i_ixT (by with_unfolding_all rfl) ?_ | refine ⟨_, _, rfl, ?_⟩ | refine ⟨_, rfl, ?_⟩ | refine ⟨rfl, ?_⟩ | refine ⟨i_tyS, ?_⟩)))
      refine ⟨a, c, _, _, rfl, hD2, by omega, by decide, by decide, fun r S3 h0 h1 hx3 hD3 => ?_⟩
      refine ⟨r, rfl, by omega, ?_⟩
      refine rest r S3 h0 (by omega) (fun h => ?_) (hx3 _ _ hN nnu.1 nnu.2) ((Ext.of k2).trans hx3) hD3
      subst h
      simp at hb
    · (repeat (with_reducible (first | refine i_seq ?_ | refine i_next ?_ | refine i_break ?_ | refine i_cont ?_ | refine i_drop ?_ | refine i_ret ?_ | refine i_retN ?_ | refine i_if ?_ | refine i_asg ?_ | refine i_par ?_ | refine i_for ?_ | refine i_nm ?_ | refine i_tp ?_ | refine i_gcons ?_ | refine i_gnil ?_ | refine i_gsub ?_ | refine i_c ?_ | refine i_anil ?_ | refine i_acons ?_ | refine i_tup ?_ | refine i_lst ?_ | refine i_op ?_ | refine i_un ?_ | refine i_call ?_ | refine i_fn ?_ | refine i_test ?_ | refine i_and ?_ | refine i_or ?_ | refine i_not ?_ | refine i_ifx ?_ | refine i_andV ?_ | refine i_orV ?_ | refine i_notV ?_ | refine i_meth ?_ | refine i_sl ?_ | refine i_nopart ?_ | refine i_part ?_ | refine i_revL ?_ | refine i_sortKey ?_ | refine i_sortSet ?_ | refine i_rg1 ?_ | refine i_seqS ?_ | refine i_revR ?_ | refine i_lc ?_ | refine i_yes ?_ | refine i_seqT ?_ | refine i_seqX ?_ | refine i_addI ?_ | refine i_subI ?_ | refine i_negI ?_ | refine i_iaddI ?_ | refine i_eqI ?_ | refine i_neI ?_ | refine i_eqX ?_ | refine i_neX ?_ | refine i_ltI ?_ | refine i_gtI ?_ | refine i_leI ?_ | refine i_geI ?_ | refine i_lenT ?_ | refine i_absI ?_ | refine i_intI ?_ | refine i_lstT ?_ | refine i_slT ?_ | refine i_iteT ?_ | refine i_iteF ?_ | refine i_var (by with_unfolding_all rfl) ?_ | refine i_aug (by with_unfolding_all rfl) ?_ | refine i_ixT (by with_unfolding_all rfl) ?_ | refine ⟨_, _, rfl, ?_⟩ | refine ⟨_, rfl, ?_⟩ | refine ⟨rfl, ?_⟩ | refine ⟨i_tyS, ?_⟩)))
      refine ⟨by omega, ?_⟩
      exact rest 0 S2 (by decide) (by decide) (fun _ => rfl) hN (Ext.of k2) (hD2.mono (by omega))
  · rintro l S1 ⟨⟨x4, x5, x6, rfl⟩, ⟨P, B, hP, hPl, hF⟩, hD1, hx1⟩
    rw [intsD_len] at hPl hD1
    (repeat (with_reducible (first | refine i_seq ?_ | refine i_next ?_ | refine i_break ?_ | refine i_cont ?_ | refine i_drop ?_ | refine i_ret ?_ | refine i_retN ?_ | refine i_if ?_ | refine i_asg ?_ | refine i_par ?_ | refine i_for ?_ | refine i_nm ?_ | refine i_tp ?_ | refine i_gcons ?_ | refine i_gnil ?_ | refine i_gsub ?_ | refine i_c ?_ | refine i_anil ?_ | refine i_acons ?_ | refine i_tup ?_ | refine i_lst ?_ | refine i_op ?_ | refine i_un ?_ | refine i_call ?_ | refine i_fn ?_ | refine i_test ?_ | refine i_and ?_ | refine i_or ?_ | refine i_not ?_ | refine i_ifx ?_ | refine i_andV ?_ | refine i_orV ?_ | refine i_notV ?_ | refine i_meth ?_ | refine i_sl ?_ | refine i_nopart ?_ | refine i_part ?_ | refine i_revL ?_ | refine i_sortKey ?_ | refine i_sortSet ?_ | refine i_rg1 ?_ | refine i_seqS ?_ | refine i_revR ?_ | refine i_lc ?_ | refine i_yes ?_ | refine i_seqT ?_ | refine i_seqX ?_ | refine i_addI ?_ | refine i_subI ?_ | refine i_negI ?_ | refine i_iaddI ?_ | refine i_eqI ?_ | refine i_neI ?_ | refine i_eqX ?_ | refine i_neX ?_ | refine i_ltI ?_ | refine i_gtI ?_ | refine i_leI ?_ | refine i_geI ?_ | refine i_lenT ?_ | refine i_absI ?_ | refine i_intI ?_ | refine i_lstT ?_ | refine i_slT ?_ | refine i_iteT ?_ | refine i_iteF ?_ | refine i_var (by with_unfolding_all rfl) ?_ | refine i_aug (by with_unfolding_all rfl) ?_ | refine i_ixT (by with_unfolding_all rfl) ?_ | refine ⟨_, _, rfl, ?_⟩ | refine ⟨_, rfl, ?_⟩ | refine ⟨rfl, ?_⟩ | refine ⟨i_tyS, ?_⟩)))
    refine i_tupL hF ?_
    exact q S1 P B hP hPl hx1 (hD1.mono (by omega))

def sp_law_small : Spa := fun ds S Q => ∃ (a c sg : Addr) (k : Nat) (xs : List Str), ds = [.ref a, .ref sg] ∧ Deck S a c k ∧ k < 970000000 ∧ S sg = some (.lst (xs.map D.str)) ∧ sg ≠ a ∧ sg ≠ c ∧ (∀ x ∈ xs, SignOk x) ∧ xs ≠ [] ∧ xs.length ≤ 6 ∧
  ∀ S' P B m, PlanM P B → B.getLast? = some m → m.size ≤ 60 → P.length ≤ 20 → Ext a c S S' → Deck S' a c (k + 1000) → Q (planD P) S'
def n_law_small : List Str := ["_law_deck_here", "_law_signs_here", "_law_plan_here"]
def t_law_small : TSa :=
  (aSeq (aAsg (aFn 3 sp_law_plan (aCons (aVar 0) (aCons (aVar 1) (aCons (aOp addA (aC (.int 1)) (aFn 2 sp_law_draw (aCons (aVar 0) (aCons (aC (.int 20)) aNil)))) aNil)))) (gNm 2))
  (aSeq (aWhile (aTest (aOp gtA (aFn 1 sp_law_size (aCons (aVar 2) aNil)) (aC (.int 60)))) (aAsg (aSl (aVar 2) aNoPart (aPart (aUn negA (aC (.int 1))))) (gNm 2)))
  (aRet (aVar 2))))
theorem cut_last (ds : List D) : cutD ds none (some (-1)) = ds.dropLast := by
  unfold cutD
  rw [List.dropLast_eq_take]
  have e1 : HT.sIx ds.length 0 none = 0 := rfl
  have e2 : HT.sIx ds.length ds.length (some (-1)) = ds.length - 1 := by
    show (if (-1 : Int) < 0 then ((-1 : Int) + (ds.length : Int)).toNat else min (-1 : Int).toNat ds.length) = ds.length - 1
    rw [if_pos (by decide)]; omega
  rw [e1, e2]; rfl
theorem PlanM.one {P : List Row} {B : List Mz} {m : Mz} (h : PlanM P B) (hl : P.length = 1) (hm : B.getLast? = some m) : m.size = 1 := by
  obtain ⟨r, rfl⟩ := List.length_eq_one_iff.mp hl
  obtain ⟨bs, b1, b2, b3, b4⟩ := h.row 0 r rfl
  have hB : B.length = 1 := h.len
  rw [List.getLast?_eq_getElem?, hB, b1] at hm
  cases hm
  cases e : r.2 with
  | nil =>
    rw [e] at b2
    have : bs = [] := List.length_eq_zero_iff.mp b2
    subst this
    rfl
  | cons n ns =>
    obtain ⟨h0, _⟩ := b4 0 n (by rw [e]; rfl)
    omega
theorem pl_law_small : ∀ ds S Q, ds.length = 2 → sp_law_small ds S Q → semA n_law_small t_law_small ds S Q := by
  rintro ds S Q _ ⟨a, c, sg, k, xs, rfl, hD, hk, hsg, nsa, nsc, hxs, hne, hxl, q⟩
  unfold semA t_law_small
  (repeat (with_reducible (first | refine i_seq ?_ | refine i_next ?_ | refine i_break ?_ | refine i_cont ?_ | refine i_drop ?_ | refine i_ret ?_ | refine i_retN ?_ | refine i_if ?_ | refine i_asg ?_ | refine i_par ?_ | refine i_for ?_ | refine i_nm ?_ | refine i_tp ?_ | refine i_gcons ?_ | refine i_gnil ?_ | refine i_gsub ?_ | refine i_c ?_ | refine i_anil ?_ | refine i_acons ?_ | refine i_tup ?_ | refine i_lst ?_ | refine i_op ?_ | refine i_un ?_ | refine i_call ?_ | refine i_fn ?_ | refine i_test ?_ | refine i_and ?_ | refine i_or ?_ | refine i_not ?_ | refine i_ifx ?_ | refine i_andV ?_ | refine i_orV ?_ | refine i_notV ?_ | refine i_meth ?_ | refine i_sl ?_ | refine i_nopart ?_ | refine i_part ?_ | refine i_revL ?_ | refine i_sortKey ?_ | refine i_sortSet ?_ | refine i_rg1 ?_ | refine i_seqS ?_ | refine i_revR ?_ | refine i_lc ?_ | refine i_yes ?_ | refine i_seqT ?_ | refine i_seqX ?_ | refine i_addI ?_ | refine i_subI ?_ | refine i_negI ?_ | refine i_iaddI ?_ | refine i_eqI ?_ | refine i_neI ?_ | refine i_eqX ?_ | refine i_neX ?_ | refine i_ltI ?_ | refine i_gtI ?_ | refine i_leI ?_ | refine i_geI ?_ | refine i_lenT ?_ | refine i_absI ?_ | refine i_intI ?_ | refine i_lstT ?_ | refine i_slT ?_ | refine i_iteT ?_ | refine i_iteF ?_ | refine i_var (by with_unfolding_all rfl) ?_ | refine i_aug (by with_unfolding_all rfl) ?_ | refine i_ixT (by with_unfolding_all rfl) ?_ | refine ⟨_, _, rfl, ?_⟩ | refine ⟨_, rfl, ?_⟩ | refine ⟨rfl, ?_⟩ | refine ⟨i_tyS, ?_⟩)))
  refine ⟨a, c, _, _, rfl, hD, by omega, by decide, by decide, fun r S1 h0 h1 hx1 hD1 => ?_⟩
  (repeat (with_reducible (first | refine i_seq ?_ | refine i_next ?_ | refine i_break ?_ | refine i_cont ?_ | refine i_drop ?_ | refine i_ret ?_ | refine i_retN ?_ | refine i_if ?_ | refine i_asg ?_ | refine i_par ?_ | refine i_for ?_ | refine i_nm ?_ | refine i_tp ?_ | refine i_gcons ?_ | refine i_gnil ?_ | refine i_gsub ?_ | refine i_c ?_ | refine i_anil ?_ | refine i_acons ?_ | refine i_tup ?_ | refine i_lst ?_ | refine i_op ?_ | refine i_un ?_ | refine i_call ?_ | refine i_fn ?_ | refine i_test ?_ | refine i_and ?_ | refine i_or ?_ | refine i_not ?_ | refine i_ifx ?_ | refine i_andV ?_ | refine i_orV ?_ | refine i_notV ?_ | refine i_meth ?_ | refine i_sl ?_ | refine i_nopart ?_ | refine i_part ?_ | refine i_revL ?_ | refine i_sortKey ?_ | refine i_sortSet ?_ | refine i_rg1 ?_ | refine i_seqS ?_ | refine i_revR ?_ | refine i_lc ?_ | refine i_yes ?_ | refine i_seqT ?_ | refine i_seqX ?_ | refine i_addI ?_ | refine i_subI ?_ | refine i_negI ?_ | refine i_iaddI ?_ | refine i_eqI ?_ | refine i_neI ?_ | refine i_eqX ?_ | refine i_neX ?_ | refine i_ltI ?_ | refine i_gtI ?_ | refine i_leI ?_ | refine i_geI ?_ | refine i_lenT ?_ | refine i_absI ?_ | refine i_intI ?_ | refine i_lstT ?_ | refine i_slT ?_ | refine i_iteT ?_ | refine i_iteF ?_ | refine i_var (by with_unfolding_all rfl) ?_ | refine i_aug (by with_unfolding_all rfl) ?_ | refine i_ixT (by with_unfolding_all rfl) ?_ | refine ⟨_, _, rfl, ?_⟩ | refine ⟨_, rfl, ?_⟩ | refine ⟨rfl, ?_⟩ | refine ⟨i_tyS, ?_⟩)))
  refine ⟨a, c, sg, _, _, xs, rfl, hD1, by omega, hx1 _ _ hsg nsa nsc, nsa, nsc, hxs, hne, hxl, by omega, by omega, fun S2 P B hP hPl hx2 hD2 => ?_⟩
  (repeat (with_reducible (first | refine i_seq ?_ | refine i_next ?_ | refine i_break ?_ | refine i_cont ?_ | refine i_drop ?_ | refine i_ret ?_ | refine i_retN ?_ | refine i_if ?_ | refine i_asg ?_ | refine i_par ?_ | refine i_for ?_ | refine i_nm ?_ | refine i_tp ?_ | refine i_gcons ?_ | refine i_gnil ?_ | refine i_gsub ?_ | refine i_c ?_ | refine i_anil ?_ | refine i_acons ?_ | refine i_tup ?_ | refine i_lst ?_ | refine i_op ?_ | refine i_un ?_ | refine i_call ?_ | refine i_fn ?_ | refine i_test ?_ | refine i_and ?_ | refine i_or ?_ | refine i_not ?_ | refine i_ifx ?_ | refine i_andV ?_ | refine i_orV ?_ | refine i_notV ?_ | refine i_meth ?_ | refine i_sl ?_ | refine i_nopart ?_ | refine i_part ?_ | refine i_revL ?_ | refine i_sortKey ?_ | refine i_sortSet ?_ | refine i_rg1 ?_ | refine i_seqS ?_ | refine i_revR ?_ | refine i_lc ?_ | refine i_yes ?_ | refine i_seqT ?_ | refine i_seqX ?_ | refine i_addI ?_ | refine i_subI ?_ | refine i_negI ?_ | refine i_iaddI ?_ | refine i_eqI ?_ | refine i_neI ?_ | refine i_eqX ?_ | refine i_neX ?_ | refine i_ltI ?_ | refine i_gtI ?_ | refine i_leI ?_ | refine i_geI ?_ | refine i_lenT ?_ | refine i_absI ?_ | refine i_intI ?_ | refine i_lstT ?_ | refine i_slT ?_ | refine i_iteT ?_ | refine i_iteF ?_ | refine i_var (by with_unfolding_all rfl) ?_ | refine i_aug (by with_unfolding_all rfl) ?_ | refine i_ixT (by with_unfolding_all rfl) ?_ | refine ⟨_, _, rfl, ?_⟩ | refine ⟨_, rfl, ?_⟩ | refine ⟨rfl, ?_⟩ | refine ⟨i_tyS, ?_⟩)))
  have hx12 := hx1.trans hx2
  refine i_while (fun n l S' => ∃ P B, n = P.length ∧ 1 ≤ P.length ∧ P.length ≤ 20 ∧ PlanM P B ∧ l = [some (.ref a), some (.ref sg), some (planD P)] ∧ Keeps S2 S') P.length ⟨P, B, rfl, by omega, by omega, hP, rfl, .refl⟩ ?_
  rintro n l S3 ⟨P, B, rfl, hp1, hp2, hP, rfl, hk3⟩
  obtain ⟨m, hm⟩ : ∃ m, B.getLast? = some m := by
    have : B ≠ [] := fun e => by have := hP.len; rw [e] at this; simp at this; omega
    exact ⟨_, List.getLast?_eq_some_getLast this⟩
  (repeat (with_reducible (first | refine i_seq ?_ | refine i_next ?_ | refine i_break ?_ | refine i_cont ?_ | refine i_drop ?_ | refine i_ret ?_ | refine i_retN ?_ | refine i_if ?_ | refine i_asg ?_ | refine i_par ?_ | refine i_for ?_ | refine i_nm ?_ | refine i_tp ?_ | refine i_gcons ?_ | refine i_gnil ?_ | refine i_gsub ?_ | refine i_c ?_ | refine i_anil ?_ | refine i_acons ?_ | refine i_tup ?_ | refine i_lst ?_ | refine i_op ?_ | refine i_un ?_ | refine i_call ?_ | refine i_fn ?_ | refine i_test ?_ | refine i_and ?_ | refine i_or ?_ | refine i_not ?_ | refine i_ifx ?_ | refine i_andV ?_ | refine i_orV ?_ | refine i_notV ?_ | refine i_meth ?_ | refine i_sl ?_ | refine i_nopart ?_ | refine i_part ?_ | refine i_revL ?_ | refine i_sortKey ?_ | refine i_sortSet ?_ | refine i_rg1 ?_ | refine i_seqS ?_ | refine i_revR ?_ | refine i_lc ?_ | refine i_yes ?_ | refine i_seqT ?_ | refine i_seqX ?_ | refine i_addI ?_ | refine i_subI ?_ | refine i_negI ?_ | refine i_iaddI ?_ | refine i_eqI ?_ | refine i_neI ?_ | refine i_eqX ?_ | refine i_neX ?_ | refine i_ltI ?_ | refine i_gtI ?_ | refine i_leI ?_ | refine i_geI ?_ | refine i_lenT ?_ | refine i_absI ?_ | refine i_intI ?_ | refine i_lstT ?_ | refine i_slT ?_ | refine i_iteT ?_ | refine i_iteF ?_ | refine i_var (by with_unfolding_all rfl) ?_ | refine i_aug (by with_unfolding_all rfl) ?_ | refine i_ixT (by with_unfolding_all rfl) ?_ | refine ⟨_, _, rfl, ?_⟩ | refine ⟨_, rfl, ?_⟩ | refine ⟨rfl, ?_⟩ | refine ⟨i_tyS, ?_⟩)))
  refine ⟨P, B, m, rfl, hP, hm, by omega, fun S4 hk4 => ?_⟩
  (repeat (with_reducible (first | refine i_seq ?_ | refine i_next ?_ | refine i_break ?_ | refine i_cont ?_ | refine i_drop ?_ | refine i_ret ?_ | refine i_retN ?_ | refine i_if ?_ | refine i_asg ?_ | refine i_par ?_ | refine i_for ?_ | refine i_nm ?_ | refine i_tp ?_ | refine i_gcons ?_ | refine i_gnil ?_ | refine i_gsub ?_ | refine i_c ?_ | refine i_anil ?_ | refine i_acons ?_ | refine i_tup ?_ | refine i_lst ?_ | refine i_op ?_ | refine i_un ?_ | refine i_call ?_ | refine i_fn ?_ | refine i_test ?_ | refine i_and ?_ | refine i_or ?_ | refine i_not ?_ | refine i_ifx ?_ | refine i_andV ?_ | refine i_orV ?_ | refine i_notV ?_ | refine i_meth ?_ | refine i_sl ?_ | refine i_nopart ?_ | refine i_part ?_ | refine i_revL ?_ | refine i_sortKey ?_ | refine i_sortSet ?_ | refine i_rg1 ?_ | refine i_seqS ?_ | refine i_revR ?_ | refine i_lc ?_ | refine i_yes ?_ | refine i_seqT ?_ | refine i_seqX ?_ | refine i_addI ?_ | refine i_subI ?_ | refine i_negI ?_ | refine i_iaddI ?_ | refine i_eqI ?_ | refine i_neI ?_ | refine i_eqX ?_ | refine i_neX ?_ | refine i_ltI ?_ | refine i_gtI ?_ | refine i_leI ?_ | refine i_geI ?_ | refine i_lenT ?_ | refine i_absI ?_ | refine i_intI ?_ | refine i_lstT ?_ | refine i_slT ?_ | refine i_iteT ?_ | refine i_iteF ?_ | refine i_var (by with_unfolding_all rfl) ?_ | refine i_aug (by with_unfolding_all rfl) ?_ | refine i_ixT (by with_unfolding_all rfl) ?_ | refine ⟨_, _, rfl, ?_⟩ | refine ⟨_, rfl, ?_⟩ | refine ⟨rfl, ?_⟩ | refine ⟨i_tyS, ?_⟩)))
  refine i_ite (fun hb => ?_) fun hb => ?_
  · have hbig : (60 : Int) < (m.size : Int) := by simpa using hb
    have hl2 : 2 ≤ P.length := by
      by_cases h : P.length = 1
      · have := hP.one h hm; omega
      · omega
    (repeat (with_reducible (first | refine i_seq ?_ | refine i_next ?_ | refine i_break ?_ | refine i_cont ?_ | refine i_drop ?_ | refine i_ret ?_ | refine i_retN ?_ | refine i_if ?_ | refine i_asg ?_ | refine i_par ?_ | refine i_for ?_ | refine i_nm ?_ | refine i_tp ?_ | refine i_gcons ?_ | refine i_gnil ?_ | refine i_gsub ?_ | refine i_c ?_ | refine i_anil ?_ | refine i_acons ?_ | refine i_tup ?_ | refine i_lst ?_ | refine i_op ?_ | refine i_un ?_ | refine i_call ?_ | refine i_fn ?_ | refine i_test ?_ | refine i_and ?_ | refine i_or ?_ | refine i_not ?_ | refine i_ifx ?_ | refine i_andV ?_ | refine i_orV ?_ | refine i_notV ?_ | refine i_meth ?_ | refine i_sl ?_ | refine i_nopart ?_ | refine i_part ?_ | refine i_revL ?_ | refine i_sortKey ?_ | refine i_sortSet ?_ | refine i_rg1 ?_ | refine i_seqS ?_ | refine i_revR ?_ | refine i_lc ?_ | refine i_yes ?_ | refine i_seqT ?_ | refine i_seqX ?_ | refine i_addI ?_ | refine i_subI ?_ | refine i_negI ?_ | refine i_iaddI ?_ | refine i_eqI ?_ | refine i_neI ?_ | refine i_eqX ?_ | refine i_neX ?_ | refine i_ltI ?_ | refine i_gtI ?_ | refine i_leI ?_ | refine i_geI ?_ | refine i_lenT ?_ | refine i_absI ?_ | refine i_intI ?_ | refine i_lstT ?_ | refine i_slT ?_ | refine i_iteT ?_ | refine i_iteF ?_ | refine i_var (by with_unfolding_all rfl) ?_ | refine i_aug (by with_unfolding_all rfl) ?_ | refine i_ixT (by with_unfolding_all rfl) ?_ | refine ⟨_, _, rfl, ?_⟩ | refine ⟨_, rfl, ?_⟩ | refine ⟨rfl, ?_⟩ | refine ⟨i_tyS, ?_⟩)))
    unfold planD
    (repeat (with_reducible (first | refine i_seq ?_ | refine i_next ?_ | refine i_break ?_ | refine i_cont ?_ | refine i_drop ?_ | refine i_ret ?_ | refine i_retN ?_ | refine i_if ?_ | refine i_asg ?_ | refine i_par ?_ | refine i_for ?_ | refine i_nm ?_ | refine i_tp ?_ | refine i_gcons ?_ | refine i_gnil ?_ | refine i_gsub ?_ | refine i_c ?_ | refine i_anil ?_ | refine i_acons ?_ | refine i_tup ?_ | refine i_lst ?_ | refine i_op ?_ | refine i_un ?_ | refine i_call ?_ | refine i_fn ?_ | refine i_test ?_ | refine i_and ?_ | refine i_or ?_ | refine i_not ?_ | refine i_ifx ?_ | refine i_andV ?_ | refine i_orV ?_ | refine i_notV ?_ | refine i_meth ?_ | refine i_sl ?_ | refine i_nopart ?_ | refine i_part ?_ | refine i_revL ?_ | refine i_sortKey ?_ | refine i_sortSet ?_ | refine i_rg1 ?_ | refine i_seqS ?_ | refine i_revR ?_ | refine i_lc ?_ | refine i_yes ?_ | refine i_seqT ?_ | refine i_seqX ?_ | refine i_addI ?_ | refine i_subI ?_ | refine i_negI ?_ | refine i_iaddI ?_ | refine i_eqI ?_ | refine i_neI ?_ | refine i_eqX ?_ | refine i_neX ?_ | refine i_ltI ?_ | refine i_gtI ?_ | refine i_leI ?_ | refine i_geI ?_ | refine i_lenT ?_ | refine i_absI ?_ | refine i_intI ?_ | refine i_lstT ?_ | refine i_slT ?_ | refine i_iteT ?_ | refine i_iteF ?_ | refine i_var (by with_unfolding_all rfl) ?_ | refine i_aug (by with_unfolding_all rfl) ?_ | refine i_ixT (by with_unfolding_all rfl) ?_ | refine ⟨_, _, rfl, ?_⟩ | refine ⟨_, rfl, ?_⟩ | refine ⟨rfl, ?_⟩ | refine ⟨i_tyS, ?_⟩)))
    rw [show (-1 : Int) = -1 from rfl, cut_last, ← List.map_dropLast]
    refine ⟨P.dropLast.length, by rw [List.length_dropLast]; omega, P.dropLast, B.dropLast, rfl, by rw [List.length_dropLast]; omega, by rw [List.length_dropLast]; omega, hP.drop, rfl, hk3.trans hk4⟩
  · have hsm : (m.size : Int) ≤ 60 := by simpa using hb
    (repeat (with_reducible (first | refine i_seq ?_ | refine i_next ?_ | refine i_break ?_ | refine i_cont ?_ | refine i_drop ?_ | refine i_ret ?_ | refine i_retN ?_ | refine i_if ?_ | refine i_asg ?_ | refine i_par ?_ | refine i_for ?_ | refine i_nm ?_ | refine i_tp ?_ | refine i_gcons ?_ | refine i_gnil ?_ | refine i_gsub ?_ | refine i_c ?_ | refine i_anil ?_ | refine i_acons ?_ | refine i_tup ?_ | refine i_lst ?_ | refine i_op ?_ | refine i_un ?_ | refine i_call ?_ | refine i_fn ?_ | refine i_test ?_ | refine i_and ?_ | refine i_or ?_ | refine i_not ?_ | refine i_ifx ?_ | refine i_andV ?_ | refine i_orV ?_ | refine i_notV ?_ | refine i_meth ?_ | refine i_sl ?_ | refine i_nopart ?_ | refine i_part ?_ | refine i_revL ?_ | refine i_sortKey ?_ | refine i_sortSet ?_ | refine i_rg1 ?_ | refine i_seqS ?_ | refine i_revR ?_ | refine i_lc ?_ | refine i_yes ?_ | refine i_seqT ?_ | refine i_seqX ?_ | refine i_addI ?_ | refine i_subI ?_ | refine i_negI ?_ | refine i_iaddI ?_ | refine i_eqI ?_ | refine i_neI ?_ | refine i_eqX ?_ | refine i_neX ?_ | refine i_ltI ?_ | refine i_gtI ?_ | refine i_leI ?_ | refine i_geI ?_ | refine i_lenT ?_ | refine i_absI ?_ | refine i_intI ?_ | refine i_lstT ?_ | refine i_slT ?_ | refine i_iteT ?_ | refine i_iteF ?_ | refine i_var (by with_unfolding_all rfl) ?_ | refine i_aug (by with_unfolding_all rfl) ?_ | refine i_ixT (by with_unfolding_all rfl) ?_ | refine ⟨_, _, rfl, ?_⟩ | refine ⟨_, rfl, ?_⟩ | refine ⟨rfl, ?_⟩ | refine ⟨i_tyS, ?_⟩)))
    exact q S4 P B m hP hm (by omega) hp2 (hx12.trans (Ext.of (hk3.trans hk4))) (by
      obtain ⟨g1, cs, n, g2, g3, g4, g5, g6, g7⟩ := hD2
      exact ⟨g1, cs, n, hk4 _ _ (hk3 _ _ g2), hk4 _ _ (hk3 _ _ g3), g4, g5, g6, by omega⟩)
end AL

namespace AL
open PySem PySem.Spec PyProof.Rows L2

/-! ### sorting by dataLe -/
theorem dle_trans {α : Type} (k : α → PyData) (a b c : α) (h1 : PySem.W.dataLe false k a b = true) (h2 : PySem.W.dataLe false k b c = true) : PySem.W.dataLe false k a c = true := by
  rw [dle_false, Bool.not_eq_true'] at h1 h2 ⊢
  cases e : PySem.W.dataLt (k c) (k a) with
  | false => rfl
  | true =>
    cases e2 : PySem.W.dataLt (k a) (k b) with
    | true => rw [dlt_trans e e2] at h2; cases h2
    | false =>
      have t : PySem.W.keyToks (k a) = PySem.W.keyToks (k b) := lex_total (O := PyProof.Rows.itemOrd) _ _ e2 h1
      have e' : PyProof.Rows.lexLt PyProof.Rows.itemOrd (PySem.W.keyToks (k c)) (PySem.W.keyToks (k a)) = true := e
      rw [t] at e'
      have h2' : PyProof.Rows.lexLt PyProof.Rows.itemOrd (PySem.W.keyToks (k c)) (PySem.W.keyToks (k b)) = false := h2
      rw [h2'] at e'; cases e'
theorem dle_total {α : Type} (k : α → PyData) (a b : α) : (PySem.W.dataLe false k a b || PySem.W.dataLe false k b a) = true := by
  rw [dle_false, dle_false]
  cases e : PySem.W.dataLt (k b) (k a) with
  | false => rfl
  | true => rw [dlt_asymm e]; rfl
theorem dle_sorted {α : Type} (k : α → PyData) (l : List α) : (l.mergeSort (PySem.W.dataLe false k)).Pairwise fun a b => PySem.W.dataLt (k b) (k a) = false := by
  refine List.Pairwise.imp (fun {a b} h => ?_) (List.pairwise_mergeSort (dle_trans k) (dle_total k) l)
  rw [dle_false, Bool.not_eq_true'] at h
  exact h
theorem map_of {α β : Type} {f : α → β} : ∀ {l : List β}, (∀ d ∈ l, ∃ m, d = f m) → ∃ cs : List α, l = cs.map f
  | [], _ => ⟨[], rfl⟩
  | d :: l, h => by
    obtain ⟨m, rfl⟩ := h d List.mem_cons_self
    obtain ⟨cs, rfl⟩ := map_of (f := f) fun e he => h e (List.mem_cons_of_mem _ he)
    exact ⟨m :: cs, rfl⟩

/-! ### the branches of a maze in order -/
structure IsSrt (m : Mz) (B : List Mz) : Prop where
  ord : B.Pairwise fun a b => a.lt b = true
  mem : ∀ x, x ∈ B ↔ x ∈ m.subs
theorem IsSrt.one {m : Mz} {A B : List Mz} (h1 : IsSrt m A) (h2 : IsSrt m B) : A = B := Mz.sorted_one h1.ord h2.ord fun x => by rw [h1.mem, h2.mem]
theorem IsSrt.nd {m : Mz} {B : List Mz} (h : IsSrt m B) : B.Nodup := List.Pairwise.imp (fun {a b} hl e => by subst e; rw [Mz.lt_irrefl] at hl; cases hl) h.ord
theorem IsSrt.few {m : Mz} {B : List Mz} (h : IsSrt m B) : B.length ≤ m.size := by
  rw [← Mz.subs_len m]
  exact h.nd.length_le_of_subset fun x hx => (h.mem x).mp hx
open Classical in
noncomputable def ixOf (B : List Mz) (b : Mz) : Nat := B.findIdx fun x => decide (x = b)
theorem ixOf_get {B : List Mz} {b : Mz} (h : b ∈ B) : B[ixOf B b]? = some b := by
  classical
  have hlt : ixOf B b < B.length := List.findIdx_lt_length_of_exists ⟨b, h, by simp⟩
  rw [List.getElem?_eq_getElem hlt]
  have e := List.findIdx_getElem (w := hlt)
  have e2 : B[ixOf B b] = b := by
    have z := of_decide_eq_true e
    exact z
  rw [e2]
theorem ixOf_first {B : List Mz} {b : Mz} {i : Nat} (h : i < ixOf B b) : B[i]? ≠ some b := by
  classical
  intro e
  obtain ⟨hl, e2⟩ := List.getElem?_eq_some_iff.mp e
  have z := List.not_of_lt_findIdx (p := fun x => decide (x = b)) h
  simp [e2] at z
noncomputable def planOf (B : List Mz) : List Row := B.map fun m => (m.sg, m.bs.map (ixOf B))
theorem IsSrt.lt_ix {m : Mz} {B : List Mz} (h : IsSrt m B) {i n : Nat} {x b : Mz} (h1 : B[i]? = some x) (h2 : B[n]? = some b) (h3 : b.size < x.size) : n < i := by
  obtain ⟨a1, e1⟩ := List.getElem?_eq_some_iff.mp h1
  obtain ⟨a2, e2⟩ := List.getElem?_eq_some_iff.mp h2
  rcases Nat.lt_trichotomy n i with c | c | c
  · exact c
  · subst c; rw [h1] at h2; cases h2; omega
  · have z := List.pairwise_iff_getElem.mp h.ord i n a1 a2 c
    rw [e1, e2] at z
    rw [Mz.lt_asymm (Mz.lt_size h3)] at z
    cases z
theorem IsSrt.plan {m : Mz} {B : List Mz} (h : IsSrt m B) (ok : m.Ok) : PlanM (planOf B) B := by
  have inB : ∀ x ∈ B, ∀ b ∈ x.bs, b ∈ B := fun x hx b hb => (h.mem b).mpr ((Mz.subs_in m x ((h.mem x).mp hx)).2.2.2 b hb)
  have okB : ∀ x ∈ B, x.Ok := fun x hx => (Mz.subs_in m x ((h.mem x).mp hx)).2.2.1 ok
  refine ⟨by simp [planOf], fun i r hr => ?_, okB⟩
  unfold planOf at hr
  rw [List.getElem?_map, Option.map_eq_some_iff] at hr
  obtain ⟨x, hx, rfl⟩ := hr
  have hxB := List.mem_of_getElem? hx
  refine ⟨x.bs, by rw [hx]; cases x; rfl, by simp, by simpa using ((Mz.ok_eq x).mp (okB x hxB)).2.1, fun j n hj => ?_⟩
  simp only [List.getElem?_map, Option.map_eq_some_iff] at hj
  obtain ⟨b, hb, rfl⟩ := hj
  have hbx := List.mem_of_getElem? hb
  have g := ixOf_get (inB x hxB b hbx)
  exact ⟨h.lt_ix hx g (Mz.size_lt hbx), b, hb, g⟩
theorem IsSrt.last {m : Mz} {B : List Mz} (h : IsSrt m B) : B.getLast? = some m := by
  have hm : m ∈ B := (h.mem m).mpr (by rw [Mz.subs_eq]; exact List.mem_cons_self)
  have hne : B ≠ [] := fun e => by rw [e] at hm; exact nomatch hm
  rw [List.getLast?_eq_some_getLast hne]
  congr 1
  generalize hy : B.getLast hne = y
  have hyB : y ∈ B := hy ▸ List.getLast_mem hne
  rcases (Mz.subs_in m y ((h.mem y).mp hyB)).2.1 with e | e
  · exact e
  · obtain ⟨i, hi⟩ := List.getElem?_of_mem hm
    obtain ⟨hil, _⟩ := List.getElem?_eq_some_iff.mp hi
    have hl : B[B.length - 1]? = some y := by rw [← List.getLast?_eq_getElem?, List.getLast?_eq_some_getLast hne, hy]
    have := h.lt_ix hi hl e
    omega
theorem planOf_len (B : List Mz) : (planOf B).length = B.length := by simp [planOf]
-- what may be laid
mutual
theorem Mz.d_lay : ∀ m : Mz, m.Ok → m.d.py.canLay0 = true
  | .mk s bs, h => by
    obtain ⟨⟨_, _, h1⟩, _, h3⟩ := h
    have hs : PyData.strOk s = true := by
      unfold PyData.strOk
      rw [← Array.all_toList, List.all_eq_true]
      intro c hc
      have := h1 c hc
      exact decide_eq_true (by omega)
    simp [Mz.d, D.py, D.pys, PyData.canLay0, PyData.canLayAll0, hs, Mz.ds_lay bs h3]
theorem Mz.ds_lay : ∀ bs : List Mz, Mz.Oks bs → PyData.canLayAll0 (D.pys (Mz.ds bs)) = true
  | [], _ => rfl
  | m :: r, h => by
    simp [Mz.ds, D.pys, PyData.canLayAll0, Mz.d_lay m h.1, Mz.ds_lay r h.2]
end
theorem Mz.all_lay {B : List Mz} (h : ∀ x ∈ B, x.Ok) : PyData.canLayAll0 (D.pys (B.map Mz.d)) = true := by
  rw [← Mz.ds_map]
  exact Mz.ds_lay B ((Mz.oks_iff B).mpr h)
/-- a maze and its key, as a pair -/
def Mz.pr (m : Mz) : D := .tup [m.key, m.d]
theorem Mz.pr_keyed (m : Mz) : m.pr.keyed = true := by simp [Mz.pr, D.keyed, D.keyeds, Mz.key_keyed, Mz.d_keyed]
theorem Mz.pr_inj {m n : Mz} (h : m.pr = n.pr) : m = n := by
  simp only [Mz.pr, D.tup.injEq, List.cons.injEq, and_true] at h
  exact Mz.key_inj _ _ h.1
theorem Mz.pr_lt {m n : Mz} (h : PySem.W.dataLt m.pr.py n.pr.py = false) : m.lt n = false := by
  simp only [Mz.pr, D.py, D.pys] at h
  rw [PySem.W.dataLt_pair (Mz.key_alike m n) (Mz.d_alike m n)] at h
  cases e : PyData.eqv m.key.py n.key.py with
  | true =>
    have := Mz.key_inj _ _ (keyed_eqv _ _ (Mz.key_keyed m) (Mz.key_keyed n) e)
    rw [this]; exact Mz.lt_irrefl _
  | false => rw [e, if_neg Bool.false_ne_true] at h; exact h
theorem Mz.pr_depth (m : Mz) : m.pr.py.depth ≤ 2 * m.size + 1 := by
  have h1 := Mz.d_depth m
  have h2 := Mz.key_depth m
  simp only [Mz.pr, D.py, D.pys, PyData.depth, PyData.depthAll]
  omega
theorem Mz.pr_alike (m n : Mz) : PySem.W.alike m.pr.py n.pr.py = true := by
  simp [Mz.pr, D.py, D.pys, PySem.W.alike, PySem.W.alikeAll, Mz.key_alike, Mz.d_alike]
end AL

namespace AL
open PySem PySem.Spec PyProof.Rows L2

def sp_plan_of : Spa := fun ds S Q => ∃ m : Mz, ds = [m.d] ∧ m.Ok ∧ m.size ≤ 60 ∧ ∀ S' B, IsSrt m B → Keeps S S' → Q (planD (planOf B)) S'
abbrev sp_law_due : Spa := sp_plan_of
abbrev sp_law_rank : Spa := sp_key 100
abbrev sp_key_of : Spa := sp_key 100
def n_law_due : List Str := ["_law_maze_here", "_law_branches", "_law_found", "_law_path", "_law_room", "_law_sign", "_law_parts", "_law_branch"]
def r_law_due : TSa :=
  (aSeq (aAsg (aSortKey sp_law_rank (aVar 1)) (gNm 1))
  (aSeq (aAsg (aLst aNil) (gNm 2))
  (aSeq (aFor (iSeq (aVar 1)) (gTp 2 (gConsA (gNm 5) (gConsA (gNm 6) gNilA))) (aDrop (aMeth "list" appendA (aVar 2) (aCons (aTup (aCons (aVar 5) (aCons (aCall tupleA (aCons (aLc (iSeq (aVar 6)) (gNm 7) aYes (aMeth "list" indexA (aVar 1) (aCons (aVar 7) aNil)) (ownIx ([("_law_branch", 7)] : List (Str × Nat)))) aNil)) aNil))) aNil))))
  (aRet (aCall tupleA (aCons (aVar 2) aNil))))))
def t_law_due : TSa :=
  (aSeq (aAsg (aLst aNil) (gNm 1))
  (aSeq (aFor (iSeq (aFn 1 sp_law_in_order (aCons (aVar 0) aNil))) (gTp 2 (gConsA (gNm 3) (gConsA (gNm 4) gNilA))) (aIfS (aTest (aOp (inDA true) (aVar 4) (aVar 1))) (aDrop (aMeth "list" appendA (aVar 1) (aCons (aVar 4) aNil))) aNext))
  r_law_due))
/-- x not in xs, mazes -/
theorem i_notIn {S : Sto} {Q : DK} {p : Addr} {B : List Mz} {x : Mz} (h : S p = some (.lst (B.map Mz.d))) (hd : ∀ b ∈ B, b.size ≤ 90) (q : ∀ c, (c = true ↔ x ∉ B) → Q (.bl c) S) : inDA true x.d (.ref p) S Q := by
  unfold inDA
  dsimp only
  rw [h]
  dsimp only
  rw [Mz.d_eq x]
  unfold inA
  dsimp only
  rw [h]
  dsimp only
  have hx := Mz.d_keyed x
  rw [Mz.d_eq x] at hx
  have hall : D.keyeds (B.map Mz.d) = true := keyeds_map fun b _ => Mz.d_keyed b
  refine ⟨_, _, Pd.of _ (keyed_pure _ hx), PdAll.of _ (keyeds_pure _ hall), pure_plain _ (keyed_pure _ hx), pures_plain _ (keyeds_pure _ hall), ?_, q _ ?_⟩
  · refine Nat.le_trans (Nat.min_le_left _ _) ?_
    have : ∀ l : List Mz, (∀ b ∈ l, b.size ≤ 90) → PyData.depthAll (D.pys (l.map Mz.d)) ≤ 180 := by
      intro l
      induction l with
      | nil => intro _; exact Nat.zero_le _
      | cons b l ih =>
        intro h
        have h1 := ih fun c hc => h c (List.mem_cons_of_mem _ hc)
        have h2 := Mz.d_depth b
        have h3 := h b List.mem_cons_self
        simp only [List.map_cons, D.pys, PyData.depthAll]
        omega
    exact Nat.le_trans (this B hd) (by decide)
  · rw [← Mz.d_eq x]
    rw [Bool.true_bne, Bool.not_eq_true', ]
    rw [← Bool.not_eq_true, List.any_eq_true]
    refine not_congr ⟨fun ⟨y, hy, e⟩ => ?_, fun hx => ⟨x.d.py, ?_, keyed_eqv_self _ (Mz.d_keyed x)⟩⟩
    · rw [D.pys_map, List.map_map] at hy
      obtain ⟨b, hb, rfl⟩ := List.mem_map.mp hy
      have := Mz.d_inj _ _ (keyed_eqv _ _ (Mz.d_keyed b) (Mz.d_keyed x) e)
      exact this ▸ hb
    · rw [D.pys_map, List.map_map]
      exact List.mem_map.mpr ⟨x, hx, rfl⟩
/-- xs.index(x), mazes in order -/
theorem i_index {S : Sto} {Q : DK} {p : Addr} {B : List Mz} {x : Mz} (h : S p = some (.lst (B.map Mz.d))) (ok : ∀ b ∈ B, b.Ok ∧ b.size ≤ 90) (hx : x ∈ B) (q : Q (natD (ixOf B x)) S) : indexA (.ref p) [x.d] S Q := by
  unfold indexA
  dsimp only
  rw [h]
  dsimp only
  have hd := Mz.d_depth x
  have hs := (ok x hx).2
  refine ⟨keyeds_map fun b _ => Mz.d_keyed b, Mz.d_keyed x, Mz.all_lay fun b hb => (ok b hb).1, Mz.d_lay x (ok x hx).1, by omega, ixOf B x, by rw [List.getElem?_map, ixOf_get hx]; rfl, fun i hi e => ?_, q⟩
  rw [List.getElem?_map, Option.map_eq_some_iff] at e
  obtain ⟨y, e1, e2⟩ := e
  rw [Mz.d_inj _ _ e2] at e1
  exact ixOf_first hi e1
/-- the row of a maze -/
theorem planOf_at {B : List Mz} {i : Nat} {x : Mz} (h : B[i]? = some x) : (planOf B)[i]? = some (x.sg, x.bs.map (ixOf B)) := by
  unfold planOf
  rw [List.getElem?_map, h]; rfl
open Classical in
noncomputable def keyF (d : D) : D := if h : ∃ m : Mz, d = m.d then h.choose.key else .non
theorem keyF_d (m : Mz) : keyF m.d = m.key := by
  unfold keyF
  have h : ∃ n : Mz, m.d = n.d := ⟨m, rfl⟩
  rw [dif_pos h]
  have := Mz.d_inj _ _ h.choose_spec
  rw [← this]
theorem pl_law_due : ∀ ds S Q, ds.length = 1 → sp_law_due ds S Q → semA n_law_due t_law_due ds S Q := by
  rintro ds S Q _ ⟨m, rfl, hok, hsz, q⟩
  unfold semA t_law_due
  have subOk : ∀ x ∈ m.subs, x.Ok ∧ x.size ≤ 60 := fun x hx => by
    have z := Mz.subs_in m x hx
    exact ⟨z.2.2.1 hok, by omega⟩
  (repeat (with_reducible (first | refine i_seq ?_ | refine i_next ?_ | refine i_break ?_ | refine i_cont ?_ | refine i_drop ?_ | refine i_ret ?_ | refine i_retN ?_ | refine i_if ?_ | refine i_asg ?_ | refine i_par ?_ | refine i_for ?_ | refine i_nm ?_ | refine i_tp ?_ | refine i_gcons ?_ | refine i_gnil ?_ | refine i_gsub ?_ | refine i_c ?_ | refine i_anil ?_ | refine i_acons ?_ | refine i_tup ?_ | refine i_lst ?_ | refine i_op ?_ | refine i_un ?_ | refine i_call ?_ | refine i_fn ?_ | refine i_test ?_ | refine i_and ?_ | refine i_or ?_ | refine i_not ?_ | refine i_ifx ?_ | refine i_andV ?_ | refine i_orV ?_ | refine i_notV ?_ | refine i_meth ?_ | refine i_sl ?_ | refine i_nopart ?_ | refine i_part ?_ | refine i_revL ?_ | refine i_sortKey ?_ | refine i_sortSet ?_ | refine i_rg1 ?_ | refine i_seqS ?_ | refine i_revR ?_ | refine i_lc ?_ | refine i_yes ?_ | refine i_seqT ?_ | refine i_seqX ?_ | refine i_addI ?_ | refine i_subI ?_ | refine i_negI ?_ | refine i_iaddI ?_ | refine i_eqI ?_ | refine i_neI ?_ | refine i_eqX ?_ | refine i_neX ?_ | refine i_ltI ?_ | refine i_gtI ?_ | refine i_leI ?_ | refine i_geI ?_ | refine i_lenT ?_ | refine i_absI ?_ | refine i_intI ?_ | refine i_lstT ?_ | refine i_slT ?_ | refine i_iteT ?_ | refine i_iteF ?_ | refine i_var (by with_unfolding_all rfl) ?_ | refine i_aug (by with_unfolding_all rfl) ?_ | refine i_ixT (by with_unfolding_all rfl) ?_ | refine ⟨_, _, rfl, ?_⟩ | refine ⟨_, rfl, ?_⟩ | refine ⟨rfl, ?_⟩ | refine ⟨i_tyS, ?_⟩)))
  refine ⟨by simp [sizeLine_eq], fun f hf => ?_⟩
  (repeat (with_reducible (first | refine i_seq ?_ | refine i_next ?_ | refine i_break ?_ | refine i_cont ?_ | refine i_drop ?_ | refine i_ret ?_ | refine i_retN ?_ | refine i_if ?_ | refine i_asg ?_ | refine i_par ?_ | refine i_for ?_ | refine i_nm ?_ | refine i_tp ?_ | refine i_gcons ?_ | refine i_gnil ?_ | refine i_gsub ?_ | refine i_c ?_ | refine i_anil ?_ | refine i_acons ?_ | refine i_tup ?_ | refine i_lst ?_ | refine i_op ?_ | refine i_un ?_ | refine i_call ?_ | refine i_fn ?_ | refine i_test ?_ | refine i_and ?_ | refine i_or ?_ | refine i_not ?_ | refine i_ifx ?_ | refine i_andV ?_ | refine i_orV ?_ | refine i_notV ?_ | refine i_meth ?_ | refine i_sl ?_ | refine i_nopart ?_ | refine i_part ?_ | refine i_revL ?_ | refine i_sortKey ?_ | refine i_sortSet ?_ | refine i_rg1 ?_ | refine i_seqS ?_ | refine i_revR ?_ | refine i_lc ?_ | refine i_yes ?_ | refine i_seqT ?_ | refine i_seqX ?_ | refine i_addI ?_ | refine i_subI ?_ | refine i_negI ?_ | refine i_iaddI ?_ | refine i_eqI ?_ | refine i_neI ?_ | refine i_eqX ?_ | refine i_neX ?_ | refine i_ltI ?_ | refine i_gtI ?_ | refine i_leI ?_ | refine i_geI ?_ | refine i_lenT ?_ | refine i_absI ?_ | refine i_intI ?_ | refine i_lstT ?_ | refine i_slT ?_ | refine i_iteT ?_ | refine i_iteF ?_ | refine i_var (by with_unfolding_all rfl) ?_ | refine i_aug (by with_unfolding_all rfl) ?_ | refine i_ixT (by with_unfolding_all rfl) ?_ | refine ⟨_, _, rfl, ?_⟩ | refine ⟨_, rfl, ?_⟩ | refine ⟨rfl, ?_⟩ | refine ⟨i_tyS, ?_⟩)))
  refine ⟨m, rfl, by omega, fun p S1 rs hrs hk1 hp hp1 => ?_⟩
  have npf : p ≠ f := fun e => by subst e; rw [put_same] at hp; cases hp
  have hf1 := hk1 f _ put_same
  have hk1' : Keeps S S1 := (Keeps.new hf).trans hk1
  clear hk1
  have hrl : rs.length = m.size := by rw [← Mz.subs_len m, ← hrs, List.length_map]
  refine i_seqL hp1 ?_
  refine for_inv (P := fun i l S' => (∃ x3 x4, l = [some m.d, some (.ref f), none, x3, x4, none, none, none]) ∧ S' p = some (.lst (rs.map Rm.d)) ∧ (∃ bs : List Mz, S' f = some (.lst (bs.map Mz.d)) ∧ bs.Nodup ∧ (∀ x, x ∈ bs ↔ x ∈ m.subs.take i) ∧ bs.length ≤ i) ∧ Keeps S S') ⟨⟨_, _, rfl⟩, hp1, ⟨[], hf1, List.nodup_nil, fun x => by simp, Nat.le_refl _⟩, hk1'⟩ (fun i l S' _ h => h.2.1) ?_ ?_
  · rintro i d l S2 K1 hd ⟨⟨x3, x4, rfl⟩, hp2, ⟨bs, hf2, hnd, hmem, hbl⟩, hk2⟩ hK
    rw [List.getElem?_map, Option.map_eq_some_iff] at hd
    obtain ⟨r, hr, rfl⟩ := hd
    have hi := (List.getElem?_eq_some_iff.mp hr).1
    have hsub : m.subs[i]? = some r.2 := by rw [← hrs, List.getElem?_map, hr]; rfl
    show gTp 2 _ (D.tup [.tup (r.1.map D.int), r.2.d]) _ _ _
    (repeat (with_reducible (first | refine i_seq ?_ | refine i_next ?_ | refine i_break ?_ | refine i_cont ?_ | refine i_drop ?_ | refine i_ret ?_ | refine i_retN ?_ | refine i_if ?_ | refine i_asg ?_ | refine i_par ?_ | refine i_for ?_ | refine i_nm ?_ | refine i_tp ?_ | refine i_gcons ?_ | refine i_gnil ?_ | refine i_gsub ?_ | refine i_c ?_ | refine i_anil ?_ | refine i_acons ?_ | refine i_tup ?_ | refine i_lst ?_ | refine i_op ?_ | refine i_un ?_ | refine i_call ?_ | refine i_fn ?_ | refine i_test ?_ | refine i_and ?_ | refine i_or ?_ | refine i_not ?_ | refine i_ifx ?_ | refine i_andV ?_ | refine i_orV ?_ | refine i_notV ?_ | refine i_meth ?_ | refine i_sl ?_ | refine i_nopart ?_ | refine i_part ?_ | refine i_revL ?_ | refine i_sortKey ?_ | refine i_sortSet ?_ | refine i_rg1 ?_ | refine i_seqS ?_ | refine i_revR ?_ | refine i_lc ?_ | refine i_yes ?_ | refine i_seqT ?_ | refine i_seqX ?_ | refine i_addI ?_ | refine i_subI ?_ | refine i_negI ?_ | refine i_iaddI ?_ | refine i_eqI ?_ | refine i_neI ?_ | refine i_eqX ?_ | refine i_neX ?_ | refine i_ltI ?_ | refine i_gtI ?_ | refine i_leI ?_ | refine i_geI ?_ | refine i_lenT ?_ | refine i_absI ?_ | refine i_intI ?_ | refine i_lstT ?_ | refine i_slT ?_ | refine i_iteT ?_ | refine i_iteF ?_ | refine i_var (by with_unfolding_all rfl) ?_ | refine i_aug (by with_unfolding_all rfl) ?_ | refine i_ixT (by with_unfolding_all rfl) ?_ | refine ⟨_, _, rfl, ?_⟩ | refine ⟨_, rfl, ?_⟩ | refine ⟨rfl, ?_⟩ | refine ⟨i_tyS, ?_⟩)))
    refine i_notIn hf2 (fun b hb => ?_) fun c hc => ?_
    · have := subOk b (List.mem_of_mem_take ((hmem b).mp hb)); omega
    (repeat (with_reducible (first | refine i_seq ?_ | refine i_next ?_ | refine i_break ?_ | refine i_cont ?_ | refine i_drop ?_ | refine i_ret ?_ | refine i_retN ?_ | refine i_if ?_ | refine i_asg ?_ | refine i_par ?_ | refine i_for ?_ | refine i_nm ?_ | refine i_tp ?_ | refine i_gcons ?_ | refine i_gnil ?_ | refine i_gsub ?_ | refine i_c ?_ | refine i_anil ?_ | refine i_acons ?_ | refine i_tup ?_ | refine i_lst ?_ | refine i_op ?_ | refine i_un ?_ | refine i_call ?_ | refine i_fn ?_ | refine i_test ?_ | refine i_and ?_ | refine i_or ?_ | refine i_not ?_ | refine i_ifx ?_ | refine i_andV ?_ | refine i_orV ?_ | refine i_notV ?_ | refine i_meth ?_ | refine i_sl ?_ | refine i_nopart ?_ | refine i_part ?_ | refine i_revL ?_ | refine i_sortKey ?_ | refine i_sortSet ?_ | refine i_rg1 ?_ | refine i_seqS ?_ | refine i_revR ?_ | refine i_lc ?_ | refine i_yes ?_ | refine i_seqT ?_ | refine i_seqX ?_ | refine i_addI ?_ | refine i_subI ?_ | refine i_negI ?_ | refine i_iaddI ?_ | refine i_eqI ?_ | refine i_neI ?_ | refine i_eqX ?_ | refine i_neX ?_ | refine i_ltI ?_ | refine i_gtI ?_ | refine i_leI ?_ | refine i_geI ?_ | refine i_lenT ?_ | refine i_absI ?_ | refine i_intI ?_ | refine i_lstT ?_ | refine i_slT ?_ | refine i_iteT ?_ | refine i_iteF ?_ | refine i_var (by with_unfolding_all rfl) ?_ | refine i_aug (by with_unfolding_all rfl) ?_ | refine i_ixT (by with_unfolding_all rfl) ?_ | refine ⟨_, _, rfl, ?_⟩ | refine ⟨_, rfl, ?_⟩ | refine ⟨rfl, ?_⟩ | refine ⟨i_tyS, ?_⟩)))
    refine i_ite (fun hb => ?_) fun hb => ?_
    · have hnot := hc.mp hb
      (repeat (with_reducible (first | refine i_seq ?_ | refine i_next ?_ | refine i_break ?_ | refine i_cont ?_ | refine i_drop ?_ | refine i_ret ?_ | refine i_retN ?_ | refine i_if ?_ | refine i_asg ?_ | refine i_par ?_ | refine i_for ?_ | refine i_nm ?_ | refine i_tp ?_ | refine i_gcons ?_ | refine i_gnil ?_ | refine i_gsub ?_ | refine i_c ?_ | refine i_anil ?_ | refine i_acons ?_ | refine i_tup ?_ | refine i_lst ?_ | refine i_op ?_ | refine i_un ?_ | refine i_call ?_ | refine i_fn ?_ | refine i_test ?_ | refine i_and ?_ | refine i_or ?_ | refine i_not ?_ | refine i_ifx ?_ | refine i_andV ?_ | refine i_orV ?_ | refine i_notV ?_ | refine i_meth ?_ | refine i_sl ?_ | refine i_nopart ?_ | refine i_part ?_ | refine i_revL ?_ | refine i_sortKey ?_ | refine i_sortSet ?_ | refine i_rg1 ?_ | refine i_seqS ?_ | refine i_revR ?_ | refine i_lc ?_ | refine i_yes ?_ | refine i_seqT ?_ | refine i_seqX ?_ | refine i_addI ?_ | refine i_subI ?_ | refine i_negI ?_ | refine i_iaddI ?_ | refine i_eqI ?_ | refine i_neI ?_ | refine i_eqX ?_ | refine i_neX ?_ | refine i_ltI ?_ | refine i_gtI ?_ | refine i_leI ?_ | refine i_geI ?_ | refine i_lenT ?_ | refine i_absI ?_ | refine i_intI ?_ | refine i_lstT ?_ | refine i_slT ?_ | refine i_iteT ?_ | refine i_iteF ?_ | refine i_var (by with_unfolding_all rfl) ?_ | refine i_aug (by with_unfolding_all rfl) ?_ | refine i_ixT (by with_unfolding_all rfl) ?_ | refine ⟨_, _, rfl, ?_⟩ | refine ⟨_, rfl, ?_⟩ | refine ⟨rfl, ?_⟩ | refine ⟨i_tyS, ?_⟩)))
      refine ⟨i_tyL hf2, ?_⟩
      (repeat (with_reducible (first | refine i_seq ?_ | refine i_next ?_ | refine i_break ?_ | refine i_cont ?_ | refine i_drop ?_ | refine i_ret ?_ | refine i_retN ?_ | refine i_if ?_ | refine i_asg ?_ | refine i_par ?_ | refine i_for ?_ | refine i_nm ?_ | refine i_tp ?_ | refine i_gcons ?_ | refine i_gnil ?_ | refine i_gsub ?_ | refine i_c ?_ | refine i_anil ?_ | refine i_acons ?_ | refine i_tup ?_ | refine i_lst ?_ | refine i_op ?_ | refine i_un ?_ | refine i_call ?_ | refine i_fn ?_ | refine i_test ?_ | refine i_and ?_ | refine i_or ?_ | refine i_not ?_ | refine i_ifx ?_ | refine i_andV ?_ | refine i_orV ?_ | refine i_notV ?_ | refine i_meth ?_ | refine i_sl ?_ | refine i_nopart ?_ | refine i_part ?_ | refine i_revL ?_ | refine i_sortKey ?_ | refine i_sortSet ?_ | refine i_rg1 ?_ | refine i_seqS ?_ | refine i_revR ?_ | refine i_lc ?_ | refine i_yes ?_ | refine i_seqT ?_ | refine i_seqX ?_ | refine i_addI ?_ | refine i_subI ?_ | refine i_negI ?_ | refine i_iaddI ?_ | refine i_eqI ?_ | refine i_neI ?_ | refine i_eqX ?_ | refine i_neX ?_ | refine i_ltI ?_ | refine i_gtI ?_ | refine i_leI ?_ | refine i_geI ?_ | refine i_lenT ?_ | refine i_absI ?_ | refine i_intI ?_ | refine i_lstT ?_ | refine i_slT ?_ | refine i_iteT ?_ | refine i_iteF ?_ | refine i_var (by with_unfolding_all rfl) ?_ | refine i_aug (by with_unfolding_all rfl) ?_ | refine i_ixT (by with_unfolding_all rfl) ?_ | refine ⟨_, _, rfl, ?_⟩ | refine ⟨_, rfl, ?_⟩ | refine ⟨rfl, ?_⟩ | refine ⟨i_tyS, ?_⟩)))
      refine i_append hf2 (by rw [List.length_map, sizeLine_eq]; omega) ?_
      refine hK _ _ ⟨⟨_, _, rfl⟩, by rw [put_ne npf]; exact hp2, ⟨bs ++ [r.2], by rw [put_same, List.map_append]; rfl, ?_, fun x => ?_, by simp; omega⟩, hk2.chg hf⟩
      · rw [List.nodup_append]
        refine ⟨hnd, by simp, fun a ha b hb e => ?_⟩
        rw [List.mem_singleton] at hb
        subst hb; subst e; exact hnot ha
      · rw [take_snoc hsub, List.mem_append, List.mem_append, hmem]
    · have hin : r.2 ∈ bs := Classical.not_not.mp fun h => by rw [hc.mpr h] at hb; cases hb
      (repeat (with_reducible (first | refine i_seq ?_ | refine i_next ?_ | refine i_break ?_ | refine i_cont ?_ | refine i_drop ?_ | refine i_ret ?_ | refine i_retN ?_ | refine i_if ?_ | refine i_asg ?_ | refine i_par ?_ | refine i_for ?_ | refine i_nm ?_ | refine i_tp ?_ | refine i_gcons ?_ | refine i_gnil ?_ | refine i_gsub ?_ | refine i_c ?_ | refine i_anil ?_ | refine i_acons ?_ | refine i_tup ?_ | refine i_lst ?_ | refine i_op ?_ | refine i_un ?_ | refine i_call ?_ | refine i_fn ?_ | refine i_test ?_ | refine i_and ?_ | refine i_or ?_ | refine i_not ?_ | refine i_ifx ?_ | refine i_andV ?_ | refine i_orV ?_ | refine i_notV ?_ | refine i_meth ?_ | refine i_sl ?_ | refine i_nopart ?_ | refine i_part ?_ | refine i_revL ?_ | refine i_sortKey ?_ | refine i_sortSet ?_ | refine i_rg1 ?_ | refine i_seqS ?_ | refine i_revR ?_ | refine i_lc ?_ | refine i_yes ?_ | refine i_seqT ?_ | refine i_seqX ?_ | refine i_addI ?_ | refine i_subI ?_ | refine i_negI ?_ | refine i_iaddI ?_ | refine i_eqI ?_ | refine i_neI ?_ | refine i_eqX ?_ | refine i_neX ?_ | refine i_ltI ?_ | refine i_gtI ?_ | refine i_leI ?_ | refine i_geI ?_ | refine i_lenT ?_ | refine i_absI ?_ | refine i_intI ?_ | refine i_lstT ?_ | refine i_slT ?_ | refine i_iteT ?_ | refine i_iteF ?_ | refine i_var (by with_unfolding_all rfl) ?_ | refine i_aug (by with_unfolding_all rfl) ?_ | refine i_ixT (by with_unfolding_all rfl) ?_ | refine ⟨_, _, rfl, ?_⟩ | refine ⟨_, rfl, ?_⟩ | refine ⟨rfl, ?_⟩ | refine ⟨i_tyS, ?_⟩)))
      refine hK _ _ ⟨⟨_, _, rfl⟩, hp2, ⟨bs, hf2, hnd, fun x => ?_, by omega⟩, hk2⟩
      rw [take_snoc hsub, List.mem_append, hmem]
      refine ⟨.inl, fun h => h.elim id fun h => ?_⟩
      rw [List.mem_singleton.mp h]; exact (hmem _).mp hin
  rintro l S2 ⟨⟨x3, x4, rfl⟩, hp2, ⟨bs, hf2, hnd, hmem, hbl⟩, hk2⟩
  rw [List.length_map, hrl, ← Mz.subs_len m, List.take_length] at hmem
  rw [List.length_map, hrl] at hbl
  unfold r_law_due
  (repeat (with_reducible (first | refine i_seq ?_ | refine i_next ?_ | refine i_break ?_ | refine i_cont ?_ | refine i_drop ?_ | refine i_ret ?_ | refine i_retN ?_ | refine i_if ?_ | refine i_asg ?_ | refine i_par ?_ | refine i_for ?_ | refine i_nm ?_ | refine i_tp ?_ | refine i_gcons ?_ | refine i_gnil ?_ | refine i_gsub ?_ | refine i_c ?_ | refine i_anil ?_ | refine i_acons ?_ | refine i_tup ?_ | refine i_lst ?_ | refine i_op ?_ | refine i_un ?_ | refine i_call ?_ | refine i_fn ?_ | refine i_test ?_ | refine i_and ?_ | refine i_or ?_ | refine i_not ?_ | refine i_ifx ?_ | refine i_andV ?_ | refine i_orV ?_ | refine i_notV ?_ | refine i_meth ?_ | refine i_sl ?_ | refine i_nopart ?_ | refine i_part ?_ | refine i_revL ?_ | refine i_sortKey ?_ | refine i_sortSet ?_ | refine i_rg1 ?_ | refine i_seqS ?_ | refine i_revR ?_ | refine i_lc ?_ | refine i_yes ?_ | refine i_seqT ?_ | refine i_seqX ?_ | refine i_addI ?_ | refine i_subI ?_ | refine i_negI ?_ | refine i_iaddI ?_ | refine i_eqI ?_ | refine i_neI ?_ | refine i_eqX ?_ | refine i_neX ?_ | refine i_ltI ?_ | refine i_gtI ?_ | refine i_leI ?_ | refine i_geI ?_ | refine i_lenT ?_ | refine i_absI ?_ | refine i_intI ?_ | refine i_lstT ?_ | refine i_slT ?_ | refine i_iteT ?_ | refine i_iteF ?_ | refine i_var (by with_unfolding_all rfl) ?_ | refine i_aug (by with_unfolding_all rfl) ?_ | refine i_ixT (by with_unfolding_all rfl) ?_ | refine ⟨_, _, rfl, ?_⟩ | refine ⟨_, rfl, ?_⟩ | refine ⟨rfl, ?_⟩ | refine ⟨i_tyS, ?_⟩)))
  have okb : ∀ b ∈ bs, b.Ok ∧ b.size ≤ 60 := fun b hb => subOk b ((hmem b).mp hb)
  unfold sortKeyA
  dsimp only
  rw [hf2]
  dsimp only
  have mapKey : (bs.map Mz.d).map (fun d => (keyF d).py) = bs.map fun b => b.key.py := by
    rw [List.map_map]; exact List.map_congr_left fun b _ => by show (keyF b.d).py = _; rw [keyF_d]
  refine ⟨keyF, fun d hd => ?_, ?_, ?_, fun S3 g hk3 hg => ?_⟩
  · obtain ⟨b, hb, rfl⟩ := List.mem_map.mp hd
    rw [keyF_d]
    have h1 := Mz.key_depth b
    have h2 := (okb b hb).2
    exact ⟨Mz.key_keyed b, by omega, fun S' _ => ⟨b, rfl, by omega, fun S'' hk => ⟨rfl, hk⟩⟩⟩
  · rw [mapKey]
    intro x hx y hy
    obtain ⟨a, _, rfl⟩ := List.mem_map.mp hx
    obtain ⟨b, _, rfl⟩ := List.mem_map.mp hy
    exact Mz.key_alike a b
  · rw [mapKey]
    exact .inl fun d hd => by obtain ⟨b, _, rfl⟩ := List.mem_map.mp hd; rw [Mz.key_eq b]; exact ⟨_, _, rfl⟩
  have hso := dle_sorted (fun d => (keyF d).py) (bs.map Mz.d)
  have hpm := List.mergeSort_perm (bs.map Mz.d) (PySem.W.dataLe false fun d => (keyF d).py)
  generalize (bs.map Mz.d).mergeSort (PySem.W.dataLe false fun d => (keyF d).py) = out at hso hpm
  obtain ⟨B, rfl⟩ : ∃ B : List Mz, out = B.map Mz.d := map_of fun d hd => by
    obtain ⟨b, _, e⟩ := List.mem_map.mp (hpm.mem_iff.mp hd)
    exact ⟨b, e.symm⟩
  have memB : ∀ x, x ∈ B ↔ x ∈ m.subs := fun x => by
    rw [← hmem]
    have inj : ∀ l : List Mz, x.d ∈ l.map Mz.d ↔ x ∈ l := fun l => ⟨fun h => by obtain ⟨y, hy, e⟩ := List.mem_map.mp h; rw [← Mz.d_inj _ _ e]; exact hy, fun h => List.mem_map.mpr ⟨x, h, rfl⟩⟩
    rw [← inj B, ← inj bs]
    exact hpm.mem_iff
  have ndB : B.Nodup := by
    have h1 : (bs.map Mz.d).Nodup := nodup_map_of (fun x _ y _ e => Mz.d_inj _ _ e) hnd
    have h2 := hpm.nodup_iff.mpr h1
    exact List.Pairwise.imp (fun {a b} h e => h (by rw [e])) (List.pairwise_map.mp h2)
  have srt : IsSrt m B := by
    refine ⟨?_, memB⟩
    have h1 := List.pairwise_map.mp hso
    refine List.Pairwise.imp (fun {a b} h => ?_) (h1.and ndB)
    obtain ⟨h, ne⟩ := h
    rw [keyF_d, keyF_d] at h
    cases e : a.lt b with
    | true => rfl
    | false => exact absurd (Mz.lt_total e h) ne
  have hg' : put S3 g (.lst (B.map Mz.d)) g = some (.lst (B.map Mz.d)) := put_same
  have hk4 : Keeps S (put S3 g (.lst (B.map Mz.d))) := (hk2.trans hk3).trans (Keeps.new hg)
  generalize put S3 g (.lst (B.map Mz.d)) = S4 at hg' hk4
  have okB : ∀ b ∈ B, b.Ok ∧ b.size ≤ 90 := fun b hb => by have := subOk b ((memB b).mp hb); exact ⟨this.1, by omega⟩
  have few := srt.few
  (repeat (with_reducible (first | refine i_seq ?_ | refine i_next ?_ | refine i_break ?_ | refine i_cont ?_ | refine i_drop ?_ | refine i_ret ?_ | refine i_retN ?_ | refine i_if ?_ | refine i_asg ?_ | refine i_par ?_ | refine i_for ?_ | refine i_nm ?_ | refine i_tp ?_ | refine i_gcons ?_ | refine i_gnil ?_ | refine i_gsub ?_ | refine i_c ?_ | refine i_anil ?_ | refine i_acons ?_ | refine i_tup ?_ | refine i_lst ?_ | refine i_op ?_ | refine i_un ?_ | refine i_call ?_ | refine i_fn ?_ | refine i_test ?_ | refine i_and ?_ | refine i_or ?_ | refine i_not ?_ | refine i_ifx ?_ | refine i_andV ?_ | refine i_orV ?_ | refine i_notV ?_ | refine i_meth ?_ | refine i_sl ?_ | refine i_nopart ?_ | refine i_part ?_ | refine i_revL ?_ | refine i_sortKey ?_ | refine i_sortSet ?_ | refine i_rg1 ?_ | refine i_seqS ?_ | refine i_revR ?_ | refine i_lc ?_ | refine i_yes ?_ | refine i_seqT ?_ | refine i_seqX ?_ | refine i_addI ?_ | refine i_subI ?_ | refine i_negI ?_ | refine i_iaddI ?_ | refine i_eqI ?_ | refine i_neI ?_ | refine i_eqX ?_ | refine i_neX ?_ | refine i_ltI ?_ | refine i_gtI ?_ | refine i_leI ?_ | refine i_geI ?_ | refine i_lenT ?_ | refine i_absI ?_ | refine i_intI ?_ | refine i_lstT ?_ | refine i_slT ?_ | refine i_iteT ?_ | refine i_iteF ?_ | refine i_var (by with_unfolding_all rfl) ?_ | refine i_aug (by with_unfolding_all rfl) ?_ | refine i_ixT (by with_unfolding_all rfl) ?_ | refine ⟨_, _, rfl, ?_⟩ | refine ⟨_, rfl, ?_⟩ | refine ⟨rfl, ?_⟩ | refine ⟨i_tyS, ?_⟩)))
  refine ⟨by simp [sizeLine_eq], fun o ho => ?_⟩
  have nog : o ≠ g := fun e => by subst e; rw [hg'] at ho; cases ho
  have hoS : S o = none := hk4.out ho
  (repeat (with_reducible (first | refine i_seq ?_ | refine i_next ?_ | refine i_break ?_ | refine i_cont ?_ | refine i_drop ?_ | refine i_ret ?_ | refine i_retN ?_ | refine i_if ?_ | refine i_asg ?_ | refine i_par ?_ | refine i_for ?_ | refine i_nm ?_ | refine i_tp ?_ | refine i_gcons ?_ | refine i_gnil ?_ | refine i_gsub ?_ | refine i_c ?_ | refine i_anil ?_ | refine i_acons ?_ | refine i_tup ?_ | refine i_lst ?_ | refine i_op ?_ | refine i_un ?_ | refine i_call ?_ | refine i_fn ?_ | refine i_test ?_ | refine i_and ?_ | refine i_or ?_ | refine i_not ?_ | refine i_ifx ?_ | refine i_andV ?_ | refine i_orV ?_ | refine i_notV ?_ | refine i_meth ?_ | refine i_sl ?_ | refine i_nopart ?_ | refine i_part ?_ | refine i_revL ?_ | refine i_sortKey ?_ | refine i_sortSet ?_ | refine i_rg1 ?_ | refine i_seqS ?_ | refine i_revR ?_ | refine i_lc ?_ | refine i_yes ?_ | refine i_seqT ?_ | refine i_seqX ?_ | refine i_addI ?_ | refine i_subI ?_ | refine i_negI ?_ | refine i_iaddI ?_ | refine i_eqI ?_ | refine i_neI ?_ | refine i_eqX ?_ | refine i_neX ?_ | refine i_ltI ?_ | refine i_gtI ?_ | refine i_leI ?_ | refine i_geI ?_ | refine i_lenT ?_ | refine i_absI ?_ | refine i_intI ?_ | refine i_lstT ?_ | refine i_slT ?_ | refine i_iteT ?_ | refine i_iteF ?_ | refine i_var (by with_unfolding_all rfl) ?_ | refine i_aug (by with_unfolding_all rfl) ?_ | refine i_ixT (by with_unfolding_all rfl) ?_ | refine ⟨_, _, rfl, ?_⟩ | refine ⟨_, rfl, ?_⟩ | refine ⟨rfl, ?_⟩ | refine ⟨i_tyS, ?_⟩)))
  refine i_seqL (by rw [put_ne nog.symm]; exact hg') ?_
  refine for_inv (P := fun i l S' => (∃ x5 x6 x7, l = [some m.d, some (.ref g), some (.ref o), x3, x4, x5, x6, x7]) ∧ S' g = some (.lst (B.map Mz.d)) ∧ S' o = some (.lst (((planOf B).take i).map Row.d)) ∧ Keeps S S') ⟨⟨_, _, _, rfl⟩, by rw [put_ne nog.symm]; exact hg', by rw [put_same]; rfl, hk4.trans (Keeps.new ho)⟩ (fun i l S' _ h => h.2.1) ?_ ?_
  · rintro i d l S5 K1 hd ⟨⟨x5, x6, x7, rfl⟩, hg5, ho5, hk5⟩ hK
    rw [List.getElem?_map, Option.map_eq_some_iff] at hd
    obtain ⟨x, hx, rfl⟩ := hd
    have hi := (List.getElem?_eq_some_iff.mp hx).1
    have hxB := List.mem_of_getElem? hx
    rw [Mz.d_eq x]
    (repeat (with_reducible (first | refine i_seq ?_ | refine i_next ?_ | refine i_break ?_ | refine i_cont ?_ | refine i_drop ?_ | refine i_ret ?_ | refine i_retN ?_ | refine i_if ?_ | refine i_asg ?_ | refine i_par ?_ | refine i_for ?_ | refine i_nm ?_ | refine i_tp ?_ | refine i_gcons ?_ | refine i_gnil ?_ | refine i_gsub ?_ | refine i_c ?_ | refine i_anil ?_ | refine i_acons ?_ | refine i_tup ?_ | refine i_lst ?_ | refine i_op ?_ | refine i_un ?_ | refine i_call ?_ | refine i_fn ?_ | refine i_test ?_ | refine i_and ?_ | refine i_or ?_ | refine i_not ?_ | refine i_ifx ?_ | refine i_andV ?_ | refine i_orV ?_ | refine i_notV ?_ | refine i_meth ?_ | refine i_sl ?_ | refine i_nopart ?_ | refine i_part ?_ | refine i_revL ?_ | refine i_sortKey ?_ | refine i_sortSet ?_ | refine i_rg1 ?_ | refine i_seqS ?_ | refine i_revR ?_ | refine i_lc ?_ | refine i_yes ?_ | refine i_seqT ?_ | refine i_seqX ?_ | refine i_addI ?_ | refine i_subI ?_ | refine i_negI ?_ | refine i_iaddI ?_ | refine i_eqI ?_ | refine i_neI ?_ | refine i_eqX ?_ | refine i_neX ?_ | refine i_ltI ?_ | refine i_gtI ?_ | refine i_leI ?_ | refine i_geI ?_ | refine i_lenT ?_ | refine i_absI ?_ | refine i_intI ?_ | refine i_lstT ?_ | refine i_slT ?_ | refine i_iteT ?_ | refine i_iteF ?_ | refine i_var (by with_unfolding_all rfl) ?_ | refine i_aug (by with_unfolding_all rfl) ?_ | refine i_ixT (by with_unfolding_all rfl) ?_ | refine ⟨_, _, rfl, ?_⟩ | refine ⟨_, rfl, ?_⟩ | refine ⟨rfl, ?_⟩ | refine ⟨i_tyS, ?_⟩)))
    refine ⟨i_tyL ho5, ?_⟩
    (repeat (with_reducible (first | refine i_seq ?_ | refine i_next ?_ | refine i_break ?_ | refine i_cont ?_ | refine i_drop ?_ | refine i_ret ?_ | refine i_retN ?_ | refine i_if ?_ | refine i_asg ?_ | refine i_par ?_ | refine i_for ?_ | refine i_nm ?_ | refine i_tp ?_ | refine i_gcons ?_ | refine i_gnil ?_ | refine i_gsub ?_ | refine i_c ?_ | refine i_anil ?_ | refine i_acons ?_ | refine i_tup ?_ | refine i_lst ?_ | refine i_op ?_ | refine i_un ?_ | refine i_call ?_ | refine i_fn ?_ | refine i_test ?_ | refine i_and ?_ | refine i_or ?_ | refine i_not ?_ | refine i_ifx ?_ | refine i_andV ?_ | refine i_orV ?_ | refine i_notV ?_ | refine i_meth ?_ | refine i_sl ?_ | refine i_nopart ?_ | refine i_part ?_ | refine i_revL ?_ | refine i_sortKey ?_ | refine i_sortSet ?_ | refine i_rg1 ?_ | refine i_seqS ?_ | refine i_revR ?_ | refine i_lc ?_ | refine i_yes ?_ | refine i_seqT ?_ | refine i_seqX ?_ | refine i_addI ?_ | refine i_subI ?_ | refine i_negI ?_ | refine i_iaddI ?_ | refine i_eqI ?_ | refine i_neI ?_ | refine i_eqX ?_ | refine i_neX ?_ | refine i_ltI ?_ | refine i_gtI ?_ | refine i_leI ?_ | refine i_geI ?_ | refine i_lenT ?_ | refine i_absI ?_ | refine i_intI ?_ | refine i_lstT ?_ | refine i_slT ?_ | refine i_iteT ?_ | refine i_iteF ?_ | refine i_var (by with_unfolding_all rfl) ?_ | refine i_aug (by with_unfolding_all rfl) ?_ | refine i_ixT (by with_unfolding_all rfl) ?_ | refine ⟨_, _, rfl, ?_⟩ | refine ⟨_, rfl, ?_⟩ | refine ⟨rfl, ?_⟩ | refine ⟨i_tyS, ?_⟩)))
    refine lc_inv (P := fun j acc S' => S' = S5 ∧ acc = ((x.bs.take j).map (ixOf B)).map natD) ⟨rfl, rfl⟩ (fun _ _ _ _ _ => trivial) ?_ ?_
    · rintro j d acc S6 K2 hd ⟨rfl, rfl⟩ hK2
      rw [List.getElem?_map, Option.map_eq_some_iff] at hd
      obtain ⟨b, hb, rfl⟩ := hd
      have hj := (List.getElem?_eq_some_iff.mp hb).1
      have hbl2 := ((Mz.ok_eq x).mp (okB x hxB).1).2.1
      have hbB : b ∈ B := (memB b).mpr ((Mz.subs_in m x ((memB x).mp hxB)).2.2.2 b (List.mem_of_getElem? hb))
      (repeat (with_reducible (first | refine i_seq ?_ | refine i_next ?_ | refine i_break ?_ | refine i_cont ?_ | refine i_drop ?_ | refine i_ret ?_ | refine i_retN ?_ | refine i_if ?_ | refine i_asg ?_ | refine i_par ?_ | refine i_for ?_ | refine i_nm ?_ | refine i_tp ?_ | refine i_gcons ?_ | refine i_gnil ?_ | refine i_gsub ?_ | refine i_c ?_ | refine i_anil ?_ | refine i_acons ?_ | refine i_tup ?_ | refine i_lst ?_ | refine i_op ?_ | refine i_un ?_ | refine i_call ?_ | refine i_fn ?_ | refine i_test ?_ | refine i_and ?_ | refine i_or ?_ | refine i_not ?_ | refine i_ifx ?_ | refine i_andV ?_ | refine i_orV ?_ | refine i_notV ?_ | refine i_meth ?_ | refine i_sl ?_ | refine i_nopart ?_ | refine i_part ?_ | refine i_revL ?_ | refine i_sortKey ?_ | refine i_sortSet ?_ | refine i_rg1 ?_ | refine i_seqS ?_ | refine i_revR ?_ | refine i_lc ?_ | refine i_yes ?_ | refine i_seqT ?_ | refine i_seqX ?_ | refine i_addI ?_ | refine i_subI ?_ | refine i_negI ?_ | refine i_iaddI ?_ | refine i_eqI ?_ | refine i_neI ?_ | refine i_eqX ?_ | refine i_neX ?_ | refine i_ltI ?_ | refine i_gtI ?_ | refine i_leI ?_ | refine i_geI ?_ | refine i_lenT ?_ | refine i_absI ?_ | refine i_intI ?_ | refine i_lstT ?_ | refine i_slT ?_ | refine i_iteT ?_ | refine i_iteF ?_ | refine i_var (by with_unfolding_all rfl) ?_ | refine i_aug (by with_unfolding_all rfl) ?_ | refine i_ixT (by with_unfolding_all rfl) ?_ | refine ⟨_, _, rfl, ?_⟩ | refine ⟨_, rfl, ?_⟩ | refine ⟨rfl, ?_⟩ | refine ⟨i_tyS, ?_⟩)))
      refine ⟨i_tyL hg5, ?_⟩
      (repeat (with_reducible (first | refine i_seq ?_ | refine i_next ?_ | refine i_break ?_ | refine i_cont ?_ | refine i_drop ?_ | refine i_ret ?_ | refine i_retN ?_ | refine i_if ?_ | refine i_asg ?_ | refine i_par ?_ | refine i_for ?_ | refine i_nm ?_ | refine i_tp ?_ | refine i_gcons ?_ | refine i_gnil ?_ | refine i_gsub ?_ | refine i_c ?_ | refine i_anil ?_ | refine i_acons ?_ | refine i_tup ?_ | refine i_lst ?_ | refine i_op ?_ | refine i_un ?_ | refine i_call ?_ | refine i_fn ?_ | refine i_test ?_ | refine i_and ?_ | refine i_or ?_ | refine i_not ?_ | refine i_ifx ?_ | refine i_andV ?_ | refine i_orV ?_ | refine i_notV ?_ | refine i_meth ?_ | refine i_sl ?_ | refine i_nopart ?_ | refine i_part ?_ | refine i_revL ?_ | refine i_sortKey ?_ | refine i_sortSet ?_ | refine i_rg1 ?_ | refine i_seqS ?_ | refine i_revR ?_ | refine i_lc ?_ | refine i_yes ?_ | refine i_seqT ?_ | refine i_seqX ?_ | refine i_addI ?_ | refine i_subI ?_ | refine i_negI ?_ | refine i_iaddI ?_ | refine i_eqI ?_ | refine i_neI ?_ | refine i_eqX ?_ | refine i_neX ?_ | refine i_ltI ?_ | refine i_gtI ?_ | refine i_leI ?_ | refine i_geI ?_ | refine i_lenT ?_ | refine i_absI ?_ | refine i_intI ?_ | refine i_lstT ?_ | refine i_slT ?_ | refine i_iteT ?_ | refine i_iteF ?_ | refine i_var (by with_unfolding_all rfl) ?_ | refine i_aug (by with_unfolding_all rfl) ?_ | refine i_ixT (by with_unfolding_all rfl) ?_ | refine ⟨_, _, rfl, ?_⟩ | refine ⟨_, rfl, ?_⟩ | refine ⟨rfl, ?_⟩ | refine ⟨i_tyS, ?_⟩)))
      refine i_index hg5 okB hbB ?_
      refine ⟨by rw [List.length_map, List.length_map, List.length_take, sizeLine_eq]; omega, hK2 _ _ ⟨rfl, by rw [take_snoc hb, List.map_append, List.map_append]; rfl⟩⟩
    rintro acc S6 ⟨rfl, rfl⟩ u hu
    rw [List.length_map, List.take_length]
    have nuo : u ≠ o := fun e => by subst e; rw [ho5] at hu; cases hu
    have nug : u ≠ g := fun e => by subst e; rw [hg5] at hu; cases hu
    (repeat (with_reducible (first | refine i_seq ?_ | refine i_next ?_ | refine i_break ?_ | refine i_cont ?_ | refine i_drop ?_ | refine i_ret ?_ | refine i_retN ?_ | refine i_if ?_ | refine i_asg ?_ | refine i_par ?_ | refine i_for ?_ | refine i_nm ?_ | refine i_tp ?_ | refine i_gcons ?_ | refine i_gnil ?_ | refine i_gsub ?_ | refine i_c ?_ | refine i_anil ?_ | refine i_acons ?_ | refine i_tup ?_ | refine i_lst ?_ | refine i_op ?_ | refine i_un ?_ | refine i_call ?_ | refine i_fn ?_ | refine i_test ?_ | refine i_and ?_ | refine i_or ?_ | refine i_not ?_ | refine i_ifx ?_ | refine i_andV ?_ | refine i_orV ?_ | refine i_notV ?_ | refine i_meth ?_ | refine i_sl ?_ | refine i_nopart ?_ | refine i_part ?_ | refine i_revL ?_ | refine i_sortKey ?_ | refine i_sortSet ?_ | refine i_rg1 ?_ | refine i_seqS ?_ | refine i_revR ?_ | refine i_lc ?_ | refine i_yes ?_ | refine i_seqT ?_ | refine i_seqX ?_ | refine i_addI ?_ | refine i_subI ?_ | refine i_negI ?_ | refine i_iaddI ?_ | refine i_eqI ?_ | refine i_neI ?_ | refine i_eqX ?_ | refine i_neX ?_ | refine i_ltI ?_ | refine i_gtI ?_ | refine i_leI ?_ | refine i_geI ?_ | refine i_lenT ?_ | refine i_absI ?_ | refine i_intI ?_ | refine i_lstT ?_ | refine i_slT ?_ | refine i_iteT ?_ | refine i_iteF ?_ | refine i_var (by with_unfolding_all rfl) ?_ | refine i_aug (by with_unfolding_all rfl) ?_ | refine i_ixT (by with_unfolding_all rfl) ?_ | refine ⟨_, _, rfl, ?_⟩ | refine ⟨_, rfl, ?_⟩ | refine ⟨rfl, ?_⟩ | refine ⟨i_tyS, ?_⟩)))
    refine i_tupL put_same ?_
    (repeat (with_reducible (first | refine i_seq ?_ | refine i_next ?_ | refine i_break ?_ | refine i_cont ?_ | refine i_drop ?_ | refine i_ret ?_ | refine i_retN ?_ | refine i_if ?_ | refine i_asg ?_ | refine i_par ?_ | refine i_for ?_ | refine i_nm ?_ | refine i_tp ?_ | refine i_gcons ?_ | refine i_gnil ?_ | refine i_gsub ?_ | refine i_c ?_ | refine i_anil ?_ | refine i_acons ?_ | refine i_tup ?_ | refine i_lst ?_ | refine i_op ?_ | refine i_un ?_ | refine i_call ?_ | refine i_fn ?_ | refine i_test ?_ | refine i_and ?_ | refine i_or ?_ | refine i_not ?_ | refine i_ifx ?_ | refine i_andV ?_ | refine i_orV ?_ | refine i_notV ?_ | refine i_meth ?_ | refine i_sl ?_ | refine i_nopart ?_ | refine i_part ?_ | refine i_revL ?_ | refine i_sortKey ?_ | refine i_sortSet ?_ | refine i_rg1 ?_ | refine i_seqS ?_ | refine i_revR ?_ | refine i_lc ?_ | refine i_yes ?_ | refine i_seqT ?_ | refine i_seqX ?_ | refine i_addI ?_ | refine i_subI ?_ | refine i_negI ?_ | refine i_iaddI ?_ | refine i_eqI ?_ | refine i_neI ?_ | refine i_eqX ?_ | refine i_neX ?_ | refine i_ltI ?_ | refine i_gtI ?_ | refine i_leI ?_ | refine i_geI ?_ | refine i_lenT ?_ | refine i_absI ?_ | refine i_intI ?_ | refine i_lstT ?_ | refine i_slT ?_ | refine i_iteT ?_ | refine i_iteF ?_ | refine i_var (by with_unfolding_all rfl) ?_ | refine i_aug (by with_unfolding_all rfl) ?_ | refine i_ixT (by with_unfolding_all rfl) ?_ | refine ⟨_, _, rfl, ?_⟩ | refine ⟨_, rfl, ?_⟩ | refine ⟨rfl, ?_⟩ | refine ⟨i_tyS, ?_⟩)))
    refine ⟨by simp [sizeLine_eq], ?_⟩
    (repeat (with_reducible (first | refine i_seq ?_ | refine i_next ?_ | refine i_break ?_ | refine i_cont ?_ | refine i_drop ?_ | refine i_ret ?_ | refine i_retN ?_ | refine i_if ?_ | refine i_asg ?_ | refine i_par ?_ | refine i_for ?_ | refine i_nm ?_ | refine i_tp ?_ | refine i_gcons ?_ | refine i_gnil ?_ | refine i_gsub ?_ | refine i_c ?_ | refine i_anil ?_ | refine i_acons ?_ | refine i_tup ?_ | refine i_lst ?_ | refine i_op ?_ | refine i_un ?_ | refine i_call ?_ | refine i_fn ?_ | refine i_test ?_ | refine i_and ?_ | refine i_or ?_ | refine i_not ?_ | refine i_ifx ?_ | refine i_andV ?_ | refine i_orV ?_ | refine i_notV ?_ | refine i_meth ?_ | refine i_sl ?_ | refine i_nopart ?_ | refine i_part ?_ | refine i_revL ?_ | refine i_sortKey ?_ | refine i_sortSet ?_ | refine i_rg1 ?_ | refine i_seqS ?_ | refine i_revR ?_ | refine i_lc ?_ | refine i_yes ?_ | refine i_seqT ?_ | refine i_seqX ?_ | refine i_addI ?_ | refine i_subI ?_ | refine i_negI ?_ | refine i_iaddI ?_ | refine i_eqI ?_ | refine i_neI ?_ | refine i_eqX ?_ | refine i_neX ?_ | refine i_ltI ?_ | refine i_gtI ?_ | refine i_leI ?_ | refine i_geI ?_ | refine i_lenT ?_ | refine i_absI ?_ | refine i_intI ?_ | refine i_lstT ?_ | refine i_slT ?_ | refine i_iteT ?_ | refine i_iteF ?_ | refine i_var (by with_unfolding_all rfl) ?_ | refine i_aug (by with_unfolding_all rfl) ?_ | refine i_ixT (by with_unfolding_all rfl) ?_ | refine ⟨_, _, rfl, ?_⟩ | refine ⟨_, rfl, ?_⟩ | refine ⟨rfl, ?_⟩ | refine ⟨i_tyS, ?_⟩)))
    refine i_append (by rw [put_ne nuo.symm]; exact ho5) (by rw [List.length_map, List.length_take, planOf_len, sizeLine_eq]; omega) ?_
    refine hK _ _ ⟨⟨_, _, _, rfl⟩, by rw [put_ne nog.symm, put_ne nug.symm]; exact hg5, by rw [put_same, take_snoc (planOf_at hx), List.map_append]; rfl, (hk5.trans (Keeps.new hu)).chg hoS⟩
  · rintro l S5 ⟨⟨x5, x6, x7, rfl⟩, hg5, ho5, hk5⟩
    rw [List.length_map, ← planOf_len B, List.take_length] at ho5
    (repeat (with_reducible (first | refine i_seq ?_ | refine i_next ?_ | refine i_break ?_ | refine i_cont ?_ | refine i_drop ?_ | refine i_ret ?_ | refine i_retN ?_ | refine i_if ?_ | refine i_asg ?_ | refine i_par ?_ | refine i_for ?_ | refine i_nm ?_ | refine i_tp ?_ | refine i_gcons ?_ | refine i_gnil ?_ | refine i_gsub ?_ | refine i_c ?_ | refine i_anil ?_ | refine i_acons ?_ | refine i_tup ?_ | refine i_lst ?_ | refine i_op ?_ | refine i_un ?_ | refine i_call ?_ | refine i_fn ?_ | refine i_test ?_ | refine i_and ?_ | refine i_or ?_ | refine i_not ?_ | refine i_ifx ?_ | refine i_andV ?_ | refine i_orV ?_ | refine i_notV ?_ | refine i_meth ?_ | refine i_sl ?_ | refine i_nopart ?_ | refine i_part ?_ | refine i_revL ?_ | refine i_sortKey ?_ | refine i_sortSet ?_ | refine i_rg1 ?_ | refine i_seqS ?_ | refine i_revR ?_ | refine i_lc ?_ | refine i_yes ?_ | refine i_seqT ?_ | refine i_seqX ?_ | refine i_addI ?_ | refine i_subI ?_ | refine i_negI ?_ | refine i_iaddI ?_ | refine i_eqI ?_ | refine i_neI ?_ | refine i_eqX ?_ | refine i_neX ?_ | refine i_ltI ?_ | refine i_gtI ?_ | refine i_leI ?_ | refine i_geI ?_ | refine i_lenT ?_ | refine i_absI ?_ | refine i_intI ?_ | refine i_lstT ?_ | refine i_slT ?_ | refine i_iteT ?_ | refine i_iteF ?_ | refine i_var (by with_unfolding_all rfl) ?_ | refine i_aug (by with_unfolding_all rfl) ?_ | refine i_ixT (by with_unfolding_all rfl) ?_ | refine ⟨_, _, rfl, ?_⟩ | refine ⟨_, rfl, ?_⟩ | refine ⟨rfl, ?_⟩ | refine ⟨i_tyS, ?_⟩)))
    refine i_tupL ho5 ?_
    exact q S5 B srt hk5
end AL

namespace AL
open PySem PySem.Spec PyProof.Rows L2

theorem i_rg2 {ta : TAa} {l : Lc} {S : Sto} {R : List D → (Sto → Prop) → Sto → Prop} (h : ta l S fun xs S1 => ∃ i j : Int, xs = [.int i, .int j] ∧ (-(2 ^ 62) ≤ i ∧ i < 2 ^ 62 ∧ -(2 ^ 62) ≤ j ∧ j < 2 ^ 62) ∧ R (intsD i (j - i).toNat) (fun _ => True) S1) : iRg2 ta l S R := by
  unfold iRg2
  refine cast ?_ h
  congr
  funext xs S1
  refine propext ⟨fun ⟨i, j, e, q⟩ => by subst e; exact q, fun q => ?_⟩
  split at q
  · exact ⟨_, _, rfl, q⟩
  · exact q.elim
theorem i_sortSetB {te : TEa} {l : Lc} {S : Sto} {Q : DK} (h : te l S fun x S1 => sortSetA x S1 Q ∨ sortSetI x S1 Q) : aSortSetB te l S Q := h

/-! ### is_ahead -/
theorem i_ltT {S : Sto} {Q : DK} {ds es : List D} (h1 : (D.tup ds).keyed = true) (h2 : (D.tup es).keyed = true) (ha : PySem.W.alike (D.tup ds).py (D.tup es).py = true) (hd : (D.tup es).py.depth ≤ 190) (q : Q (.bl (PySem.W.dataLt (D.tup ds).py (D.tup es).py)) S) : ltA (.tup ds) (.tup es) S Q :=
  ⟨_, _, Pd.of _ (keyed_pure _ h1), Pd.of _ (keyed_pure _ h2), ha, by simp [D.py], Nat.le_trans (Nat.min_le_right _ _) hd, q⟩
def sp_is_ahead : Spa := fun ds S Q => ∃ m n : Mz, ds = [m.d, n.d] ∧ m.size ≤ 60 ∧ n.size ≤ 60 ∧ ∀ S', Keeps S S' → Q (.bl (m.lt n)) S'
def n_is_ahead : List Str := ["one", "other"]
def t_is_ahead : TSa :=
  (aRet (aOp ltA (aFn 1 sp_key_of (aCons (aVar 0) aNil)) (aFn 1 sp_key_of (aCons (aVar 1) aNil))))
theorem pl_is_ahead : ∀ ds S Q, ds.length = 2 → sp_is_ahead ds S Q → semA n_is_ahead t_is_ahead ds S Q := by
  rintro ds S Q _ ⟨m, n, rfl, hm, hn, q⟩
  unfold semA t_is_ahead
  (repeat (with_reducible (first | refine i_seq ?_ | refine i_next ?_ | refine i_break ?_ | refine i_cont ?_ | refine i_drop ?_ | refine i_ret ?_ | refine i_retN ?_ | refine i_if ?_ | refine i_asg ?_ | refine i_par ?_ | refine i_for ?_ | refine i_nm ?_ | refine i_tp ?_ | refine i_gcons ?_ | refine i_gnil ?_ | refine i_gsub ?_ | refine i_c ?_ | refine i_anil ?_ | refine i_acons ?_ | refine i_tup ?_ | refine i_lst ?_ | refine i_op ?_ | refine i_un ?_ | refine i_call ?_ | refine i_fn ?_ | refine i_test ?_ | refine i_and ?_ | refine i_or ?_ | refine i_not ?_ | refine i_ifx ?_ | refine i_andV ?_ | refine i_orV ?_ | refine i_notV ?_ | refine i_meth ?_ | refine i_sl ?_ | refine i_nopart ?_ | refine i_part ?_ | refine i_revL ?_ | refine i_sortKey ?_ | refine i_sortSet ?_ | refine i_rg1 ?_ | refine i_seqS ?_ | refine i_revR ?_ | refine i_lc ?_ | refine i_yes ?_ | refine i_seqT ?_ | refine i_seqX ?_ | refine i_addI ?_ | refine i_subI ?_ | refine i_negI ?_ | refine i_iaddI ?_ | refine i_eqI ?_ | refine i_neI ?_ | refine i_eqX ?_ | refine i_neX ?_ | refine i_ltI ?_ | refine i_gtI ?_ | refine i_leI ?_ | refine i_geI ?_ | refine i_lenT ?_ | refine i_absI ?_ | refine i_intI ?_ | refine i_lstT ?_ | refine i_slT ?_ | refine i_iteT ?_ | refine i_iteF ?_ | refine i_var (by with_unfolding_all rfl) ?_ | refine i_aug (by with_unfolding_all rfl) ?_ | refine i_ixT (by with_unfolding_all rfl) ?_ | refine ⟨_, _, rfl, ?_⟩ | refine ⟨_, rfl, ?_⟩ | refine ⟨rfl, ?_⟩ | refine ⟨i_tyS, ?_⟩)))
  refine ⟨m, rfl, by omega, fun S1 hk1 => ?_⟩
  (repeat (with_reducible (first | refine i_seq ?_ | refine i_next ?_ | refine i_break ?_ | refine i_cont ?_ | refine i_drop ?_ | refine i_ret ?_ | refine i_retN ?_ | refine i_if ?_ | refine i_asg ?_ | refine i_par ?_ | refine i_for ?_ | refine i_nm ?_ | refine i_tp ?_ | refine i_gcons ?_ | refine i_gnil ?_ | refine i_gsub ?_ | refine i_c ?_ | refine i_anil ?_ | refine i_acons ?_ | refine i_tup ?_ | refine i_lst ?_ | refine i_op ?_ | refine i_un ?_ | refine i_call ?_ | refine i_fn ?_ | refine i_test ?_ | refine i_and ?_ | refine i_or ?_ | refine i_not ?_ | refine i_ifx ?_ | refine i_andV ?_ | refine i_orV ?_ | refine i_notV ?_ | refine i_meth ?_ | refine i_sl ?_ | refine i_nopart ?_ | refine i_part ?_ | refine i_revL ?_ | refine i_sortKey ?_ | refine i_sortSet ?_ | refine i_rg1 ?_ | refine i_seqS ?_ | refine i_revR ?_ | refine i_lc ?_ | refine i_yes ?_ | refine i_seqT ?_ | refine i_seqX ?_ | refine i_addI ?_ | refine i_subI ?_ | refine i_negI ?_ | refine i_iaddI ?_ | refine i_eqI ?_ | refine i_neI ?_ | refine i_eqX ?_ | refine i_neX ?_ | refine i_ltI ?_ | refine i_gtI ?_ | refine i_leI ?_ | refine i_geI ?_ | refine i_lenT ?_ | refine i_absI ?_ | refine i_intI ?_ | refine i_lstT ?_ | refine i_slT ?_ | refine i_iteT ?_ | refine i_iteF ?_ | refine i_var (by with_unfolding_all rfl) ?_ | refine i_aug (by with_unfolding_all rfl) ?_ | refine i_ixT (by with_unfolding_all rfl) ?_ | refine ⟨_, _, rfl, ?_⟩ | refine ⟨_, rfl, ?_⟩ | refine ⟨rfl, ?_⟩ | refine ⟨i_tyS, ?_⟩)))
  refine ⟨n, rfl, by omega, fun S2 hk2 => ?_⟩
  have e1 := Mz.key_keyed m
  have e2 := Mz.key_keyed n
  have ea := Mz.key_alike m n
  have ed := Mz.key_depth n
  have q' : Q (.bl (PySem.W.dataLt m.key.py n.key.py)) S2 := q S2 (hk1.trans hk2)
  rw [Mz.key_eq m] at e1 ea q' ⊢
  rw [Mz.key_eq n] at e2 ea ed q' ⊢
  exact i_ltT e1 e2 ea (by omega) q'

/-! ### kinds -/
theorem Sh.keyed (s : Sh) : s.d.keyed = true := rfl
theorem Sh.d_inj {s t : Sh} (h : s.d = t.d) : s = t := by
  simp only [Sh.d, D.tup.injEq, List.cons.injEq, D.str.injEq, D.int.injEq, and_true] at h
  exact Prod.ext h.1 h.2
structure KindOk (ks : List Sh) : Prop where
  nd : ks.Nodup
  ok : ∀ s ∈ ks, ShOk s
  zero : ∃ s ∈ ks, s.2 = 0
  few : ks.length ≤ 10
def sp_law_kind : Spa := fun ds S Q => ∃ (a c sg : Addr) (k : Nat) (xs : List Str), ds = [.ref a, .ref sg, .int 5] ∧ Deck S a c k ∧ k < 980000000 ∧ S sg = some (.lst (xs.map D.str)) ∧ sg ≠ a ∧ sg ≠ c ∧ (∀ x ∈ xs, SignOk x) ∧ xs ≠ [] ∧ xs.length ≤ 6 ∧
  ∀ S' (ks : List Sh), KindOk ks → Ext a c S S' → Deck S' a c (k + 20) → Q (.tup (ks.map Sh.d)) S'
def n_law_kind : List Str := ["_law_deck_here", "_law_signs_here", "_law_most", "_law_shapes", "_law_k"]
def t_law_kind : TSa :=
  (aSeq (aAsg (aLst (aCons (aTup (aCons (aFn 2 sp_law_one (aCons (aVar 0) (aCons (aVar 1) aNil))) (aCons (aC (.int 0)) aNil))) aNil)) (gNm 3))
  (aSeq (aFor (iRg1 (aCons (aOp addA (aC (.int 1)) (aFn 2 sp_law_draw (aCons (aVar 0) (aCons (aVar 2) aNil)))) aNil)) (gNm 4) (aDrop (aMeth "list" appendA (aVar 3) (aCons (aTup (aCons (aFn 2 sp_law_one (aCons (aVar 0) (aCons (aVar 1) aNil))) (aCons (aFn 2 sp_law_draw (aCons (aVar 0) (aCons (aC (.int 3)) aNil))) aNil))) aNil))))
  (aRet (aCall tupleA (aCons (aSortSetB (aVar 3)) aNil)))))
theorem pl_law_kind : ∀ ds S Q, ds.length = 3 → sp_law_kind ds S Q → semA n_law_kind t_law_kind ds S Q := by
  rintro ds S Q _ ⟨a, c, sg, k, xs, rfl, hD, hk, hsg, nsa, nsc, hxs, hne, hxl, q⟩
  unfold semA t_law_kind
  have one : ∀ (S1 : Sto) (k1 : Nat) (Q1 : DK), Deck S1 a c k1 → k1 < 990000000 → Ext a c S S1 → (∀ x S2, SignOk x → Ext a c S1 S2 → Deck S2 a c (k1 + 1) → Q1 (.str x) S2) → sp_law_one [.ref a, .ref sg] S1 Q1 := by
    intro S1 k1 Q1 hD1 hk1 hx1 h
    refine ⟨a, c, _, _, _, rfl, hD1, by omega, .lst (hx1 _ _ hsg nsa nsc), (fun e => nsa (D.ref.inj e)), (fun e => nsc (D.ref.inj e)), (fun e => hne (List.map_eq_nil_iff.mp e)), by rw [List.length_map]; omega, fun e S2 he hx2 hD2 => ?_⟩
    obtain ⟨x, hx, rfl⟩ := List.mem_map.mp he
    exact h x S2 (hxs x hx) hx2 hD2
  (repeat (with_reducible (first | refine i_seq ?_ | refine i_next ?_ | refine i_break ?_ | refine i_cont ?_ | refine i_drop ?_ | refine i_ret ?_ | refine i_retN ?_ | refine i_if ?_ | refine i_asg ?_ | refine i_par ?_ | refine i_for ?_ | refine i_nm ?_ | refine i_tp ?_ | refine i_gcons ?_ | refine i_gnil ?_ | refine i_gsub ?_ | refine i_c ?_ | refine i_anil ?_ | refine i_acons ?_ | refine i_tup ?_ | refine i_lst ?_ | refine i_op ?_ | refine i_un ?_ | refine i_call ?_ | refine i_fn ?_ | refine i_test ?_ | refine i_and ?_ | refine i_or ?_ | refine i_not ?_ | refine i_ifx ?_ | refine i_andV ?_ | refine i_orV ?_ | refine i_notV ?_ | refine i_meth ?_ | refine i_sl ?_ | refine i_nopart ?_ | refine i_part ?_ | refine i_revL ?_ | refine i_sortKey ?_ | refine i_sortSet ?_ | refine i_rg1 ?_ | refine i_seqS ?_ | refine i_revR ?_ | refine i_lc ?_ | refine i_yes ?_ | refine i_seqT ?_ | refine i_seqX ?_ | refine i_addI ?_ | refine i_subI ?_ | refine i_negI ?_ | refine i_iaddI ?_ | refine i_eqI ?_ | refine i_neI ?_ | refine i_eqX ?_ | refine i_neX ?_ | refine i_ltI ?_ | refine i_gtI ?_ | refine i_leI ?_ | refine i_geI ?_ | refine i_lenT ?_ | refine i_absI ?_ | refine i_intI ?_ | refine i_lstT ?_ | refine i_slT ?_ | refine i_iteT ?_ | refine i_iteF ?_ | refine i_var (by with_unfolding_all rfl) ?_ | refine i_aug (by with_unfolding_all rfl) ?_ | refine i_ixT (by with_unfolding_all rfl) ?_ | refine ⟨_, _, rfl, ?_⟩ | refine ⟨_, rfl, ?_⟩ | refine ⟨rfl, ?_⟩ | refine ⟨i_tyS, ?_⟩)))
  refine one S k _ hD (by omega) .refl fun x0 S1 hx0 hx1 hD1 => ?_
  (repeat (with_reducible (first | refine i_seq ?_ | refine i_next ?_ | refine i_break ?_ | refine i_cont ?_ | refine i_drop ?_ | refine i_ret ?_ | refine i_retN ?_ | refine i_if ?_ | refine i_asg ?_ | refine i_par ?_ | refine i_for ?_ | refine i_nm ?_ | refine i_tp ?_ | refine i_gcons ?_ | refine i_gnil ?_ | refine i_gsub ?_ | refine i_c ?_ | refine i_anil ?_ | refine i_acons ?_ | refine i_tup ?_ | refine i_lst ?_ | refine i_op ?_ | refine i_un ?_ | refine i_call ?_ | refine i_fn ?_ | refine i_test ?_ | refine i_and ?_ | refine i_or ?_ | refine i_not ?_ | refine i_ifx ?_ | refine i_andV ?_ | refine i_orV ?_ | refine i_notV ?_ | refine i_meth ?_ | refine i_sl ?_ | refine i_nopart ?_ | refine i_part ?_ | refine i_revL ?_ | refine i_sortKey ?_ | refine i_sortSet ?_ | refine i_rg1 ?_ | refine i_seqS ?_ | refine i_revR ?_ | refine i_lc ?_ | refine i_yes ?_ | refine i_seqT ?_ | refine i_seqX ?_ | refine i_addI ?_ | refine i_subI ?_ | refine i_negI ?_ | refine i_iaddI ?_ | refine i_eqI ?_ | refine i_neI ?_ | refine i_eqX ?_ | refine i_neX ?_ | refine i_ltI ?_ | refine i_gtI ?_ | refine i_leI ?_ | refine i_geI ?_ | refine i_lenT ?_ | refine i_absI ?_ | refine i_intI ?_ | refine i_lstT ?_ | refine i_slT ?_ | refine i_iteT ?_ | refine i_iteF ?_ | refine i_var (by with_unfolding_all rfl) ?_ | refine i_aug (by with_unfolding_all rfl) ?_ | refine i_ixT (by with_unfolding_all rfl) ?_ | refine ⟨_, _, rfl, ?_⟩ | refine ⟨_, rfl, ?_⟩ | refine ⟨rfl, ?_⟩ | refine ⟨i_tyS, ?_⟩)))
  refine ⟨by simp [sizeLine_eq], ?_⟩
  (repeat (with_reducible (first | refine i_seq ?_ | refine i_next ?_ | refine i_break ?_ | refine i_cont ?_ | refine i_drop ?_ | refine i_ret ?_ | refine i_retN ?_ | refine i_if ?_ | refine i_asg ?_ | refine i_par ?_ | refine i_for ?_ | refine i_nm ?_ | refine i_tp ?_ | refine i_gcons ?_ | refine i_gnil ?_ | refine i_gsub ?_ | refine i_c ?_ | refine i_anil ?_ | refine i_acons ?_ | refine i_tup ?_ | refine i_lst ?_ | refine i_op ?_ | refine i_un ?_ | refine i_call ?_ | refine i_fn ?_ | refine i_test ?_ | refine i_and ?_ | refine i_or ?_ | refine i_not ?_ | refine i_ifx ?_ | refine i_andV ?_ | refine i_orV ?_ | refine i_notV ?_ | refine i_meth ?_ | refine i_sl ?_ | refine i_nopart ?_ | refine i_part ?_ | refine i_revL ?_ | refine i_sortKey ?_ | refine i_sortSet ?_ | refine i_rg1 ?_ | refine i_seqS ?_ | refine i_revR ?_ | refine i_lc ?_ | refine i_yes ?_ | refine i_seqT ?_ | refine i_seqX ?_ | refine i_addI ?_ | refine i_subI ?_ | refine i_negI ?_ | refine i_iaddI ?_ | refine i_eqI ?_ | refine i_neI ?_ | refine i_eqX ?_ | refine i_neX ?_ | refine i_ltI ?_ | refine i_gtI ?_ | refine i_leI ?_ | refine i_geI ?_ | refine i_lenT ?_ | refine i_absI ?_ | refine i_intI ?_ | refine i_lstT ?_ | refine i_slT ?_ | refine i_iteT ?_ | refine i_iteF ?_ | refine i_var (by with_unfolding_all rfl) ?_ | refine i_aug (by with_unfolding_all rfl) ?_ | refine i_ixT (by with_unfolding_all rfl) ?_ | refine ⟨_, _, rfl, ?_⟩ | refine ⟨_, rfl, ?_⟩ | refine ⟨rfl, ?_⟩ | refine ⟨i_tyS, ?_⟩)))
  refine ⟨by simp [sizeLine_eq], fun f hf => ?_⟩
  have nf := hD1.ne hf
  have hfS : S f = none := hx1.out hf nf.1 nf.2
  have hff : put S1 f (.lst [.tup [.str x0, .int 0]]) f = some (.lst ([((x0, 0) : Sh)].map Sh.d)) := put_same
  have hx2 : Ext a c S (put S1 f (.lst [.tup [.str x0, .int 0]])) := hx1.trans (Ext.new hf)
  have hD2 : Deck (put S1 f (.lst [.tup [.str x0, .int 0]])) a c (k + 1) := hD1.new hf
  generalize put S1 f (.lst [.tup [.str x0, .int 0]]) = S2 at hff hx2 hD2
  (repeat (with_reducible (first | refine i_seq ?_ | refine i_next ?_ | refine i_break ?_ | refine i_cont ?_ | refine i_drop ?_ | refine i_ret ?_ | refine i_retN ?_ | refine i_if ?_ | refine i_asg ?_ | refine i_par ?_ | refine i_for ?_ | refine i_nm ?_ | refine i_tp ?_ | refine i_gcons ?_ | refine i_gnil ?_ | refine i_gsub ?_ | refine i_c ?_ | refine i_anil ?_ | refine i_acons ?_ | refine i_tup ?_ | refine i_lst ?_ | refine i_op ?_ | refine i_un ?_ | refine i_call ?_ | refine i_fn ?_ | refine i_test ?_ | refine i_and ?_ | refine i_or ?_ | refine i_not ?_ | refine i_ifx ?_ | refine i_andV ?_ | refine i_orV ?_ | refine i_notV ?_ | refine i_meth ?_ | refine i_sl ?_ | refine i_nopart ?_ | refine i_part ?_ | refine i_revL ?_ | refine i_sortKey ?_ | refine i_sortSet ?_ | refine i_rg1 ?_ | refine i_seqS ?_ | refine i_revR ?_ | refine i_lc ?_ | refine i_yes ?_ | refine i_seqT ?_ | refine i_seqX ?_ | refine i_addI ?_ | refine i_subI ?_ | refine i_negI ?_ | refine i_iaddI ?_ | refine i_eqI ?_ | refine i_neI ?_ | refine i_eqX ?_ | refine i_neX ?_ | refine i_ltI ?_ | refine i_gtI ?_ | refine i_leI ?_ | refine i_geI ?_ | refine i_lenT ?_ | refine i_absI ?_ | refine i_intI ?_ | refine i_lstT ?_ | refine i_slT ?_ | refine i_iteT ?_ | refine i_iteF ?_ | refine i_var (by with_unfolding_all rfl) ?_ | refine i_aug (by with_unfolding_all rfl) ?_ | refine i_ixT (by with_unfolding_all rfl) ?_ | refine ⟨_, _, rfl, ?_⟩ | refine ⟨_, rfl, ?_⟩ | refine ⟨rfl, ?_⟩ | refine ⟨i_tyS, ?_⟩)))
  refine ⟨a, c, _, _, rfl, hD2, by omega, by decide, by decide, fun r S3 h0 h1 hx3 hD3 => ?_⟩
  (repeat (with_reducible (first | refine i_seq ?_ | refine i_next ?_ | refine i_break ?_ | refine i_cont ?_ | refine i_drop ?_ | refine i_ret ?_ | refine i_retN ?_ | refine i_if ?_ | refine i_asg ?_ | refine i_par ?_ | refine i_for ?_ | refine i_nm ?_ | refine i_tp ?_ | refine i_gcons ?_ | refine i_gnil ?_ | refine i_gsub ?_ | refine i_c ?_ | refine i_anil ?_ | refine i_acons ?_ | refine i_tup ?_ | refine i_lst ?_ | refine i_op ?_ | refine i_un ?_ | refine i_call ?_ | refine i_fn ?_ | refine i_test ?_ | refine i_and ?_ | refine i_or ?_ | refine i_not ?_ | refine i_ifx ?_ | refine i_andV ?_ | refine i_orV ?_ | refine i_notV ?_ | refine i_meth ?_ | refine i_sl ?_ | refine i_nopart ?_ | refine i_part ?_ | refine i_revL ?_ | refine i_sortKey ?_ | refine i_sortSet ?_ | refine i_rg1 ?_ | refine i_seqS ?_ | refine i_revR ?_ | refine i_lc ?_ | refine i_yes ?_ | refine i_seqT ?_ | refine i_seqX ?_ | refine i_addI ?_ | refine i_subI ?_ | refine i_negI ?_ | refine i_iaddI ?_ | refine i_eqI ?_ | refine i_neI ?_ | refine i_eqX ?_ | refine i_neX ?_ | refine i_ltI ?_ | refine i_gtI ?_ | refine i_leI ?_ | refine i_geI ?_ | refine i_lenT ?_ | refine i_absI ?_ | refine i_intI ?_ | refine i_lstT ?_ | refine i_slT ?_ | refine i_iteT ?_ | refine i_iteF ?_ | refine i_var (by with_unfolding_all rfl) ?_ | refine i_aug (by with_unfolding_all rfl) ?_ | refine i_ixT (by with_unfolding_all rfl) ?_ | refine ⟨_, _, rfl, ?_⟩ | refine ⟨_, rfl, ?_⟩ | refine ⟨rfl, ?_⟩ | refine ⟨i_tyS, ?_⟩)))
  refine ⟨by omega, ?_⟩
  refine for_inv (P := fun i l S' => (∃ x4, l = [some (.ref a), some (.ref sg), some (.int 5), some (.ref f), x4]) ∧ (∃ ss : List Sh, S' f = some (.lst (ss.map Sh.d)) ∧ (∀ s ∈ ss, ShOk s) ∧ (∃ s ∈ ss, s.2 = 0) ∧ ss.length = 1 + i) ∧ Deck S' a c (k + 2 + 2 * i) ∧ Ext a c S S') ⟨⟨_, rfl⟩, ⟨[(x0, 0)], hx3 _ _ hff nf.1 nf.2, fun s hs => by rw [List.mem_singleton.mp hs]; exact ⟨hx0, Int.le_refl _, (by decide : (0 : Int) ≤ 2)⟩, ⟨_, List.mem_singleton.mpr rfl, rfl⟩, rfl⟩, hD3, hx2.trans hx3⟩ (fun _ _ _ _ _ => trivial) ?_ ?_
  · rintro i d l S4 K1 hd ⟨⟨x4, rfl⟩, ⟨ss, hF, hok, hz, hl⟩, hD4, hx4⟩ hK
    obtain ⟨hi, rfl⟩ := intsD_get hd
    (repeat (with_reducible (first | refine i_seq ?_ | refine i_next ?_ | refine i_break ?_ | refine i_cont ?_ | refine i_drop ?_ | refine i_ret ?_ | refine i_retN ?_ | refine i_if ?_ | refine i_asg ?_ | refine i_par ?_ | refine i_for ?_ | refine i_nm ?_ | refine i_tp ?_ | refine i_gcons ?_ | refine i_gnil ?_ | refine i_gsub ?_ | refine i_c ?_ | refine i_anil ?_ | refine i_acons ?_ | refine i_tup ?_ | refine i_lst ?_ | refine i_op ?_ | refine i_un ?_ | refine i_call ?_ | refine i_fn ?_ | refine i_test ?_ | refine i_and ?_ | refine i_or ?_ | refine i_not ?_ | refine i_ifx ?_ | refine i_andV ?_ | refine i_orV ?_ | refine i_notV ?_ | refine i_meth ?_ | refine i_sl ?_ | refine i_nopart ?_ | refine i_part ?_ | refine i_revL ?_ | refine i_sortKey ?_ | refine i_sortSet ?_ | refine i_rg1 ?_ | refine i_seqS ?_ | refine i_revR ?_ | refine i_lc ?_ | refine i_yes ?_ | refine i_seqT ?_ | refine i_seqX ?_ | refine i_addI ?_ | refine i_subI ?_ | refine i_negI ?_ | refine i_iaddI ?_ | refine i_eqI ?_ | refine i_neI ?_ | refine i_eqX ?_ | refine i_neX ?_ | refine i_ltI ?_ | refine i_gtI ?_ | refine i_leI ?_ | refine i_geI ?_ | refine i_lenT ?_ | refine i_absI ?_ | refine i_intI ?_ | refine i_lstT ?_ | refine i_slT ?_ | refine i_iteT ?_ | refine i_iteF ?_ | refine i_var (by with_unfolding_all rfl) ?_ | refine i_aug (by with_unfolding_all rfl) ?_ | refine i_ixT (by with_unfolding_all rfl) ?_ | refine ⟨_, _, rfl, ?_⟩ | refine ⟨_, rfl, ?_⟩ | refine ⟨rfl, ?_⟩ | refine ⟨i_tyS, ?_⟩)))
    refine ⟨i_tyL hF, ?_⟩
    (repeat (with_reducible (first | refine i_seq ?_ | refine i_next ?_ | refine i_break ?_ | refine i_cont ?_ | refine i_drop ?_ | refine i_ret ?_ | refine i_retN ?_ | refine i_if ?_ | refine i_asg ?_ | refine i_par ?_ | refine i_for ?_ | refine i_nm ?_ | refine i_tp ?_ | refine i_gcons ?_ | refine i_gnil ?_ | refine i_gsub ?_ | refine i_c ?_ | refine i_anil ?_ | refine i_acons ?_ | refine i_tup ?_ | refine i_lst ?_ | refine i_op ?_ | refine i_un ?_ | refine i_call ?_ | refine i_fn ?_ | refine i_test ?_ | refine i_and ?_ | refine i_or ?_ | refine i_not ?_ | refine i_ifx ?_ | refine i_andV ?_ | refine i_orV ?_ | refine i_notV ?_ | refine i_meth ?_ | refine i_sl ?_ | refine i_nopart ?_ | refine i_part ?_ | refine i_revL ?_ | refine i_sortKey ?_ | refine i_sortSet ?_ | refine i_rg1 ?_ | refine i_seqS ?_ | refine i_revR ?_ | refine i_lc ?_ | refine i_yes ?_ | refine i_seqT ?_ | refine i_seqX ?_ | refine i_addI ?_ | refine i_subI ?_ | refine i_negI ?_ | refine i_iaddI ?_ | refine i_eqI ?_ | refine i_neI ?_ | refine i_eqX ?_ | refine i_neX ?_ | refine i_ltI ?_ | refine i_gtI ?_ | refine i_leI ?_ | refine i_geI ?_ | refine i_lenT ?_ | refine i_absI ?_ | refine i_intI ?_ | refine i_lstT ?_ | refine i_slT ?_ | refine i_iteT ?_ | refine i_iteF ?_ | refine i_var (by with_unfolding_all rfl) ?_ | refine i_aug (by with_unfolding_all rfl) ?_ | refine i_ixT (by with_unfolding_all rfl) ?_ | refine ⟨_, _, rfl, ?_⟩ | refine ⟨_, rfl, ?_⟩ | refine ⟨rfl, ?_⟩ | refine ⟨i_tyS, ?_⟩)))
    refine one S4 _ _ hD4 (by omega) hx4 fun x S5 hx hx5 hD5 => ?_
    (repeat (with_reducible (first | refine i_seq ?_ | refine i_next ?_ | refine i_break ?_ | refine i_cont ?_ | refine i_drop ?_ | refine i_ret ?_ | refine i_retN ?_ | refine i_if ?_ | refine i_asg ?_ | refine i_par ?_ | refine i_for ?_ | refine i_nm ?_ | refine i_tp ?_ | refine i_gcons ?_ | refine i_gnil ?_ | refine i_gsub ?_ | refine i_c ?_ | refine i_anil ?_ | refine i_acons ?_ | refine i_tup ?_ | refine i_lst ?_ | refine i_op ?_ | refine i_un ?_ | refine i_call ?_ | refine i_fn ?_ | refine i_test ?_ | refine i_and ?_ | refine i_or ?_ | refine i_not ?_ | refine i_ifx ?_ | refine i_andV ?_ | refine i_orV ?_ | refine i_notV ?_ | refine i_meth ?_ | refine i_sl ?_ | refine i_nopart ?_ | refine i_part ?_ | refine i_revL ?_ | refine i_sortKey ?_ | refine i_sortSet ?_ | refine i_rg1 ?_ | refine i_seqS ?_ | refine i_revR ?_ | refine i_lc ?_ | refine i_yes ?_ | refine i_seqT ?_ | refine i_seqX ?_ | refine i_addI ?_ | refine i_subI ?_ | refine i_negI ?_ | refine i_iaddI ?_ | refine i_eqI ?_ | refine i_neI ?_ | refine i_eqX ?_ | refine i_neX ?_ | refine i_ltI ?_ | refine i_gtI ?_ | refine i_leI ?_ | refine i_geI ?_ | refine i_lenT ?_ | refine i_absI ?_ | refine i_intI ?_ | refine i_lstT ?_ | refine i_slT ?_ | refine i_iteT ?_ | refine i_iteF ?_ | refine i_var (by with_unfolding_all rfl) ?_ | refine i_aug (by with_unfolding_all rfl) ?_ | refine i_ixT (by with_unfolding_all rfl) ?_ | refine ⟨_, _, rfl, ?_⟩ | refine ⟨_, rfl, ?_⟩ | refine ⟨rfl, ?_⟩ | refine ⟨i_tyS, ?_⟩)))
    refine ⟨a, c, _, _, rfl, hD5, by omega, by decide, by decide, fun r2 S6 g0 g1 hx6 hD6 => ?_⟩
    refine ⟨by simp [sizeLine_eq], ?_⟩
    (repeat (with_reducible (first | refine i_seq ?_ | refine i_next ?_ | refine i_break ?_ | refine i_cont ?_ | refine i_drop ?_ | refine i_ret ?_ | refine i_retN ?_ | refine i_if ?_ | refine i_asg ?_ | refine i_par ?_ | refine i_for ?_ | refine i_nm ?_ | refine i_tp ?_ | refine i_gcons ?_ | refine i_gnil ?_ | refine i_gsub ?_ | refine i_c ?_ | refine i_anil ?_ | refine i_acons ?_ | refine i_tup ?_ | refine i_lst ?_ | refine i_op ?_ | refine i_un ?_ | refine i_call ?_ | refine i_fn ?_ | refine i_test ?_ | refine i_and ?_ | refine i_or ?_ | refine i_not ?_ | refine i_ifx ?_ | refine i_andV ?_ | refine i_orV ?_ | refine i_notV ?_ | refine i_meth ?_ | refine i_sl ?_ | refine i_nopart ?_ | refine i_part ?_ | refine i_revL ?_ | refine i_sortKey ?_ | refine i_sortSet ?_ | refine i_rg1 ?_ | refine i_seqS ?_ | refine i_revR ?_ | refine i_lc ?_ | refine i_yes ?_ | refine i_seqT ?_ | refine i_seqX ?_ | refine i_addI ?_ | refine i_subI ?_ | refine i_negI ?_ | refine i_iaddI ?_ | refine i_eqI ?_ | refine i_neI ?_ | refine i_eqX ?_ | refine i_neX ?_ | refine i_ltI ?_ | refine i_gtI ?_ | refine i_leI ?_ | refine i_geI ?_ | refine i_lenT ?_ | refine i_absI ?_ | refine i_intI ?_ | refine i_lstT ?_ | refine i_slT ?_ | refine i_iteT ?_ | refine i_iteF ?_ | refine i_var (by with_unfolding_all rfl) ?_ | refine i_aug (by with_unfolding_all rfl) ?_ | refine i_ixT (by with_unfolding_all rfl) ?_ | refine ⟨_, _, rfl, ?_⟩ | refine ⟨_, rfl, ?_⟩ | refine ⟨rfl, ?_⟩ | refine ⟨i_tyS, ?_⟩)))
    have hF6 := hx6 _ _ (hx5 _ _ hF nf.1 nf.2) nf.1 nf.2
    refine i_append hF6 (by rw [List.length_map, hl, sizeLine_eq]; omega) ?_
    refine hK _ _ ⟨⟨_, rfl⟩, ⟨ss ++ [(x, r2)], by rw [put_same, List.map_append]; rfl, fun s hs => ?_, hz.imp fun s h => ⟨List.mem_append_left _ h.1, h.2⟩, by rw [List.length_append, hl]; simp; omega⟩, (hD6.chg nf.1 nf.2).mono (by omega), ((hx4.trans hx5).trans hx6).chg hfS⟩
    rcases List.mem_append.mp hs with h | h
    · exact hok s h
    · rw [List.mem_singleton.mp h]; exact ⟨hx, g0, by show r2 ≤ 2; omega⟩
  · rintro l S4 ⟨⟨x4, rfl⟩, ⟨ss, hF, hok, hz, hl⟩, hD4, hx4⟩
    rw [intsD_len] at hl hD4
    (repeat (with_reducible (first | refine i_seq ?_ | refine i_next ?_ | refine i_break ?_ | refine i_cont ?_ | refine i_drop ?_ | refine i_ret ?_ | refine i_retN ?_ | refine i_if ?_ | refine i_asg ?_ | refine i_par ?_ | refine i_for ?_ | refine i_nm ?_ | refine i_tp ?_ | refine i_gcons ?_ | refine i_gnil ?_ | refine i_gsub ?_ | refine i_c ?_ | refine i_anil ?_ | refine i_acons ?_ | refine i_tup ?_ | refine i_lst ?_ | refine i_op ?_ | refine i_un ?_ | refine i_call ?_ | refine i_fn ?_ | refine i_test ?_ | refine i_and ?_ | refine i_or ?_ | refine i_not ?_ | refine i_ifx ?_ | refine i_andV ?_ | refine i_orV ?_ | refine i_notV ?_ | refine i_meth ?_ | refine i_sl ?_ | refine i_nopart ?_ | refine i_part ?_ | refine i_revL ?_ | refine i_sortKey ?_ | refine i_sortSet ?_ | refine i_rg1 ?_ | refine i_seqS ?_ | refine i_revR ?_ | refine i_lc ?_ | refine i_yes ?_ | refine i_seqT ?_ | refine i_seqX ?_ | refine i_addI ?_ | refine i_subI ?_ | refine i_negI ?_ | refine i_iaddI ?_ | refine i_eqI ?_ | refine i_neI ?_ | refine i_eqX ?_ | refine i_neX ?_ | refine i_ltI ?_ | refine i_gtI ?_ | refine i_leI ?_ | refine i_geI ?_ | refine i_lenT ?_ | refine i_absI ?_ | refine i_intI ?_ | refine i_lstT ?_ | refine i_slT ?_ | refine i_iteT ?_ | refine i_iteF ?_ | refine i_var (by with_unfolding_all rfl) ?_ | refine i_aug (by with_unfolding_all rfl) ?_ | refine i_ixT (by with_unfolding_all rfl) ?_ | refine ⟨_, _, rfl, ?_⟩ | refine ⟨_, rfl, ?_⟩ | refine ⟨rfl, ?_⟩ | refine ⟨i_tyS, ?_⟩)))
    refine i_sortSetB ?_
    (repeat (with_reducible (first | refine i_seq ?_ | refine i_next ?_ | refine i_break ?_ | refine i_cont ?_ | refine i_drop ?_ | refine i_ret ?_ | refine i_retN ?_ | refine i_if ?_ | refine i_asg ?_ | refine i_par ?_ | refine i_for ?_ | refine i_nm ?_ | refine i_tp ?_ | refine i_gcons ?_ | refine i_gnil ?_ | refine i_gsub ?_ | refine i_c ?_ | refine i_anil ?_ | refine i_acons ?_ | refine i_tup ?_ | refine i_lst ?_ | refine i_op ?_ | refine i_un ?_ | refine i_call ?_ | refine i_fn ?_ | refine i_test ?_ | refine i_and ?_ | refine i_or ?_ | refine i_not ?_ | refine i_ifx ?_ | refine i_andV ?_ | refine i_orV ?_ | refine i_notV ?_ | refine i_meth ?_ | refine i_sl ?_ | refine i_nopart ?_ | refine i_part ?_ | refine i_revL ?_ | refine i_sortKey ?_ | refine i_sortSet ?_ | refine i_rg1 ?_ | refine i_seqS ?_ | refine i_revR ?_ | refine i_lc ?_ | refine i_yes ?_ | refine i_seqT ?_ | refine i_seqX ?_ | refine i_addI ?_ | refine i_subI ?_ | refine i_negI ?_ | refine i_iaddI ?_ | refine i_eqI ?_ | refine i_neI ?_ | refine i_eqX ?_ | refine i_neX ?_ | refine i_ltI ?_ | refine i_gtI ?_ | refine i_leI ?_ | refine i_geI ?_ | refine i_lenT ?_ | refine i_absI ?_ | refine i_intI ?_ | refine i_lstT ?_ | refine i_slT ?_ | refine i_iteT ?_ | refine i_iteF ?_ | refine i_var (by with_unfolding_all rfl) ?_ | refine i_aug (by with_unfolding_all rfl) ?_ | refine i_ixT (by with_unfolding_all rfl) ?_ | refine ⟨_, _, rfl, ?_⟩ | refine ⟨_, rfl, ?_⟩ | refine ⟨rfl, ?_⟩ | refine ⟨i_tyS, ?_⟩)))
    left
    unfold sortSetA
    dsimp only
    rw [hF]
    dsimp only
    have mapPy : (ss.map Sh.d).map D.py = ss.map fun s => s.d.py := by rw [List.map_map]; rfl
    refine ⟨fun d hd => ?_, keyeds_map fun s _ => Sh.keyed s, fun d hd => ?_, by rw [List.length_map]; omega, ?_, ?_, fun out p so hp => ?_⟩
    · obtain ⟨s, _, rfl⟩ := List.mem_map.mp hd; exact ⟨_, rfl⟩
    · obtain ⟨s, _, rfl⟩ := List.mem_map.mp hd
      exact ⟨by simp [Sh.d, D.nk, D.nks, NestedKey.depth, NestedKey.depthAll], by simp [Sh.d, D.py, D.pys, PyData.depth, PyData.depthAll]⟩
    · rw [mapPy]
      intro x hx y hy
      obtain ⟨s, _, rfl⟩ := List.mem_map.mp hx
      obtain ⟨t, _, rfl⟩ := List.mem_map.mp hy
      simp [Sh.d, D.py, D.pys, PySem.W.alike, PySem.W.alikeAll]
    · rw [mapPy]
      exact .inl fun d hd => by obtain ⟨s, _, rfl⟩ := List.mem_map.mp hd; exact ⟨_, _, rfl⟩
    obtain ⟨ks, rfl⟩ : ∃ ks : List Sh, out = ks.map Sh.d := map_of fun d hd => by
      obtain ⟨s, _, e⟩ := List.mem_map.mp ((so.mem d).mp hd)
      exact ⟨s, e.symm⟩
    have mem : ∀ s, s ∈ ks ↔ s ∈ ss := fun s => by
      have inj : ∀ l : List Sh, s.d ∈ l.map Sh.d ↔ s ∈ l := fun l => ⟨fun h => by obtain ⟨y, hy, e⟩ := List.mem_map.mp h; rw [← Sh.d_inj e]; exact hy, fun h => List.mem_map.mpr ⟨s, h, rfl⟩⟩
      rw [← inj ks, ← inj ss]
      exact so.mem _
    have nd : ks.Nodup := List.Pairwise.imp (fun {a b} h e => h (by rw [e])) (List.pairwise_map.mp so.nd)
    have few : ks.length ≤ ss.length := nd.length_le_of_subset fun s hs => (mem s).mp hs
    (repeat (with_reducible (first | refine i_seq ?_ | refine i_next ?_ | refine i_break ?_ | refine i_cont ?_ | refine i_drop ?_ | refine i_ret ?_ | refine i_retN ?_ | refine i_if ?_ | refine i_asg ?_ | refine i_par ?_ | refine i_for ?_ | refine i_nm ?_ | refine i_tp ?_ | refine i_gcons ?_ | refine i_gnil ?_ | refine i_gsub ?_ | refine i_c ?_ | refine i_anil ?_ | refine i_acons ?_ | refine i_tup ?_ | refine i_lst ?_ | refine i_op ?_ | refine i_un ?_ | refine i_call ?_ | refine i_fn ?_ | refine i_test ?_ | refine i_and ?_ | refine i_or ?_ | refine i_not ?_ | refine i_ifx ?_ | refine i_andV ?_ | refine i_orV ?_ | refine i_notV ?_ | refine i_meth ?_ | refine i_sl ?_ | refine i_nopart ?_ | refine i_part ?_ | refine i_revL ?_ | refine i_sortKey ?_ | refine i_sortSet ?_ | refine i_rg1 ?_ | refine i_seqS ?_ | refine i_revR ?_ | refine i_lc ?_ | refine i_yes ?_ | refine i_seqT ?_ | refine i_seqX ?_ | refine i_addI ?_ | refine i_subI ?_ | refine i_negI ?_ | refine i_iaddI ?_ | refine i_eqI ?_ | refine i_neI ?_ | refine i_eqX ?_ | refine i_neX ?_ | refine i_ltI ?_ | refine i_gtI ?_ | refine i_leI ?_ | refine i_geI ?_ | refine i_lenT ?_ | refine i_absI ?_ | refine i_intI ?_ | refine i_lstT ?_ | refine i_slT ?_ | refine i_iteT ?_ | refine i_iteF ?_ | refine i_var (by with_unfolding_all rfl) ?_ | refine i_aug (by with_unfolding_all rfl) ?_ | refine i_ixT (by with_unfolding_all rfl) ?_ | refine ⟨_, _, rfl, ?_⟩ | refine ⟨_, rfl, ?_⟩ | refine ⟨rfl, ?_⟩ | refine ⟨i_tyS, ?_⟩)))
    refine i_tupL put_same ?_
    exact q _ ks ⟨nd, fun s hs => hok s ((mem s).mp hs), hz.imp fun s h => ⟨(mem s).mpr h.1, h.2⟩, by omega⟩ (hx4.trans (Ext.new hp)) ((hD4.new hp).mono (by omega))
end AL

namespace AL
open PySem PySem.Spec PyProof.Rows L2

/-! ### all mazes of a kind, by their sizes -/
structure MRow (z : Nat) (l : List Mz) : Prop where
  nd : l.Nodup
  ok : ∀ m ∈ l, m.size = z ∧ m.Ok
def twoM (R : Nat → List Mz) (z : Nat) (s : Str) (j : Nat) : List Mz := (R (j + 1)).flatMap fun o => (R (z - 1 - (j + 1))).map fun p => Mz.mk s [o, p]
def pieceM (R : Nat → List Mz) (z : Nat) (s : Sh) : List Mz :=
  if s.2 = 0 then (if z = 1 then [Mz.mk s.1 []] else []) else if s.2 = 1 then (R (z - 1)).map fun m => Mz.mk s.1 [m] else (List.range (z - 2)).flatMap (twoM R z s.1)
theorem flat_len {α β : Type} {f : α → List β} {c : Nat} : ∀ {l : List α}, (∀ x ∈ l, (f x).length ≤ c) → (l.flatMap f).length ≤ c * l.length
  | [], _ => Nat.zero_le _
  | x :: l, h => by
    rw [List.flatMap_cons, List.length_append, List.length_cons, Nat.mul_succ]
    have h1 := h x List.mem_cons_self
    have h2 := flat_len (f := f) (c := c) (l := l) fun y hy => h y (List.mem_cons_of_mem _ hy)
    omega
theorem nodup_flat {α β : Type} {f : α → List β} {l : List α} (h1 : ∀ x ∈ l, (f x).Nodup) (h2 : l.Pairwise fun x y => ∀ a ∈ f x, ∀ b ∈ f y, a ≠ b) : (l.flatMap f).Nodup := List.pairwise_flatMap.mpr ⟨h1, h2⟩
theorem size_two (s : Str) (o p : Mz) : (Mz.mk s [o, p]).size = 1 + (o.size + p.size) := by rw [Mz.size_eq]; simp [Mz.bs]
theorem size_one (s : Str) (o : Mz) : (Mz.mk s [o]).size = 1 + o.size := by rw [Mz.size_eq]; simp [Mz.bs]
theorem two_ok {R : Nat → List Mz} {z j : Nat} {s : Str} (hR : ∀ i < z, MRow i (R i)) (hs : SignOk s) (hj : j + 2 < z) : (twoM R z s j).Nodup ∧ ∀ m ∈ twoM R z s j, m.size = z ∧ m.Ok ∧ m.sg = s ∧ m.bs.length = 2 ∧ (m.bs.head?.map Mz.size) = some (j + 1) := by
  have r1 := hR (j + 1) (by omega)
  have r2 := hR (z - 1 - (j + 1)) (by omega)
  refine ⟨nodup_flat (fun o _ => nodup_map_of (fun p _ q _ e => by simpa using e) r2.nd) (List.Pairwise.imp (fun {o o'} hne a ha b hb e => ?_) r1.nd), fun m hm => ?_⟩
  · obtain ⟨p, _, rfl⟩ := List.mem_map.mp ha
    obtain ⟨p', _, rfl⟩ := List.mem_map.mp hb
    have : o = o' ∧ p = p' := by simpa using e
    exact hne this.1
  · obtain ⟨o, ho, hm⟩ := List.mem_flatMap.mp hm
    obtain ⟨p, hp, rfl⟩ := List.mem_map.mp hm
    obtain ⟨a1, a2⟩ := r1.ok o ho
    obtain ⟨b1, b2⟩ := r2.ok p hp
    refine ⟨by rw [size_two]; omega, (Mz.ok_eq _).mpr ⟨hs, Nat.le_refl _, fun b hb => ?_⟩, rfl, rfl, by simp [Mz.bs, a1]⟩
    have : b = o ∨ b = p := by simpa [Mz.bs] using hb
    rcases this with e | e <;> rw [e]
    · exact a2
    · exact b2
theorem piece_ok {R : Nat → List Mz} {z : Nat} {s : Sh} (hz : 1 ≤ z) (hR : ∀ i < z, MRow i (R i)) (hs : ShOk s) : (pieceM R z s).Nodup ∧ ∀ m ∈ pieceM R z s, m.size = z ∧ m.Ok ∧ m.sg = s.1 ∧ (m.bs.length : Int) = s.2 := by
  unfold pieceM
  obtain ⟨h1, h2, h3⟩ := hs
  split
  · rename_i e
    split
    · refine ⟨by simp, fun m hm => ?_⟩
      rw [List.mem_singleton.mp hm, e]
      rename_i ez
      exact ⟨by rw [ez]; rfl, (Mz.ok_eq _).mpr ⟨h1, Nat.zero_le _, fun _ h => nomatch h⟩, rfl, rfl⟩
    · exact ⟨List.nodup_nil, fun _ h => nomatch h⟩
  · split
    · rename_i e
      have r := hR (z - 1) (by omega)
      refine ⟨nodup_map_of (fun p _ q _ e => by simpa using e) r.nd, fun m hm => ?_⟩
      obtain ⟨p, hp, rfl⟩ := List.mem_map.mp hm
      obtain ⟨a1, a2⟩ := r.ok p hp
      refine ⟨by rw [size_one]; omega, (Mz.ok_eq _).mpr ⟨h1, by show 1 ≤ 2; decide, fun b hb => ?_⟩, rfl, by rw [e]; rfl⟩
      have : b = p := by simpa [Mz.bs] using hb
      rw [this]; exact a2
    · rename_i e0 e1
      have e : s.2 = 2 := by omega
      refine ⟨nodup_flat (fun j hj => (two_ok hR h1 (by have := List.mem_range.mp hj; omega)).1) ?_, fun m hm => ?_⟩
      · rw [List.pairwise_iff_getElem]
        intro i j hi hj hij a ha b hb e
        simp only [List.length_range] at hi hj
        rw [List.getElem_range] at ha hb
        have g1 := ((two_ok hR h1 (by omega)).2 a ha).2.2.2.2
        have g2 := ((two_ok hR h1 (by omega)).2 b hb).2.2.2.2
        rw [e, g2] at g1
        have := Option.some.inj g1
        omega
      · obtain ⟨j, hj, hm⟩ := List.mem_flatMap.mp hm
        obtain ⟨g1, g2, g3, g4, _⟩ := (two_ok hR h1 (by have := List.mem_range.mp hj; omega)).2 m hm
        exact ⟨g1, g2, g3, by rw [g4, e]; rfl⟩
theorem two_len {R : Nat → List Mz} {z j : Nat} {s : Str} (hR : ∀ i < z, (R i).length ≤ 20) (hj : j + 2 < z) : (twoM R z s j).length ≤ 400 := by
  have r1 := hR (j + 1) (by omega)
  have r2 := hR (z - 1 - (j + 1)) (by omega)
  have := flat_len (l := R (j + 1)) (f := fun o => (R (z - 1 - (j + 1))).map fun p => Mz.mk s [o, p]) (c := 20) fun o _ => by rw [List.length_map]; exact r2
  unfold twoM
  omega
theorem piece_len {R : Nat → List Mz} {z : Nat} {s : Sh} (hz : 1 ≤ z) (hz9 : z ≤ 9) (hR : ∀ i < z, (R i).length ≤ 20) : (pieceM R z s).length ≤ 4000 := by
  unfold pieceM
  split
  · split <;> simp
  · split
    · rw [List.length_map]; have := hR (z - 1) (by omega); omega
    · have := flat_len (l := List.range (z - 2)) (f := twoM R z s.1) (c := 400) fun j hj => two_len hR (by have := List.mem_range.mp hj; omega)
      rw [List.length_range] at this
      omega
theorem row_ok {R : Nat → List Mz} {z : Nat} {ks : List Sh} (hz : 1 ≤ z) (hR : ∀ i < z, MRow i (R i)) (hk : KindOk ks) : MRow z (ks.flatMap (pieceM R z)) := by
  refine ⟨nodup_flat (fun s hs => (piece_ok hz hR (hk.ok s hs)).1) ?_, fun m hm => ?_⟩
  · have : ks.Pairwise fun s t => s ∈ ks ∧ t ∈ ks ∧ s ≠ t := by
      rw [List.pairwise_iff_getElem]
      intro i j hi hj hij
      exact ⟨List.getElem_mem hi, List.getElem_mem hj, List.pairwise_iff_getElem.mp hk.nd i j hi hj hij⟩
    refine List.Pairwise.imp (fun {s t} h a ha b hb e => ?_) this
    obtain ⟨h1, h2, h3⟩ := h
    have g1 := (piece_ok hz hR (hk.ok s h1)).2 a ha
    have g2 := (piece_ok hz hR (hk.ok t h2)).2 b hb
    rw [e] at g1
    exact h3 (Prod.ext (g1.2.2.1.symm.trans g2.2.2.1) (g1.2.2.2.symm.trans g2.2.2.2))
  · obtain ⟨s, hs, hm⟩ := List.mem_flatMap.mp hm
    have g := (piece_ok hz hR (hk.ok s hs)).2 m hm
    exact ⟨g.1, g.2.1⟩
/-- a row in the store -/
abbrev Rr := Addr × List Mz
def Rr.d (r : Rr) : D := .ref r.1
def getR (rr : List Rr) (i : Nat) : List Mz := match rr[i]? with | some r => r.2 | none => []
structure RowsAt (S : Sto) (p : Addr) (rr : List Rr) : Prop where
  lst : S p = some (.lst (rr.map Rr.d))
  at_ : ∀ r ∈ rr, S r.1 = some (.lst (r.2.map Mz.d))
  ok : ∀ (i : Nat) (r : Rr), rr[i]? = some r → MRow i r.2
  few : 1 ≤ rr.length ∧ rr.length ≤ 9
  some_ : 2 ≤ rr.length → ∃ r ∈ rr, r.2 ≠ []
  ne : ∀ r ∈ rr, r.1 ≠ p
def sp_law_all : Spa := fun ds S Q => ∃ ks : List Sh, ds = [.tup (ks.map Sh.d), .int 20] ∧ KindOk ks ∧ ∀ S' p rr, S p = none → (∀ r ∈ rr, S r.1 = none) → RowsAt S' p rr → 2 ≤ rr.length → Keeps S S' → Q (.ref p) S'
def n_law_all : List Str := ["_law_kind_here", "_law_bound", "_law_rows", "_law_row", "_law_size", "_law_sign", "_law_count", "_law_part", "_law_one_here", "_law_other"]
def b0_all : TSa := (aIfS (aAnd (aTest (aOp eqA (aVar 6) (aC (.int 0)))) (aTest (aOp eqA (aVar 4) (aC (.int 1))))) (aDrop (aMeth "list" appendA (aVar 3) (aCons (aTup (aCons (aVar 5) (aCons (aTup aNil) aNil))) aNil))) aNext)
def b1_all : TSa := (aIfS (aTest (aOp eqA (aVar 6) (aC (.int 1)))) (aDrop (aMeth "list" extendA (aVar 3) (aCons (aLc (iSeq (aOp ixA (aVar 2) (aOp subA (aVar 4) (aC (.int 1))))) (gNm 8) aYes (aTup (aCons (aVar 5) (aCons (aTup (aCons (aVar 8) aNil)) aNil))) (ownIx ([("_law_one_here", 8)] : List (Str × Nat)))) aNil))) aNext)
def b2_all : TSa := (aIfS (aTest (aOp eqA (aVar 6) (aC (.int 2)))) (aFor (iRg2 (aCons (aC (.int 1)) (aCons (aOp subA (aVar 4) (aC (.int 1))) aNil))) (gNm 7) (aFor (iSeq (aOp ixA (aVar 2) (aVar 7))) (gNm 8) (aDrop (aMeth "list" extendA (aVar 3) (aCons (aLc (iSeq (aOp ixA (aVar 2) (aOp subA (aOp subA (aVar 4) (aC (.int 1))) (aVar 7)))) (gNm 9) aYes (aTup (aCons (aVar 5) (aCons (aTup (aCons (aVar 8) (aCons (aVar 9) aNil))) aNil))) (ownIx ([("_law_other", 9)] : List (Str × Nat)))) aNil))))) aNext)
def t_law_all : TSa :=
  (aSeq (aAsg (aLst (aCons (aLst aNil) aNil)) (gNm 2))
  (aSeq (aWhile (aAnd (aTest (aOp ltA (aCall sumA (aCons (aLc (iSeq (aVar 2)) (gNm 3) aYes (aCall lenA (aCons (aVar 3) aNil)) (ownIx ([("_law_row", 3)] : List (Str × Nat)))) aNil)) (aVar 1))) (aTest (aOp ltA (aCall lenA (aCons (aVar 2) aNil)) (aC (.int 9))))) (aSeq (aPar 3 4 (aCons (aLst aNil) (aCons (aCall lenA (aCons (aVar 2) aNil)) aNil)))
  (aSeq (aFor (iSeq (aVar 0)) (gTp 2 (gConsA (gNm 5) (gConsA (gNm 6) gNilA))) (aSeq b0_all
  (aSeq b1_all
  b2_all)))
  (aDrop (aMeth "list" appendA (aVar 2) (aCons (aVar 3) aNil))))))
  (aRet (aVar 2))))
/-- the state while a row is made: q holds what is there of it -/
structure Mk3 (S : Sto) (p q : Addr) (rr : List Rr) (ms : List Mz) : Prop where
  lst : S p = some (.lst (rr.map Rr.d))
  at_ : ∀ r ∈ rr, S r.1 = some (.lst (r.2.map Mz.d))
  row : S q = some (.lst (ms.map Mz.d))
theorem Mk3.getAt {S : Sto} {p q : Addr} {rr : List Rr} {ms : List Mz} (h : Mk3 S p q rr ms) {i : Nat} (hi : i < rr.length) : ∃ a : Addr, (∀ Q : DK, Q (.ref a) S → ixA (.ref p) (.int (i : Int)) S Q) ∧ S a = some (.lst ((getR rr i).map Mz.d)) ∧ ∃ r ∈ rr, r.1 = a := by
  have e : rr[i]? = some rr[i] := List.getElem?_eq_getElem hi
  refine ⟨rr[i].1, fun Q hq => i_ixL h.lst (atI_nat (x := Rr.d rr[i]) (by rw [List.getElem?_map, e]; rfl)) hq, ?_, rr[i], List.getElem_mem hi, rfl⟩
  rw [h.at_ _ (List.getElem_mem hi)]
  unfold getR
  rw [e]
/-- a new list, then the row grown by it -/
theorem Mk3.grow {S : Sto} {p q u : Addr} {rr : List Rr} {ms ts : List Mz} (h : Mk3 S p q rr ms) (hu : S u = none) (npq : p ≠ q) (nrq : ∀ r ∈ rr, r.1 ≠ q) : Mk3 (put (put S u (.lst (ts.map Mz.d))) q (.lst (ms.map Mz.d ++ ts.map Mz.d))) p q rr (ms ++ ts) := by
  have nup : u ≠ p := fun e => by subst e; rw [h.lst] at hu; cases hu
  refine ⟨by rw [put_ne npq, put_ne nup.symm]; exact h.lst, fun r hr => ?_, by rw [put_same, List.map_append]⟩
  have nur : u ≠ r.1 := fun e => by rw [e, h.at_ r hr] at hu; cases hu
  rw [put_ne (nrq r hr), put_ne nur.symm]; exact h.at_ r hr
theorem Mk3.add {S : Sto} {p q : Addr} {rr : List Rr} {ms : List Mz} {m : Mz} (h : Mk3 S p q rr ms) (npq : p ≠ q) (nrq : ∀ r ∈ rr, r.1 ≠ q) : Mk3 (put S q (.lst (ms.map Mz.d ++ [m.d]))) p q rr (ms ++ [m]) :=
  ⟨by rw [put_ne npq]; exact h.lst, fun r hr => by rw [put_ne (nrq r hr)]; exact h.at_ r hr, by rw [put_same, List.map_append]; rfl⟩
end AL

namespace AL
open PySem PySem.Spec PyProof.Rows L2

def Fq (q : Addr) (S S' : Sto) : Prop := ∀ b o, S b = some o → b ≠ q → S' b = some o
theorem Fq.refl {q : Addr} {S : Sto} : Fq q S S := fun _ _ h _ => h
theorem Fq.trans {q : Addr} {S S1 S2 : Sto} (x : Fq q S S1) (y : Fq q S1 S2) : Fq q S S2 := fun b o h n => y b o (x b o h n) n
theorem Fq.own {q : Addr} {S : Sto} {o : Ob} : Fq q S (put S q o) := fun b u e n => by rw [put_ne n]; exact e
theorem Fq.new {q u : Addr} {S : Sto} {o : Ob} (h : S u = none) : Fq q S (put S u o) := fun b v e _ => Keeps.new h b v e
theorem b0_skip {K rt2 ct : Lc → Sto → Prop} {Q : DK} {S : Sto} {v : Int} {x0 x1 x2 x3 x4 x5 x7 x8 x9 : Option D} (hv : v ≠ 0) (h : K [x0, x1, x2, x3, x4, x5, some (.int v), x7, x8, x9] S) : b0_all ⟨K, Q, rt2, ct⟩ [x0, x1, x2, x3, x4, x5, some (.int v), x7, x8, x9] S := by
  unfold b0_all
  (repeat (with_reducible (first | refine i_seq ?_ | refine i_next ?_ | refine i_break ?_ | refine i_cont ?_ | refine i_drop ?_ | refine i_ret ?_ | refine i_retN ?_ | refine i_if ?_ | refine i_asg ?_ | refine i_par ?_ | refine i_for ?_ | refine i_nm ?_ | refine i_tp ?_ | refine i_gcons ?_ | refine i_gnil ?_ | refine i_gsub ?_ | refine i_c ?_ | refine i_anil ?_ | refine i_acons ?_ | refine i_tup ?_ | refine i_lst ?_ | refine i_op ?_ | refine i_un ?_ | refine i_call ?_ | refine i_fn ?_ | refine i_test ?_ | refine i_and ?_ | refine i_or ?_ | refine i_not ?_ | refine i_ifx ?_ | refine i_andV ?_ | refine i_orV ?_ | refine i_notV ?_ | refine i_meth ?_ | refine i_sl ?_ | refine i_nopart ?_ | refine i_part ?_ | refine i_revL ?_ | refine i_sortKey ?_ | refine i_sortSet ?_ | refine i_rg1 ?_ | refine i_seqS ?_ | refine i_revR ?_ | refine i_lc ?_ | refine i_yes ?_ | refine i_seqT ?_ | refine i_seqX ?_ | refine i_addI ?_ | refine i_subI ?_ | refine i_negI ?_ | refine i_iaddI ?_ | refine i_eqI ?_ | refine i_neI ?_ | refine i_eqX ?_ | refine i_neX ?_ | refine i_ltI ?_ | refine i_gtI ?_ | refine i_leI ?_ | refine i_geI ?_ | refine i_lenT ?_ | refine i_absI ?_ | refine i_intI ?_ | refine i_lstT ?_ | refine i_slT ?_ | refine i_iteT ?_ | refine i_iteF ?_ | refine i_var (by with_unfolding_all rfl) ?_ | refine i_aug (by with_unfolding_all rfl) ?_ | refine i_ixT (by with_unfolding_all rfl) ?_ | refine ⟨_, _, rfl, ?_⟩ | refine ⟨_, rfl, ?_⟩ | refine ⟨rfl, ?_⟩ | refine ⟨i_tyS, ?_⟩)))
  refine i_ite (fun hb => absurd (of_decide_eq_true hb) hv) fun _ => ?_
  (repeat (with_reducible (first | refine i_seq ?_ | refine i_next ?_ | refine i_break ?_ | refine i_cont ?_ | refine i_drop ?_ | refine i_ret ?_ | refine i_retN ?_ | refine i_if ?_ | refine i_asg ?_ | refine i_par ?_ | refine i_for ?_ | refine i_nm ?_ | refine i_tp ?_ | refine i_gcons ?_ | refine i_gnil ?_ | refine i_gsub ?_ | refine i_c ?_ | refine i_anil ?_ | refine i_acons ?_ | refine i_tup ?_ | refine i_lst ?_ | refine i_op ?_ | refine i_un ?_ | refine i_call ?_ | refine i_fn ?_ | refine i_test ?_ | refine i_and ?_ | refine i_or ?_ | refine i_not ?_ | refine i_ifx ?_ | refine i_andV ?_ | refine i_orV ?_ | refine i_notV ?_ | refine i_meth ?_ | refine i_sl ?_ | refine i_nopart ?_ | refine i_part ?_ | refine i_revL ?_ | refine i_sortKey ?_ | refine i_sortSet ?_ | refine i_rg1 ?_ | refine i_seqS ?_ | refine i_revR ?_ | refine i_lc ?_ | refine i_yes ?_ | refine i_seqT ?_ | refine i_seqX ?_ | refine i_addI ?_ | refine i_subI ?_ | refine i_negI ?_ | refine i_iaddI ?_ | refine i_eqI ?_ | refine i_neI ?_ | refine i_eqX ?_ | refine i_neX ?_ | refine i_ltI ?_ | refine i_gtI ?_ | refine i_leI ?_ | refine i_geI ?_ | refine i_lenT ?_ | refine i_absI ?_ | refine i_intI ?_ | refine i_lstT ?_ | refine i_slT ?_ | refine i_iteT ?_ | refine i_iteF ?_ | refine i_var (by with_unfolding_all rfl) ?_ | refine i_aug (by with_unfolding_all rfl) ?_ | refine i_ixT (by with_unfolding_all rfl) ?_ | refine ⟨_, _, rfl, ?_⟩ | refine ⟨_, rfl, ?_⟩ | refine ⟨rfl, ?_⟩ | refine ⟨i_tyS, ?_⟩)))
  exact h
theorem b1_skip {K rt2 ct : Lc → Sto → Prop} {Q : DK} {S : Sto} {v : Int} {x0 x1 x2 x3 x4 x5 x7 x8 x9 : Option D} (hv : v ≠ 1) (h : K [x0, x1, x2, x3, x4, x5, some (.int v), x7, x8, x9] S) : b1_all ⟨K, Q, rt2, ct⟩ [x0, x1, x2, x3, x4, x5, some (.int v), x7, x8, x9] S := by
  unfold b1_all
  (repeat (with_reducible (first | refine i_seq ?_ | refine i_next ?_ | refine i_break ?_ | refine i_cont ?_ | refine i_drop ?_ | refine i_ret ?_ | refine i_retN ?_ | refine i_if ?_ | refine i_asg ?_ | refine i_par ?_ | refine i_for ?_ | refine i_nm ?_ | refine i_tp ?_ | refine i_gcons ?_ | refine i_gnil ?_ | refine i_gsub ?_ | refine i_c ?_ | refine i_anil ?_ | refine i_acons ?_ | refine i_tup ?_ | refine i_lst ?_ | refine i_op ?_ | refine i_un ?_ | refine i_call ?_ | refine i_fn ?_ | refine i_test ?_ | refine i_and ?_ | refine i_or ?_ | refine i_not ?_ | refine i_ifx ?_ | refine i_andV ?_ | refine i_orV ?_ | refine i_notV ?_ | refine i_meth ?_ | refine i_sl ?_ | refine i_nopart ?_ | refine i_part ?_ | refine i_revL ?_ | refine i_sortKey ?_ | refine i_sortSet ?_ | refine i_rg1 ?_ | refine i_seqS ?_ | refine i_revR ?_ | refine i_lc ?_ | refine i_yes ?_ | refine i_seqT ?_ | refine i_seqX ?_ | refine i_addI ?_ | refine i_subI ?_ | refine i_negI ?_ | refine i_iaddI ?_ | refine i_eqI ?_ | refine i_neI ?_ | refine i_eqX ?_ | refine i_neX ?_ | refine i_ltI ?_ | refine i_gtI ?_ | refine i_leI ?_ | refine i_geI ?_ | refine i_lenT ?_ | refine i_absI ?_ | refine i_intI ?_ | refine i_lstT ?_ | refine i_slT ?_ | refine i_iteT ?_ | refine i_iteF ?_ | refine i_var (by with_unfolding_all rfl) ?_ | refine i_aug (by with_unfolding_all rfl) ?_ | refine i_ixT (by with_unfolding_all rfl) ?_ | refine ⟨_, _, rfl, ?_⟩ | refine ⟨_, rfl, ?_⟩ | refine ⟨rfl, ?_⟩ | refine ⟨i_tyS, ?_⟩)))
  refine i_ite (fun hb => absurd (of_decide_eq_true hb) hv) fun _ => ?_
  (repeat (with_reducible (first | refine i_seq ?_ | refine i_next ?_ | refine i_break ?_ | refine i_cont ?_ | refine i_drop ?_ | refine i_ret ?_ | refine i_retN ?_ | refine i_if ?_ | refine i_asg ?_ | refine i_par ?_ | refine i_for ?_ | refine i_nm ?_ | refine i_tp ?_ | refine i_gcons ?_ | refine i_gnil ?_ | refine i_gsub ?_ | refine i_c ?_ | refine i_anil ?_ | refine i_acons ?_ | refine i_tup ?_ | refine i_lst ?_ | refine i_op ?_ | refine i_un ?_ | refine i_call ?_ | refine i_fn ?_ | refine i_test ?_ | refine i_and ?_ | refine i_or ?_ | refine i_not ?_ | refine i_ifx ?_ | refine i_andV ?_ | refine i_orV ?_ | refine i_notV ?_ | refine i_meth ?_ | refine i_sl ?_ | refine i_nopart ?_ | refine i_part ?_ | refine i_revL ?_ | refine i_sortKey ?_ | refine i_sortSet ?_ | refine i_rg1 ?_ | refine i_seqS ?_ | refine i_revR ?_ | refine i_lc ?_ | refine i_yes ?_ | refine i_seqT ?_ | refine i_seqX ?_ | refine i_addI ?_ | refine i_subI ?_ | refine i_negI ?_ | refine i_iaddI ?_ | refine i_eqI ?_ | refine i_neI ?_ | refine i_eqX ?_ | refine i_neX ?_ | refine i_ltI ?_ | refine i_gtI ?_ | refine i_leI ?_ | refine i_geI ?_ | refine i_lenT ?_ | refine i_absI ?_ | refine i_intI ?_ | refine i_lstT ?_ | refine i_slT ?_ | refine i_iteT ?_ | refine i_iteF ?_ | refine i_var (by with_unfolding_all rfl) ?_ | refine i_aug (by with_unfolding_all rfl) ?_ | refine i_ixT (by with_unfolding_all rfl) ?_ | refine ⟨_, _, rfl, ?_⟩ | refine ⟨_, rfl, ?_⟩ | refine ⟨rfl, ?_⟩ | refine ⟨i_tyS, ?_⟩)))
  exact h
theorem b2_skip {K rt2 ct : Lc → Sto → Prop} {Q : DK} {S : Sto} {v : Int} {x0 x1 x2 x3 x4 x5 x7 x8 x9 : Option D} (hv : v ≠ 2) (h : K [x0, x1, x2, x3, x4, x5, some (.int v), x7, x8, x9] S) : b2_all ⟨K, Q, rt2, ct⟩ [x0, x1, x2, x3, x4, x5, some (.int v), x7, x8, x9] S := by
  unfold b2_all
  (repeat (with_reducible (first | refine i_seq ?_ | refine i_next ?_ | refine i_break ?_ | refine i_cont ?_ | refine i_drop ?_ | refine i_ret ?_ | refine i_retN ?_ | refine i_if ?_ | refine i_asg ?_ | refine i_par ?_ | refine i_for ?_ | refine i_nm ?_ | refine i_tp ?_ | refine i_gcons ?_ | refine i_gnil ?_ | refine i_gsub ?_ | refine i_c ?_ | refine i_anil ?_ | refine i_acons ?_ | refine i_tup ?_ | refine i_lst ?_ | refine i_op ?_ | refine i_un ?_ | refine i_call ?_ | refine i_fn ?_ | refine i_test ?_ | refine i_and ?_ | refine i_or ?_ | refine i_not ?_ | refine i_ifx ?_ | refine i_andV ?_ | refine i_orV ?_ | refine i_notV ?_ | refine i_meth ?_ | refine i_sl ?_ | refine i_nopart ?_ | refine i_part ?_ | refine i_revL ?_ | refine i_sortKey ?_ | refine i_sortSet ?_ | refine i_rg1 ?_ | refine i_seqS ?_ | refine i_revR ?_ | refine i_lc ?_ | refine i_yes ?_ | refine i_seqT ?_ | refine i_seqX ?_ | refine i_addI ?_ | refine i_subI ?_ | refine i_negI ?_ | refine i_iaddI ?_ | refine i_eqI ?_ | refine i_neI ?_ | refine i_eqX ?_ | refine i_neX ?_ | refine i_ltI ?_ | refine i_gtI ?_ | refine i_leI ?_ | refine i_geI ?_ | refine i_lenT ?_ | refine i_absI ?_ | refine i_intI ?_ | refine i_lstT ?_ | refine i_slT ?_ | refine i_iteT ?_ | refine i_iteF ?_ | refine i_var (by with_unfolding_all rfl) ?_ | refine i_aug (by with_unfolding_all rfl) ?_ | refine i_ixT (by with_unfolding_all rfl) ?_ | refine ⟨_, _, rfl, ?_⟩ | refine ⟨_, rfl, ?_⟩ | refine ⟨rfl, ?_⟩ | refine ⟨i_tyS, ?_⟩)))
  refine i_ite (fun hb => absurd (of_decide_eq_true hb) hv) fun _ => ?_
  (repeat (with_reducible (first | refine i_seq ?_ | refine i_next ?_ | refine i_break ?_ | refine i_cont ?_ | refine i_drop ?_ | refine i_ret ?_ | refine i_retN ?_ | refine i_if ?_ | refine i_asg ?_ | refine i_par ?_ | refine i_for ?_ | refine i_nm ?_ | refine i_tp ?_ | refine i_gcons ?_ | refine i_gnil ?_ | refine i_gsub ?_ | refine i_c ?_ | refine i_anil ?_ | refine i_acons ?_ | refine i_tup ?_ | refine i_lst ?_ | refine i_op ?_ | refine i_un ?_ | refine i_call ?_ | refine i_fn ?_ | refine i_test ?_ | refine i_and ?_ | refine i_or ?_ | refine i_not ?_ | refine i_ifx ?_ | refine i_andV ?_ | refine i_orV ?_ | refine i_notV ?_ | refine i_meth ?_ | refine i_sl ?_ | refine i_nopart ?_ | refine i_part ?_ | refine i_revL ?_ | refine i_sortKey ?_ | refine i_sortSet ?_ | refine i_rg1 ?_ | refine i_seqS ?_ | refine i_revR ?_ | refine i_lc ?_ | refine i_yes ?_ | refine i_seqT ?_ | refine i_seqX ?_ | refine i_addI ?_ | refine i_subI ?_ | refine i_negI ?_ | refine i_iaddI ?_ | refine i_eqI ?_ | refine i_neI ?_ | refine i_eqX ?_ | refine i_neX ?_ | refine i_ltI ?_ | refine i_gtI ?_ | refine i_leI ?_ | refine i_geI ?_ | refine i_lenT ?_ | refine i_absI ?_ | refine i_intI ?_ | refine i_lstT ?_ | refine i_slT ?_ | refine i_iteT ?_ | refine i_iteF ?_ | refine i_var (by with_unfolding_all rfl) ?_ | refine i_aug (by with_unfolding_all rfl) ?_ | refine i_ixT (by with_unfolding_all rfl) ?_ | refine ⟨_, _, rfl, ?_⟩ | refine ⟨_, rfl, ?_⟩ | refine ⟨rfl, ?_⟩ | refine ⟨i_tyS, ?_⟩)))
  exact h
section
variable {K rt2 ct : Lc → Sto → Prop} {Q : DK} {S : Sto} {p q : Addr} {rr : List Rr} {ms : List Mz} {s : Str} {x0 x1 x7 x8 x9 : Option D}
theorem b0_do (M : Mk3 S p q rr ms) (npq : p ≠ q) (nrq : ∀ r ∈ rr, r.1 ≠ q) (hl : ms.length ≤ 50000)
    (h : ∀ S', Mk3 S' p q rr (ms ++ pieceM (getR rr) rr.length (s, 0)) → Fq q S S' → K [x0, x1, some (.ref p), some (.ref q), some (.int rr.length), some (.str s), some (.int 0), x7, x8, x9] S') :
    b0_all ⟨K, Q, rt2, ct⟩ [x0, x1, some (.ref p), some (.ref q), some (.int rr.length), some (.str s), some (.int 0), x7, x8, x9] S := by
  unfold b0_all
  (repeat (with_reducible (first | refine i_seq ?_ | refine i_next ?_ | refine i_break ?_ | refine i_cont ?_ | refine i_drop ?_ | refine i_ret ?_ | refine i_retN ?_ | refine i_if ?_ | refine i_asg ?_ | refine i_par ?_ | refine i_for ?_ | refine i_nm ?_ | refine i_tp ?_ | refine i_gcons ?_ | refine i_gnil ?_ | refine i_gsub ?_ | refine i_c ?_ | refine i_anil ?_ | refine i_acons ?_ | refine i_tup ?_ | refine i_lst ?_ | refine i_op ?_ | refine i_un ?_ | refine i_call ?_ | refine i_fn ?_ | refine i_test ?_ | refine i_and ?_ | refine i_or ?_ | refine i_not ?_ | refine i_ifx ?_ | refine i_andV ?_ | refine i_orV ?_ | refine i_notV ?_ | refine i_meth ?_ | refine i_sl ?_ | refine i_nopart ?_ | refine i_part ?_ | refine i_revL ?_ | refine i_sortKey ?_ | refine i_sortSet ?_ | refine i_rg1 ?_ | refine i_seqS ?_ | refine i_revR ?_ | refine i_lc ?_ | refine i_yes ?_ | refine i_seqT ?_ | refine i_seqX ?_ | refine i_addI ?_ | refine i_subI ?_ | refine i_negI ?_ | refine i_iaddI ?_ | refine i_eqI ?_ | refine i_neI ?_ | refine i_eqX ?_ | refine i_neX ?_ | refine i_ltI ?_ | refine i_gtI ?_ | refine i_leI ?_ | refine i_geI ?_ | refine i_lenT ?_ | refine i_absI ?_ | refine i_intI ?_ | refine i_lstT ?_ | refine i_slT ?_ | refine i_iteT ?_ | refine i_iteF ?_ | refine i_var (by with_unfolding_all rfl) ?_ | refine i_aug (by with_unfolding_all rfl) ?_ | refine i_ixT (by with_unfolding_all rfl) ?_ | refine ⟨_, _, rfl, ?_⟩ | refine ⟨_, rfl, ?_⟩ | refine ⟨rfl, ?_⟩ | refine ⟨i_tyS, ?_⟩)))
  refine i_ite (fun _ => ?_) fun hb => by simp at hb
  (repeat (with_reducible (first | refine i_seq ?_ | refine i_next ?_ | refine i_break ?_ | refine i_cont ?_ | refine i_drop ?_ | refine i_ret ?_ | refine i_retN ?_ | refine i_if ?_ | refine i_asg ?_ | refine i_par ?_ | refine i_for ?_ | refine i_nm ?_ | refine i_tp ?_ | refine i_gcons ?_ | refine i_gnil ?_ | refine i_gsub ?_ | refine i_c ?_ | refine i_anil ?_ | refine i_acons ?_ | refine i_tup ?_ | refine i_lst ?_ | refine i_op ?_ | refine i_un ?_ | refine i_call ?_ | refine i_fn ?_ | refine i_test ?_ | refine i_and ?_ | refine i_or ?_ | refine i_not ?_ | refine i_ifx ?_ | refine i_andV ?_ | refine i_orV ?_ | refine i_notV ?_ | refine i_meth ?_ | refine i_sl ?_ | refine i_nopart ?_ | refine i_part ?_ | refine i_revL ?_ | refine i_sortKey ?_ | refine i_sortSet ?_ | refine i_rg1 ?_ | refine i_seqS ?_ | refine i_revR ?_ | refine i_lc ?_ | refine i_yes ?_ | refine i_seqT ?_ | refine i_seqX ?_ | refine i_addI ?_ | refine i_subI ?_ | refine i_negI ?_ | refine i_iaddI ?_ | refine i_eqI ?_ | refine i_neI ?_ | refine i_eqX ?_ | refine i_neX ?_ | refine i_ltI ?_ | refine i_gtI ?_ | refine i_leI ?_ | refine i_geI ?_ | refine i_lenT ?_ | refine i_absI ?_ | refine i_intI ?_ | refine i_lstT ?_ | refine i_slT ?_ | refine i_iteT ?_ | refine i_iteF ?_ | refine i_var (by with_unfolding_all rfl) ?_ | refine i_aug (by with_unfolding_all rfl) ?_ | refine i_ixT (by with_unfolding_all rfl) ?_ | refine ⟨_, _, rfl, ?_⟩ | refine ⟨_, rfl, ?_⟩ | refine ⟨rfl, ?_⟩ | refine ⟨i_tyS, ?_⟩)))
  refine i_ite (fun hb => ?_) fun hb => ?_
  · have hz : rr.length = 1 := by have := of_decide_eq_true hb; omega
    (repeat (with_reducible (first | refine i_seq ?_ | refine i_next ?_ | refine i_break ?_ | refine i_cont ?_ | refine i_drop ?_ | refine i_ret ?_ | refine i_retN ?_ | refine i_if ?_ | refine i_asg ?_ | refine i_par ?_ | refine i_for ?_ | refine i_nm ?_ | refine i_tp ?_ | refine i_gcons ?_ | refine i_gnil ?_ | refine i_gsub ?_ | refine i_c ?_ | refine i_anil ?_ | refine i_acons ?_ | refine i_tup ?_ | refine i_lst ?_ | refine i_op ?_ | refine i_un ?_ | refine i_call ?_ | refine i_fn ?_ | refine i_test ?_ | refine i_and ?_ | refine i_or ?_ | refine i_not ?_ | refine i_ifx ?_ | refine i_andV ?_ | refine i_orV ?_ | refine i_notV ?_ | refine i_meth ?_ | refine i_sl ?_ | refine i_nopart ?_ | refine i_part ?_ | refine i_revL ?_ | refine i_sortKey ?_ | refine i_sortSet ?_ | refine i_rg1 ?_ | refine i_seqS ?_ | refine i_revR ?_ | refine i_lc ?_ | refine i_yes ?_ | refine i_seqT ?_ | refine i_seqX ?_ | refine i_addI ?_ | refine i_subI ?_ | refine i_negI ?_ | refine i_iaddI ?_ | refine i_eqI ?_ | refine i_neI ?_ | refine i_eqX ?_ | refine i_neX ?_ | refine i_ltI ?_ | refine i_gtI ?_ | refine i_leI ?_ | refine i_geI ?_ | refine i_lenT ?_ | refine i_absI ?_ | refine i_intI ?_ | refine i_lstT ?_ | refine i_slT ?_ | refine i_iteT ?_ | refine i_iteF ?_ | refine i_var (by with_unfolding_all rfl) ?_ | refine i_aug (by with_unfolding_all rfl) ?_ | refine i_ixT (by with_unfolding_all rfl) ?_ | refine ⟨_, _, rfl, ?_⟩ | refine ⟨_, rfl, ?_⟩ | refine ⟨rfl, ?_⟩ | refine ⟨i_tyS, ?_⟩)))
    refine ⟨i_tyL M.row, ?_⟩
    (repeat (with_reducible (first | refine i_seq ?_ | refine i_next ?_ | refine i_break ?_ | refine i_cont ?_ | refine i_drop ?_ | refine i_ret ?_ | refine i_retN ?_ | refine i_if ?_ | refine i_asg ?_ | refine i_par ?_ | refine i_for ?_ | refine i_nm ?_ | refine i_tp ?_ | refine i_gcons ?_ | refine i_gnil ?_ | refine i_gsub ?_ | refine i_c ?_ | refine i_anil ?_ | refine i_acons ?_ | refine i_tup ?_ | refine i_lst ?_ | refine i_op ?_ | refine i_un ?_ | refine i_call ?_ | refine i_fn ?_ | refine i_test ?_ | refine i_and ?_ | refine i_or ?_ | refine i_not ?_ | refine i_ifx ?_ | refine i_andV ?_ | refine i_orV ?_ | refine i_notV ?_ | refine i_meth ?_ | refine i_sl ?_ | refine i_nopart ?_ | refine i_part ?_ | refine i_revL ?_ | refine i_sortKey ?_ | refine i_sortSet ?_ | refine i_rg1 ?_ | refine i_seqS ?_ | refine i_revR ?_ | refine i_lc ?_ | refine i_yes ?_ | refine i_seqT ?_ | refine i_seqX ?_ | refine i_addI ?_ | refine i_subI ?_ | refine i_negI ?_ | refine i_iaddI ?_ | refine i_eqI ?_ | refine i_neI ?_ | refine i_eqX ?_ | refine i_neX ?_ | refine i_ltI ?_ | refine i_gtI ?_ | refine i_leI ?_ | refine i_geI ?_ | refine i_lenT ?_ | refine i_absI ?_ | refine i_intI ?_ | refine i_lstT ?_ | refine i_slT ?_ | refine i_iteT ?_ | refine i_iteF ?_ | refine i_var (by with_unfolding_all rfl) ?_ | refine i_aug (by with_unfolding_all rfl) ?_ | refine i_ixT (by with_unfolding_all rfl) ?_ | refine ⟨_, _, rfl, ?_⟩ | refine ⟨_, rfl, ?_⟩ | refine ⟨rfl, ?_⟩ | refine ⟨i_tyS, ?_⟩)))
    refine ⟨by simp [sizeLine_eq], ?_⟩
    (repeat (with_reducible (first | refine i_seq ?_ | refine i_next ?_ | refine i_break ?_ | refine i_cont ?_ | refine i_drop ?_ | refine i_ret ?_ | refine i_retN ?_ | refine i_if ?_ | refine i_asg ?_ | refine i_par ?_ | refine i_for ?_ | refine i_nm ?_ | refine i_tp ?_ | refine i_gcons ?_ | refine i_gnil ?_ | refine i_gsub ?_ | refine i_c ?_ | refine i_anil ?_ | refine i_acons ?_ | refine i_tup ?_ | refine i_lst ?_ | refine i_op ?_ | refine i_un ?_ | refine i_call ?_ | refine i_fn ?_ | refine i_test ?_ | refine i_and ?_ | refine i_or ?_ | refine i_not ?_ | refine i_ifx ?_ | refine i_andV ?_ | refine i_orV ?_ | refine i_notV ?_ | refine i_meth ?_ | refine i_sl ?_ | refine i_nopart ?_ | refine i_part ?_ | refine i_revL ?_ | refine i_sortKey ?_ | refine i_sortSet ?_ | refine i_rg1 ?_ | refine i_seqS ?_ | refine i_revR ?_ | refine i_lc ?_ | refine i_yes ?_ | refine i_seqT ?_ | refine i_seqX ?_ | refine i_addI ?_ | refine i_subI ?_ | refine i_negI ?_ | refine i_iaddI ?_ | refine i_eqI ?_ | refine i_neI ?_ | refine i_eqX ?_ | refine i_neX ?_ | refine i_ltI ?_ | refine i_gtI ?_ | refine i_leI ?_ | refine i_geI ?_ | refine i_lenT ?_ | refine i_absI ?_ | refine i_intI ?_ | refine i_lstT ?_ | refine i_slT ?_ | refine i_iteT ?_ | refine i_iteF ?_ | refine i_var (by with_unfolding_all rfl) ?_ | refine i_aug (by with_unfolding_all rfl) ?_ | refine i_ixT (by with_unfolding_all rfl) ?_ | refine ⟨_, _, rfl, ?_⟩ | refine ⟨_, rfl, ?_⟩ | refine ⟨rfl, ?_⟩ | refine ⟨i_tyS, ?_⟩)))
    refine ⟨by simp [sizeLine_eq], ?_⟩
    (repeat (with_reducible (first | refine i_seq ?_ | refine i_next ?_ | refine i_break ?_ | refine i_cont ?_ | refine i_drop ?_ | refine i_ret ?_ | refine i_retN ?_ | refine i_if ?_ | refine i_asg ?_ | refine i_par ?_ | refine i_for ?_ | refine i_nm ?_ | refine i_tp ?_ | refine i_gcons ?_ | refine i_gnil ?_ | refine i_gsub ?_ | refine i_c ?_ | refine i_anil ?_ | refine i_acons ?_ | refine i_tup ?_ | refine i_lst ?_ | refine i_op ?_ | refine i_un ?_ | refine i_call ?_ | refine i_fn ?_ | refine i_test ?_ | refine i_and ?_ | refine i_or ?_ | refine i_not ?_ | refine i_ifx ?_ | refine i_andV ?_ | refine i_orV ?_ | refine i_notV ?_ | refine i_meth ?_ | refine i_sl ?_ | refine i_nopart ?_ | refine i_part ?_ | refine i_revL ?_ | refine i_sortKey ?_ | refine i_sortSet ?_ | refine i_rg1 ?_ | refine i_seqS ?_ | refine i_revR ?_ | refine i_lc ?_ | refine i_yes ?_ | refine i_seqT ?_ | refine i_seqX ?_ | refine i_addI ?_ | refine i_subI ?_ | refine i_negI ?_ | refine i_iaddI ?_ | refine i_eqI ?_ | refine i_neI ?_ | refine i_eqX ?_ | refine i_neX ?_ | refine i_ltI ?_ | refine i_gtI ?_ | refine i_leI ?_ | refine i_geI ?_ | refine i_lenT ?_ | refine i_absI ?_ | refine i_intI ?_ | refine i_lstT ?_ | refine i_slT ?_ | refine i_iteT ?_ | refine i_iteF ?_ | refine i_var (by with_unfolding_all rfl) ?_ | refine i_aug (by with_unfolding_all rfl) ?_ | refine i_ixT (by with_unfolding_all rfl) ?_ | refine ⟨_, _, rfl, ?_⟩ | refine ⟨_, rfl, ?_⟩ | refine ⟨rfl, ?_⟩ | refine ⟨i_tyS, ?_⟩)))
    refine i_append M.row (by rw [List.length_map, sizeLine_eq]; omega) ?_
    refine h _ ?_ Fq.own
    have e : pieceM (getR rr) rr.length (s, 0) = [Mz.mk s []] := by unfold pieceM; rw [if_pos rfl, if_pos hz]
    rw [e]
    exact M.add (m := Mz.mk s []) npq nrq
  · have hz : rr.length ≠ 1 := by have := of_decide_eq_false hb; omega
    (repeat (with_reducible (first | refine i_seq ?_ | refine i_next ?_ | refine i_break ?_ | refine i_cont ?_ | refine i_drop ?_ | refine i_ret ?_ | refine i_retN ?_ | refine i_if ?_ | refine i_asg ?_ | refine i_par ?_ | refine i_for ?_ | refine i_nm ?_ | refine i_tp ?_ | refine i_gcons ?_ | refine i_gnil ?_ | refine i_gsub ?_ | refine i_c ?_ | refine i_anil ?_ | refine i_acons ?_ | refine i_tup ?_ | refine i_lst ?_ | refine i_op ?_ | refine i_un ?_ | refine i_call ?_ | refine i_fn ?_ | refine i_test ?_ | refine i_and ?_ | refine i_or ?_ | refine i_not ?_ | refine i_ifx ?_ | refine i_andV ?_ | refine i_orV ?_ | refine i_notV ?_ | refine i_meth ?_ | refine i_sl ?_ | refine i_nopart ?_ | refine i_part ?_ | refine i_revL ?_ | refine i_sortKey ?_ | refine i_sortSet ?_ | refine i_rg1 ?_ | refine i_seqS ?_ | refine i_revR ?_ | refine i_lc ?_ | refine i_yes ?_ | refine i_seqT ?_ | refine i_seqX ?_ | refine i_addI ?_ | refine i_subI ?_ | refine i_negI ?_ | refine i_iaddI ?_ | refine i_eqI ?_ | refine i_neI ?_ | refine i_eqX ?_ | refine i_neX ?_ | refine i_ltI ?_ | refine i_gtI ?_ | refine i_leI ?_ | refine i_geI ?_ | refine i_lenT ?_ | refine i_absI ?_ | refine i_intI ?_ | refine i_lstT ?_ | refine i_slT ?_ | refine i_iteT ?_ | refine i_iteF ?_ | refine i_var (by with_unfolding_all rfl) ?_ | refine i_aug (by with_unfolding_all rfl) ?_ | refine i_ixT (by with_unfolding_all rfl) ?_ | refine ⟨_, _, rfl, ?_⟩ | refine ⟨_, rfl, ?_⟩ | refine ⟨rfl, ?_⟩ | refine ⟨i_tyS, ?_⟩)))
    have e : pieceM (getR rr) rr.length (s, 0) = [] := by unfold pieceM; rw [if_pos rfl, if_neg hz]
    refine h _ ?_ .refl
    rw [e, List.append_nil]
    exact M
theorem b1_do (M : Mk3 S p q rr ms) (npq : p ≠ q) (nrq : ∀ r ∈ rr, r.1 ≠ q) (hl : ms.length ≤ 50000) (hz : 1 ≤ rr.length) (hR : ∀ i < rr.length, (getR rr i).length ≤ 20)
    (h : ∀ S', Mk3 S' p q rr (ms ++ pieceM (getR rr) rr.length (s, 1)) → Fq q S S' → K [x0, x1, some (.ref p), some (.ref q), some (.int rr.length), some (.str s), some (.int 1), x7, x8, x9] S') :
    b1_all ⟨K, Q, rt2, ct⟩ [x0, x1, some (.ref p), some (.ref q), some (.int rr.length), some (.str s), some (.int 1), x7, x8, x9] S := by
  unfold b1_all
  obtain ⟨a, ga, ha, r0, hr0, hra⟩ := M.getAt (i := rr.length - 1) (by omega)
  have hRl := hR (rr.length - 1) (by omega)
  (repeat (with_reducible (first | refine i_seq ?_ | refine i_next ?_ | refine i_break ?_ | refine i_cont ?_ | refine i_drop ?_ | refine i_ret ?_ | refine i_retN ?_ | refine i_if ?_ | refine i_asg ?_ | refine i_par ?_ | refine i_for ?_ | refine i_nm ?_ | refine i_tp ?_ | refine i_gcons ?_ | refine i_gnil ?_ | refine i_gsub ?_ | refine i_c ?_ | refine i_anil ?_ | refine i_acons ?_ | refine i_tup ?_ | refine i_lst ?_ | refine i_op ?_ | refine i_un ?_ | refine i_call ?_ | refine i_fn ?_ | refine i_test ?_ | refine i_and ?_ | refine i_or ?_ | refine i_not ?_ | refine i_ifx ?_ | refine i_andV ?_ | refine i_orV ?_ | refine i_notV ?_ | refine i_meth ?_ | refine i_sl ?_ | refine i_nopart ?_ | refine i_part ?_ | refine i_revL ?_ | refine i_sortKey ?_ | refine i_sortSet ?_ | refine i_rg1 ?_ | refine i_seqS ?_ | refine i_revR ?_ | refine i_lc ?_ | refine i_yes ?_ | refine i_seqT ?_ | refine i_seqX ?_ | refine i_addI ?_ | refine i_subI ?_ | refine i_negI ?_ | refine i_iaddI ?_ | refine i_eqI ?_ | refine i_neI ?_ | refine i_eqX ?_ | refine i_neX ?_ | refine i_ltI ?_ | refine i_gtI ?_ | refine i_leI ?_ | refine i_geI ?_ | refine i_lenT ?_ | refine i_absI ?_ | refine i_intI ?_ | refine i_lstT ?_ | refine i_slT ?_ | refine i_iteT ?_ | refine i_iteF ?_ | refine i_var (by with_unfolding_all rfl) ?_ | refine i_aug (by with_unfolding_all rfl) ?_ | refine i_ixT (by with_unfolding_all rfl) ?_ | refine ⟨_, _, rfl, ?_⟩ | refine ⟨_, rfl, ?_⟩ | refine ⟨rfl, ?_⟩ | refine ⟨i_tyS, ?_⟩)))
  refine i_ite (fun _ => ?_) fun hb => by simp at hb
  (repeat (with_reducible (first | refine i_seq ?_ | refine i_next ?_ | refine i_break ?_ | refine i_cont ?_ | refine i_drop ?_ | refine i_ret ?_ | refine i_retN ?_ | refine i_if ?_ | refine i_asg ?_ | refine i_par ?_ | refine i_for ?_ | refine i_nm ?_ | refine i_tp ?_ | refine i_gcons ?_ | refine i_gnil ?_ | refine i_gsub ?_ | refine i_c ?_ | refine i_anil ?_ | refine i_acons ?_ | refine i_tup ?_ | refine i_lst ?_ | refine i_op ?_ | refine i_un ?_ | refine i_call ?_ | refine i_fn ?_ | refine i_test ?_ | refine i_and ?_ | refine i_or ?_ | refine i_not ?_ | refine i_ifx ?_ | refine i_andV ?_ | refine i_orV ?_ | refine i_notV ?_ | refine i_meth ?_ | refine i_sl ?_ | refine i_nopart ?_ | refine i_part ?_ | refine i_revL ?_ | refine i_sortKey ?_ | refine i_sortSet ?_ | refine i_rg1 ?_ | refine i_seqS ?_ | refine i_revR ?_ | refine i_lc ?_ | refine i_yes ?_ | refine i_seqT ?_ | refine i_seqX ?_ | refine i_addI ?_ | refine i_subI ?_ | refine i_negI ?_ | refine i_iaddI ?_ | refine i_eqI ?_ | refine i_neI ?_ | refine i_eqX ?_ | refine i_neX ?_ | refine i_ltI ?_ | refine i_gtI ?_ | refine i_leI ?_ | refine i_geI ?_ | refine i_lenT ?_ | refine i_absI ?_ | refine i_intI ?_ | refine i_lstT ?_ | refine i_slT ?_ | refine i_iteT ?_ | refine i_iteF ?_ | refine i_var (by with_unfolding_all rfl) ?_ | refine i_aug (by with_unfolding_all rfl) ?_ | refine i_ixT (by with_unfolding_all rfl) ?_ | refine ⟨_, _, rfl, ?_⟩ | refine ⟨_, rfl, ?_⟩ | refine ⟨rfl, ?_⟩ | refine ⟨i_tyS, ?_⟩)))
  refine ⟨i_tyL M.row, ?_⟩
  (repeat (with_reducible (first | refine i_seq ?_ | refine i_next ?_ | refine i_break ?_ | refine i_cont ?_ | refine i_drop ?_ | refine i_ret ?_ | refine i_retN ?_ | refine i_if ?_ | refine i_asg ?_ | refine i_par ?_ | refine i_for ?_ | refine i_nm ?_ | refine i_tp ?_ | refine i_gcons ?_ | refine i_gnil ?_ | refine i_gsub ?_ | refine i_c ?_ | refine i_anil ?_ | refine i_acons ?_ | refine i_tup ?_ | refine i_lst ?_ | refine i_op ?_ | refine i_un ?_ | refine i_call ?_ | refine i_fn ?_ | refine i_test ?_ | refine i_and ?_ | refine i_or ?_ | refine i_not ?_ | refine i_ifx ?_ | refine i_andV ?_ | refine i_orV ?_ | refine i_notV ?_ | refine i_meth ?_ | refine i_sl ?_ | refine i_nopart ?_ | refine i_part ?_ | refine i_revL ?_ | refine i_sortKey ?_ | refine i_sortSet ?_ | refine i_rg1 ?_ | refine i_seqS ?_ | refine i_revR ?_ | refine i_lc ?_ | refine i_yes ?_ | refine i_seqT ?_ | refine i_seqX ?_ | refine i_addI ?_ | refine i_subI ?_ | refine i_negI ?_ | refine i_iaddI ?_ | refine i_eqI ?_ | refine i_neI ?_ | refine i_eqX ?_ | refine i_neX ?_ | refine i_ltI ?_ | refine i_gtI ?_ | refine i_leI ?_ | refine i_geI ?_ | refine i_lenT ?_ | refine i_absI ?_ | refine i_intI ?_ | refine i_lstT ?_ | refine i_slT ?_ | refine i_iteT ?_ | refine i_iteF ?_ | refine i_var (by with_unfolding_all rfl) ?_ | refine i_aug (by with_unfolding_all rfl) ?_ | refine i_ixT (by with_unfolding_all rfl) ?_ | refine ⟨_, _, rfl, ?_⟩ | refine ⟨_, rfl, ?_⟩ | refine ⟨rfl, ?_⟩ | refine ⟨i_tyS, ?_⟩)))
  rw [show ((rr.length : Int) - 1) = ((rr.length - 1 : Nat) : Int) by omega]
  refine ga _ ?_
  refine i_seqL ha ?_
  refine lc_inv (P := fun i acc S' => S' = S ∧ acc = (((getR rr (rr.length - 1)).take i).map fun m => Mz.mk s [m]).map Mz.d) ⟨rfl, rfl⟩ (fun i acc S' _ h => by rw [h.1]; exact ha) ?_ ?_
  · rintro i d acc S1 K2 hd ⟨rfl, rfl⟩ hK2
    rw [List.getElem?_map, Option.map_eq_some_iff] at hd
    obtain ⟨m, hm, rfl⟩ := hd
    (repeat (with_reducible (first | refine i_seq ?_ | refine i_next ?_ | refine i_break ?_ | refine i_cont ?_ | refine i_drop ?_ | refine i_ret ?_ | refine i_retN ?_ | refine i_if ?_ | refine i_asg ?_ | refine i_par ?_ | refine i_for ?_ | refine i_nm ?_ | refine i_tp ?_ | refine i_gcons ?_ | refine i_gnil ?_ | refine i_gsub ?_ | refine i_c ?_ | refine i_anil ?_ | refine i_acons ?_ | refine i_tup ?_ | refine i_lst ?_ | refine i_op ?_ | refine i_un ?_ | refine i_call ?_ | refine i_fn ?_ | refine i_test ?_ | refine i_and ?_ | refine i_or ?_ | refine i_not ?_ | refine i_ifx ?_ | refine i_andV ?_ | refine i_orV ?_ | refine i_notV ?_ | refine i_meth ?_ | refine i_sl ?_ | refine i_nopart ?_ | refine i_part ?_ | refine i_revL ?_ | refine i_sortKey ?_ | refine i_sortSet ?_ | refine i_rg1 ?_ | refine i_seqS ?_ | refine i_revR ?_ | refine i_lc ?_ | refine i_yes ?_ | refine i_seqT ?_ | refine i_seqX ?_ | refine i_addI ?_ | refine i_subI ?_ | refine i_negI ?_ | refine i_iaddI ?_ | refine i_eqI ?_ | refine i_neI ?_ | refine i_eqX ?_ | refine i_neX ?_ | refine i_ltI ?_ | refine i_gtI ?_ | refine i_leI ?_ | refine i_geI ?_ | refine i_lenT ?_ | refine i_absI ?_ | refine i_intI ?_ | refine i_lstT ?_ | refine i_slT ?_ | refine i_iteT ?_ | refine i_iteF ?_ | refine i_var (by with_unfolding_all rfl) ?_ | refine i_aug (by with_unfolding_all rfl) ?_ | refine i_ixT (by with_unfolding_all rfl) ?_ | refine ⟨_, _, rfl, ?_⟩ | refine ⟨_, rfl, ?_⟩ | refine ⟨rfl, ?_⟩ | refine ⟨i_tyS, ?_⟩)))
    refine ⟨by simp [sizeLine_eq], ?_⟩
    (repeat (with_reducible (first | refine i_seq ?_ | refine i_next ?_ | refine i_break ?_ | refine i_cont ?_ | refine i_drop ?_ | refine i_ret ?_ | refine i_retN ?_ | refine i_if ?_ | refine i_asg ?_ | refine i_par ?_ | refine i_for ?_ | refine i_nm ?_ | refine i_tp ?_ | refine i_gcons ?_ | refine i_gnil ?_ | refine i_gsub ?_ | refine i_c ?_ | refine i_anil ?_ | refine i_acons ?_ | refine i_tup ?_ | refine i_lst ?_ | refine i_op ?_ | refine i_un ?_ | refine i_call ?_ | refine i_fn ?_ | refine i_test ?_ | refine i_and ?_ | refine i_or ?_ | refine i_not ?_ | refine i_ifx ?_ | refine i_andV ?_ | refine i_orV ?_ | refine i_notV ?_ | refine i_meth ?_ | refine i_sl ?_ | refine i_nopart ?_ | refine i_part ?_ | refine i_revL ?_ | refine i_sortKey ?_ | refine i_sortSet ?_ | refine i_rg1 ?_ | refine i_seqS ?_ | refine i_revR ?_ | refine i_lc ?_ | refine i_yes ?_ | refine i_seqT ?_ | refine i_seqX ?_ | refine i_addI ?_ | refine i_subI ?_ | refine i_negI ?_ | refine i_iaddI ?_ | refine i_eqI ?_ | refine i_neI ?_ | refine i_eqX ?_ | refine i_neX ?_ | refine i_ltI ?_ | refine i_gtI ?_ | refine i_leI ?_ | refine i_geI ?_ | refine i_lenT ?_ | refine i_absI ?_ | refine i_intI ?_ | refine i_lstT ?_ | refine i_slT ?_ | refine i_iteT ?_ | refine i_iteF ?_ | refine i_var (by with_unfolding_all rfl) ?_ | refine i_aug (by with_unfolding_all rfl) ?_ | refine i_ixT (by with_unfolding_all rfl) ?_ | refine ⟨_, _, rfl, ?_⟩ | refine ⟨_, rfl, ?_⟩ | refine ⟨rfl, ?_⟩ | refine ⟨i_tyS, ?_⟩)))
    refine ⟨by simp [sizeLine_eq], by rw [List.length_map, List.length_map, List.length_take, sizeLine_eq]; omega, hK2 _ _ ⟨rfl, by rw [take_snoc hm, List.map_append, List.map_append]; rfl⟩⟩
  rintro acc S1 ⟨rfl, rfl⟩ u hu
  rw [List.length_map, List.take_length]
  have nuq : u ≠ q := fun e => by subst e; rw [M.row] at hu; cases hu
  (repeat (with_reducible (first | refine i_seq ?_ | refine i_next ?_ | refine i_break ?_ | refine i_cont ?_ | refine i_drop ?_ | refine i_ret ?_ | refine i_retN ?_ | refine i_if ?_ | refine i_asg ?_ | refine i_par ?_ | refine i_for ?_ | refine i_nm ?_ | refine i_tp ?_ | refine i_gcons ?_ | refine i_gnil ?_ | refine i_gsub ?_ | refine i_c ?_ | refine i_anil ?_ | refine i_acons ?_ | refine i_tup ?_ | refine i_lst ?_ | refine i_op ?_ | refine i_un ?_ | refine i_call ?_ | refine i_fn ?_ | refine i_test ?_ | refine i_and ?_ | refine i_or ?_ | refine i_not ?_ | refine i_ifx ?_ | refine i_andV ?_ | refine i_orV ?_ | refine i_notV ?_ | refine i_meth ?_ | refine i_sl ?_ | refine i_nopart ?_ | refine i_part ?_ | refine i_revL ?_ | refine i_sortKey ?_ | refine i_sortSet ?_ | refine i_rg1 ?_ | refine i_seqS ?_ | refine i_revR ?_ | refine i_lc ?_ | refine i_yes ?_ | refine i_seqT ?_ | refine i_seqX ?_ | refine i_addI ?_ | refine i_subI ?_ | refine i_negI ?_ | refine i_iaddI ?_ | refine i_eqI ?_ | refine i_neI ?_ | refine i_eqX ?_ | refine i_neX ?_ | refine i_ltI ?_ | refine i_gtI ?_ | refine i_leI ?_ | refine i_geI ?_ | refine i_lenT ?_ | refine i_absI ?_ | refine i_intI ?_ | refine i_lstT ?_ | refine i_slT ?_ | refine i_iteT ?_ | refine i_iteF ?_ | refine i_var (by with_unfolding_all rfl) ?_ | refine i_aug (by with_unfolding_all rfl) ?_ | refine i_ixT (by with_unfolding_all rfl) ?_ | refine ⟨_, _, rfl, ?_⟩ | refine ⟨_, rfl, ?_⟩ | refine ⟨rfl, ?_⟩ | refine ⟨i_tyS, ?_⟩)))
  refine i_extend (by rw [put_ne nuq.symm]; exact M.row) put_same (by rw [List.length_map, List.length_map, List.length_map, sizeLine_eq]; omega) ?_
  refine h _ ?_ ((Fq.new hu).trans Fq.own)
  have e : pieceM (getR rr) rr.length (s, 1) = (getR rr (rr.length - 1)).map fun m => Mz.mk s [m] := by unfold pieceM; rw [if_neg (show ¬((1 : Int) = 0) by decide), if_pos rfl]
  rw [e]
  exact M.grow hu npq nrq
theorem b2_do (M : Mk3 S p q rr ms) (npq : p ≠ q) (nrq : ∀ r ∈ rr, r.1 ≠ q) (hl : ms.length ≤ 50000) (hz : 1 ≤ rr.length) (hz9 : rr.length ≤ 9) (hR : ∀ i < rr.length, (getR rr i).length ≤ 20)
    (h : ∀ S' x7 x8 x9, Mk3 S' p q rr (ms ++ pieceM (getR rr) rr.length (s, 2)) → Fq q S S' → K [x0, x1, some (.ref p), some (.ref q), some (.int rr.length), some (.str s), some (.int 2), x7, x8, x9] S') :
    b2_all ⟨K, Q, rt2, ct⟩ [x0, x1, some (.ref p), some (.ref q), some (.int rr.length), some (.str s), some (.int 2), x7, x8, x9] S := by
  unfold b2_all
  (repeat (with_reducible (first | refine i_seq ?_ | refine i_next ?_ | refine i_break ?_ | refine i_cont ?_ | refine i_drop ?_ | refine i_ret ?_ | refine i_retN ?_ | refine i_if ?_ | refine i_asg ?_ | refine i_par ?_ | refine i_for ?_ | refine i_nm ?_ | refine i_tp ?_ | refine i_gcons ?_ | refine i_gnil ?_ | refine i_gsub ?_ | refine i_c ?_ | refine i_anil ?_ | refine i_acons ?_ | refine i_tup ?_ | refine i_lst ?_ | refine i_op ?_ | refine i_un ?_ | refine i_call ?_ | refine i_fn ?_ | refine i_test ?_ | refine i_and ?_ | refine i_or ?_ | refine i_not ?_ | refine i_ifx ?_ | refine i_andV ?_ | refine i_orV ?_ | refine i_notV ?_ | refine i_meth ?_ | refine i_sl ?_ | refine i_nopart ?_ | refine i_part ?_ | refine i_revL ?_ | refine i_sortKey ?_ | refine i_sortSet ?_ | refine i_rg1 ?_ | refine i_seqS ?_ | refine i_revR ?_ | refine i_lc ?_ | refine i_yes ?_ | refine i_seqT ?_ | refine i_seqX ?_ | refine i_addI ?_ | refine i_subI ?_ | refine i_negI ?_ | refine i_iaddI ?_ | refine i_eqI ?_ | refine i_neI ?_ | refine i_eqX ?_ | refine i_neX ?_ | refine i_ltI ?_ | refine i_gtI ?_ | refine i_leI ?_ | refine i_geI ?_ | refine i_lenT ?_ | refine i_absI ?_ | refine i_intI ?_ | refine i_lstT ?_ | refine i_slT ?_ | refine i_iteT ?_ | refine i_iteF ?_ | refine i_var (by with_unfolding_all rfl) ?_ | refine i_aug (by with_unfolding_all rfl) ?_ | refine i_ixT (by with_unfolding_all rfl) ?_ | refine ⟨_, _, rfl, ?_⟩ | refine ⟨_, rfl, ?_⟩ | refine ⟨rfl, ?_⟩ | refine ⟨i_tyS, ?_⟩)))
  refine i_ite (fun _ => ?_) fun hb => by simp at hb
  (repeat (with_reducible (first | refine i_seq ?_ | refine i_next ?_ | refine i_break ?_ | refine i_cont ?_ | refine i_drop ?_ | refine i_ret ?_ | refine i_retN ?_ | refine i_if ?_ | refine i_asg ?_ | refine i_par ?_ | refine i_for ?_ | refine i_nm ?_ | refine i_tp ?_ | refine i_gcons ?_ | refine i_gnil ?_ | refine i_gsub ?_ | refine i_c ?_ | refine i_anil ?_ | refine i_acons ?_ | refine i_tup ?_ | refine i_lst ?_ | refine i_op ?_ | refine i_un ?_ | refine i_call ?_ | refine i_fn ?_ | refine i_test ?_ | refine i_and ?_ | refine i_or ?_ | refine i_not ?_ | refine i_ifx ?_ | refine i_andV ?_ | refine i_orV ?_ | refine i_notV ?_ | refine i_meth ?_ | refine i_sl ?_ | refine i_nopart ?_ | refine i_part ?_ | refine i_revL ?_ | refine i_sortKey ?_ | refine i_sortSet ?_ | refine i_rg1 ?_ | refine i_seqS ?_ | refine i_revR ?_ | refine i_lc ?_ | refine i_yes ?_ | refine i_seqT ?_ | refine i_seqX ?_ | refine i_addI ?_ | refine i_subI ?_ | refine i_negI ?_ | refine i_iaddI ?_ | refine i_eqI ?_ | refine i_neI ?_ | refine i_eqX ?_ | refine i_neX ?_ | refine i_ltI ?_ | refine i_gtI ?_ | refine i_leI ?_ | refine i_geI ?_ | refine i_lenT ?_ | refine i_absI ?_ | refine i_intI ?_ | refine i_lstT ?_ | refine i_slT ?_ | refine i_iteT ?_ | refine i_iteF ?_ | refine i_var (by with_unfolding_all rfl) ?_ | refine i_aug (by with_unfolding_all rfl) ?_ | refine i_ixT (by with_unfolding_all rfl) ?_ | refine ⟨_, _, rfl, ?_⟩ | refine ⟨_, rfl, ?_⟩ | refine ⟨rfl, ?_⟩ | refine ⟨i_tyS, ?_⟩)))
  refine i_rg2 ?_
  (repeat (with_reducible (first | refine i_seq ?_ | refine i_next ?_ | refine i_break ?_ | refine i_cont ?_ | refine i_drop ?_ | refine i_ret ?_ | refine i_retN ?_ | refine i_if ?_ | refine i_asg ?_ | refine i_par ?_ | refine i_for ?_ | refine i_nm ?_ | refine i_tp ?_ | refine i_gcons ?_ | refine i_gnil ?_ | refine i_gsub ?_ | refine i_c ?_ | refine i_anil ?_ | refine i_acons ?_ | refine i_tup ?_ | refine i_lst ?_ | refine i_op ?_ | refine i_un ?_ | refine i_call ?_ | refine i_fn ?_ | refine i_test ?_ | refine i_and ?_ | refine i_or ?_ | refine i_not ?_ | refine i_ifx ?_ | refine i_andV ?_ | refine i_orV ?_ | refine i_notV ?_ | refine i_meth ?_ | refine i_sl ?_ | refine i_nopart ?_ | refine i_part ?_ | refine i_revL ?_ | refine i_sortKey ?_ | refine i_sortSet ?_ | refine i_rg1 ?_ | refine i_seqS ?_ | refine i_revR ?_ | refine i_lc ?_ | refine i_yes ?_ | refine i_seqT ?_ | refine i_seqX ?_ | refine i_addI ?_ | refine i_subI ?_ | refine i_negI ?_ | refine i_iaddI ?_ | refine i_eqI ?_ | refine i_neI ?_ | refine i_eqX ?_ | refine i_neX ?_ | refine i_ltI ?_ | refine i_gtI ?_ | refine i_leI ?_ | refine i_geI ?_ | refine i_lenT ?_ | refine i_absI ?_ | refine i_intI ?_ | refine i_lstT ?_ | refine i_slT ?_ | refine i_iteT ?_ | refine i_iteF ?_ | refine i_var (by with_unfolding_all rfl) ?_ | refine i_aug (by with_unfolding_all rfl) ?_ | refine i_ixT (by with_unfolding_all rfl) ?_ | refine ⟨_, _, rfl, ?_⟩ | refine ⟨_, rfl, ?_⟩ | refine ⟨rfl, ?_⟩ | refine ⟨i_tyS, ?_⟩)))
  refine ⟨by omega, ?_⟩
  rw [show ((rr.length : Int) - 1 - 1).toNat = rr.length - 2 by omega]
  refine for_inv (P := fun j l S' => (∃ x7 x8 x9, l = [x0, x1, some (.ref p), some (.ref q), some (.int rr.length), some (.str s), some (.int 2), x7, x8, x9]) ∧ Mk3 S' p q rr (ms ++ (List.range j).flatMap (twoM (getR rr) rr.length s)) ∧ Fq q S S') ⟨⟨_, _, _, rfl⟩, by simpa using M, .refl⟩ (fun _ _ _ _ _ => trivial) ?_ ?_
  · rintro j d l S1 K1 hd ⟨⟨y7, y8, y9, rfl⟩, M1, f1⟩ hK
    obtain ⟨hj, rfl⟩ := intsD_get hd
    have hl1 : ((List.range j).flatMap (twoM (getR rr) rr.length s)).length ≤ 400 * 9 := by
      have := flat_len (l := List.range j) (f := twoM (getR rr) rr.length s) (c := 400) fun i hi => two_len hR (by have := List.mem_range.mp hi; omega)
      rw [List.length_range] at this
      omega
    obtain ⟨a, ga, ha, r1, hr1, hra⟩ := M1.getAt (i := j + 1) (by omega)
    have hRj := hR (j + 1) (by omega)
    have hRo := hR (rr.length - 1 - (j + 1)) (by omega)
    have naq : a ≠ q := by rw [← hra]; exact nrq r1 hr1
    (repeat (with_reducible (first | refine i_seq ?_ | refine i_next ?_ | refine i_break ?_ | refine i_cont ?_ | refine i_drop ?_ | refine i_ret ?_ | refine i_retN ?_ | refine i_if ?_ | refine i_asg ?_ | refine i_par ?_ | refine i_for ?_ | refine i_nm ?_ | refine i_tp ?_ | refine i_gcons ?_ | refine i_gnil ?_ | refine i_gsub ?_ | refine i_c ?_ | refine i_anil ?_ | refine i_acons ?_ | refine i_tup ?_ | refine i_lst ?_ | refine i_op ?_ | refine i_un ?_ | refine i_call ?_ | refine i_fn ?_ | refine i_test ?_ | refine i_and ?_ | refine i_or ?_ | refine i_not ?_ | refine i_ifx ?_ | refine i_andV ?_ | refine i_orV ?_ | refine i_notV ?_ | refine i_meth ?_ | refine i_sl ?_ | refine i_nopart ?_ | refine i_part ?_ | refine i_revL ?_ | refine i_sortKey ?_ | refine i_sortSet ?_ | refine i_rg1 ?_ | refine i_seqS ?_ | refine i_revR ?_ | refine i_lc ?_ | refine i_yes ?_ | refine i_seqT ?_ | refine i_seqX ?_ | refine i_addI ?_ | refine i_subI ?_ | refine i_negI ?_ | refine i_iaddI ?_ | refine i_eqI ?_ | refine i_neI ?_ | refine i_eqX ?_ | refine i_neX ?_ | refine i_ltI ?_ | refine i_gtI ?_ | refine i_leI ?_ | refine i_geI ?_ | refine i_lenT ?_ | refine i_absI ?_ | refine i_intI ?_ | refine i_lstT ?_ | refine i_slT ?_ | refine i_iteT ?_ | refine i_iteF ?_ | refine i_var (by with_unfolding_all rfl) ?_ | refine i_aug (by with_unfolding_all rfl) ?_ | refine i_ixT (by with_unfolding_all rfl) ?_ | refine ⟨_, _, rfl, ?_⟩ | refine ⟨_, rfl, ?_⟩ | refine ⟨rfl, ?_⟩ | refine ⟨i_tyS, ?_⟩)))
    rw [show ((1 : Int) + (j : Int)) = ((j + 1 : Nat) : Int) by omega]
    refine ga _ ?_
    refine i_seqL ha ?_
    refine for_inv (P := fun i l S' => (∃ x8 x9, l = [x0, x1, some (.ref p), some (.ref q), some (.int rr.length), some (.str s), some (.int 2), some (.int ((j + 1 : Nat) : Int)), x8, x9]) ∧ Mk3 S' p q rr (ms ++ (List.range j).flatMap (twoM (getR rr) rr.length s) ++ ((getR rr (j + 1)).take i).flatMap fun o => (getR rr (rr.length - 1 - (j + 1))).map fun p => Mz.mk s [o, p]) ∧ Fq q S1 S') ⟨⟨_, _, rfl⟩, by simpa using M1, .refl⟩ (fun i l S' _ h => h.2.2 _ _ ha naq) ?_ ?_
    · rintro i d l S2 K2 hd ⟨⟨z8, z9, rfl⟩, M2, f2⟩ hK2
      rw [List.getElem?_map, Option.map_eq_some_iff] at hd
      obtain ⟨o, ho, rfl⟩ := hd
      have hi := (List.getElem?_eq_some_iff.mp ho).1
      have hl2 : (((getR rr (j + 1)).take i).flatMap fun o => (getR rr (rr.length - 1 - (j + 1))).map fun p => Mz.mk s [o, p]).length ≤ 20 * 20 := by
        have := flat_len (l := (getR rr (j + 1)).take i) (f := fun o => (getR rr (rr.length - 1 - (j + 1))).map fun p => Mz.mk s [o, p]) (c := 20) fun o _ => by rw [List.length_map]; exact hRo
        rw [List.length_take] at this
        omega
      obtain ⟨b, gb, hb, r2, hr2, hrb⟩ := M2.getAt (i := rr.length - 1 - (j + 1)) (by omega)
      (repeat (with_reducible (first | refine i_seq ?_ | refine i_next ?_ | refine i_break ?_ | refine i_cont ?_ | refine i_drop ?_ | refine i_ret ?_ | refine i_retN ?_ | refine i_if ?_ | refine i_asg ?_ | refine i_par ?_ | refine i_for ?_ | refine i_nm ?_ | refine i_tp ?_ | refine i_gcons ?_ | refine i_gnil ?_ | refine i_gsub ?_ | refine i_c ?_ | refine i_anil ?_ | refine i_acons ?_ | refine i_tup ?_ | refine i_lst ?_ | refine i_op ?_ | refine i_un ?_ | refine i_call ?_ | refine i_fn ?_ | refine i_test ?_ | refine i_and ?_ | refine i_or ?_ | refine i_not ?_ | refine i_ifx ?_ | refine i_andV ?_ | refine i_orV ?_ | refine i_notV ?_ | refine i_meth ?_ | refine i_sl ?_ | refine i_nopart ?_ | refine i_part ?_ | refine i_revL ?_ | refine i_sortKey ?_ | refine i_sortSet ?_ | refine i_rg1 ?_ | refine i_seqS ?_ | refine i_revR ?_ | refine i_lc ?_ | refine i_yes ?_ | refine i_seqT ?_ | refine i_seqX ?_ | refine i_addI ?_ | refine i_subI ?_ | refine i_negI ?_ | refine i_iaddI ?_ | refine i_eqI ?_ | refine i_neI ?_ | refine i_eqX ?_ | refine i_neX ?_ | refine i_ltI ?_ | refine i_gtI ?_ | refine i_leI ?_ | refine i_geI ?_ | refine i_lenT ?_ | refine i_absI ?_ | refine i_intI ?_ | refine i_lstT ?_ | refine i_slT ?_ | refine i_iteT ?_ | refine i_iteF ?_ | refine i_var (by with_unfolding_all rfl) ?_ | refine i_aug (by with_unfolding_all rfl) ?_ | refine i_ixT (by with_unfolding_all rfl) ?_ | refine ⟨_, _, rfl, ?_⟩ | refine ⟨_, rfl, ?_⟩ | refine ⟨rfl, ?_⟩ | refine ⟨i_tyS, ?_⟩)))
      refine ⟨i_tyL M2.row, ?_⟩
      (repeat (with_reducible (first | refine i_seq ?_ | refine i_next ?_ | refine i_break ?_ | refine i_cont ?_ | refine i_drop ?_ | refine i_ret ?_ | refine i_retN ?_ | refine i_if ?_ | refine i_asg ?_ | refine i_par ?_ | refine i_for ?_ | refine i_nm ?_ | refine i_tp ?_ | refine i_gcons ?_ | refine i_gnil ?_ | refine i_gsub ?_ | refine i_c ?_ | refine i_anil ?_ | refine i_acons ?_ | refine i_tup ?_ | refine i_lst ?_ | refine i_op ?_ | refine i_un ?_ | refine i_call ?_ | refine i_fn ?_ | refine i_test ?_ | refine i_and ?_ | refine i_or ?_ | refine i_not ?_ | refine i_ifx ?_ | refine i_andV ?_ | refine i_orV ?_ | refine i_notV ?_ | refine i_meth ?_ | refine i_sl ?_ | refine i_nopart ?_ | refine i_part ?_ | refine i_revL ?_ | refine i_sortKey ?_ | refine i_sortSet ?_ | refine i_rg1 ?_ | refine i_seqS ?_ | refine i_revR ?_ | refine i_lc ?_ | refine i_yes ?_ | refine i_seqT ?_ | refine i_seqX ?_ | refine i_addI ?_ | refine i_subI ?_ | refine i_negI ?_ | refine i_iaddI ?_ | refine i_eqI ?_ | refine i_neI ?_ | refine i_eqX ?_ | refine i_neX ?_ | refine i_ltI ?_ | refine i_gtI ?_ | refine i_leI ?_ | refine i_geI ?_ | refine i_lenT ?_ | refine i_absI ?_ | refine i_intI ?_ | refine i_lstT ?_ | refine i_slT ?_ | refine i_iteT ?_ | refine i_iteF ?_ | refine i_var (by with_unfolding_all rfl) ?_ | refine i_aug (by with_unfolding_all rfl) ?_ | refine i_ixT (by with_unfolding_all rfl) ?_ | refine ⟨_, _, rfl, ?_⟩ | refine ⟨_, rfl, ?_⟩ | refine ⟨rfl, ?_⟩ | refine ⟨i_tyS, ?_⟩)))
      rw [show ((rr.length : Int) - 1 - ((j + 1 : Nat) : Int)) = ((rr.length - 1 - (j + 1) : Nat) : Int) by omega]
      refine gb _ ?_
      refine i_seqL hb ?_
      refine lc_inv (P := fun n acc S' => S' = S2 ∧ acc = (((getR rr (rr.length - 1 - (j + 1))).take n).map fun p => Mz.mk s [o, p]).map Mz.d) ⟨rfl, rfl⟩ (fun i acc S' _ h => by rw [h.1]; exact hb) ?_ ?_
      · rintro n d acc S3 K3 hd ⟨rfl, rfl⟩ hK3
        rw [List.getElem?_map, Option.map_eq_some_iff] at hd
        obtain ⟨m, hm, rfl⟩ := hd
        (repeat (with_reducible (first | refine i_seq ?_ | refine i_next ?_ | refine i_break ?_ | refine i_cont ?_ | refine i_drop ?_ | refine i_ret ?_ | refine i_retN ?_ | refine i_if ?_ | refine i_asg ?_ | refine i_par ?_ | refine i_for ?_ | refine i_nm ?_ | refine i_tp ?_ | refine i_gcons ?_ | refine i_gnil ?_ | refine i_gsub ?_ | refine i_c ?_ | refine i_anil ?_ | refine i_acons ?_ | refine i_tup ?_ | refine i_lst ?_ | refine i_op ?_ | refine i_un ?_ | refine i_call ?_ | refine i_fn ?_ | refine i_test ?_ | refine i_and ?_ | refine i_or ?_ | refine i_not ?_ | refine i_ifx ?_ | refine i_andV ?_ | refine i_orV ?_ | refine i_notV ?_ | refine i_meth ?_ | refine i_sl ?_ | refine i_nopart ?_ | refine i_part ?_ | refine i_revL ?_ | refine i_sortKey ?_ | refine i_sortSet ?_ | refine i_rg1 ?_ | refine i_seqS ?_ | refine i_revR ?_ | refine i_lc ?_ | refine i_yes ?_ | refine i_seqT ?_ | refine i_seqX ?_ | refine i_addI ?_ | refine i_subI ?_ | refine i_negI ?_ | refine i_iaddI ?_ | refine i_eqI ?_ | refine i_neI ?_ | refine i_eqX ?_ | refine i_neX ?_ | refine i_ltI ?_ | refine i_gtI ?_ | refine i_leI ?_ | refine i_geI ?_ | refine i_lenT ?_ | refine i_absI ?_ | refine i_intI ?_ | refine i_lstT ?_ | refine i_slT ?_ | refine i_iteT ?_ | refine i_iteF ?_ | refine i_var (by with_unfolding_all rfl) ?_ | refine i_aug (by with_unfolding_all rfl) ?_ | refine i_ixT (by with_unfolding_all rfl) ?_ | refine ⟨_, _, rfl, ?_⟩ | refine ⟨_, rfl, ?_⟩ | refine ⟨rfl, ?_⟩ | refine ⟨i_tyS, ?_⟩)))
        refine ⟨by simp [sizeLine_eq], ?_⟩
        (repeat (with_reducible (first | refine i_seq ?_ | refine i_next ?_ | refine i_break ?_ | refine i_cont ?_ | refine i_drop ?_ | refine i_ret ?_ | refine i_retN ?_ | refine i_if ?_ | refine i_asg ?_ | refine i_par ?_ | refine i_for ?_ | refine i_nm ?_ | refine i_tp ?_ | refine i_gcons ?_ | refine i_gnil ?_ | refine i_gsub ?_ | refine i_c ?_ | refine i_anil ?_ | refine i_acons ?_ | refine i_tup ?_ | refine i_lst ?_ | refine i_op ?_ | refine i_un ?_ | refine i_call ?_ | refine i_fn ?_ | refine i_test ?_ | refine i_and ?_ | refine i_or ?_ | refine i_not ?_ | refine i_ifx ?_ | refine i_andV ?_ | refine i_orV ?_ | refine i_notV ?_ | refine i_meth ?_ | refine i_sl ?_ | refine i_nopart ?_ | refine i_part ?_ | refine i_revL ?_ | refine i_sortKey ?_ | refine i_sortSet ?_ | refine i_rg1 ?_ | refine i_seqS ?_ | refine i_revR ?_ | refine i_lc ?_ | refine i_yes ?_ | refine i_seqT ?_ | refine i_seqX ?_ | refine i_addI ?_ | refine i_subI ?_ | refine i_negI ?_ | refine i_iaddI ?_ | refine i_eqI ?_ | refine i_neI ?_ | refine i_eqX ?_ | refine i_neX ?_ | refine i_ltI ?_ | refine i_gtI ?_ | refine i_leI ?_ | refine i_geI ?_ | refine i_lenT ?_ | refine i_absI ?_ | refine i_intI ?_ | refine i_lstT ?_ | refine i_slT ?_ | refine i_iteT ?_ | refine i_iteF ?_ | refine i_var (by with_unfolding_all rfl) ?_ | refine i_aug (by with_unfolding_all rfl) ?_ | refine i_ixT (by with_unfolding_all rfl) ?_ | refine ⟨_, _, rfl, ?_⟩ | refine ⟨_, rfl, ?_⟩ | refine ⟨rfl, ?_⟩ | refine ⟨i_tyS, ?_⟩)))
        refine ⟨by simp [sizeLine_eq], by rw [List.length_map, List.length_map, List.length_take, sizeLine_eq]; omega, hK3 _ _ ⟨rfl, by rw [take_snoc hm, List.map_append, List.map_append]; rfl⟩⟩
      rintro acc S3 ⟨rfl, rfl⟩ u hu
      rw [List.length_map, List.take_length]
      have nuq : u ≠ q := fun e => by subst e; rw [M2.row] at hu; cases hu
      (repeat (with_reducible (first | refine i_seq ?_ | refine i_next ?_ | refine i_break ?_ | refine i_cont ?_ | refine i_drop ?_ | refine i_ret ?_ | refine i_retN ?_ | refine i_if ?_ | refine i_asg ?_ | refine i_par ?_ | refine i_for ?_ | refine i_nm ?_ | refine i_tp ?_ | refine i_gcons ?_ | refine i_gnil ?_ | refine i_gsub ?_ | refine i_c ?_ | refine i_anil ?_ | refine i_acons ?_ | refine i_tup ?_ | refine i_lst ?_ | refine i_op ?_ | refine i_un ?_ | refine i_call ?_ | refine i_fn ?_ | refine i_test ?_ | refine i_and ?_ | refine i_or ?_ | refine i_not ?_ | refine i_ifx ?_ | refine i_andV ?_ | refine i_orV ?_ | refine i_notV ?_ | refine i_meth ?_ | refine i_sl ?_ | refine i_nopart ?_ | refine i_part ?_ | refine i_revL ?_ | refine i_sortKey ?_ | refine i_sortSet ?_ | refine i_rg1 ?_ | refine i_seqS ?_ | refine i_revR ?_ | refine i_lc ?_ | refine i_yes ?_ | refine i_seqT ?_ | refine i_seqX ?_ | refine i_addI ?_ | refine i_subI ?_ | refine i_negI ?_ | refine i_iaddI ?_ | refine i_eqI ?_ | refine i_neI ?_ | refine i_eqX ?_ | refine i_neX ?_ | refine i_ltI ?_ | refine i_gtI ?_ | refine i_leI ?_ | refine i_geI ?_ | refine i_lenT ?_ | refine i_absI ?_ | refine i_intI ?_ | refine i_lstT ?_ | refine i_slT ?_ | refine i_iteT ?_ | refine i_iteF ?_ | refine i_var (by with_unfolding_all rfl) ?_ | refine i_aug (by with_unfolding_all rfl) ?_ | refine i_ixT (by with_unfolding_all rfl) ?_ | refine ⟨_, _, rfl, ?_⟩ | refine ⟨_, rfl, ?_⟩ | refine ⟨rfl, ?_⟩ | refine ⟨i_tyS, ?_⟩)))
      refine i_extend (by rw [put_ne nuq.symm]; exact M2.row) put_same (by rw [List.length_map, List.length_map, List.length_map, List.length_append, List.length_append, sizeLine_eq]; omega) ?_
      refine hK2 _ _ ⟨⟨_, _, rfl⟩, ?_, (f2.trans (Fq.new hu)).trans Fq.own⟩
      rw [take_snoc ho, List.flatMap_append, List.flatMap_singleton, ← List.append_assoc]
      exact M2.grow hu npq nrq
    · rintro l S2 ⟨⟨z8, z9, rfl⟩, M2, f2⟩
      rw [List.length_map, List.take_length] at M2
      refine hK _ _ ⟨⟨_, _, _, rfl⟩, ?_, f1.trans f2⟩
      rw [List.range_succ, List.flatMap_append, List.flatMap_singleton, ← List.append_assoc]
      exact M2
  · rintro l S1 ⟨⟨y7, y8, y9, rfl⟩, M1, f1⟩
    rw [intsD_len] at M1
    refine h _ _ _ _ ?_ f1
    have e : pieceM (getR rr) rr.length (s, 2) = (List.range (rr.length - 2)).flatMap (twoM (getR rr) rr.length s) := by unfold pieceM; rw [if_neg (show ¬((2 : Int) = 0) by decide), if_neg (show ¬((2 : Int) = 1) by decide)]
    rw [e]
    exact M1
theorem all_piece {sh : Sh} (M : Mk3 S p q rr ms) (npq : p ≠ q) (nrq : ∀ r ∈ rr, r.1 ≠ q) (hl : ms.length ≤ 50000) (hz : 1 ≤ rr.length) (hz9 : rr.length ≤ 9) (hR : ∀ i < rr.length, (getR rr i).length ≤ 20) (hs : ShOk sh)
    (h : ∀ S' x7 x8 x9, Mk3 S' p q rr (ms ++ pieceM (getR rr) rr.length sh) → Fq q S S' → K [x0, x1, some (.ref p), some (.ref q), some (.int rr.length), some (.str sh.1), some (.int sh.2), x7, x8, x9] S') :
    aSeq b0_all (aSeq b1_all b2_all) ⟨K, Q, rt2, ct⟩ [x0, x1, some (.ref p), some (.ref q), some (.int rr.length), some (.str sh.1), some (.int sh.2), x7, x8, x9] S := by
  obtain ⟨s1, s2⟩ := sh
  have h3 : s2 = 0 ∨ s2 = 1 ∨ s2 = 2 := by have h1 := hs.2.1; have h2 := hs.2.2; simp only at h1 h2; omega
  refine i_seq ?_
  rcases h3 with e | e | e
  · subst e
    refine b0_do M npq nrq hl fun S1 M1 f1 => ?_
    refine i_seq ?_
    refine b1_skip (show (0 : Int) ≠ 1 by decide) (b2_skip (show (0 : Int) ≠ 2 by decide) ?_)
    exact h S1 _ _ _ M1 f1
  · subst e
    refine b0_skip (show (1 : Int) ≠ 0 by decide) ?_
    refine i_seq ?_
    refine b1_do M npq nrq hl hz hR fun S1 M1 f1 => ?_
    refine b2_skip (show (1 : Int) ≠ 2 by decide) ?_
    exact h S1 _ _ _ M1 f1
  · subst e
    refine b0_skip (show (2 : Int) ≠ 0 by decide) ?_
    refine i_seq ?_
    refine b1_skip (show (2 : Int) ≠ 1 by decide) ?_
    exact b2_do M npq nrq hl hz hz9 hR h
end
end AL

namespace AL
open PySem PySem.Spec PyProof.Rows L2

theorem getR_at {rr : List Rr} {i : Nat} {r : Rr} (h : rr[i]? = some r) : getR rr i = r.2 := by unfold getR; rw [h]
theorem getR_app {rr : List Rr} {r : Rr} {i : Nat} (h : i < rr.length) : getR (rr ++ [r]) i = getR rr i := by unfold getR; rw [List.getElem?_append_left h]
theorem pl_law_all : ∀ ds S Q, ds.length = 2 → sp_law_all ds S Q → semA n_law_all t_law_all ds S Q := by
  rintro ds S Q _ ⟨ks, rfl, hk, q⟩
  unfold semA t_law_all
  (repeat (with_reducible (first | refine i_seq ?_ | refine i_next ?_ | refine i_break ?_ | refine i_cont ?_ | refine i_drop ?_ | refine i_ret ?_ | refine i_retN ?_ | refine i_if ?_ | refine i_asg ?_ | refine i_par ?_ | refine i_for ?_ | refine i_nm ?_ | refine i_tp ?_ | refine i_gcons ?_ | refine i_gnil ?_ | refine i_gsub ?_ | refine i_c ?_ | refine i_anil ?_ | refine i_acons ?_ | refine i_tup ?_ | refine i_lst ?_ | refine i_op ?_ | refine i_un ?_ | refine i_call ?_ | refine i_fn ?_ | refine i_test ?_ | refine i_and ?_ | refine i_or ?_ | refine i_not ?_ | refine i_ifx ?_ | refine i_andV ?_ | refine i_orV ?_ | refine i_notV ?_ | refine i_meth ?_ | refine i_sl ?_ | refine i_nopart ?_ | refine i_part ?_ | refine i_revL ?_ | refine i_sortKey ?_ | refine i_sortSet ?_ | refine i_rg1 ?_ | refine i_seqS ?_ | refine i_revR ?_ | refine i_lc ?_ | refine i_yes ?_ | refine i_seqT ?_ | refine i_seqX ?_ | refine i_addI ?_ | refine i_subI ?_ | refine i_negI ?_ | refine i_iaddI ?_ | refine i_eqI ?_ | refine i_neI ?_ | refine i_eqX ?_ | refine i_neX ?_ | refine i_ltI ?_ | refine i_gtI ?_ | refine i_leI ?_ | refine i_geI ?_ | refine i_lenT ?_ | refine i_absI ?_ | refine i_intI ?_ | refine i_lstT ?_ | refine i_slT ?_ | refine i_iteT ?_ | refine i_iteF ?_ | refine i_var (by with_unfolding_all rfl) ?_ | refine i_aug (by with_unfolding_all rfl) ?_ | refine i_ixT (by with_unfolding_all rfl) ?_ | refine ⟨_, _, rfl, ?_⟩ | refine ⟨_, rfl, ?_⟩ | refine ⟨rfl, ?_⟩ | refine ⟨i_tyS, ?_⟩)))
  refine ⟨Nat.zero_le _, fun a ha => ?_⟩
  (repeat (with_reducible (first | refine i_seq ?_ | refine i_next ?_ | refine i_break ?_ | refine i_cont ?_ | refine i_drop ?_ | refine i_ret ?_ | refine i_retN ?_ | refine i_if ?_ | refine i_asg ?_ | refine i_par ?_ | refine i_for ?_ | refine i_nm ?_ | refine i_tp ?_ | refine i_gcons ?_ | refine i_gnil ?_ | refine i_gsub ?_ | refine i_c ?_ | refine i_anil ?_ | refine i_acons ?_ | refine i_tup ?_ | refine i_lst ?_ | refine i_op ?_ | refine i_un ?_ | refine i_call ?_ | refine i_fn ?_ | refine i_test ?_ | refine i_and ?_ | refine i_or ?_ | refine i_not ?_ | refine i_ifx ?_ | refine i_andV ?_ | refine i_orV ?_ | refine i_notV ?_ | refine i_meth ?_ | refine i_sl ?_ | refine i_nopart ?_ | refine i_part ?_ | refine i_revL ?_ | refine i_sortKey ?_ | refine i_sortSet ?_ | refine i_rg1 ?_ | refine i_seqS ?_ | refine i_revR ?_ | refine i_lc ?_ | refine i_yes ?_ | refine i_seqT ?_ | refine i_seqX ?_ | refine i_addI ?_ | refine i_subI ?_ | refine i_negI ?_ | refine i_iaddI ?_ | refine i_eqI ?_ | refine i_neI ?_ | refine i_eqX ?_ | refine i_neX ?_ | refine i_ltI ?_ | refine i_gtI ?_ | refine i_leI ?_ | refine i_geI ?_ | refine i_lenT ?_ | refine i_absI ?_ | refine i_intI ?_ | refine i_lstT ?_ | refine i_slT ?_ | refine i_iteT ?_ | refine i_iteF ?_ | refine i_var (by with_unfolding_all rfl) ?_ | refine i_aug (by with_unfolding_all rfl) ?_ | refine i_ixT (by with_unfolding_all rfl) ?_ | refine ⟨_, _, rfl, ?_⟩ | refine ⟨_, rfl, ?_⟩ | refine ⟨rfl, ?_⟩ | refine ⟨i_tyS, ?_⟩)))
  refine ⟨by simp [sizeLine_eq], fun p hp => ?_⟩
  (repeat (with_reducible (first | refine i_seq ?_ | refine i_next ?_ | refine i_break ?_ | refine i_cont ?_ | refine i_drop ?_ | refine i_ret ?_ | refine i_retN ?_ | refine i_if ?_ | refine i_asg ?_ | refine i_par ?_ | refine i_for ?_ | refine i_nm ?_ | refine i_tp ?_ | refine i_gcons ?_ | refine i_gnil ?_ | refine i_gsub ?_ | refine i_c ?_ | refine i_anil ?_ | refine i_acons ?_ | refine i_tup ?_ | refine i_lst ?_ | refine i_op ?_ | refine i_un ?_ | refine i_call ?_ | refine i_fn ?_ | refine i_test ?_ | refine i_and ?_ | refine i_or ?_ | refine i_not ?_ | refine i_ifx ?_ | refine i_andV ?_ | refine i_orV ?_ | refine i_notV ?_ | refine i_meth ?_ | refine i_sl ?_ | refine i_nopart ?_ | refine i_part ?_ | refine i_revL ?_ | refine i_sortKey ?_ | refine i_sortSet ?_ | refine i_rg1 ?_ | refine i_seqS ?_ | refine i_revR ?_ | refine i_lc ?_ | refine i_yes ?_ | refine i_seqT ?_ | refine i_seqX ?_ | refine i_addI ?_ | refine i_subI ?_ | refine i_negI ?_ | refine i_iaddI ?_ | refine i_eqI ?_ | refine i_neI ?_ | refine i_eqX ?_ | refine i_neX ?_ | refine i_ltI ?_ | refine i_gtI ?_ | refine i_leI ?_ | refine i_geI ?_ | refine i_lenT ?_ | refine i_absI ?_ | refine i_intI ?_ | refine i_lstT ?_ | refine i_slT ?_ | refine i_iteT ?_ | refine i_iteF ?_ | refine i_var (by with_unfolding_all rfl) ?_ | refine i_aug (by with_unfolding_all rfl) ?_ | refine i_ixT (by with_unfolding_all rfl) ?_ | refine ⟨_, _, rfl, ?_⟩ | refine ⟨_, rfl, ?_⟩ | refine ⟨rfl, ?_⟩ | refine ⟨i_tyS, ?_⟩)))
  have nap : a ≠ p := fun e => by subst e; rw [put_same] at hp; cases hp
  have hpS : S p = none := put_out ha hp
  have R0 : RowsAt (put (put S a (.lst [])) p (.lst [.ref a])) p [((a, []) : Rr)] :=
    ⟨put_same, fun r hr => by rw [List.mem_singleton.mp hr]; exact (put_ne nap).trans put_same, fun i r hr => by
      cases i with
      | zero => cases hr; exact ⟨List.nodup_nil, fun _ h => nomatch h⟩
      | succ i => simp at hr, ⟨Nat.le_refl _, show (1 : Nat) ≤ 9 by decide⟩, fun h => absurd h (show ¬ (2 : Nat) ≤ 1 by decide), fun r hr => by rw [List.mem_singleton.mp hr]; exact nap⟩
  have K0 : Keeps S (put (put S a (.lst [])) p (.lst [.ref a])) := (Keeps.new ha).trans (Keeps.new hp)
  generalize put (put S a (.lst [])) p (.lst [.ref a]) = S0 at R0 K0
  refine i_while (fun n l S' => ∃ rr, n = 9 - rr.length ∧ (∃ x3 x4 x5 x6 x7 x8 x9, l = [some (.tup (ks.map Sh.d)), some (.int 20), some (.ref p), x3, x4, x5, x6, x7, x8, x9]) ∧ RowsAt S' p rr ∧ Keeps S S' ∧ ∀ r ∈ rr, S r.1 = none) 8 ⟨_, rfl, ⟨_, _, _, _, _, _, _, rfl⟩, R0, K0, fun r hr => by rw [List.mem_singleton.mp hr]; exact ha⟩ ?_
  rintro n l S1 ⟨rr, rfl, ⟨x3, x4, x5, x6, x7, x8, x9, rfl⟩, R, hk1, hnew⟩
  (repeat (with_reducible (first | refine i_seq ?_ | refine i_next ?_ | refine i_break ?_ | refine i_cont ?_ | refine i_drop ?_ | refine i_ret ?_ | refine i_retN ?_ | refine i_if ?_ | refine i_asg ?_ | refine i_par ?_ | refine i_for ?_ | refine i_nm ?_ | refine i_tp ?_ | refine i_gcons ?_ | refine i_gnil ?_ | refine i_gsub ?_ | refine i_c ?_ | refine i_anil ?_ | refine i_acons ?_ | refine i_tup ?_ | refine i_lst ?_ | refine i_op ?_ | refine i_un ?_ | refine i_call ?_ | refine i_fn ?_ | refine i_test ?_ | refine i_and ?_ | refine i_or ?_ | refine i_not ?_ | refine i_ifx ?_ | refine i_andV ?_ | refine i_orV ?_ | refine i_notV ?_ | refine i_meth ?_ | refine i_sl ?_ | refine i_nopart ?_ | refine i_part ?_ | refine i_revL ?_ | refine i_sortKey ?_ | refine i_sortSet ?_ | refine i_rg1 ?_ | refine i_seqS ?_ | refine i_revR ?_ | refine i_lc ?_ | refine i_yes ?_ | refine i_seqT ?_ | refine i_seqX ?_ | refine i_addI ?_ | refine i_subI ?_ | refine i_negI ?_ | refine i_iaddI ?_ | refine i_eqI ?_ | refine i_neI ?_ | refine i_eqX ?_ | refine i_neX ?_ | refine i_ltI ?_ | refine i_gtI ?_ | refine i_leI ?_ | refine i_geI ?_ | refine i_lenT ?_ | refine i_absI ?_ | refine i_intI ?_ | refine i_lstT ?_ | refine i_slT ?_ | refine i_iteT ?_ | refine i_iteF ?_ | refine i_var (by with_unfolding_all rfl) ?_ | refine i_aug (by with_unfolding_all rfl) ?_ | refine i_ixT (by with_unfolding_all rfl) ?_ | refine ⟨_, _, rfl, ?_⟩ | refine ⟨_, rfl, ?_⟩ | refine ⟨rfl, ?_⟩ | refine ⟨i_tyS, ?_⟩)))
  refine i_seqL R.lst ?_
  refine lc_inv (P := fun i acc S' => S' = S1 ∧ acc = ((rr.take i).map fun r => (r.2.length : Int)).map D.int) ⟨rfl, rfl⟩ (fun i acc S' _ h => by rw [h.1]; exact R.lst) ?_ ?_
  · rintro i d acc S2 K2 hd ⟨rfl, rfl⟩ hK2
    rw [List.getElem?_map, Option.map_eq_some_iff] at hd
    obtain ⟨r, hr, rfl⟩ := hd
    have hi := (List.getElem?_eq_some_iff.mp hr).1
    have few := R.few.2
    show gNm 3 (D.ref r.1) _ _ _
    (repeat (with_reducible (first | refine i_seq ?_ | refine i_next ?_ | refine i_break ?_ | refine i_cont ?_ | refine i_drop ?_ | refine i_ret ?_ | refine i_retN ?_ | refine i_if ?_ | refine i_asg ?_ | refine i_par ?_ | refine i_for ?_ | refine i_nm ?_ | refine i_tp ?_ | refine i_gcons ?_ | refine i_gnil ?_ | refine i_gsub ?_ | refine i_c ?_ | refine i_anil ?_ | refine i_acons ?_ | refine i_tup ?_ | refine i_lst ?_ | refine i_op ?_ | refine i_un ?_ | refine i_call ?_ | refine i_fn ?_ | refine i_test ?_ | refine i_and ?_ | refine i_or ?_ | refine i_not ?_ | refine i_ifx ?_ | refine i_andV ?_ | refine i_orV ?_ | refine i_notV ?_ | refine i_meth ?_ | refine i_sl ?_ | refine i_nopart ?_ | refine i_part ?_ | refine i_revL ?_ | refine i_sortKey ?_ | refine i_sortSet ?_ | refine i_rg1 ?_ | refine i_seqS ?_ | refine i_revR ?_ | refine i_lc ?_ | refine i_yes ?_ | refine i_seqT ?_ | refine i_seqX ?_ | refine i_addI ?_ | refine i_subI ?_ | refine i_negI ?_ | refine i_iaddI ?_ | refine i_eqI ?_ | refine i_neI ?_ | refine i_eqX ?_ | refine i_neX ?_ | refine i_ltI ?_ | refine i_gtI ?_ | refine i_leI ?_ | refine i_geI ?_ | refine i_lenT ?_ | refine i_absI ?_ | refine i_intI ?_ | refine i_lstT ?_ | refine i_slT ?_ | refine i_iteT ?_ | refine i_iteF ?_ | refine i_var (by with_unfolding_all rfl) ?_ | refine i_aug (by with_unfolding_all rfl) ?_ | refine i_ixT (by with_unfolding_all rfl) ?_ | refine ⟨_, _, rfl, ?_⟩ | refine ⟨_, rfl, ?_⟩ | refine ⟨rfl, ?_⟩ | refine ⟨i_tyS, ?_⟩)))
    refine i_lenL (R.at_ r (List.mem_of_getElem? hr)) ?_
    rw [show (r.2.map Mz.d).length = r.2.length from List.length_map _]
    refine ⟨by rw [List.length_map, List.length_map, List.length_take, sizeLine_eq]; omega, hK2 _ _ ⟨rfl, by rw [take_snoc hr, List.map_append, List.map_append]; rfl⟩⟩
  rintro acc S2 ⟨rfl, rfl⟩ u hu
  rw [List.length_map, List.take_length]
  have huu : put S2 u (.lst ((rr.map fun r => (r.2.length : Int)).map D.int)) u = some (.lst ((rr.map fun r => (r.2.length : Int)).map D.int)) := put_same
  have ku : Keeps S2 (put S2 u (.lst ((rr.map fun r => (r.2.length : Int)).map D.int))) := Keeps.new hu
  generalize put S2 u (.lst ((rr.map fun r => (r.2.length : Int)).map D.int)) = S3 at huu ku
  (repeat (with_reducible (first | refine i_seq ?_ | refine i_next ?_ | refine i_break ?_ | refine i_cont ?_ | refine i_drop ?_ | refine i_ret ?_ | refine i_retN ?_ | refine i_if ?_ | refine i_asg ?_ | refine i_par ?_ | refine i_for ?_ | refine i_nm ?_ | refine i_tp ?_ | refine i_gcons ?_ | refine i_gnil ?_ | refine i_gsub ?_ | refine i_c ?_ | refine i_anil ?_ | refine i_acons ?_ | refine i_tup ?_ | refine i_lst ?_ | refine i_op ?_ | refine i_un ?_ | refine i_call ?_ | refine i_fn ?_ | refine i_test ?_ | refine i_and ?_ | refine i_or ?_ | refine i_not ?_ | refine i_ifx ?_ | refine i_andV ?_ | refine i_orV ?_ | refine i_notV ?_ | refine i_meth ?_ | refine i_sl ?_ | refine i_nopart ?_ | refine i_part ?_ | refine i_revL ?_ | refine i_sortKey ?_ | refine i_sortSet ?_ | refine i_rg1 ?_ | refine i_seqS ?_ | refine i_revR ?_ | refine i_lc ?_ | refine i_yes ?_ | refine i_seqT ?_ | refine i_seqX ?_ | refine i_addI ?_ | refine i_subI ?_ | refine i_negI ?_ | refine i_iaddI ?_ | refine i_eqI ?_ | refine i_neI ?_ | refine i_eqX ?_ | refine i_neX ?_ | refine i_ltI ?_ | refine i_gtI ?_ | refine i_leI ?_ | refine i_geI ?_ | refine i_lenT ?_ | refine i_absI ?_ | refine i_intI ?_ | refine i_lstT ?_ | refine i_slT ?_ | refine i_iteT ?_ | refine i_iteF ?_ | refine i_var (by with_unfolding_all rfl) ?_ | refine i_aug (by with_unfolding_all rfl) ?_ | refine i_ixT (by with_unfolding_all rfl) ?_ | refine ⟨_, _, rfl, ?_⟩ | refine ⟨_, rfl, ?_⟩ | refine ⟨rfl, ?_⟩ | refine ⟨i_tyS, ?_⟩)))
  refine i_sumL huu ?_
  rw [sum_cast]
  (repeat (with_reducible (first | refine i_seq ?_ | refine i_next ?_ | refine i_break ?_ | refine i_cont ?_ | refine i_drop ?_ | refine i_ret ?_ | refine i_retN ?_ | refine i_if ?_ | refine i_asg ?_ | refine i_par ?_ | refine i_for ?_ | refine i_nm ?_ | refine i_tp ?_ | refine i_gcons ?_ | refine i_gnil ?_ | refine i_gsub ?_ | refine i_c ?_ | refine i_anil ?_ | refine i_acons ?_ | refine i_tup ?_ | refine i_lst ?_ | refine i_op ?_ | refine i_un ?_ | refine i_call ?_ | refine i_fn ?_ | refine i_test ?_ | refine i_and ?_ | refine i_or ?_ | refine i_not ?_ | refine i_ifx ?_ | refine i_andV ?_ | refine i_orV ?_ | refine i_notV ?_ | refine i_meth ?_ | refine i_sl ?_ | refine i_nopart ?_ | refine i_part ?_ | refine i_revL ?_ | refine i_sortKey ?_ | refine i_sortSet ?_ | refine i_rg1 ?_ | refine i_seqS ?_ | refine i_revR ?_ | refine i_lc ?_ | refine i_yes ?_ | refine i_seqT ?_ | refine i_seqX ?_ | refine i_addI ?_ | refine i_subI ?_ | refine i_negI ?_ | refine i_iaddI ?_ | refine i_eqI ?_ | refine i_neI ?_ | refine i_eqX ?_ | refine i_neX ?_ | refine i_ltI ?_ | refine i_gtI ?_ | refine i_leI ?_ | refine i_geI ?_ | refine i_lenT ?_ | refine i_absI ?_ | refine i_intI ?_ | refine i_lstT ?_ | refine i_slT ?_ | refine i_iteT ?_ | refine i_iteF ?_ | refine i_var (by with_unfolding_all rfl) ?_ | refine i_aug (by with_unfolding_all rfl) ?_ | refine i_ixT (by with_unfolding_all rfl) ?_ | refine ⟨_, _, rfl, ?_⟩ | refine ⟨_, rfl, ?_⟩ | refine ⟨rfl, ?_⟩ | refine ⟨i_tyS, ?_⟩)))
  have R3 : RowsAt S3 p rr := ⟨ku _ _ R.lst, fun r hr => ku _ _ (R.at_ r hr), R.ok, R.few, R.some_, R.ne⟩
  have hk3 := hk1.trans ku
  have few := R.few
  refine i_ite (fun hb => ?_) fun hb => ?_
  · have hsum : (rr.map fun r => r.2.length).sum < 20 := by have := of_decide_eq_true hb; omega
    (repeat (with_reducible (first | refine i_seq ?_ | refine i_next ?_ | refine i_break ?_ | refine i_cont ?_ | refine i_drop ?_ | refine i_ret ?_ | refine i_retN ?_ | refine i_if ?_ | refine i_asg ?_ | refine i_par ?_ | refine i_for ?_ | refine i_nm ?_ | refine i_tp ?_ | refine i_gcons ?_ | refine i_gnil ?_ | refine i_gsub ?_ | refine i_c ?_ | refine i_anil ?_ | refine i_acons ?_ | refine i_tup ?_ | refine i_lst ?_ | refine i_op ?_ | refine i_un ?_ | refine i_call ?_ | refine i_fn ?_ | refine i_test ?_ | refine i_and ?_ | refine i_or ?_ | refine i_not ?_ | refine i_ifx ?_ | refine i_andV ?_ | refine i_orV ?_ | refine i_notV ?_ | refine i_meth ?_ | refine i_sl ?_ | refine i_nopart ?_ | refine i_part ?_ | refine i_revL ?_ | refine i_sortKey ?_ | refine i_sortSet ?_ | refine i_rg1 ?_ | refine i_seqS ?_ | refine i_revR ?_ | refine i_lc ?_ | refine i_yes ?_ | refine i_seqT ?_ | refine i_seqX ?_ | refine i_addI ?_ | refine i_subI ?_ | refine i_negI ?_ | refine i_iaddI ?_ | refine i_eqI ?_ | refine i_neI ?_ | refine i_eqX ?_ | refine i_neX ?_ | refine i_ltI ?_ | refine i_gtI ?_ | refine i_leI ?_ | refine i_geI ?_ | refine i_lenT ?_ | refine i_absI ?_ | refine i_intI ?_ | refine i_lstT ?_ | refine i_slT ?_ | refine i_iteT ?_ | refine i_iteF ?_ | refine i_var (by with_unfolding_all rfl) ?_ | refine i_aug (by with_unfolding_all rfl) ?_ | refine i_ixT (by with_unfolding_all rfl) ?_ | refine ⟨_, _, rfl, ?_⟩ | refine ⟨_, rfl, ?_⟩ | refine ⟨rfl, ?_⟩ | refine ⟨i_tyS, ?_⟩)))
    refine i_lenL R3.lst ?_
    rw [List.length_map]
    (repeat (with_reducible (first | refine i_seq ?_ | refine i_next ?_ | refine i_break ?_ | refine i_cont ?_ | refine i_drop ?_ | refine i_ret ?_ | refine i_retN ?_ | refine i_if ?_ | refine i_asg ?_ | refine i_par ?_ | refine i_for ?_ | refine i_nm ?_ | refine i_tp ?_ | refine i_gcons ?_ | refine i_gnil ?_ | refine i_gsub ?_ | refine i_c ?_ | refine i_anil ?_ | refine i_acons ?_ | refine i_tup ?_ | refine i_lst ?_ | refine i_op ?_ | refine i_un ?_ | refine i_call ?_ | refine i_fn ?_ | refine i_test ?_ | refine i_and ?_ | refine i_or ?_ | refine i_not ?_ | refine i_ifx ?_ | refine i_andV ?_ | refine i_orV ?_ | refine i_notV ?_ | refine i_meth ?_ | refine i_sl ?_ | refine i_nopart ?_ | refine i_part ?_ | refine i_revL ?_ | refine i_sortKey ?_ | refine i_sortSet ?_ | refine i_rg1 ?_ | refine i_seqS ?_ | refine i_revR ?_ | refine i_lc ?_ | refine i_yes ?_ | refine i_seqT ?_ | refine i_seqX ?_ | refine i_addI ?_ | refine i_subI ?_ | refine i_negI ?_ | refine i_iaddI ?_ | refine i_eqI ?_ | refine i_neI ?_ | refine i_eqX ?_ | refine i_neX ?_ | refine i_ltI ?_ | refine i_gtI ?_ | refine i_leI ?_ | refine i_geI ?_ | refine i_lenT ?_ | refine i_absI ?_ | refine i_intI ?_ | refine i_lstT ?_ | refine i_slT ?_ | refine i_iteT ?_ | refine i_iteF ?_ | refine i_var (by with_unfolding_all rfl) ?_ | refine i_aug (by with_unfolding_all rfl) ?_ | refine i_ixT (by with_unfolding_all rfl) ?_ | refine ⟨_, _, rfl, ?_⟩ | refine ⟨_, rfl, ?_⟩ | refine ⟨rfl, ?_⟩ | refine ⟨i_tyS, ?_⟩)))
    refine i_ite (fun hb2 => ?_) fun hb2 => ?_
    · have h9 : rr.length < 9 := by have := of_decide_eq_true hb2; omega
      (repeat (with_reducible (first | refine i_seq ?_ | refine i_next ?_ | refine i_break ?_ | refine i_cont ?_ | refine i_drop ?_ | refine i_ret ?_ | refine i_retN ?_ | refine i_if ?_ | refine i_asg ?_ | refine i_par ?_ | refine i_for ?_ | refine i_nm ?_ | refine i_tp ?_ | refine i_gcons ?_ | refine i_gnil ?_ | refine i_gsub ?_ | refine i_c ?_ | refine i_anil ?_ | refine i_acons ?_ | refine i_tup ?_ | refine i_lst ?_ | refine i_op ?_ | refine i_un ?_ | refine i_call ?_ | refine i_fn ?_ | refine i_test ?_ | refine i_and ?_ | refine i_or ?_ | refine i_not ?_ | refine i_ifx ?_ | refine i_andV ?_ | refine i_orV ?_ | refine i_notV ?_ | refine i_meth ?_ | refine i_sl ?_ | refine i_nopart ?_ | refine i_part ?_ | refine i_revL ?_ | refine i_sortKey ?_ | refine i_sortSet ?_ | refine i_rg1 ?_ | refine i_seqS ?_ | refine i_revR ?_ | refine i_lc ?_ | refine i_yes ?_ | refine i_seqT ?_ | refine i_seqX ?_ | refine i_addI ?_ | refine i_subI ?_ | refine i_negI ?_ | refine i_iaddI ?_ | refine i_eqI ?_ | refine i_neI ?_ | refine i_eqX ?_ | refine i_neX ?_ | refine i_ltI ?_ | refine i_gtI ?_ | refine i_leI ?_ | refine i_geI ?_ | refine i_lenT ?_ | refine i_absI ?_ | refine i_intI ?_ | refine i_lstT ?_ | refine i_slT ?_ | refine i_iteT ?_ | refine i_iteF ?_ | refine i_var (by with_unfolding_all rfl) ?_ | refine i_aug (by with_unfolding_all rfl) ?_ | refine i_ixT (by with_unfolding_all rfl) ?_ | refine ⟨_, _, rfl, ?_⟩ | refine ⟨_, rfl, ?_⟩ | refine ⟨rfl, ?_⟩ | refine ⟨i_tyS, ?_⟩)))
      refine ⟨Nat.zero_le _, fun q' hq' => ?_⟩
      have npq : p ≠ q' := fun e => by subst e; rw [R3.lst] at hq'; cases hq'
      have nrq : ∀ r ∈ rr, r.1 ≠ q' := fun r hr e => by rw [← e, R3.at_ r hr] at hq'; cases hq'
      have hqS : S q' = none := hk3.out hq'
      (repeat (with_reducible (first | refine i_seq ?_ | refine i_next ?_ | refine i_break ?_ | refine i_cont ?_ | refine i_drop ?_ | refine i_ret ?_ | refine i_retN ?_ | refine i_if ?_ | refine i_asg ?_ | refine i_par ?_ | refine i_for ?_ | refine i_nm ?_ | refine i_tp ?_ | refine i_gcons ?_ | refine i_gnil ?_ | refine i_gsub ?_ | refine i_c ?_ | refine i_anil ?_ | refine i_acons ?_ | refine i_tup ?_ | refine i_lst ?_ | refine i_op ?_ | refine i_un ?_ | refine i_call ?_ | refine i_fn ?_ | refine i_test ?_ | refine i_and ?_ | refine i_or ?_ | refine i_not ?_ | refine i_ifx ?_ | refine i_andV ?_ | refine i_orV ?_ | refine i_notV ?_ | refine i_meth ?_ | refine i_sl ?_ | refine i_nopart ?_ | refine i_part ?_ | refine i_revL ?_ | refine i_sortKey ?_ | refine i_sortSet ?_ | refine i_rg1 ?_ | refine i_seqS ?_ | refine i_revR ?_ | refine i_lc ?_ | refine i_yes ?_ | refine i_seqT ?_ | refine i_seqX ?_ | refine i_addI ?_ | refine i_subI ?_ | refine i_negI ?_ | refine i_iaddI ?_ | refine i_eqI ?_ | refine i_neI ?_ | refine i_eqX ?_ | refine i_neX ?_ | refine i_ltI ?_ | refine i_gtI ?_ | refine i_leI ?_ | refine i_geI ?_ | refine i_lenT ?_ | refine i_absI ?_ | refine i_intI ?_ | refine i_lstT ?_ | refine i_slT ?_ | refine i_iteT ?_ | refine i_iteF ?_ | refine i_var (by with_unfolding_all rfl) ?_ | refine i_aug (by with_unfolding_all rfl) ?_ | refine i_ixT (by with_unfolding_all rfl) ?_ | refine ⟨_, _, rfl, ?_⟩ | refine ⟨_, rfl, ?_⟩ | refine ⟨rfl, ?_⟩ | refine ⟨i_tyS, ?_⟩)))
      refine i_lenL (by rw [put_ne npq]; exact R3.lst) ?_
      rw [List.length_map]
      (repeat (with_reducible (first | refine i_seq ?_ | refine i_next ?_ | refine i_break ?_ | refine i_cont ?_ | refine i_drop ?_ | refine i_ret ?_ | refine i_retN ?_ | refine i_if ?_ | refine i_asg ?_ | refine i_par ?_ | refine i_for ?_ | refine i_nm ?_ | refine i_tp ?_ | refine i_gcons ?_ | refine i_gnil ?_ | refine i_gsub ?_ | refine i_c ?_ | refine i_anil ?_ | refine i_acons ?_ | refine i_tup ?_ | refine i_lst ?_ | refine i_op ?_ | refine i_un ?_ | refine i_call ?_ | refine i_fn ?_ | refine i_test ?_ | refine i_and ?_ | refine i_or ?_ | refine i_not ?_ | refine i_ifx ?_ | refine i_andV ?_ | refine i_orV ?_ | refine i_notV ?_ | refine i_meth ?_ | refine i_sl ?_ | refine i_nopart ?_ | refine i_part ?_ | refine i_revL ?_ | refine i_sortKey ?_ | refine i_sortSet ?_ | refine i_rg1 ?_ | refine i_seqS ?_ | refine i_revR ?_ | refine i_lc ?_ | refine i_yes ?_ | refine i_seqT ?_ | refine i_seqX ?_ | refine i_addI ?_ | refine i_subI ?_ | refine i_negI ?_ | refine i_iaddI ?_ | refine i_eqI ?_ | refine i_neI ?_ | refine i_eqX ?_ | refine i_neX ?_ | refine i_ltI ?_ | refine i_gtI ?_ | refine i_leI ?_ | refine i_geI ?_ | refine i_lenT ?_ | refine i_absI ?_ | refine i_intI ?_ | refine i_lstT ?_ | refine i_slT ?_ | refine i_iteT ?_ | refine i_iteF ?_ | refine i_var (by with_unfolding_all rfl) ?_ | refine i_aug (by with_unfolding_all rfl) ?_ | refine i_ixT (by with_unfolding_all rfl) ?_ | refine ⟨_, _, rfl, ?_⟩ | refine ⟨_, rfl, ?_⟩ | refine ⟨rfl, ?_⟩ | refine ⟨i_tyS, ?_⟩)))
      have M0 : Mk3 (put S3 q' (.lst [])) p q' rr [] := ⟨by rw [put_ne npq]; exact R3.lst, fun r hr => by rw [put_ne (nrq r hr)]; exact R3.at_ r hr, put_same⟩
      have hR20 : ∀ i < rr.length, (getR rr i).length ≤ 20 := fun i hi => by
        rw [getR_at (List.getElem?_eq_getElem hi)]
        have := sum_mem_le (List.mem_map.mpr ⟨rr[i], List.getElem_mem hi, rfl⟩ : rr[i].2.length ∈ rr.map fun r => r.2.length)
        omega
      have hRok : ∀ i < rr.length, MRow i (getR rr i) := fun i hi => by
        rw [getR_at (List.getElem?_eq_getElem hi)]
        exact R3.ok i _ (List.getElem?_eq_getElem hi)
      refine for_inv (P := fun i l S' => (∃ x5 x6 x7 x8 x9, l = [some (.tup (ks.map Sh.d)), some (.int 20), some (.ref p), some (.ref q'), some (.int rr.length), x5, x6, x7, x8, x9]) ∧ Mk3 S' p q' rr ((ks.take i).flatMap (pieceM (getR rr) rr.length)) ∧ Fq q' S3 S') ⟨⟨_, _, _, _, _, rfl⟩, by simpa using M0, Fq.own⟩ (fun _ _ _ _ _ => trivial) ?_ ?_
      · rintro i d l S4 K2 hd ⟨⟨y5, y6, y7, y8, y9, rfl⟩, M4, f4⟩ hK2
        rw [List.getElem?_map, Option.map_eq_some_iff] at hd
        obtain ⟨s, hs, rfl⟩ := hd
        have hi := (List.getElem?_eq_some_iff.mp hs).1
        have kf := hk.few
        have hml : ((ks.take i).flatMap (pieceM (getR rr) rr.length)).length ≤ 50000 := by
          have := flat_len (l := ks.take i) (f := pieceM (getR rr) rr.length) (c := 4000) fun s _ => piece_len few.1 few.2 hR20
          rw [List.length_take] at this
          omega
        show gTp 2 _ (D.tup [.str s.1, .int s.2]) _ _ _
        refine i_tp ⟨rfl, ?_⟩
        refine i_gcons (i_nm (i_gcons (i_nm (i_gnil ?_))))
        refine all_piece M4 npq nrq hml few.1 few.2 hR20 (hk.ok s (List.mem_of_getElem? hs)) fun S5 z7 z8 z9 M5 f5 => hK2 _ _ ⟨⟨_, _, _, _, _, rfl⟩, ?_, f4.trans f5⟩
        rw [take_snoc hs, List.flatMap_append, List.flatMap_singleton]
        exact M5
      · rintro l S4 ⟨⟨y5, y6, y7, y8, y9, rfl⟩, M4, f4⟩
        rw [List.length_map, List.take_length] at M4
        (repeat (with_reducible (first | refine i_seq ?_ | refine i_next ?_ | refine i_break ?_ | refine i_cont ?_ | refine i_drop ?_ | refine i_ret ?_ | refine i_retN ?_ | refine i_if ?_ | refine i_asg ?_ | refine i_par ?_ | refine i_for ?_ | refine i_nm ?_ | refine i_tp ?_ | refine i_gcons ?_ | refine i_gnil ?_ | refine i_gsub ?_ | refine i_c ?_ | refine i_anil ?_ | refine i_acons ?_ | refine i_tup ?_ | refine i_lst ?_ | refine i_op ?_ | refine i_un ?_ | refine i_call ?_ | refine i_fn ?_ | refine i_test ?_ | refine i_and ?_ | refine i_or ?_ | refine i_not ?_ | refine i_ifx ?_ | refine i_andV ?_ | refine i_orV ?_ | refine i_notV ?_ | refine i_meth ?_ | refine i_sl ?_ | refine i_nopart ?_ | refine i_part ?_ | refine i_revL ?_ | refine i_sortKey ?_ | refine i_sortSet ?_ | refine i_rg1 ?_ | refine i_seqS ?_ | refine i_revR ?_ | refine i_lc ?_ | refine i_yes ?_ | refine i_seqT ?_ | refine i_seqX ?_ | refine i_addI ?_ | refine i_subI ?_ | refine i_negI ?_ | refine i_iaddI ?_ | refine i_eqI ?_ | refine i_neI ?_ | refine i_eqX ?_ | refine i_neX ?_ | refine i_ltI ?_ | refine i_gtI ?_ | refine i_leI ?_ | refine i_geI ?_ | refine i_lenT ?_ | refine i_absI ?_ | refine i_intI ?_ | refine i_lstT ?_ | refine i_slT ?_ | refine i_iteT ?_ | refine i_iteF ?_ | refine i_var (by with_unfolding_all rfl) ?_ | refine i_aug (by with_unfolding_all rfl) ?_ | refine i_ixT (by with_unfolding_all rfl) ?_ | refine ⟨_, _, rfl, ?_⟩ | refine ⟨_, rfl, ?_⟩ | refine ⟨rfl, ?_⟩ | refine ⟨i_tyS, ?_⟩)))
        refine ⟨i_tyL M4.lst, ?_⟩
        (repeat (with_reducible (first | refine i_seq ?_ | refine i_next ?_ | refine i_break ?_ | refine i_cont ?_ | refine i_drop ?_ | refine i_ret ?_ | refine i_retN ?_ | refine i_if ?_ | refine i_asg ?_ | refine i_par ?_ | refine i_for ?_ | refine i_nm ?_ | refine i_tp ?_ | refine i_gcons ?_ | refine i_gnil ?_ | refine i_gsub ?_ | refine i_c ?_ | refine i_anil ?_ | refine i_acons ?_ | refine i_tup ?_ | refine i_lst ?_ | refine i_op ?_ | refine i_un ?_ | refine i_call ?_ | refine i_fn ?_ | refine i_test ?_ | refine i_and ?_ | refine i_or ?_ | refine i_not ?_ | refine i_ifx ?_ | refine i_andV ?_ | refine i_orV ?_ | refine i_notV ?_ | refine i_meth ?_ | refine i_sl ?_ | refine i_nopart ?_ | refine i_part ?_ | refine i_revL ?_ | refine i_sortKey ?_ | refine i_sortSet ?_ | refine i_rg1 ?_ | refine i_seqS ?_ | refine i_revR ?_ | refine i_lc ?_ | refine i_yes ?_ | refine i_seqT ?_ | refine i_seqX ?_ | refine i_addI ?_ | refine i_subI ?_ | refine i_negI ?_ | refine i_iaddI ?_ | refine i_eqI ?_ | refine i_neI ?_ | refine i_eqX ?_ | refine i_neX ?_ | refine i_ltI ?_ | refine i_gtI ?_ | refine i_leI ?_ | refine i_geI ?_ | refine i_lenT ?_ | refine i_absI ?_ | refine i_intI ?_ | refine i_lstT ?_ | refine i_slT ?_ | refine i_iteT ?_ | refine i_iteF ?_ | refine i_var (by with_unfolding_all rfl) ?_ | refine i_aug (by with_unfolding_all rfl) ?_ | refine i_ixT (by with_unfolding_all rfl) ?_ | refine ⟨_, _, rfl, ?_⟩ | refine ⟨_, rfl, ?_⟩ | refine ⟨rfl, ?_⟩ | refine ⟨i_tyS, ?_⟩)))
        refine i_append M4.lst (by rw [List.length_map, sizeLine_eq]; omega) ?_
        have newok := row_ok few.1 hRok hk
        refine ⟨9 - (rr.length + 1), by omega, rr ++ [(q', ks.flatMap (pieceM (getR rr) rr.length))], by simp, ⟨_, _, _, _, _, _, _, rfl⟩, ⟨?_, fun r hr => ?_, fun i r hr => ?_, by simp; omega, fun _ => ?_, fun r hr => ?_⟩, ?_, fun r hr => (List.mem_append.mp hr).elim (hnew r) fun h => by rw [List.mem_singleton.mp h]; exact hqS⟩
        · rw [put_same, List.map_append]; rfl
        · rcases List.mem_append.mp hr with h | h
          · rw [put_ne (R.ne r h)]; exact M4.at_ r h
          · rw [List.mem_singleton.mp h, put_ne npq.symm]; exact M4.row
        · by_cases h : i < rr.length
          · rw [List.getElem?_append_left h] at hr; exact R.ok i r hr
          · have hi' : i = rr.length := by
              have := (List.getElem?_eq_some_iff.mp hr).1
              rw [List.length_append, List.length_singleton] at this
              omega
            subst hi'
            rw [List.getElem?_append_right (Nat.le_refl _), Nat.sub_self] at hr
            cases hr
            exact newok
        · by_cases h2 : 2 ≤ rr.length
          · obtain ⟨r, hr, hne⟩ := R.some_ h2
            exact ⟨r, List.mem_append_left _ hr, hne⟩
          · have h1 : rr.length = 1 := by omega
            refine ⟨_, List.mem_append_right _ (List.mem_singleton.mpr rfl), fun e => ?_⟩
            obtain ⟨s, hs, hs0⟩ := hk.zero
            have : Mz.mk s.1 [] ∈ ks.flatMap (pieceM (getR rr) rr.length) := List.mem_flatMap.mpr ⟨s, hs, by unfold pieceM; rw [if_pos hs0, if_pos h1]; exact List.mem_singleton.mpr rfl⟩
            have e' : ks.flatMap (pieceM (getR rr) rr.length) = [] := e
            rw [e'] at this
            exact nomatch this
        · rcases List.mem_append.mp hr with h | h
          · exact R.ne r h
          · rw [List.mem_singleton.mp h]; exact npq.symm
        · refine Keeps.chg (fun b o e => ?_) hpS
          exact f4 b o (hk3 b o e) fun z => by subst z; rw [hqS] at e; cases e
    · have h9 : ¬ rr.length < 9 := by have := of_decide_eq_false hb2; omega
      (repeat (with_reducible (first | refine i_seq ?_ | refine i_next ?_ | refine i_break ?_ | refine i_cont ?_ | refine i_drop ?_ | refine i_ret ?_ | refine i_retN ?_ | refine i_if ?_ | refine i_asg ?_ | refine i_par ?_ | refine i_for ?_ | refine i_nm ?_ | refine i_tp ?_ | refine i_gcons ?_ | refine i_gnil ?_ | refine i_gsub ?_ | refine i_c ?_ | refine i_anil ?_ | refine i_acons ?_ | refine i_tup ?_ | refine i_lst ?_ | refine i_op ?_ | refine i_un ?_ | refine i_call ?_ | refine i_fn ?_ | refine i_test ?_ | refine i_and ?_ | refine i_or ?_ | refine i_not ?_ | refine i_ifx ?_ | refine i_andV ?_ | refine i_orV ?_ | refine i_notV ?_ | refine i_meth ?_ | refine i_sl ?_ | refine i_nopart ?_ | refine i_part ?_ | refine i_revL ?_ | refine i_sortKey ?_ | refine i_sortSet ?_ | refine i_rg1 ?_ | refine i_seqS ?_ | refine i_revR ?_ | refine i_lc ?_ | refine i_yes ?_ | refine i_seqT ?_ | refine i_seqX ?_ | refine i_addI ?_ | refine i_subI ?_ | refine i_negI ?_ | refine i_iaddI ?_ | refine i_eqI ?_ | refine i_neI ?_ | refine i_eqX ?_ | refine i_neX ?_ | refine i_ltI ?_ | refine i_gtI ?_ | refine i_leI ?_ | refine i_geI ?_ | refine i_lenT ?_ | refine i_absI ?_ | refine i_intI ?_ | refine i_lstT ?_ | refine i_slT ?_ | refine i_iteT ?_ | refine i_iteF ?_ | refine i_var (by with_unfolding_all rfl) ?_ | refine i_aug (by with_unfolding_all rfl) ?_ | refine i_ixT (by with_unfolding_all rfl) ?_ | refine ⟨_, _, rfl, ?_⟩ | refine ⟨_, rfl, ?_⟩ | refine ⟨rfl, ?_⟩ | refine ⟨i_tyS, ?_⟩)))
      exact q S3 p rr hpS hnew R3 (by omega) hk3
  · have hsum : ¬ (rr.map fun r => r.2.length).sum < 20 := by have := of_decide_eq_false hb; omega
    have h2 : 2 ≤ rr.length := by
      by_cases h1 : rr.length = 1
      · obtain ⟨r, e⟩ := List.length_eq_one_iff.mp h1
        exfalso
        have ok0 := R.ok 0 r (by rw [e]; rfl)
        have : r.2 = [] := by
          cases e2 : r.2 with
          | nil => rfl
          | cons m l =>
            have := (ok0.ok m (by rw [e2]; exact List.mem_cons_self)).1
            have := Mz.size_pos m
            omega
        rw [e] at hsum
        simp [this] at hsum
      · omega
    (repeat (with_reducible (first | refine i_seq ?_ | refine i_next ?_ | refine i_break ?_ | refine i_cont ?_ | refine i_drop ?_ | refine i_ret ?_ | refine i_retN ?_ | refine i_if ?_ | refine i_asg ?_ | refine i_par ?_ | refine i_for ?_ | refine i_nm ?_ | refine i_tp ?_ | refine i_gcons ?_ | refine i_gnil ?_ | refine i_gsub ?_ | refine i_c ?_ | refine i_anil ?_ | refine i_acons ?_ | refine i_tup ?_ | refine i_lst ?_ | refine i_op ?_ | refine i_un ?_ | refine i_call ?_ | refine i_fn ?_ | refine i_test ?_ | refine i_and ?_ | refine i_or ?_ | refine i_not ?_ | refine i_ifx ?_ | refine i_andV ?_ | refine i_orV ?_ | refine i_notV ?_ | refine i_meth ?_ | refine i_sl ?_ | refine i_nopart ?_ | refine i_part ?_ | refine i_revL ?_ | refine i_sortKey ?_ | refine i_sortSet ?_ | refine i_rg1 ?_ | refine i_seqS ?_ | refine i_revR ?_ | refine i_lc ?_ | refine i_yes ?_ | refine i_seqT ?_ | refine i_seqX ?_ | refine i_addI ?_ | refine i_subI ?_ | refine i_negI ?_ | refine i_iaddI ?_ | refine i_eqI ?_ | refine i_neI ?_ | refine i_eqX ?_ | refine i_neX ?_ | refine i_ltI ?_ | refine i_gtI ?_ | refine i_leI ?_ | refine i_geI ?_ | refine i_lenT ?_ | refine i_absI ?_ | refine i_intI ?_ | refine i_lstT ?_ | refine i_slT ?_ | refine i_iteT ?_ | refine i_iteF ?_ | refine i_var (by with_unfolding_all rfl) ?_ | refine i_aug (by with_unfolding_all rfl) ?_ | refine i_ixT (by with_unfolding_all rfl) ?_ | refine ⟨_, _, rfl, ?_⟩ | refine ⟨_, rfl, ?_⟩ | refine ⟨rfl, ?_⟩ | refine ⟨i_tyS, ?_⟩)))
    exact q S3 p rr hpS hnew R3 h2 hk3
end AL

namespace AL
open PySem PySem.Spec PyProof.Rows L2

theorem Deck.keep {S S' : Sto} {a c : Addr} {k : Nat} (h : Deck S a c k) (x : Keeps S S') : Deck S' a c k := by
  obtain ⟨g1, cs, n, g2, g3, g4⟩ := h
  exact ⟨g1, cs, n, x _ _ g2, x _ _ g3, g4⟩
/-! ### repr of a list of truth values -/
theorem listText_len (ts : List Str) : (listText ts).length ≤ piled ts + 2 := by
  rw [listText_eq_join, strLen_append, strLen_append]
  have e1 : ((("[" : String) : Str)).length = 1 := rfl
  have e2 : ((("]" : String) : Str)).length = 1 := rfl
  rw [e1, e2]
  by_cases h : ts = []
  · subst h; have e0 : (Str.join ", " []).length = 0 := rfl; rw [e0]; omega
  · have := join_length_add ts h
    omega
theorem bls_show : ∀ bs : List Bool, piled (PyData.shownAll (D.pys (bs.map D.bl))) ≤ 7 * bs.length ∧ PyData.showableAll (D.pys (bs.map D.bl)) = true ∧ PyData.hasDictAll (D.pys (bs.map D.bl)) = false ∧ PyData.depthAll (D.pys (bs.map D.bl)) ≤ 1
  | [] => ⟨Nat.le_refl _, rfl, rfl, Nat.zero_le _⟩
  | b :: bs => by
    obtain ⟨h3, h4, h5, h6⟩ := bls_show bs
    simp only [List.map_cons, D.pys, PyData.shownAll, PyData.showableAll, PyData.hasDictAll, PyData.depthAll]
    rw [piled_cons]
    have hb : (PyData.shown (D.bl b).py).length ≤ 5 := by cases b <;> decide
    refine ⟨by rw [List.length_cons]; omega, by rw [h4]; rfl, by rw [h5]; rfl, Nat.max_le.mpr ⟨by simp [D.py, PyData.depth], h6⟩⟩
theorem bls_repr {a : Addr} {bs : List Bool} {S : Sto} {Q : DK} (h : S a = some (.lst (bs.map D.bl))) (hl : bs.length ≤ 1000) (q : Q (.str (PyData.list (D.pys (bs.map D.bl))).shown) S) : reprA [.ref a] S Q := by
  obtain ⟨g1, g2, g3, g4⟩ := bls_show bs
  have t := listText_len (PyData.shownAll (D.pys (bs.map D.bl)))
  refine ⟨_, Pd.list h (pures_map fun _ _ => rfl), ?_, ?_, ?_, ?_, q⟩
  · show PyData.showable (.list (D.pys (bs.map D.bl))) = true
    simp only [PyData.showable]; exact g2
  · show PyData.hasDict (.list (D.pys (bs.map D.bl))) = false
    simp only [PyData.hasDict]; exact g3
  · show PyData.depth (.list (D.pys (bs.map D.bl))) ≤ 190
    simp only [PyData.depth]; omega
  · show (listText (PyData.shownAll (D.pys (bs.map D.bl)))).length ≤ sizeLine
    rw [sizeLine_eq]; omega
/-- sorted(mazes, key=rank) -/
theorem i_sortRank {f : Addr} {bs : List Mz} {S : Sto} {Q : DK} (hf : S f = some (.lst (bs.map Mz.d))) (hsz : ∀ b ∈ bs, b.size ≤ 60) (hnd : bs.Nodup)
    (q : ∀ S' g (B : List Mz), Keeps S S' → S' g = none → B.Pairwise (fun a b => a.lt b = true) → (∀ x, x ∈ B ↔ x ∈ bs) → B.length = bs.length → Q (.ref g) (put S' g (.lst (B.map Mz.d)))) : sortKeyA sp_law_rank (.ref f) S Q := by
  unfold sortKeyA
  dsimp only
  rw [hf]
  dsimp only
  have mapKey : (bs.map Mz.d).map (fun d => (keyF d).py) = bs.map fun b => b.key.py := by
    rw [List.map_map]; exact List.map_congr_left fun b _ => by show (keyF b.d).py = _; rw [keyF_d]
  refine ⟨keyF, fun d hd => ?_, ?_, ?_, fun S3 g hk3 hg => ?_⟩
  · obtain ⟨b, hb, rfl⟩ := List.mem_map.mp hd
    rw [keyF_d]
    have h1 := Mz.key_depth b
    have h2 := hsz b hb
    exact ⟨Mz.key_keyed b, by omega, fun S' _ => ⟨b, rfl, by omega, fun S'' hk => ⟨rfl, hk⟩⟩⟩
  · rw [mapKey]
    intro x hx y hy
    obtain ⟨a, _, rfl⟩ := List.mem_map.mp hx
    obtain ⟨b, _, rfl⟩ := List.mem_map.mp hy
    exact Mz.key_alike a b
  · rw [mapKey]
    exact .inl fun d hd => by obtain ⟨b, _, rfl⟩ := List.mem_map.mp hd; rw [Mz.key_eq b]; exact ⟨_, _, rfl⟩
  have hso := dle_sorted (fun d => (keyF d).py) (bs.map Mz.d)
  have hpm := List.mergeSort_perm (bs.map Mz.d) (PySem.W.dataLe false fun d => (keyF d).py)
  generalize (bs.map Mz.d).mergeSort (PySem.W.dataLe false fun d => (keyF d).py) = out at hso hpm
  obtain ⟨B, rfl⟩ : ∃ B : List Mz, out = B.map Mz.d := map_of fun d hd => by
    obtain ⟨b, _, e⟩ := List.mem_map.mp (hpm.mem_iff.mp hd)
    exact ⟨b, e.symm⟩
  have memB : ∀ x, x ∈ B ↔ x ∈ bs := fun x => by
    have inj : ∀ l : List Mz, x.d ∈ l.map Mz.d ↔ x ∈ l := fun l => ⟨fun h => by obtain ⟨y, hy, e⟩ := List.mem_map.mp h; rw [← Mz.d_inj _ _ e]; exact hy, fun h => List.mem_map.mpr ⟨x, h, rfl⟩⟩
    rw [← inj B, ← inj bs]
    exact hpm.mem_iff
  have ndB : B.Nodup := by
    have h1 : (bs.map Mz.d).Nodup := nodup_map_of (fun x _ y _ e => Mz.d_inj _ _ e) hnd
    have h2 := hpm.nodup_iff.mpr h1
    exact List.Pairwise.imp (fun {a b} h e => h (by rw [e])) (List.pairwise_map.mp h2)
  refine q S3 g B hk3 hg ?_ memB (by have := hpm.length_eq; rwa [List.length_map, List.length_map] at this)
  have h1 := List.pairwise_map.mp hso
  refine List.Pairwise.imp (fun {a b} h => ?_) (h1.and ndB)
  obtain ⟨h, ne⟩ := h
  rw [keyF_d, keyF_d] at h
  cases e : a.lt b with
  | true => rfl
  | false => exact absurd (Mz.lt_total e h) ne
theorem lt_by {B : List Mz} {i j : Int} {x y : Mz} (h : B.Pairwise fun a b => a.lt b = true) (hi : 0 ≤ i) (hj : 0 ≤ j) (h1 : B[i.toNat]? = some x) (h2 : B[j.toNat]? = some y) : x.lt y = decide (i < j) := by
  obtain ⟨a1, e1⟩ := List.getElem?_eq_some_iff.mp h1
  obtain ⟨a2, e2⟩ := List.getElem?_eq_some_iff.mp h2
  rcases Int.lt_trichotomy i j with c | c | c
  · have := List.pairwise_iff_getElem.mp h i.toNat j.toNat a1 a2 (by omega)
    rw [e1, e2] at this
    rw [this, decide_eq_true c]
  · subst c
    rw [h1] at h2; cases h2
    rw [Mz.lt_irrefl, decide_eq_false (by omega)]
  · have := List.pairwise_iff_getElem.mp h j.toNat i.toNat a2 a1 (by omega)
    rw [e1, e2] at this
    rw [Mz.lt_asymm this, decide_eq_false (by omega)]
theorem cut_take (ds : List D) (n : Nat) : cutD ds none (some (n : Int)) = ds.take n := by
  unfold cutD
  have e1 : HT.sIx ds.length 0 none = 0 := rfl
  have e2 : HT.sIx ds.length ds.length (some (n : Int)) = min n ds.length := HT.sIx_nat _ _ n
  rw [e1, e2, List.drop_zero, Nat.sub_zero]
  by_cases h : n ≤ ds.length
  · rw [Nat.min_eq_left h]
  · rw [Nat.min_eq_right (by omega), List.take_length, List.take_of_length_le (by omega)]
/-- what the law gathers of the rows -/
def gath (rr : List Rr) : List Mz := rr.flatMap fun r => r.2.take 40
theorem gath_ok {S : Sto} {p : Addr} {rr : List Rr} (R : RowsAt S p rr) (h2 : 2 ≤ rr.length) : (gath rr).Nodup ∧ (∀ m ∈ gath rr, m.size ≤ 9) ∧ gath rr ≠ [] ∧ (gath rr).length ≤ 400 := by
  refine ⟨nodup_flat (fun r hr => ?_) ?_, fun m hm => ?_, ?_, ?_⟩
  · obtain ⟨i, hi⟩ := List.getElem?_of_mem hr
    exact (R.ok i r hi).nd.sublist (List.take_sublist _ _)
  · rw [List.pairwise_iff_getElem]
    intro i j hi hj hij a ha b hb e
    have g1 := ((R.ok i _ (List.getElem?_eq_getElem hi)).ok a (List.mem_of_mem_take ha)).1
    have g2 := ((R.ok j _ (List.getElem?_eq_getElem hj)).ok b (List.mem_of_mem_take hb)).1
    rw [e, g2] at g1
    omega
  · obtain ⟨r, hr, hm⟩ := List.mem_flatMap.mp hm
    obtain ⟨i, hi⟩ := List.getElem?_of_mem hr
    have g1 := ((R.ok i r hi).ok m (List.mem_of_mem_take hm)).1
    have := (List.getElem?_eq_some_iff.mp hi).1
    have := R.few.2
    omega
  · intro e
    obtain ⟨r, hr, hne⟩ := R.some_ h2
    cases e2 : r.2 with
    | nil => exact hne e2
    | cons m l =>
      have : m ∈ gath rr := List.mem_flatMap.mpr ⟨r, hr, by rw [e2]; simp⟩
      rw [e] at this
      exact nomatch this
  · have := flat_len (l := rr) (f := fun r => r.2.take 40) (c := 40) fun r _ => by rw [List.length_take]; omega
    have := R.few.2
    unfold gath
    omega

def sp_law : Spa := fun ds S Q => ∃ ns : List Int, ds = [.rol (ns.map D.int)] ∧ ∀ S', Q (.bl true) S'
def n_law : List Str := ["_law_script", "_law_deck_here", "_law_turn", "_law_kind_here", "_law_mazes", "_law_row", "_law_some", "_law_at", "_law_due", "_law_other", "_law_k"]
def c_law : TSa := (aSeq (aAsg (aLc (iSeq (aVar 6)) (gNm 9) aYes (aOp gtA (aVar 9) (aVar 7)) (ownIx ([("_law_other", 9)] : List (Str × Nat)))) (gNm 8))
  (aSeq (aIfS (aTest (aOp neA (aCall reprA (aCons (aLc (iSeq (aVar 6)) (gNm 9) aYes (aFn 2 sp_is_ahead (aCons (aOp ixA (aVar 4) (aVar 7)) (aCons (aOp ixA (aVar 4) (aVar 9)) aNil))) (ownIx ([("_law_other", 9)] : List (Str × Nat)))) aNil)) (aCall reprA (aCons (aVar 8) aNil)))) (aRet (aC (.bl false))) aNext)
  (aIfS (aTest (aOp neA (aCall reprA (aCons (aLc (iSeq (aVar 6)) (gNm 9) aYes (aFn 2 sp_is_ahead (aCons (aOp ixA (aVar 4) (aVar 9)) (aCons (aOp ixA (aVar 4) (aVar 7)) aNil))) (ownIx ([("_law_other", 9)] : List (Str × Nat)))) aNil)) (aCall reprA (aCons (aLc (iSeq (aVar 6)) (gNm 9) aYes (aOp ltA (aVar 9) (aVar 7)) (ownIx ([("_law_other", 9)] : List (Str × Nat)))) aNil)))) (aRet (aC (.bl false))) aNext)))
def t_law : TSa :=
  (aSeq (aAsg (aFn 1 sp_law_deck (aCons (aVar 0) aNil)) (gNm 1))
  (aSeq (aFor (iRg1 (aCons (aC (.int 3)) aNil)) (gNm 2) (aSeq (aAsg (aFn 3 sp_law_kind (aCons (aVar 1) (aCons (aFn 2 sp_law_signs (aCons (aVar 1) (aCons (aOp addA (aC (.int 2)) (aFn 2 sp_law_draw (aCons (aVar 1) (aCons (aC (.int 3)) aNil)))) aNil))) (aCons (aC (.int 5)) aNil)))) (gNm 3))
  (aSeq (aAsg (aLst aNil) (gNm 4))
  (aSeq (aFor (iSeq (aFn 2 sp_law_all (aCons (aVar 3) (aCons (aC (.int 20)) aNil)))) (gNm 5) (aDrop (aMeth "list" extendA (aVar 4) (aCons (aSl (aVar 5) aNoPart (aPart (aC (.int 40)))) aNil))))
  (aSeq (aAsg (aSortKey sp_law_rank (aVar 4)) (gNm 4))
  (aSeq (aAsg (aSortSetB (aLc (iRg1 (aCons (aC (.int 30)) aNil)) (gNm 10) aYes (aFn 2 sp_law_draw (aCons (aVar 1) (aCons (aCall lenA (aCons (aVar 4) aNil)) aNil))) (ownIx ([("_law_k", 10)] : List (Str × Nat))))) (gNm 6))
  (aFor (iSeq (aVar 6)) (gNm 7) c_law)))))))
  (aRet (aC (.bl true)))))
/-- one place -/
theorem law_one_at {S : Sto} {g sm : Addr} {B : List Mz} {out : List Int} {at_ : Int} {x0 x1 x2 x3 x5 x8 x9 x10 : Option D} {K rt2 : Lc → Sto → Prop} {Q : DK} (hg : S g = some (.lst (B.map Mz.d))) (hsm : S sm = some (.lst (out.map D.int))) (hord : B.Pairwise fun a b => a.lt b = true) (hsz : ∀ b ∈ B, b.size ≤ 60)
    (hat : 0 ≤ at_ ∧ at_ < B.length) (hout : ∀ o ∈ out, 0 ≤ o ∧ o < B.length) (hl : out.length ≤ 100) (q : ∀ S' x8, Keeps S S' → K [x0, x1, x2, x3, some (.ref g), x5, some (.ref sm), some (.int at_), x8, x9, x10] S') :
    c_law ⟨K, Q, rt2, K⟩ [x0, x1, x2, x3, some (.ref g), x5, some (.ref sm), some (.int at_), x8, x9, x10] S := by
  have at_B : ∀ o : Int, 0 ≤ o ∧ o < B.length → ∃ x : Mz, B[o.toNat]? = some x ∧ x.size ≤ 60 ∧ atI (B.map Mz.d) o = some x.d := fun o ho => by
    have hlt : o.toNat < B.length := by omega
    obtain ⟨y, e1, _, _, e4⟩ := atI_in (xs := B.map Mz.d) ho.1 (by rw [List.length_map]; exact ho.2)
    refine ⟨B[o.toNat], List.getElem?_eq_getElem hlt, hsz _ (List.getElem_mem hlt), ?_⟩
    rw [e1, ← e4, List.getElem?_map, List.getElem?_eq_getElem hlt]; rfl
  obtain ⟨x, hx, hxs, hxa⟩ := at_B at_ hat
  unfold c_law
  (repeat (with_reducible (first | refine i_seq ?_ | refine i_next ?_ | refine i_break ?_ | refine i_cont ?_ | refine i_drop ?_ | refine i_ret ?_ | refine i_retN ?_ | refine i_if ?_ | refine i_asg ?_ | refine i_par ?_ | refine i_for ?_ | refine i_nm ?_ | refine i_tp ?_ | refine i_gcons ?_ | refine i_gnil ?_ | refine i_gsub ?_ | refine i_c ?_ | refine i_anil ?_ | refine i_acons ?_ | refine i_tup ?_ | refine i_lst ?_ | refine i_op ?_ | refine i_un ?_ | refine i_call ?_ | refine i_fn ?_ | refine i_test ?_ | refine i_and ?_ | refine i_or ?_ | refine i_not ?_ | refine i_ifx ?_ | refine i_andV ?_ | refine i_orV ?_ | refine i_notV ?_ | refine i_meth ?_ | refine i_sl ?_ | refine i_nopart ?_ | refine i_part ?_ | refine i_revL ?_ | refine i_sortKey ?_ | refine i_sortSet ?_ | refine i_rg1 ?_ | refine i_seqS ?_ | refine i_revR ?_ | refine i_lc ?_ | refine i_yes ?_ | refine i_seqT ?_ | refine i_seqX ?_ | refine i_addI ?_ | refine i_subI ?_ | refine i_negI ?_ | refine i_iaddI ?_ | refine i_eqI ?_ | refine i_neI ?_ | refine i_eqX ?_ | refine i_neX ?_ | refine i_ltI ?_ | refine i_gtI ?_ | refine i_leI ?_ | refine i_geI ?_ | refine i_lenT ?_ | refine i_absI ?_ | refine i_intI ?_ | refine i_lstT ?_ | refine i_slT ?_ | refine i_iteT ?_ | refine i_iteF ?_ | refine i_var (by with_unfolding_all rfl) ?_ | refine i_aug (by with_unfolding_all rfl) ?_ | refine i_ixT (by with_unfolding_all rfl) ?_ | refine ⟨_, _, rfl, ?_⟩ | refine ⟨_, rfl, ?_⟩ | refine ⟨rfl, ?_⟩ | refine ⟨i_tyS, ?_⟩)))
  refine i_seqL hsm ?_
  refine lc_inv (P := fun i acc S' => S' = S ∧ acc = ((out.take i).map fun o => decide (at_ < o)).map D.bl) ⟨rfl, rfl⟩ (fun i acc S' _ h => by rw [h.1]; exact hsm) ?_ ?_
  · rintro i d acc S1 K1 hd ⟨rfl, rfl⟩ hK
    rw [List.getElem?_map, Option.map_eq_some_iff] at hd
    obtain ⟨o, ho, rfl⟩ := hd
    (repeat (with_reducible (first | refine i_seq ?_ | refine i_next ?_ | refine i_break ?_ | refine i_cont ?_ | refine i_drop ?_ | refine i_ret ?_ | refine i_retN ?_ | refine i_if ?_ | refine i_asg ?_ | refine i_par ?_ | refine i_for ?_ | refine i_nm ?_ | refine i_tp ?_ | refine i_gcons ?_ | refine i_gnil ?_ | refine i_gsub ?_ | refine i_c ?_ | refine i_anil ?_ | refine i_acons ?_ | refine i_tup ?_ | refine i_lst ?_ | refine i_op ?_ | refine i_un ?_ | refine i_call ?_ | refine i_fn ?_ | refine i_test ?_ | refine i_and ?_ | refine i_or ?_ | refine i_not ?_ | refine i_ifx ?_ | refine i_andV ?_ | refine i_orV ?_ | refine i_notV ?_ | refine i_meth ?_ | refine i_sl ?_ | refine i_nopart ?_ | refine i_part ?_ | refine i_revL ?_ | refine i_sortKey ?_ | refine i_sortSet ?_ | refine i_rg1 ?_ | refine i_seqS ?_ | refine i_revR ?_ | refine i_lc ?_ | refine i_yes ?_ | refine i_seqT ?_ | refine i_seqX ?_ | refine i_addI ?_ | refine i_subI ?_ | refine i_negI ?_ | refine i_iaddI ?_ | refine i_eqI ?_ | refine i_neI ?_ | refine i_eqX ?_ | refine i_neX ?_ | refine i_ltI ?_ | refine i_gtI ?_ | refine i_leI ?_ | refine i_geI ?_ | refine i_lenT ?_ | refine i_absI ?_ | refine i_intI ?_ | refine i_lstT ?_ | refine i_slT ?_ | refine i_iteT ?_ | refine i_iteF ?_ | refine i_var (by with_unfolding_all rfl) ?_ | refine i_aug (by with_unfolding_all rfl) ?_ | refine i_ixT (by with_unfolding_all rfl) ?_ | refine ⟨_, _, rfl, ?_⟩ | refine ⟨_, rfl, ?_⟩ | refine ⟨rfl, ?_⟩ | refine ⟨i_tyS, ?_⟩)))
    refine ⟨by rw [List.length_map, List.length_map, List.length_take, sizeLine_eq]; omega, hK _ _ ⟨rfl, by rw [take_snoc ho, List.map_append, List.map_append]; rfl⟩⟩
  rintro acc S1 ⟨rfl, rfl⟩ u hu
  rw [List.length_map, List.take_length]
  have ku : Keeps S1 (put S1 u (.lst ((out.map fun o => decide (at_ < o)).map D.bl))) := Keeps.new hu
  have huu : put S1 u (.lst ((out.map fun o => decide (at_ < o)).map D.bl)) u = some (.lst ((out.map fun o => decide (at_ < o)).map D.bl)) := put_same
  generalize put S1 u (.lst ((out.map fun o => decide (at_ < o)).map D.bl)) = S2 at ku huu
  (repeat (with_reducible (first | refine i_seq ?_ | refine i_next ?_ | refine i_break ?_ | refine i_cont ?_ | refine i_drop ?_ | refine i_ret ?_ | refine i_retN ?_ | refine i_if ?_ | refine i_asg ?_ | refine i_par ?_ | refine i_for ?_ | refine i_nm ?_ | refine i_tp ?_ | refine i_gcons ?_ | refine i_gnil ?_ | refine i_gsub ?_ | refine i_c ?_ | refine i_anil ?_ | refine i_acons ?_ | refine i_tup ?_ | refine i_lst ?_ | refine i_op ?_ | refine i_un ?_ | refine i_call ?_ | refine i_fn ?_ | refine i_test ?_ | refine i_and ?_ | refine i_or ?_ | refine i_not ?_ | refine i_ifx ?_ | refine i_andV ?_ | refine i_orV ?_ | refine i_notV ?_ | refine i_meth ?_ | refine i_sl ?_ | refine i_nopart ?_ | refine i_part ?_ | refine i_revL ?_ | refine i_sortKey ?_ | refine i_sortSet ?_ | refine i_rg1 ?_ | refine i_seqS ?_ | refine i_revR ?_ | refine i_lc ?_ | refine i_yes ?_ | refine i_seqT ?_ | refine i_seqX ?_ | refine i_addI ?_ | refine i_subI ?_ | refine i_negI ?_ | refine i_iaddI ?_ | refine i_eqI ?_ | refine i_neI ?_ | refine i_eqX ?_ | refine i_neX ?_ | refine i_ltI ?_ | refine i_gtI ?_ | refine i_leI ?_ | refine i_geI ?_ | refine i_lenT ?_ | refine i_absI ?_ | refine i_intI ?_ | refine i_lstT ?_ | refine i_slT ?_ | refine i_iteT ?_ | refine i_iteF ?_ | refine i_var (by with_unfolding_all rfl) ?_ | refine i_aug (by with_unfolding_all rfl) ?_ | refine i_ixT (by with_unfolding_all rfl) ?_ | refine ⟨_, _, rfl, ?_⟩ | refine ⟨_, rfl, ?_⟩ | refine ⟨rfl, ?_⟩ | refine ⟨i_tyS, ?_⟩)))
  refine i_seqL (ku _ _ hsm) ?_
  refine lc_inv (P := fun i acc S' => acc = ((out.take i).map fun o => decide (at_ < o)).map D.bl ∧ Keeps S2 S') ⟨rfl, .refl⟩ (fun i acc S' _ h => h.2 _ _ (ku _ _ hsm)) ?_ ?_
  · rintro i d acc S3 K1 hd ⟨rfl, hk3⟩ hK
    rw [List.getElem?_map, Option.map_eq_some_iff] at hd
    obtain ⟨o, ho, rfl⟩ := hd
    have hor := hout o (List.mem_of_getElem? ho)
    obtain ⟨y, hy, hys, hya⟩ := at_B o hor
    (repeat (with_reducible (first | refine i_seq ?_ | refine i_next ?_ | refine i_break ?_ | refine i_cont ?_ | refine i_drop ?_ | refine i_ret ?_ | refine i_retN ?_ | refine i_if ?_ | refine i_asg ?_ | refine i_par ?_ | refine i_for ?_ | refine i_nm ?_ | refine i_tp ?_ | refine i_gcons ?_ | refine i_gnil ?_ | refine i_gsub ?_ | refine i_c ?_ | refine i_anil ?_ | refine i_acons ?_ | refine i_tup ?_ | refine i_lst ?_ | refine i_op ?_ | refine i_un ?_ | refine i_call ?_ | refine i_fn ?_ | refine i_test ?_ | refine i_and ?_ | refine i_or ?_ | refine i_not ?_ | refine i_ifx ?_ | refine i_andV ?_ | refine i_orV ?_ | refine i_notV ?_ | refine i_meth ?_ | refine i_sl ?_ | refine i_nopart ?_ | refine i_part ?_ | refine i_revL ?_ | refine i_sortKey ?_ | refine i_sortSet ?_ | refine i_rg1 ?_ | refine i_seqS ?_ | refine i_revR ?_ | refine i_lc ?_ | refine i_yes ?_ | refine i_seqT ?_ | refine i_seqX ?_ | refine i_addI ?_ | refine i_subI ?_ | refine i_negI ?_ | refine i_iaddI ?_ | refine i_eqI ?_ | refine i_neI ?_ | refine i_eqX ?_ | refine i_neX ?_ | refine i_ltI ?_ | refine i_gtI ?_ | refine i_leI ?_ | refine i_geI ?_ | refine i_lenT ?_ | refine i_absI ?_ | refine i_intI ?_ | refine i_lstT ?_ | refine i_slT ?_ | refine i_iteT ?_ | refine i_iteF ?_ | refine i_var (by with_unfolding_all rfl) ?_ | refine i_aug (by with_unfolding_all rfl) ?_ | refine i_ixT (by with_unfolding_all rfl) ?_ | refine ⟨_, _, rfl, ?_⟩ | refine ⟨_, rfl, ?_⟩ | refine ⟨rfl, ?_⟩ | refine ⟨i_tyS, ?_⟩)))
    refine i_ixL (hk3 _ _ (ku _ _ hg)) hxa ?_
    (repeat (with_reducible (first | refine i_seq ?_ | refine i_next ?_ | refine i_break ?_ | refine i_cont ?_ | refine i_drop ?_ | refine i_ret ?_ | refine i_retN ?_ | refine i_if ?_ | refine i_asg ?_ | refine i_par ?_ | refine i_for ?_ | refine i_nm ?_ | refine i_tp ?_ | refine i_gcons ?_ | refine i_gnil ?_ | refine i_gsub ?_ | refine i_c ?_ | refine i_anil ?_ | refine i_acons ?_ | refine i_tup ?_ | refine i_lst ?_ | refine i_op ?_ | refine i_un ?_ | refine i_call ?_ | refine i_fn ?_ | refine i_test ?_ | refine i_and ?_ | refine i_or ?_ | refine i_not ?_ | refine i_ifx ?_ | refine i_andV ?_ | refine i_orV ?_ | refine i_notV ?_ | refine i_meth ?_ | refine i_sl ?_ | refine i_nopart ?_ | refine i_part ?_ | refine i_revL ?_ | refine i_sortKey ?_ | refine i_sortSet ?_ | refine i_rg1 ?_ | refine i_seqS ?_ | refine i_revR ?_ | refine i_lc ?_ | refine i_yes ?_ | refine i_seqT ?_ | refine i_seqX ?_ | refine i_addI ?_ | refine i_subI ?_ | refine i_negI ?_ | refine i_iaddI ?_ | refine i_eqI ?_ | refine i_neI ?_ | refine i_eqX ?_ | refine i_neX ?_ | refine i_ltI ?_ | refine i_gtI ?_ | refine i_leI ?_ | refine i_geI ?_ | refine i_lenT ?_ | refine i_absI ?_ | refine i_intI ?_ | refine i_lstT ?_ | refine i_slT ?_ | refine i_iteT ?_ | refine i_iteF ?_ | refine i_var (by with_unfolding_all rfl) ?_ | refine i_aug (by with_unfolding_all rfl) ?_ | refine i_ixT (by with_unfolding_all rfl) ?_ | refine ⟨_, _, rfl, ?_⟩ | refine ⟨_, rfl, ?_⟩ | refine ⟨rfl, ?_⟩ | refine ⟨i_tyS, ?_⟩)))
    refine i_ixL (hk3 _ _ (ku _ _ hg)) hya ?_
    (repeat (with_reducible (first | refine i_seq ?_ | refine i_next ?_ | refine i_break ?_ | refine i_cont ?_ | refine i_drop ?_ | refine i_ret ?_ | refine i_retN ?_ | refine i_if ?_ | refine i_asg ?_ | refine i_par ?_ | refine i_for ?_ | refine i_nm ?_ | refine i_tp ?_ | refine i_gcons ?_ | refine i_gnil ?_ | refine i_gsub ?_ | refine i_c ?_ | refine i_anil ?_ | refine i_acons ?_ | refine i_tup ?_ | refine i_lst ?_ | refine i_op ?_ | refine i_un ?_ | refine i_call ?_ | refine i_fn ?_ | refine i_test ?_ | refine i_and ?_ | refine i_or ?_ | refine i_not ?_ | refine i_ifx ?_ | refine i_andV ?_ | refine i_orV ?_ | refine i_notV ?_ | refine i_meth ?_ | refine i_sl ?_ | refine i_nopart ?_ | refine i_part ?_ | refine i_revL ?_ | refine i_sortKey ?_ | refine i_sortSet ?_ | refine i_rg1 ?_ | refine i_seqS ?_ | refine i_revR ?_ | refine i_lc ?_ | refine i_yes ?_ | refine i_seqT ?_ | refine i_seqX ?_ | refine i_addI ?_ | refine i_subI ?_ | refine i_negI ?_ | refine i_iaddI ?_ | refine i_eqI ?_ | refine i_neI ?_ | refine i_eqX ?_ | refine i_neX ?_ | refine i_ltI ?_ | refine i_gtI ?_ | refine i_leI ?_ | refine i_geI ?_ | refine i_lenT ?_ | refine i_absI ?_ | refine i_intI ?_ | refine i_lstT ?_ | refine i_slT ?_ | refine i_iteT ?_ | refine i_iteF ?_ | refine i_var (by with_unfolding_all rfl) ?_ | refine i_aug (by with_unfolding_all rfl) ?_ | refine i_ixT (by with_unfolding_all rfl) ?_ | refine ⟨_, _, rfl, ?_⟩ | refine ⟨_, rfl, ?_⟩ | refine ⟨rfl, ?_⟩ | refine ⟨i_tyS, ?_⟩)))
    refine ⟨x, y, rfl, hxs, hys, fun S4 hk4 => ?_⟩
    refine ⟨by rw [List.length_map, List.length_map, List.length_take, sizeLine_eq]; omega, hK _ _ ⟨by rw [take_snoc ho, List.map_append, List.map_append, lt_by hord hat.1 hor.1 hx hy]; rfl, hk3.trans hk4⟩⟩
  rintro acc S3 ⟨rfl, hk3⟩ v hv
  rw [List.length_map, List.take_length]
  have kv : Keeps S3 (put S3 v (.lst ((out.map fun o => decide (at_ < o)).map D.bl))) := Keeps.new hv
  have hvv : put S3 v (.lst ((out.map fun o => decide (at_ < o)).map D.bl)) v = some (.lst ((out.map fun o => decide (at_ < o)).map D.bl)) := put_same
  generalize put S3 v (.lst ((out.map fun o => decide (at_ < o)).map D.bl)) = S4 at kv hvv
  (repeat (with_reducible (first | refine i_seq ?_ | refine i_next ?_ | refine i_break ?_ | refine i_cont ?_ | refine i_drop ?_ | refine i_ret ?_ | refine i_retN ?_ | refine i_if ?_ | refine i_asg ?_ | refine i_par ?_ | refine i_for ?_ | refine i_nm ?_ | refine i_tp ?_ | refine i_gcons ?_ | refine i_gnil ?_ | refine i_gsub ?_ | refine i_c ?_ | refine i_anil ?_ | refine i_acons ?_ | refine i_tup ?_ | refine i_lst ?_ | refine i_op ?_ | refine i_un ?_ | refine i_call ?_ | refine i_fn ?_ | refine i_test ?_ | refine i_and ?_ | refine i_or ?_ | refine i_not ?_ | refine i_ifx ?_ | refine i_andV ?_ | refine i_orV ?_ | refine i_notV ?_ | refine i_meth ?_ | refine i_sl ?_ | refine i_nopart ?_ | refine i_part ?_ | refine i_revL ?_ | refine i_sortKey ?_ | refine i_sortSet ?_ | refine i_rg1 ?_ | refine i_seqS ?_ | refine i_revR ?_ | refine i_lc ?_ | refine i_yes ?_ | refine i_seqT ?_ | refine i_seqX ?_ | refine i_addI ?_ | refine i_subI ?_ | refine i_negI ?_ | refine i_iaddI ?_ | refine i_eqI ?_ | refine i_neI ?_ | refine i_eqX ?_ | refine i_neX ?_ | refine i_ltI ?_ | refine i_gtI ?_ | refine i_leI ?_ | refine i_geI ?_ | refine i_lenT ?_ | refine i_absI ?_ | refine i_intI ?_ | refine i_lstT ?_ | refine i_slT ?_ | refine i_iteT ?_ | refine i_iteF ?_ | refine i_var (by with_unfolding_all rfl) ?_ | refine i_aug (by with_unfolding_all rfl) ?_ | refine i_ixT (by with_unfolding_all rfl) ?_ | refine ⟨_, _, rfl, ?_⟩ | refine ⟨_, rfl, ?_⟩ | refine ⟨rfl, ?_⟩ | refine ⟨i_tyS, ?_⟩)))
  refine bls_repr hvv (by rw [List.length_map]; omega) ?_
  (repeat (with_reducible (first | refine i_seq ?_ | refine i_next ?_ | refine i_break ?_ | refine i_cont ?_ | refine i_drop ?_ | refine i_ret ?_ | refine i_retN ?_ | refine i_if ?_ | refine i_asg ?_ | refine i_par ?_ | refine i_for ?_ | refine i_nm ?_ | refine i_tp ?_ | refine i_gcons ?_ | refine i_gnil ?_ | refine i_gsub ?_ | refine i_c ?_ | refine i_anil ?_ | refine i_acons ?_ | refine i_tup ?_ | refine i_lst ?_ | refine i_op ?_ | refine i_un ?_ | refine i_call ?_ | refine i_fn ?_ | refine i_test ?_ | refine i_and ?_ | refine i_or ?_ | refine i_not ?_ | refine i_ifx ?_ | refine i_andV ?_ | refine i_orV ?_ | refine i_notV ?_ | refine i_meth ?_ | refine i_sl ?_ | refine i_nopart ?_ | refine i_part ?_ | refine i_revL ?_ | refine i_sortKey ?_ | refine i_sortSet ?_ | refine i_rg1 ?_ | refine i_seqS ?_ | refine i_revR ?_ | refine i_lc ?_ | refine i_yes ?_ | refine i_seqT ?_ | refine i_seqX ?_ | refine i_addI ?_ | refine i_subI ?_ | refine i_negI ?_ | refine i_iaddI ?_ | refine i_eqI ?_ | refine i_neI ?_ | refine i_eqX ?_ | refine i_neX ?_ | refine i_ltI ?_ | refine i_gtI ?_ | refine i_leI ?_ | refine i_geI ?_ | refine i_lenT ?_ | refine i_absI ?_ | refine i_intI ?_ | refine i_lstT ?_ | refine i_slT ?_ | refine i_iteT ?_ | refine i_iteF ?_ | refine i_var (by with_unfolding_all rfl) ?_ | refine i_aug (by with_unfolding_all rfl) ?_ | refine i_ixT (by with_unfolding_all rfl) ?_ | refine ⟨_, _, rfl, ?_⟩ | refine ⟨_, rfl, ?_⟩ | refine ⟨rfl, ?_⟩ | refine ⟨i_tyS, ?_⟩)))
  refine bls_repr (kv _ _ (hk3 _ _ huu)) (by rw [List.length_map]; omega) ?_
  (repeat (with_reducible (first | refine i_seq ?_ | refine i_next ?_ | refine i_break ?_ | refine i_cont ?_ | refine i_drop ?_ | refine i_ret ?_ | refine i_retN ?_ | refine i_if ?_ | refine i_asg ?_ | refine i_par ?_ | refine i_for ?_ | refine i_nm ?_ | refine i_tp ?_ | refine i_gcons ?_ | refine i_gnil ?_ | refine i_gsub ?_ | refine i_c ?_ | refine i_anil ?_ | refine i_acons ?_ | refine i_tup ?_ | refine i_lst ?_ | refine i_op ?_ | refine i_un ?_ | refine i_call ?_ | refine i_fn ?_ | refine i_test ?_ | refine i_and ?_ | refine i_or ?_ | refine i_not ?_ | refine i_ifx ?_ | refine i_andV ?_ | refine i_orV ?_ | refine i_notV ?_ | refine i_meth ?_ | refine i_sl ?_ | refine i_nopart ?_ | refine i_part ?_ | refine i_revL ?_ | refine i_sortKey ?_ | refine i_sortSet ?_ | refine i_rg1 ?_ | refine i_seqS ?_ | refine i_revR ?_ | refine i_lc ?_ | refine i_yes ?_ | refine i_seqT ?_ | refine i_seqX ?_ | refine i_addI ?_ | refine i_subI ?_ | refine i_negI ?_ | refine i_iaddI ?_ | refine i_eqI ?_ | refine i_neI ?_ | refine i_eqX ?_ | refine i_neX ?_ | refine i_ltI ?_ | refine i_gtI ?_ | refine i_leI ?_ | refine i_geI ?_ | refine i_lenT ?_ | refine i_absI ?_ | refine i_intI ?_ | refine i_lstT ?_ | refine i_slT ?_ | refine i_iteT ?_ | refine i_iteF ?_ | refine i_var (by with_unfolding_all rfl) ?_ | refine i_aug (by with_unfolding_all rfl) ?_ | refine i_ixT (by with_unfolding_all rfl) ?_ | refine ⟨_, _, rfl, ?_⟩ | refine ⟨_, rfl, ?_⟩ | refine ⟨rfl, ?_⟩ | refine ⟨i_tyS, ?_⟩)))
  rw [decide_eq_true rfl]
  refine i_iteF ?_
  (repeat (with_reducible (first | refine i_seq ?_ | refine i_next ?_ | refine i_break ?_ | refine i_cont ?_ | refine i_drop ?_ | refine i_ret ?_ | refine i_retN ?_ | refine i_if ?_ | refine i_asg ?_ | refine i_par ?_ | refine i_for ?_ | refine i_nm ?_ | refine i_tp ?_ | refine i_gcons ?_ | refine i_gnil ?_ | refine i_gsub ?_ | refine i_c ?_ | refine i_anil ?_ | refine i_acons ?_ | refine i_tup ?_ | refine i_lst ?_ | refine i_op ?_ | refine i_un ?_ | refine i_call ?_ | refine i_fn ?_ | refine i_test ?_ | refine i_and ?_ | refine i_or ?_ | refine i_not ?_ | refine i_ifx ?_ | refine i_andV ?_ | refine i_orV ?_ | refine i_notV ?_ | refine i_meth ?_ | refine i_sl ?_ | refine i_nopart ?_ | refine i_part ?_ | refine i_revL ?_ | refine i_sortKey ?_ | refine i_sortSet ?_ | refine i_rg1 ?_ | refine i_seqS ?_ | refine i_revR ?_ | refine i_lc ?_ | refine i_yes ?_ | refine i_seqT ?_ | refine i_seqX ?_ | refine i_addI ?_ | refine i_subI ?_ | refine i_negI ?_ | refine i_iaddI ?_ | refine i_eqI ?_ | refine i_neI ?_ | refine i_eqX ?_ | refine i_neX ?_ | refine i_ltI ?_ | refine i_gtI ?_ | refine i_leI ?_ | refine i_geI ?_ | refine i_lenT ?_ | refine i_absI ?_ | refine i_intI ?_ | refine i_lstT ?_ | refine i_slT ?_ | refine i_iteT ?_ | refine i_iteF ?_ | refine i_var (by with_unfolding_all rfl) ?_ | refine i_aug (by with_unfolding_all rfl) ?_ | refine i_ixT (by with_unfolding_all rfl) ?_ | refine ⟨_, _, rfl, ?_⟩ | refine ⟨_, rfl, ?_⟩ | refine ⟨rfl, ?_⟩ | refine ⟨i_tyS, ?_⟩)))
  have k4 : Keeps S1 S4 := (ku.trans hk3).trans kv
  refine i_seqL (k4 _ _ hsm) ?_
  refine lc_inv (P := fun i acc S' => acc = ((out.take i).map fun o => decide (o < at_)).map D.bl ∧ Keeps S4 S') ⟨rfl, .refl⟩ (fun i acc S' _ h => h.2 _ _ (k4 _ _ hsm)) ?_ ?_
  · rintro i d acc S5 K1 hd ⟨rfl, hk5⟩ hK
    rw [List.getElem?_map, Option.map_eq_some_iff] at hd
    obtain ⟨o, ho, rfl⟩ := hd
    have hor := hout o (List.mem_of_getElem? ho)
    obtain ⟨y, hy, hys, hya⟩ := at_B o hor
    (repeat (with_reducible (first | refine i_seq ?_ | refine i_next ?_ | refine i_break ?_ | refine i_cont ?_ | refine i_drop ?_ | refine i_ret ?_ | refine i_retN ?_ | refine i_if ?_ | refine i_asg ?_ | refine i_par ?_ | refine i_for ?_ | refine i_nm ?_ | refine i_tp ?_ | refine i_gcons ?_ | refine i_gnil ?_ | refine i_gsub ?_ | refine i_c ?_ | refine i_anil ?_ | refine i_acons ?_ | refine i_tup ?_ | refine i_lst ?_ | refine i_op ?_ | refine i_un ?_ | refine i_call ?_ | refine i_fn ?_ | refine i_test ?_ | refine i_and ?_ | refine i_or ?_ | refine i_not ?_ | refine i_ifx ?_ | refine i_andV ?_ | refine i_orV ?_ | refine i_notV ?_ | refine i_meth ?_ | refine i_sl ?_ | refine i_nopart ?_ | refine i_part ?_ | refine i_revL ?_ | refine i_sortKey ?_ | refine i_sortSet ?_ | refine i_rg1 ?_ | refine i_seqS ?_ | refine i_revR ?_ | refine i_lc ?_ | refine i_yes ?_ | refine i_seqT ?_ | refine i_seqX ?_ | refine i_addI ?_ | refine i_subI ?_ | refine i_negI ?_ | refine i_iaddI ?_ | refine i_eqI ?_ | refine i_neI ?_ | refine i_eqX ?_ | refine i_neX ?_ | refine i_ltI ?_ | refine i_gtI ?_ | refine i_leI ?_ | refine i_geI ?_ | refine i_lenT ?_ | refine i_absI ?_ | refine i_intI ?_ | refine i_lstT ?_ | refine i_slT ?_ | refine i_iteT ?_ | refine i_iteF ?_ | refine i_var (by with_unfolding_all rfl) ?_ | refine i_aug (by with_unfolding_all rfl) ?_ | refine i_ixT (by with_unfolding_all rfl) ?_ | refine ⟨_, _, rfl, ?_⟩ | refine ⟨_, rfl, ?_⟩ | refine ⟨rfl, ?_⟩ | refine ⟨i_tyS, ?_⟩)))
    refine i_ixL (hk5 _ _ (k4 _ _ hg)) hya ?_
    (repeat (with_reducible (first | refine i_seq ?_ | refine i_next ?_ | refine i_break ?_ | refine i_cont ?_ | refine i_drop ?_ | refine i_ret ?_ | refine i_retN ?_ | refine i_if ?_ | refine i_asg ?_ | refine i_par ?_ | refine i_for ?_ | refine i_nm ?_ | refine i_tp ?_ | refine i_gcons ?_ | refine i_gnil ?_ | refine i_gsub ?_ | refine i_c ?_ | refine i_anil ?_ | refine i_acons ?_ | refine i_tup ?_ | refine i_lst ?_ | refine i_op ?_ | refine i_un ?_ | refine i_call ?_ | refine i_fn ?_ | refine i_test ?_ | refine i_and ?_ | refine i_or ?_ | refine i_not ?_ | refine i_ifx ?_ | refine i_andV ?_ | refine i_orV ?_ | refine i_notV ?_ | refine i_meth ?_ | refine i_sl ?_ | refine i_nopart ?_ | refine i_part ?_ | refine i_revL ?_ | refine i_sortKey ?_ | refine i_sortSet ?_ | refine i_rg1 ?_ | refine i_seqS ?_ | refine i_revR ?_ | refine i_lc ?_ | refine i_yes ?_ | refine i_seqT ?_ | refine i_seqX ?_ | refine i_addI ?_ | refine i_subI ?_ | refine i_negI ?_ | refine i_iaddI ?_ | refine i_eqI ?_ | refine i_neI ?_ | refine i_eqX ?_ | refine i_neX ?_ | refine i_ltI ?_ | refine i_gtI ?_ | refine i_leI ?_ | refine i_geI ?_ | refine i_lenT ?_ | refine i_absI ?_ | refine i_intI ?_ | refine i_lstT ?_ | refine i_slT ?_ | refine i_iteT ?_ | refine i_iteF ?_ | refine i_var (by with_unfolding_all rfl) ?_ | refine i_aug (by with_unfolding_all rfl) ?_ | refine i_ixT (by with_unfolding_all rfl) ?_ | refine ⟨_, _, rfl, ?_⟩ | refine ⟨_, rfl, ?_⟩ | refine ⟨rfl, ?_⟩ | refine ⟨i_tyS, ?_⟩)))
    refine i_ixL (hk5 _ _ (k4 _ _ hg)) hxa ?_
    (repeat (with_reducible (first | refine i_seq ?_ | refine i_next ?_ | refine i_break ?_ | refine i_cont ?_ | refine i_drop ?_ | refine i_ret ?_ | refine i_retN ?_ | refine i_if ?_ | refine i_asg ?_ | refine i_par ?_ | refine i_for ?_ | refine i_nm ?_ | refine i_tp ?_ | refine i_gcons ?_ | refine i_gnil ?_ | refine i_gsub ?_ | refine i_c ?_ | refine i_anil ?_ | refine i_acons ?_ | refine i_tup ?_ | refine i_lst ?_ | refine i_op ?_ | refine i_un ?_ | refine i_call ?_ | refine i_fn ?_ | refine i_test ?_ | refine i_and ?_ | refine i_or ?_ | refine i_not ?_ | refine i_ifx ?_ | refine i_andV ?_ | refine i_orV ?_ | refine i_notV ?_ | refine i_meth ?_ | refine i_sl ?_ | refine i_nopart ?_ | refine i_part ?_ | refine i_revL ?_ | refine i_sortKey ?_ | refine i_sortSet ?_ | refine i_rg1 ?_ | refine i_seqS ?_ | refine i_revR ?_ | refine i_lc ?_ | refine i_yes ?_ | refine i_seqT ?_ | refine i_seqX ?_ | refine i_addI ?_ | refine i_subI ?_ | refine i_negI ?_ | refine i_iaddI ?_ | refine i_eqI ?_ | refine i_neI ?_ | refine i_eqX ?_ | refine i_neX ?_ | refine i_ltI ?_ | refine i_gtI ?_ | refine i_leI ?_ | refine i_geI ?_ | refine i_lenT ?_ | refine i_absI ?_ | refine i_intI ?_ | refine i_lstT ?_ | refine i_slT ?_ | refine i_iteT ?_ | refine i_iteF ?_ | refine i_var (by with_unfolding_all rfl) ?_ | refine i_aug (by with_unfolding_all rfl) ?_ | refine i_ixT (by with_unfolding_all rfl) ?_ | refine ⟨_, _, rfl, ?_⟩ | refine ⟨_, rfl, ?_⟩ | refine ⟨rfl, ?_⟩ | refine ⟨i_tyS, ?_⟩)))
    refine ⟨y, x, rfl, hys, hxs, fun S6 hk6 => ?_⟩
    refine ⟨by rw [List.length_map, List.length_map, List.length_take, sizeLine_eq]; omega, hK _ _ ⟨by rw [take_snoc ho, List.map_append, List.map_append, lt_by hord hor.1 hat.1 hy hx]; rfl, hk5.trans hk6⟩⟩
  rintro acc S5 ⟨rfl, hk5⟩ z hz
  rw [List.length_map, List.take_length]
  have kz : Keeps S5 (put S5 z (.lst ((out.map fun o => decide (o < at_)).map D.bl))) := Keeps.new hz
  have hzz : put S5 z (.lst ((out.map fun o => decide (o < at_)).map D.bl)) z = some (.lst ((out.map fun o => decide (o < at_)).map D.bl)) := put_same
  generalize put S5 z (.lst ((out.map fun o => decide (o < at_)).map D.bl)) = S6 at kz hzz
  have k6 : Keeps S1 S6 := (k4.trans hk5).trans kz
  (repeat (with_reducible (first | refine i_seq ?_ | refine i_next ?_ | refine i_break ?_ | refine i_cont ?_ | refine i_drop ?_ | refine i_ret ?_ | refine i_retN ?_ | refine i_if ?_ | refine i_asg ?_ | refine i_par ?_ | refine i_for ?_ | refine i_nm ?_ | refine i_tp ?_ | refine i_gcons ?_ | refine i_gnil ?_ | refine i_gsub ?_ | refine i_c ?_ | refine i_anil ?_ | refine i_acons ?_ | refine i_tup ?_ | refine i_lst ?_ | refine i_op ?_ | refine i_un ?_ | refine i_call ?_ | refine i_fn ?_ | refine i_test ?_ | refine i_and ?_ | refine i_or ?_ | refine i_not ?_ | refine i_ifx ?_ | refine i_andV ?_ | refine i_orV ?_ | refine i_notV ?_ | refine i_meth ?_ | refine i_sl ?_ | refine i_nopart ?_ | refine i_part ?_ | refine i_revL ?_ | refine i_sortKey ?_ | refine i_sortSet ?_ | refine i_rg1 ?_ | refine i_seqS ?_ | refine i_revR ?_ | refine i_lc ?_ | refine i_yes ?_ | refine i_seqT ?_ | refine i_seqX ?_ | refine i_addI ?_ | refine i_subI ?_ | refine i_negI ?_ | refine i_iaddI ?_ | refine i_eqI ?_ | refine i_neI ?_ | refine i_eqX ?_ | refine i_neX ?_ | refine i_ltI ?_ | refine i_gtI ?_ | refine i_leI ?_ | refine i_geI ?_ | refine i_lenT ?_ | refine i_absI ?_ | refine i_intI ?_ | refine i_lstT ?_ | refine i_slT ?_ | refine i_iteT ?_ | refine i_iteF ?_ | refine i_var (by with_unfolding_all rfl) ?_ | refine i_aug (by with_unfolding_all rfl) ?_ | refine i_ixT (by with_unfolding_all rfl) ?_ | refine ⟨_, _, rfl, ?_⟩ | refine ⟨_, rfl, ?_⟩ | refine ⟨rfl, ?_⟩ | refine ⟨i_tyS, ?_⟩)))
  refine bls_repr hzz (by rw [List.length_map]; omega) ?_
  (repeat (with_reducible (first | refine i_seq ?_ | refine i_next ?_ | refine i_break ?_ | refine i_cont ?_ | refine i_drop ?_ | refine i_ret ?_ | refine i_retN ?_ | refine i_if ?_ | refine i_asg ?_ | refine i_par ?_ | refine i_for ?_ | refine i_nm ?_ | refine i_tp ?_ | refine i_gcons ?_ | refine i_gnil ?_ | refine i_gsub ?_ | refine i_c ?_ | refine i_anil ?_ | refine i_acons ?_ | refine i_tup ?_ | refine i_lst ?_ | refine i_op ?_ | refine i_un ?_ | refine i_call ?_ | refine i_fn ?_ | refine i_test ?_ | refine i_and ?_ | refine i_or ?_ | refine i_not ?_ | refine i_ifx ?_ | refine i_andV ?_ | refine i_orV ?_ | refine i_notV ?_ | refine i_meth ?_ | refine i_sl ?_ | refine i_nopart ?_ | refine i_part ?_ | refine i_revL ?_ | refine i_sortKey ?_ | refine i_sortSet ?_ | refine i_rg1 ?_ | refine i_seqS ?_ | refine i_revR ?_ | refine i_lc ?_ | refine i_yes ?_ | refine i_seqT ?_ | refine i_seqX ?_ | refine i_addI ?_ | refine i_subI ?_ | refine i_negI ?_ | refine i_iaddI ?_ | refine i_eqI ?_ | refine i_neI ?_ | refine i_eqX ?_ | refine i_neX ?_ | refine i_ltI ?_ | refine i_gtI ?_ | refine i_leI ?_ | refine i_geI ?_ | refine i_lenT ?_ | refine i_absI ?_ | refine i_intI ?_ | refine i_lstT ?_ | refine i_slT ?_ | refine i_iteT ?_ | refine i_iteF ?_ | refine i_var (by with_unfolding_all rfl) ?_ | refine i_aug (by with_unfolding_all rfl) ?_ | refine i_ixT (by with_unfolding_all rfl) ?_ | refine ⟨_, _, rfl, ?_⟩ | refine ⟨_, rfl, ?_⟩ | refine ⟨rfl, ?_⟩ | refine ⟨i_tyS, ?_⟩)))
  refine i_seqL (k6 _ _ hsm) ?_
  refine lc_inv (P := fun i acc S' => S' = S6 ∧ acc = ((out.take i).map fun o => decide (o < at_)).map D.bl) ⟨rfl, rfl⟩ (fun i acc S' _ h => by rw [h.1]; exact k6 _ _ hsm) ?_ ?_
  · rintro i d acc S7 K1 hd ⟨rfl, rfl⟩ hK
    rw [List.getElem?_map, Option.map_eq_some_iff] at hd
    obtain ⟨o, ho, rfl⟩ := hd
    (repeat (with_reducible (first | refine i_seq ?_ | refine i_next ?_ | refine i_break ?_ | refine i_cont ?_ | refine i_drop ?_ | refine i_ret ?_ | refine i_retN ?_ | refine i_if ?_ | refine i_asg ?_ | refine i_par ?_ | refine i_for ?_ | refine i_nm ?_ | refine i_tp ?_ | refine i_gcons ?_ | refine i_gnil ?_ | refine i_gsub ?_ | refine i_c ?_ | refine i_anil ?_ | refine i_acons ?_ | refine i_tup ?_ | refine i_lst ?_ | refine i_op ?_ | refine i_un ?_ | refine i_call ?_ | refine i_fn ?_ | refine i_test ?_ | refine i_and ?_ | refine i_or ?_ | refine i_not ?_ | refine i_ifx ?_ | refine i_andV ?_ | refine i_orV ?_ | refine i_notV ?_ | refine i_meth ?_ | refine i_sl ?_ | refine i_nopart ?_ | refine i_part ?_ | refine i_revL ?_ | refine i_sortKey ?_ | refine i_sortSet ?_ | refine i_rg1 ?_ | refine i_seqS ?_ | refine i_revR ?_ | refine i_lc ?_ | refine i_yes ?_ | refine i_seqT ?_ | refine i_seqX ?_ | refine i_addI ?_ | refine i_subI ?_ | refine i_negI ?_ | refine i_iaddI ?_ | refine i_eqI ?_ | refine i_neI ?_ | refine i_eqX ?_ | refine i_neX ?_ | refine i_ltI ?_ | refine i_gtI ?_ | refine i_leI ?_ | refine i_geI ?_ | refine i_lenT ?_ | refine i_absI ?_ | refine i_intI ?_ | refine i_lstT ?_ | refine i_slT ?_ | refine i_iteT ?_ | refine i_iteF ?_ | refine i_var (by with_unfolding_all rfl) ?_ | refine i_aug (by with_unfolding_all rfl) ?_ | refine i_ixT (by with_unfolding_all rfl) ?_ | refine ⟨_, _, rfl, ?_⟩ | refine ⟨_, rfl, ?_⟩ | refine ⟨rfl, ?_⟩ | refine ⟨i_tyS, ?_⟩)))
    refine ⟨by rw [List.length_map, List.length_map, List.length_take, sizeLine_eq]; omega, hK _ _ ⟨rfl, by rw [take_snoc ho, List.map_append, List.map_append]; rfl⟩⟩
  rintro acc S7 ⟨rfl, rfl⟩ y hy
  rw [List.length_map, List.take_length]
  (repeat (with_reducible (first | refine i_seq ?_ | refine i_next ?_ | refine i_break ?_ | refine i_cont ?_ | refine i_drop ?_ | refine i_ret ?_ | refine i_retN ?_ | refine i_if ?_ | refine i_asg ?_ | refine i_par ?_ | refine i_for ?_ | refine i_nm ?_ | refine i_tp ?_ | refine i_gcons ?_ | refine i_gnil ?_ | refine i_gsub ?_ | refine i_c ?_ | refine i_anil ?_ | refine i_acons ?_ | refine i_tup ?_ | refine i_lst ?_ | refine i_op ?_ | refine i_un ?_ | refine i_call ?_ | refine i_fn ?_ | refine i_test ?_ | refine i_and ?_ | refine i_or ?_ | refine i_not ?_ | refine i_ifx ?_ | refine i_andV ?_ | refine i_orV ?_ | refine i_notV ?_ | refine i_meth ?_ | refine i_sl ?_ | refine i_nopart ?_ | refine i_part ?_ | refine i_revL ?_ | refine i_sortKey ?_ | refine i_sortSet ?_ | refine i_rg1 ?_ | refine i_seqS ?_ | refine i_revR ?_ | refine i_lc ?_ | refine i_yes ?_ | refine i_seqT ?_ | refine i_seqX ?_ | refine i_addI ?_ | refine i_subI ?_ | refine i_negI ?_ | refine i_iaddI ?_ | refine i_eqI ?_ | refine i_neI ?_ | refine i_eqX ?_ | refine i_neX ?_ | refine i_ltI ?_ | refine i_gtI ?_ | refine i_leI ?_ | refine i_geI ?_ | refine i_lenT ?_ | refine i_absI ?_ | refine i_intI ?_ | refine i_lstT ?_ | refine i_slT ?_ | refine i_iteT ?_ | refine i_iteF ?_ | refine i_var (by with_unfolding_all rfl) ?_ | refine i_aug (by with_unfolding_all rfl) ?_ | refine i_ixT (by with_unfolding_all rfl) ?_ | refine ⟨_, _, rfl, ?_⟩ | refine ⟨_, rfl, ?_⟩ | refine ⟨rfl, ?_⟩ | refine ⟨i_tyS, ?_⟩)))
  refine bls_repr put_same (by rw [List.length_map]; omega) ?_
  (repeat (with_reducible (first | refine i_seq ?_ | refine i_next ?_ | refine i_break ?_ | refine i_cont ?_ | refine i_drop ?_ | refine i_ret ?_ | refine i_retN ?_ | refine i_if ?_ | refine i_asg ?_ | refine i_par ?_ | refine i_for ?_ | refine i_nm ?_ | refine i_tp ?_ | refine i_gcons ?_ | refine i_gnil ?_ | refine i_gsub ?_ | refine i_c ?_ | refine i_anil ?_ | refine i_acons ?_ | refine i_tup ?_ | refine i_lst ?_ | refine i_op ?_ | refine i_un ?_ | refine i_call ?_ | refine i_fn ?_ | refine i_test ?_ | refine i_and ?_ | refine i_or ?_ | refine i_not ?_ | refine i_ifx ?_ | refine i_andV ?_ | refine i_orV ?_ | refine i_notV ?_ | refine i_meth ?_ | refine i_sl ?_ | refine i_nopart ?_ | refine i_part ?_ | refine i_revL ?_ | refine i_sortKey ?_ | refine i_sortSet ?_ | refine i_rg1 ?_ | refine i_seqS ?_ | refine i_revR ?_ | refine i_lc ?_ | refine i_yes ?_ | refine i_seqT ?_ | refine i_seqX ?_ | refine i_addI ?_ | refine i_subI ?_ | refine i_negI ?_ | refine i_iaddI ?_ | refine i_eqI ?_ | refine i_neI ?_ | refine i_eqX ?_ | refine i_neX ?_ | refine i_ltI ?_ | refine i_gtI ?_ | refine i_leI ?_ | refine i_geI ?_ | refine i_lenT ?_ | refine i_absI ?_ | refine i_intI ?_ | refine i_lstT ?_ | refine i_slT ?_ | refine i_iteT ?_ | refine i_iteF ?_ | refine i_var (by with_unfolding_all rfl) ?_ | refine i_aug (by with_unfolding_all rfl) ?_ | refine i_ixT (by with_unfolding_all rfl) ?_ | refine ⟨_, _, rfl, ?_⟩ | refine ⟨_, rfl, ?_⟩ | refine ⟨rfl, ?_⟩ | refine ⟨i_tyS, ?_⟩)))
  rw [decide_eq_true rfl]
  refine i_iteF ?_
  (repeat (with_reducible (first | refine i_seq ?_ | refine i_next ?_ | refine i_break ?_ | refine i_cont ?_ | refine i_drop ?_ | refine i_ret ?_ | refine i_retN ?_ | refine i_if ?_ | refine i_asg ?_ | refine i_par ?_ | refine i_for ?_ | refine i_nm ?_ | refine i_tp ?_ | refine i_gcons ?_ | refine i_gnil ?_ | refine i_gsub ?_ | refine i_c ?_ | refine i_anil ?_ | refine i_acons ?_ | refine i_tup ?_ | refine i_lst ?_ | refine i_op ?_ | refine i_un ?_ | refine i_call ?_ | refine i_fn ?_ | refine i_test ?_ | refine i_and ?_ | refine i_or ?_ | refine i_not ?_ | refine i_ifx ?_ | refine i_andV ?_ | refine i_orV ?_ | refine i_notV ?_ | refine i_meth ?_ | refine i_sl ?_ | refine i_nopart ?_ | refine i_part ?_ | refine i_revL ?_ | refine i_sortKey ?_ | refine i_sortSet ?_ | refine i_rg1 ?_ | refine i_seqS ?_ | refine i_revR ?_ | refine i_lc ?_ | refine i_yes ?_ | refine i_seqT ?_ | refine i_seqX ?_ | refine i_addI ?_ | refine i_subI ?_ | refine i_negI ?_ | refine i_iaddI ?_ | refine i_eqI ?_ | refine i_neI ?_ | refine i_eqX ?_ | refine i_neX ?_ | refine i_ltI ?_ | refine i_gtI ?_ | refine i_leI ?_ | refine i_geI ?_ | refine i_lenT ?_ | refine i_absI ?_ | refine i_intI ?_ | refine i_lstT ?_ | refine i_slT ?_ | refine i_iteT ?_ | refine i_iteF ?_ | refine i_var (by with_unfolding_all rfl) ?_ | refine i_aug (by with_unfolding_all rfl) ?_ | refine i_ixT (by with_unfolding_all rfl) ?_ | refine ⟨_, _, rfl, ?_⟩ | refine ⟨_, rfl, ?_⟩ | refine ⟨rfl, ?_⟩ | refine ⟨i_tyS, ?_⟩)))
  exact q _ _ (k6.trans (Keeps.new hy))
theorem pl_law : ∀ ds S Q, ds.length = 1 → sp_law ds S Q → semA n_law t_law ds S Q := by
  rintro ds S Q _ ⟨ns, rfl, q⟩
  unfold semA t_law
  (repeat (with_reducible (first | refine i_seq ?_ | refine i_next ?_ | refine i_break ?_ | refine i_cont ?_ | refine i_drop ?_ | refine i_ret ?_ | refine i_retN ?_ | refine i_if ?_ | refine i_asg ?_ | refine i_par ?_ | refine i_for ?_ | refine i_nm ?_ | refine i_tp ?_ | refine i_gcons ?_ | refine i_gnil ?_ | refine i_gsub ?_ | refine i_c ?_ | refine i_anil ?_ | refine i_acons ?_ | refine i_tup ?_ | refine i_lst ?_ | refine i_op ?_ | refine i_un ?_ | refine i_call ?_ | refine i_fn ?_ | refine i_test ?_ | refine i_and ?_ | refine i_or ?_ | refine i_not ?_ | refine i_ifx ?_ | refine i_andV ?_ | refine i_orV ?_ | refine i_notV ?_ | refine i_meth ?_ | refine i_sl ?_ | refine i_nopart ?_ | refine i_part ?_ | refine i_revL ?_ | refine i_sortKey ?_ | refine i_sortSet ?_ | refine i_rg1 ?_ | refine i_seqS ?_ | refine i_revR ?_ | refine i_lc ?_ | refine i_yes ?_ | refine i_seqT ?_ | refine i_seqX ?_ | refine i_addI ?_ | refine i_subI ?_ | refine i_negI ?_ | refine i_iaddI ?_ | refine i_eqI ?_ | refine i_neI ?_ | refine i_eqX ?_ | refine i_neX ?_ | refine i_ltI ?_ | refine i_gtI ?_ | refine i_leI ?_ | refine i_geI ?_ | refine i_lenT ?_ | refine i_absI ?_ | refine i_intI ?_ | refine i_lstT ?_ | refine i_slT ?_ | refine i_iteT ?_ | refine i_iteF ?_ | refine i_var (by with_unfolding_all rfl) ?_ | refine i_aug (by with_unfolding_all rfl) ?_ | refine i_ixT (by with_unfolding_all rfl) ?_ | refine ⟨_, _, rfl, ?_⟩ | refine ⟨_, rfl, ?_⟩ | refine ⟨rfl, ?_⟩ | refine ⟨i_tyS, ?_⟩)))
  refine ⟨ns, rfl, fun a c S1 hk1 ha hc hD => ?_⟩
  (repeat (with_reducible (first | refine i_seq ?_ | refine i_next ?_ | refine i_break ?_ | refine i_cont ?_ | refine i_drop ?_ | refine i_ret ?_ | refine i_retN ?_ | refine i_if ?_ | refine i_asg ?_ | refine i_par ?_ | refine i_for ?_ | refine i_nm ?_ | refine i_tp ?_ | refine i_gcons ?_ | refine i_gnil ?_ | refine i_gsub ?_ | refine i_c ?_ | refine i_anil ?_ | refine i_acons ?_ | refine i_tup ?_ | refine i_lst ?_ | refine i_op ?_ | refine i_un ?_ | refine i_call ?_ | refine i_fn ?_ | refine i_test ?_ | refine i_and ?_ | refine i_or ?_ | refine i_not ?_ | refine i_ifx ?_ | refine i_andV ?_ | refine i_orV ?_ | refine i_notV ?_ | refine i_meth ?_ | refine i_sl ?_ | refine i_nopart ?_ | refine i_part ?_ | refine i_revL ?_ | refine i_sortKey ?_ | refine i_sortSet ?_ | refine i_rg1 ?_ | refine i_seqS ?_ | refine i_revR ?_ | refine i_lc ?_ | refine i_yes ?_ | refine i_seqT ?_ | refine i_seqX ?_ | refine i_addI ?_ | refine i_subI ?_ | refine i_negI ?_ | refine i_iaddI ?_ | refine i_eqI ?_ | refine i_neI ?_ | refine i_eqX ?_ | refine i_neX ?_ | refine i_ltI ?_ | refine i_gtI ?_ | refine i_leI ?_ | refine i_geI ?_ | refine i_lenT ?_ | refine i_absI ?_ | refine i_intI ?_ | refine i_lstT ?_ | refine i_slT ?_ | refine i_iteT ?_ | refine i_iteF ?_ | refine i_var (by with_unfolding_all rfl) ?_ | refine i_aug (by with_unfolding_all rfl) ?_ | refine i_ixT (by with_unfolding_all rfl) ?_ | refine ⟨_, _, rfl, ?_⟩ | refine ⟨_, rfl, ?_⟩ | refine ⟨rfl, ?_⟩ | refine ⟨i_tyS, ?_⟩)))
  refine ⟨by omega, ?_⟩
  refine for_inv (P := fun i l S' => (∃ x2 x3 x4 x5 x6 x7 x8 x9 x10, l = [some (.rol (ns.map D.int)), some (.ref a), x2, x3, x4, x5, x6, x7, x8, x9, x10]) ∧ Deck S' a c (0 + 4000 * i)) ⟨⟨_, _, _, _, _, _, _, _, _, rfl⟩, hD⟩ (fun _ _ _ _ _ => trivial) ?_ ?_
  · rintro i d l S2 K1 hd ⟨⟨x2, x3, x4, x5, x6, x7, x8, x9, x10, rfl⟩, hD2⟩ hK
    obtain ⟨hi, rfl⟩ := intsD_get hd
    have hi5 : i < 3 := by simpa using hi
    (repeat (with_reducible (first | refine i_seq ?_ | refine i_next ?_ | refine i_break ?_ | refine i_cont ?_ | refine i_drop ?_ | refine i_ret ?_ | refine i_retN ?_ | refine i_if ?_ | refine i_asg ?_ | refine i_par ?_ | refine i_for ?_ | refine i_nm ?_ | refine i_tp ?_ | refine i_gcons ?_ | refine i_gnil ?_ | refine i_gsub ?_ | refine i_c ?_ | refine i_anil ?_ | refine i_acons ?_ | refine i_tup ?_ | refine i_lst ?_ | refine i_op ?_ | refine i_un ?_ | refine i_call ?_ | refine i_fn ?_ | refine i_test ?_ | refine i_and ?_ | refine i_or ?_ | refine i_not ?_ | refine i_ifx ?_ | refine i_andV ?_ | refine i_orV ?_ | refine i_notV ?_ | refine i_meth ?_ | refine i_sl ?_ | refine i_nopart ?_ | refine i_part ?_ | refine i_revL ?_ | refine i_sortKey ?_ | refine i_sortSet ?_ | refine i_rg1 ?_ | refine i_seqS ?_ | refine i_revR ?_ | refine i_lc ?_ | refine i_yes ?_ | refine i_seqT ?_ | refine i_seqX ?_ | refine i_addI ?_ | refine i_subI ?_ | refine i_negI ?_ | refine i_iaddI ?_ | refine i_eqI ?_ | refine i_neI ?_ | refine i_eqX ?_ | refine i_neX ?_ | refine i_ltI ?_ | refine i_gtI ?_ | refine i_leI ?_ | refine i_geI ?_ | refine i_lenT ?_ | refine i_absI ?_ | refine i_intI ?_ | refine i_lstT ?_ | refine i_slT ?_ | refine i_iteT ?_ | refine i_iteF ?_ | refine i_var (by with_unfolding_all rfl) ?_ | refine i_aug (by with_unfolding_all rfl) ?_ | refine i_ixT (by with_unfolding_all rfl) ?_ | refine ⟨_, _, rfl, ?_⟩ | refine ⟨_, rfl, ?_⟩ | refine ⟨rfl, ?_⟩ | refine ⟨i_tyS, ?_⟩)))
    refine ⟨a, c, _, _, rfl, hD2, by omega, by decide, by decide, fun r S3 h0 h1 hx3 hD3 => ?_⟩
    (repeat (with_reducible (first | refine i_seq ?_ | refine i_next ?_ | refine i_break ?_ | refine i_cont ?_ | refine i_drop ?_ | refine i_ret ?_ | refine i_retN ?_ | refine i_if ?_ | refine i_asg ?_ | refine i_par ?_ | refine i_for ?_ | refine i_nm ?_ | refine i_tp ?_ | refine i_gcons ?_ | refine i_gnil ?_ | refine i_gsub ?_ | refine i_c ?_ | refine i_anil ?_ | refine i_acons ?_ | refine i_tup ?_ | refine i_lst ?_ | refine i_op ?_ | refine i_un ?_ | refine i_call ?_ | refine i_fn ?_ | refine i_test ?_ | refine i_and ?_ | refine i_or ?_ | refine i_not ?_ | refine i_ifx ?_ | refine i_andV ?_ | refine i_orV ?_ | refine i_notV ?_ | refine i_meth ?_ | refine i_sl ?_ | refine i_nopart ?_ | refine i_part ?_ | refine i_revL ?_ | refine i_sortKey ?_ | refine i_sortSet ?_ | refine i_rg1 ?_ | refine i_seqS ?_ | refine i_revR ?_ | refine i_lc ?_ | refine i_yes ?_ | refine i_seqT ?_ | refine i_seqX ?_ | refine i_addI ?_ | refine i_subI ?_ | refine i_negI ?_ | refine i_iaddI ?_ | refine i_eqI ?_ | refine i_neI ?_ | refine i_eqX ?_ | refine i_neX ?_ | refine i_ltI ?_ | refine i_gtI ?_ | refine i_leI ?_ | refine i_geI ?_ | refine i_lenT ?_ | refine i_absI ?_ | refine i_intI ?_ | refine i_lstT ?_ | refine i_slT ?_ | refine i_iteT ?_ | refine i_iteF ?_ | refine i_var (by with_unfolding_all rfl) ?_ | refine i_aug (by with_unfolding_all rfl) ?_ | refine i_ixT (by with_unfolding_all rfl) ?_ | refine ⟨_, _, rfl, ?_⟩ | refine ⟨_, rfl, ?_⟩ | refine ⟨rfl, ?_⟩ | refine ⟨i_tyS, ?_⟩)))
    refine ⟨a, c, _, _, rfl, hD3, by omega, by omega, by omega, fun xs p S4 hxl hxs hp0 hp npa npc hx4 hD4 => ?_⟩
    have hne : xs ≠ [] := fun e => by subst e; simp at hxl; omega
    (repeat (with_reducible (first | refine i_seq ?_ | refine i_next ?_ | refine i_break ?_ | refine i_cont ?_ | refine i_drop ?_ | refine i_ret ?_ | refine i_retN ?_ | refine i_if ?_ | refine i_asg ?_ | refine i_par ?_ | refine i_for ?_ | refine i_nm ?_ | refine i_tp ?_ | refine i_gcons ?_ | refine i_gnil ?_ | refine i_gsub ?_ | refine i_c ?_ | refine i_anil ?_ | refine i_acons ?_ | refine i_tup ?_ | refine i_lst ?_ | refine i_op ?_ | refine i_un ?_ | refine i_call ?_ | refine i_fn ?_ | refine i_test ?_ | refine i_and ?_ | refine i_or ?_ | refine i_not ?_ | refine i_ifx ?_ | refine i_andV ?_ | refine i_orV ?_ | refine i_notV ?_ | refine i_meth ?_ | refine i_sl ?_ | refine i_nopart ?_ | refine i_part ?_ | refine i_revL ?_ | refine i_sortKey ?_ | refine i_sortSet ?_ | refine i_rg1 ?_ | refine i_seqS ?_ | refine i_revR ?_ | refine i_lc ?_ | refine i_yes ?_ | refine i_seqT ?_ | refine i_seqX ?_ | refine i_addI ?_ | refine i_subI ?_ | refine i_negI ?_ | refine i_iaddI ?_ | refine i_eqI ?_ | refine i_neI ?_ | refine i_eqX ?_ | refine i_neX ?_ | refine i_ltI ?_ | refine i_gtI ?_ | refine i_leI ?_ | refine i_geI ?_ | refine i_lenT ?_ | refine i_absI ?_ | refine i_intI ?_ | refine i_lstT ?_ | refine i_slT ?_ | refine i_iteT ?_ | refine i_iteF ?_ | refine i_var (by with_unfolding_all rfl) ?_ | refine i_aug (by with_unfolding_all rfl) ?_ | refine i_ixT (by with_unfolding_all rfl) ?_ | refine ⟨_, _, rfl, ?_⟩ | refine ⟨_, rfl, ?_⟩ | refine ⟨rfl, ?_⟩ | refine ⟨i_tyS, ?_⟩)))
    refine ⟨a, c, p, _, xs, rfl, hD4, by omega, hp, npa, npc, hxs, hne, by omega, fun S5 ks hks hx5 hD5 => ?_⟩
    (repeat (with_reducible (first | refine i_seq ?_ | refine i_next ?_ | refine i_break ?_ | refine i_cont ?_ | refine i_drop ?_ | refine i_ret ?_ | refine i_retN ?_ | refine i_if ?_ | refine i_asg ?_ | refine i_par ?_ | refine i_for ?_ | refine i_nm ?_ | refine i_tp ?_ | refine i_gcons ?_ | refine i_gnil ?_ | refine i_gsub ?_ | refine i_c ?_ | refine i_anil ?_ | refine i_acons ?_ | refine i_tup ?_ | refine i_lst ?_ | refine i_op ?_ | refine i_un ?_ | refine i_call ?_ | refine i_fn ?_ | refine i_test ?_ | refine i_and ?_ | refine i_or ?_ | refine i_not ?_ | refine i_ifx ?_ | refine i_andV ?_ | refine i_orV ?_ | refine i_notV ?_ | refine i_meth ?_ | refine i_sl ?_ | refine i_nopart ?_ | refine i_part ?_ | refine i_revL ?_ | refine i_sortKey ?_ | refine i_sortSet ?_ | refine i_rg1 ?_ | refine i_seqS ?_ | refine i_revR ?_ | refine i_lc ?_ | refine i_yes ?_ | refine i_seqT ?_ | refine i_seqX ?_ | refine i_addI ?_ | refine i_subI ?_ | refine i_negI ?_ | refine i_iaddI ?_ | refine i_eqI ?_ | refine i_neI ?_ | refine i_eqX ?_ | refine i_neX ?_ | refine i_ltI ?_ | refine i_gtI ?_ | refine i_leI ?_ | refine i_geI ?_ | refine i_lenT ?_ | refine i_absI ?_ | refine i_intI ?_ | refine i_lstT ?_ | refine i_slT ?_ | refine i_iteT ?_ | refine i_iteF ?_ | refine i_var (by with_unfolding_all rfl) ?_ | refine i_aug (by with_unfolding_all rfl) ?_ | refine i_ixT (by with_unfolding_all rfl) ?_ | refine ⟨_, _, rfl, ?_⟩ | refine ⟨_, rfl, ?_⟩ | refine ⟨rfl, ?_⟩ | refine ⟨i_tyS, ?_⟩)))
    refine ⟨Nat.zero_le _, fun mz hmz => ?_⟩
    have nmz := hD5.ne hmz
    have hm6 : put S5 mz (.lst []) mz = some (.lst []) := put_same
    have hD6 : Deck (put S5 mz (.lst [])) a c (0 + 4000 * i + 1 + 202 + 20) := hD5.new hmz
    generalize put S5 mz (.lst []) = S6 at hm6 hD6
    (repeat (with_reducible (first | refine i_seq ?_ | refine i_next ?_ | refine i_break ?_ | refine i_cont ?_ | refine i_drop ?_ | refine i_ret ?_ | refine i_retN ?_ | refine i_if ?_ | refine i_asg ?_ | refine i_par ?_ | refine i_for ?_ | refine i_nm ?_ | refine i_tp ?_ | refine i_gcons ?_ | refine i_gnil ?_ | refine i_gsub ?_ | refine i_c ?_ | refine i_anil ?_ | refine i_acons ?_ | refine i_tup ?_ | refine i_lst ?_ | refine i_op ?_ | refine i_un ?_ | refine i_call ?_ | refine i_fn ?_ | refine i_test ?_ | refine i_and ?_ | refine i_or ?_ | refine i_not ?_ | refine i_ifx ?_ | refine i_andV ?_ | refine i_orV ?_ | refine i_notV ?_ | refine i_meth ?_ | refine i_sl ?_ | refine i_nopart ?_ | refine i_part ?_ | refine i_revL ?_ | refine i_sortKey ?_ | refine i_sortSet ?_ | refine i_rg1 ?_ | refine i_seqS ?_ | refine i_revR ?_ | refine i_lc ?_ | refine i_yes ?_ | refine i_seqT ?_ | refine i_seqX ?_ | refine i_addI ?_ | refine i_subI ?_ | refine i_negI ?_ | refine i_iaddI ?_ | refine i_eqI ?_ | refine i_neI ?_ | refine i_eqX ?_ | refine i_neX ?_ | refine i_ltI ?_ | refine i_gtI ?_ | refine i_leI ?_ | refine i_geI ?_ | refine i_lenT ?_ | refine i_absI ?_ | refine i_intI ?_ | refine i_lstT ?_ | refine i_slT ?_ | refine i_iteT ?_ | refine i_iteF ?_ | refine i_var (by with_unfolding_all rfl) ?_ | refine i_aug (by with_unfolding_all rfl) ?_ | refine i_ixT (by with_unfolding_all rfl) ?_ | refine ⟨_, _, rfl, ?_⟩ | refine ⟨_, rfl, ?_⟩ | refine ⟨rfl, ?_⟩ | refine ⟨i_tyS, ?_⟩)))
    refine ⟨ks, rfl, hks, fun S7 pr rr hpr hnew R h2 hk7 => ?_⟩
    have hm7 := hk7 _ _ hm6
    have hD7 := hD6.keep hk7
    have nmr : ∀ r ∈ rr, r.1 ≠ mz := fun r hr e => by rw [← e, hnew r hr] at hm6; cases hm6
    obtain ⟨g1, g2, g3, g4⟩ := gath_ok R h2
    have npm : pr ≠ mz := fun e => by subst e; rw [hm6] at hpr; cases hpr
    refine i_seqL R.lst ?_
    refine for_inv (P := fun i' l S' => (∃ x5, l = [some (.rol (ns.map D.int)), some (.ref a), some (.int (0 + (i : Int))), some (.tup (ks.map Sh.d)), some (.ref mz), x5, x6, x7, x8, x9, x10]) ∧ S' mz = some (.lst (((rr.take i').flatMap fun r => r.2.take 40).map Mz.d)) ∧ Fq mz S7 S') ⟨⟨_, rfl⟩, hm7, .refl⟩ (fun _ _ _ _ h => h.2.2 _ _ R.lst npm) ?_ ?_
    · rintro i' d l S8 K2 hd ⟨⟨y5, rfl⟩, hm8, f8⟩ hK2
      rw [List.getElem?_map, Option.map_eq_some_iff] at hd
      obtain ⟨r, hr, rfl⟩ := hd
      have hi' := (List.getElem?_eq_some_iff.mp hr).1
      have hrm := List.mem_of_getElem? hr
      have few := R.few.2
      have hlen : ((rr.take i').flatMap fun r => r.2.take 40).length ≤ 400 := by
        have := flat_len (l := rr.take i') (f := fun r => r.2.take 40) (c := 40) fun r _ => by rw [List.length_take]; omega
        rw [List.length_take] at this
        omega
      show gNm 5 (D.ref r.1) _ _ _
      (repeat (with_reducible (first | refine i_seq ?_ | refine i_next ?_ | refine i_break ?_ | refine i_cont ?_ | refine i_drop ?_ | refine i_ret ?_ | refine i_retN ?_ | refine i_if ?_ | refine i_asg ?_ | refine i_par ?_ | refine i_for ?_ | refine i_nm ?_ | refine i_tp ?_ | refine i_gcons ?_ | refine i_gnil ?_ | refine i_gsub ?_ | refine i_c ?_ | refine i_anil ?_ | refine i_acons ?_ | refine i_tup ?_ | refine i_lst ?_ | refine i_op ?_ | refine i_un ?_ | refine i_call ?_ | refine i_fn ?_ | refine i_test ?_ | refine i_and ?_ | refine i_or ?_ | refine i_not ?_ | refine i_ifx ?_ | refine i_andV ?_ | refine i_orV ?_ | refine i_notV ?_ | refine i_meth ?_ | refine i_sl ?_ | refine i_nopart ?_ | refine i_part ?_ | refine i_revL ?_ | refine i_sortKey ?_ | refine i_sortSet ?_ | refine i_rg1 ?_ | refine i_seqS ?_ | refine i_revR ?_ | refine i_lc ?_ | refine i_yes ?_ | refine i_seqT ?_ | refine i_seqX ?_ | refine i_addI ?_ | refine i_subI ?_ | refine i_negI ?_ | refine i_iaddI ?_ | refine i_eqI ?_ | refine i_neI ?_ | refine i_eqX ?_ | refine i_neX ?_ | refine i_ltI ?_ | refine i_gtI ?_ | refine i_leI ?_ | refine i_geI ?_ | refine i_lenT ?_ | refine i_absI ?_ | refine i_intI ?_ | refine i_lstT ?_ | refine i_slT ?_ | refine i_iteT ?_ | refine i_iteF ?_ | refine i_var (by with_unfolding_all rfl) ?_ | refine i_aug (by with_unfolding_all rfl) ?_ | refine i_ixT (by with_unfolding_all rfl) ?_ | refine ⟨_, _, rfl, ?_⟩ | refine ⟨_, rfl, ?_⟩ | refine ⟨rfl, ?_⟩ | refine ⟨i_tyS, ?_⟩)))
      refine ⟨i_tyL hm8, ?_⟩
      (repeat (with_reducible (first | refine i_seq ?_ | refine i_next ?_ | refine i_break ?_ | refine i_cont ?_ | refine i_drop ?_ | refine i_ret ?_ | refine i_retN ?_ | refine i_if ?_ | refine i_asg ?_ | refine i_par ?_ | refine i_for ?_ | refine i_nm ?_ | refine i_tp ?_ | refine i_gcons ?_ | refine i_gnil ?_ | refine i_gsub ?_ | refine i_c ?_ | refine i_anil ?_ | refine i_acons ?_ | refine i_tup ?_ | refine i_lst ?_ | refine i_op ?_ | refine i_un ?_ | refine i_call ?_ | refine i_fn ?_ | refine i_test ?_ | refine i_and ?_ | refine i_or ?_ | refine i_not ?_ | refine i_ifx ?_ | refine i_andV ?_ | refine i_orV ?_ | refine i_notV ?_ | refine i_meth ?_ | refine i_sl ?_ | refine i_nopart ?_ | refine i_part ?_ | refine i_revL ?_ | refine i_sortKey ?_ | refine i_sortSet ?_ | refine i_rg1 ?_ | refine i_seqS ?_ | refine i_revR ?_ | refine i_lc ?_ | refine i_yes ?_ | refine i_seqT ?_ | refine i_seqX ?_ | refine i_addI ?_ | refine i_subI ?_ | refine i_negI ?_ | refine i_iaddI ?_ | refine i_eqI ?_ | refine i_neI ?_ | refine i_eqX ?_ | refine i_neX ?_ | refine i_ltI ?_ | refine i_gtI ?_ | refine i_leI ?_ | refine i_geI ?_ | refine i_lenT ?_ | refine i_absI ?_ | refine i_intI ?_ | refine i_lstT ?_ | refine i_slT ?_ | refine i_iteT ?_ | refine i_iteF ?_ | refine i_var (by with_unfolding_all rfl) ?_ | refine i_aug (by with_unfolding_all rfl) ?_ | refine i_ixT (by with_unfolding_all rfl) ?_ | refine ⟨_, _, rfl, ?_⟩ | refine ⟨_, rfl, ?_⟩ | refine ⟨rfl, ?_⟩ | refine ⟨i_tyS, ?_⟩)))
      refine i_slL (f8 _ _ (R.at_ r hrm) (nmr r hrm)) fun v hv => ?_
      rw [show (40 : Int) = ((40 : Nat) : Int) from rfl, cut_take, ← List.map_take]
      have nvm : v ≠ mz := fun e => by subst e; rw [hm8] at hv; cases hv
      (repeat (with_reducible (first | refine i_seq ?_ | refine i_next ?_ | refine i_break ?_ | refine i_cont ?_ | refine i_drop ?_ | refine i_ret ?_ | refine i_retN ?_ | refine i_if ?_ | refine i_asg ?_ | refine i_par ?_ | refine i_for ?_ | refine i_nm ?_ | refine i_tp ?_ | refine i_gcons ?_ | refine i_gnil ?_ | refine i_gsub ?_ | refine i_c ?_ | refine i_anil ?_ | refine i_acons ?_ | refine i_tup ?_ | refine i_lst ?_ | refine i_op ?_ | refine i_un ?_ | refine i_call ?_ | refine i_fn ?_ | refine i_test ?_ | refine i_and ?_ | refine i_or ?_ | refine i_not ?_ | refine i_ifx ?_ | refine i_andV ?_ | refine i_orV ?_ | refine i_notV ?_ | refine i_meth ?_ | refine i_sl ?_ | refine i_nopart ?_ | refine i_part ?_ | refine i_revL ?_ | refine i_sortKey ?_ | refine i_sortSet ?_ | refine i_rg1 ?_ | refine i_seqS ?_ | refine i_revR ?_ | refine i_lc ?_ | refine i_yes ?_ | refine i_seqT ?_ | refine i_seqX ?_ | refine i_addI ?_ | refine i_subI ?_ | refine i_negI ?_ | refine i_iaddI ?_ | refine i_eqI ?_ | refine i_neI ?_ | refine i_eqX ?_ | refine i_neX ?_ | refine i_ltI ?_ | refine i_gtI ?_ | refine i_leI ?_ | refine i_geI ?_ | refine i_lenT ?_ | refine i_absI ?_ | refine i_intI ?_ | refine i_lstT ?_ | refine i_slT ?_ | refine i_iteT ?_ | refine i_iteF ?_ | refine i_var (by with_unfolding_all rfl) ?_ | refine i_aug (by with_unfolding_all rfl) ?_ | refine i_ixT (by with_unfolding_all rfl) ?_ | refine ⟨_, _, rfl, ?_⟩ | refine ⟨_, rfl, ?_⟩ | refine ⟨rfl, ?_⟩ | refine ⟨i_tyS, ?_⟩)))
      refine i_extend (by rw [put_ne nvm.symm]; exact hm8) put_same (by rw [List.length_map, List.length_map, List.length_take, sizeLine_eq]; omega) ?_
      refine hK2 _ _ ⟨⟨_, rfl⟩, ?_, (f8.trans (Fq.new hv)).trans Fq.own⟩
      rw [put_same, take_snoc hr, List.flatMap_append, List.flatMap_singleton, List.map_append]
    rintro l S8 ⟨⟨y5, rfl⟩, hm8, f8⟩
    rw [List.length_map, List.take_length] at hm8
    have hD8 : Deck S8 a c (0 + 4000 * i + 1 + 202 + 20) := by
      obtain ⟨e1, cs, n, e2, e3, e4⟩ := hD7
      exact ⟨e1, cs, n, f8 _ _ e2 nmz.1.symm, f8 _ _ e3 nmz.2.symm, e4⟩
    (repeat (with_reducible (first | refine i_seq ?_ | refine i_next ?_ | refine i_break ?_ | refine i_cont ?_ | refine i_drop ?_ | refine i_ret ?_ | refine i_retN ?_ | refine i_if ?_ | refine i_asg ?_ | refine i_par ?_ | refine i_for ?_ | refine i_nm ?_ | refine i_tp ?_ | refine i_gcons ?_ | refine i_gnil ?_ | refine i_gsub ?_ | refine i_c ?_ | refine i_anil ?_ | refine i_acons ?_ | refine i_tup ?_ | refine i_lst ?_ | refine i_op ?_ | refine i_un ?_ | refine i_call ?_ | refine i_fn ?_ | refine i_test ?_ | refine i_and ?_ | refine i_or ?_ | refine i_not ?_ | refine i_ifx ?_ | refine i_andV ?_ | refine i_orV ?_ | refine i_notV ?_ | refine i_meth ?_ | refine i_sl ?_ | refine i_nopart ?_ | refine i_part ?_ | refine i_revL ?_ | refine i_sortKey ?_ | refine i_sortSet ?_ | refine i_rg1 ?_ | refine i_seqS ?_ | refine i_revR ?_ | refine i_lc ?_ | refine i_yes ?_ | refine i_seqT ?_ | refine i_seqX ?_ | refine i_addI ?_ | refine i_subI ?_ | refine i_negI ?_ | refine i_iaddI ?_ | refine i_eqI ?_ | refine i_neI ?_ | refine i_eqX ?_ | refine i_neX ?_ | refine i_ltI ?_ | refine i_gtI ?_ | refine i_leI ?_ | refine i_geI ?_ | refine i_lenT ?_ | refine i_absI ?_ | refine i_intI ?_ | refine i_lstT ?_ | refine i_slT ?_ | refine i_iteT ?_ | refine i_iteF ?_ | refine i_var (by with_unfolding_all rfl) ?_ | refine i_aug (by with_unfolding_all rfl) ?_ | refine i_ixT (by with_unfolding_all rfl) ?_ | refine ⟨_, _, rfl, ?_⟩ | refine ⟨_, rfl, ?_⟩ | refine ⟨rfl, ?_⟩ | refine ⟨i_tyS, ?_⟩)))
    refine i_sortRank (bs := gath rr) hm8 (fun b hb => by have := g2 b hb; omega) g1 fun S9 g B hk9 hg hord hmem hBl => ?_
    have hBne : 0 < B.length := by rw [hBl]; exact List.length_pos_iff.mpr g3
    have hD9 : Deck (put S9 g (.lst (B.map Mz.d))) a c (0 + 4000 * i + 1 + 202 + 20) := (hD8.keep hk9).new hg
    have hg9 : put S9 g (.lst (B.map Mz.d)) g = some (.lst (B.map Mz.d)) := put_same
    generalize put S9 g (.lst (B.map Mz.d)) = S10 at hD9 hg9
    have ngd := And.intro (fun e => by subst e; obtain ⟨_, cs, n, e2, _⟩ := hD9; rw [hg9] at e2; have e3 := (Ob.lst.inj (Option.some.inj e2)); cases B with | nil => simp at hBne | cons x B => rw [List.map_cons, Mz.d_eq x] at e3; cases (List.cons.inj e3).1 : g ≠ a) (fun e => by subst e; obtain ⟨_, cs, n, _, e2, _⟩ := hD9; rw [hg9] at e2; have e3 := (Ob.lst.inj (Option.some.inj e2)); cases B with | nil => simp at hBne | cons x B => cases cs with | nil => cases e3 | cons y cs => rw [List.map_cons, List.map_cons, Mz.d_eq x] at e3; cases (List.cons.inj e3).1 : g ≠ c)
    (repeat (with_reducible (first | refine i_seq ?_ | refine i_next ?_ | refine i_break ?_ | refine i_cont ?_ | refine i_drop ?_ | refine i_ret ?_ | refine i_retN ?_ | refine i_if ?_ | refine i_asg ?_ | refine i_par ?_ | refine i_for ?_ | refine i_nm ?_ | refine i_tp ?_ | refine i_gcons ?_ | refine i_gnil ?_ | refine i_gsub ?_ | refine i_c ?_ | refine i_anil ?_ | refine i_acons ?_ | refine i_tup ?_ | refine i_lst ?_ | refine i_op ?_ | refine i_un ?_ | refine i_call ?_ | refine i_fn ?_ | refine i_test ?_ | refine i_and ?_ | refine i_or ?_ | refine i_not ?_ | refine i_ifx ?_ | refine i_andV ?_ | refine i_orV ?_ | refine i_notV ?_ | refine i_meth ?_ | refine i_sl ?_ | refine i_nopart ?_ | refine i_part ?_ | refine i_revL ?_ | refine i_sortKey ?_ | refine i_sortSet ?_ | refine i_rg1 ?_ | refine i_seqS ?_ | refine i_revR ?_ | refine i_lc ?_ | refine i_yes ?_ | refine i_seqT ?_ | refine i_seqX ?_ | refine i_addI ?_ | refine i_subI ?_ | refine i_negI ?_ | refine i_iaddI ?_ | refine i_eqI ?_ | refine i_neI ?_ | refine i_eqX ?_ | refine i_neX ?_ | refine i_ltI ?_ | refine i_gtI ?_ | refine i_leI ?_ | refine i_geI ?_ | refine i_lenT ?_ | refine i_absI ?_ | refine i_intI ?_ | refine i_lstT ?_ | refine i_slT ?_ | refine i_iteT ?_ | refine i_iteF ?_ | refine i_var (by with_unfolding_all rfl) ?_ | refine i_aug (by with_unfolding_all rfl) ?_ | refine i_ixT (by with_unfolding_all rfl) ?_ | refine ⟨_, _, rfl, ?_⟩ | refine ⟨_, rfl, ?_⟩ | refine ⟨rfl, ?_⟩ | refine ⟨i_tyS, ?_⟩)))
    refine i_sortSetB ?_
    (repeat (with_reducible (first | refine i_seq ?_ | refine i_next ?_ | refine i_break ?_ | refine i_cont ?_ | refine i_drop ?_ | refine i_ret ?_ | refine i_retN ?_ | refine i_if ?_ | refine i_asg ?_ | refine i_par ?_ | refine i_for ?_ | refine i_nm ?_ | refine i_tp ?_ | refine i_gcons ?_ | refine i_gnil ?_ | refine i_gsub ?_ | refine i_c ?_ | refine i_anil ?_ | refine i_acons ?_ | refine i_tup ?_ | refine i_lst ?_ | refine i_op ?_ | refine i_un ?_ | refine i_call ?_ | refine i_fn ?_ | refine i_test ?_ | refine i_and ?_ | refine i_or ?_ | refine i_not ?_ | refine i_ifx ?_ | refine i_andV ?_ | refine i_orV ?_ | refine i_notV ?_ | refine i_meth ?_ | refine i_sl ?_ | refine i_nopart ?_ | refine i_part ?_ | refine i_revL ?_ | refine i_sortKey ?_ | refine i_sortSet ?_ | refine i_rg1 ?_ | refine i_seqS ?_ | refine i_revR ?_ | refine i_lc ?_ | refine i_yes ?_ | refine i_seqT ?_ | refine i_seqX ?_ | refine i_addI ?_ | refine i_subI ?_ | refine i_negI ?_ | refine i_iaddI ?_ | refine i_eqI ?_ | refine i_neI ?_ | refine i_eqX ?_ | refine i_neX ?_ | refine i_ltI ?_ | refine i_gtI ?_ | refine i_leI ?_ | refine i_geI ?_ | refine i_lenT ?_ | refine i_absI ?_ | refine i_intI ?_ | refine i_lstT ?_ | refine i_slT ?_ | refine i_iteT ?_ | refine i_iteF ?_ | refine i_var (by with_unfolding_all rfl) ?_ | refine i_aug (by with_unfolding_all rfl) ?_ | refine i_ixT (by with_unfolding_all rfl) ?_ | refine ⟨_, _, rfl, ?_⟩ | refine ⟨_, rfl, ?_⟩ | refine ⟨rfl, ?_⟩ | refine ⟨i_tyS, ?_⟩)))
    refine ⟨by omega, ?_⟩
    refine lc_inv (P := fun j acc S' => ∃ ds : List Int, acc = ds.map D.int ∧ ds.length = j ∧ (∀ x ∈ ds, 0 ≤ x ∧ x < B.length) ∧ Ext a c S10 S' ∧ Deck S' a c (0 + 4000 * i + 1 + 202 + 20 + j)) ⟨[], rfl, rfl, fun _ h => (nomatch h), .refl, hD9⟩ (fun _ _ _ _ _ => trivial) ?_ ?_
    · rintro j d acc S11 K2 hd ⟨ds, rfl, hdl, hdr, hx11, hD11⟩ hK2
      obtain ⟨hj, rfl⟩ := intsD_get hd
      have hj30 : j < 30 := by simpa using hj
      (repeat (with_reducible (first | refine i_seq ?_ | refine i_next ?_ | refine i_break ?_ | refine i_cont ?_ | refine i_drop ?_ | refine i_ret ?_ | refine i_retN ?_ | refine i_if ?_ | refine i_asg ?_ | refine i_par ?_ | refine i_for ?_ | refine i_nm ?_ | refine i_tp ?_ | refine i_gcons ?_ | refine i_gnil ?_ | refine i_gsub ?_ | refine i_c ?_ | refine i_anil ?_ | refine i_acons ?_ | refine i_tup ?_ | refine i_lst ?_ | refine i_op ?_ | refine i_un ?_ | refine i_call ?_ | refine i_fn ?_ | refine i_test ?_ | refine i_and ?_ | refine i_or ?_ | refine i_not ?_ | refine i_ifx ?_ | refine i_andV ?_ | refine i_orV ?_ | refine i_notV ?_ | refine i_meth ?_ | refine i_sl ?_ | refine i_nopart ?_ | refine i_part ?_ | refine i_revL ?_ | refine i_sortKey ?_ | refine i_sortSet ?_ | refine i_rg1 ?_ | refine i_seqS ?_ | refine i_revR ?_ | refine i_lc ?_ | refine i_yes ?_ | refine i_seqT ?_ | refine i_seqX ?_ | refine i_addI ?_ | refine i_subI ?_ | refine i_negI ?_ | refine i_iaddI ?_ | refine i_eqI ?_ | refine i_neI ?_ | refine i_eqX ?_ | refine i_neX ?_ | refine i_ltI ?_ | refine i_gtI ?_ | refine i_leI ?_ | refine i_geI ?_ | refine i_lenT ?_ | refine i_absI ?_ | refine i_intI ?_ | refine i_lstT ?_ | refine i_slT ?_ | refine i_iteT ?_ | refine i_iteF ?_ | refine i_var (by with_unfolding_all rfl) ?_ | refine i_aug (by with_unfolding_all rfl) ?_ | refine i_ixT (by with_unfolding_all rfl) ?_ | refine ⟨_, _, rfl, ?_⟩ | refine ⟨_, rfl, ?_⟩ | refine ⟨rfl, ?_⟩ | refine ⟨i_tyS, ?_⟩)))
      refine i_lenL (hx11 _ _ hg9 ngd.1 ngd.2) ?_
      rw [List.length_map]
      (repeat (with_reducible (first | refine i_seq ?_ | refine i_next ?_ | refine i_break ?_ | refine i_cont ?_ | refine i_drop ?_ | refine i_ret ?_ | refine i_retN ?_ | refine i_if ?_ | refine i_asg ?_ | refine i_par ?_ | refine i_for ?_ | refine i_nm ?_ | refine i_tp ?_ | refine i_gcons ?_ | refine i_gnil ?_ | refine i_gsub ?_ | refine i_c ?_ | refine i_anil ?_ | refine i_acons ?_ | refine i_tup ?_ | refine i_lst ?_ | refine i_op ?_ | refine i_un ?_ | refine i_call ?_ | refine i_fn ?_ | refine i_test ?_ | refine i_and ?_ | refine i_or ?_ | refine i_not ?_ | refine i_ifx ?_ | refine i_andV ?_ | refine i_orV ?_ | refine i_notV ?_ | refine i_meth ?_ | refine i_sl ?_ | refine i_nopart ?_ | refine i_part ?_ | refine i_revL ?_ | refine i_sortKey ?_ | refine i_sortSet ?_ | refine i_rg1 ?_ | refine i_seqS ?_ | refine i_revR ?_ | refine i_lc ?_ | refine i_yes ?_ | refine i_seqT ?_ | refine i_seqX ?_ | refine i_addI ?_ | refine i_subI ?_ | refine i_negI ?_ | refine i_iaddI ?_ | refine i_eqI ?_ | refine i_neI ?_ | refine i_eqX ?_ | refine i_neX ?_ | refine i_ltI ?_ | refine i_gtI ?_ | refine i_leI ?_ | refine i_geI ?_ | refine i_lenT ?_ | refine i_absI ?_ | refine i_intI ?_ | refine i_lstT ?_ | refine i_slT ?_ | refine i_iteT ?_ | refine i_iteF ?_ | refine i_var (by with_unfolding_all rfl) ?_ | refine i_aug (by with_unfolding_all rfl) ?_ | refine i_ixT (by with_unfolding_all rfl) ?_ | refine ⟨_, _, rfl, ?_⟩ | refine ⟨_, rfl, ?_⟩ | refine ⟨rfl, ?_⟩ | refine ⟨i_tyS, ?_⟩)))
      refine ⟨a, c, _, _, rfl, hD11, by omega, by omega, by omega, fun r S12 h0 h1 hx12 hD12 => ?_⟩
      refine ⟨by rw [List.length_map, sizeLine_eq]; omega, hK2 _ _ ⟨ds ++ [r], by simp, by simp [hdl], fun x hx => ?_, hx11.trans hx12, hD12⟩⟩
      rcases List.mem_append.mp hx with h | h
      · exact hdr x h
      · rw [List.mem_singleton.mp h]; exact ⟨h0, h1⟩
    rintro acc S11 ⟨ds, rfl, hdl, hdr, hx11, hD11⟩ v hv
    rw [intsD_len] at hdl hD11
    have hdl30 : ds.length = 30 := by rw [hdl]; rfl
    right
    unfold sortSetI
    dsimp only
    rw [put_same]
    dsimp only
    refine ⟨ds, rfl, by omega, fun out sm hom hoo hol hsm => ?_⟩
    have hx13 : Ext a c S10 (put S11 v (.lst (ds.map D.int))) := hx11.trans (Ext.new hv)
    have hD13 : Deck (put S11 v (.lst (ds.map D.int))) a c (0 + 4000 * i + 1 + 202 + 20 + 30) := hD11.new hv
    generalize put S11 v (.lst (ds.map D.int)) = S13 at hx13 hD13 hsm
    have hx14 : Ext a c S10 (put S13 sm (.lst (out.map D.int))) := hx13.trans (Ext.new hsm)
    have hD14 : Deck (put S13 sm (.lst (out.map D.int))) a c (0 + 4000 * (i + 1)) := (hD13.new hsm).mono (by omega)
    have hs14 : put S13 sm (.lst (out.map D.int)) sm = some (.lst (out.map D.int)) := put_same
    generalize put S13 sm (.lst (out.map D.int)) = S14 at hx14 hD14 hs14
    have hg14 := hx14 _ _ hg9 ngd.1 ngd.2
    (repeat (with_reducible (first | refine i_seq ?_ | refine i_next ?_ | refine i_break ?_ | refine i_cont ?_ | refine i_drop ?_ | refine i_ret ?_ | refine i_retN ?_ | refine i_if ?_ | refine i_asg ?_ | refine i_par ?_ | refine i_for ?_ | refine i_nm ?_ | refine i_tp ?_ | refine i_gcons ?_ | refine i_gnil ?_ | refine i_gsub ?_ | refine i_c ?_ | refine i_anil ?_ | refine i_acons ?_ | refine i_tup ?_ | refine i_lst ?_ | refine i_op ?_ | refine i_un ?_ | refine i_call ?_ | refine i_fn ?_ | refine i_test ?_ | refine i_and ?_ | refine i_or ?_ | refine i_not ?_ | refine i_ifx ?_ | refine i_andV ?_ | refine i_orV ?_ | refine i_notV ?_ | refine i_meth ?_ | refine i_sl ?_ | refine i_nopart ?_ | refine i_part ?_ | refine i_revL ?_ | refine i_sortKey ?_ | refine i_sortSet ?_ | refine i_rg1 ?_ | refine i_seqS ?_ | refine i_revR ?_ | refine i_lc ?_ | refine i_yes ?_ | refine i_seqT ?_ | refine i_seqX ?_ | refine i_addI ?_ | refine i_subI ?_ | refine i_negI ?_ | refine i_iaddI ?_ | refine i_eqI ?_ | refine i_neI ?_ | refine i_eqX ?_ | refine i_neX ?_ | refine i_ltI ?_ | refine i_gtI ?_ | refine i_leI ?_ | refine i_geI ?_ | refine i_lenT ?_ | refine i_absI ?_ | refine i_intI ?_ | refine i_lstT ?_ | refine i_slT ?_ | refine i_iteT ?_ | refine i_iteF ?_ | refine i_var (by with_unfolding_all rfl) ?_ | refine i_aug (by with_unfolding_all rfl) ?_ | refine i_ixT (by with_unfolding_all rfl) ?_ | refine ⟨_, _, rfl, ?_⟩ | refine ⟨_, rfl, ?_⟩ | refine ⟨rfl, ?_⟩ | refine ⟨i_tyS, ?_⟩)))
    refine i_seqL hs14 ?_
    refine for_inv (P := fun j l S' => (∃ x7 x8 x9 x10, l = [some (.rol (ns.map D.int)), some (.ref a), some (.int (0 + (i : Int))), some (.tup (ks.map Sh.d)), some (.ref g), y5, some (.ref sm), x7, x8, x9, x10]) ∧ Keeps S14 S') ⟨⟨_, _, _, _, rfl⟩, .refl⟩ (fun _ _ _ _ h => h.2 _ _ hs14) ?_ ?_
    · rintro j d l S15 K2 hd ⟨⟨y7, y8, y9, y10, rfl⟩, hk15⟩ hK2
      rw [List.getElem?_map, Option.map_eq_some_iff] at hd
      obtain ⟨o, ho, rfl⟩ := hd
      (repeat (with_reducible (first | refine i_seq ?_ | refine i_next ?_ | refine i_break ?_ | refine i_cont ?_ | refine i_drop ?_ | refine i_ret ?_ | refine i_retN ?_ | refine i_if ?_ | refine i_asg ?_ | refine i_par ?_ | refine i_for ?_ | refine i_nm ?_ | refine i_tp ?_ | refine i_gcons ?_ | refine i_gnil ?_ | refine i_gsub ?_ | refine i_c ?_ | refine i_anil ?_ | refine i_acons ?_ | refine i_tup ?_ | refine i_lst ?_ | refine i_op ?_ | refine i_un ?_ | refine i_call ?_ | refine i_fn ?_ | refine i_test ?_ | refine i_and ?_ | refine i_or ?_ | refine i_not ?_ | refine i_ifx ?_ | refine i_andV ?_ | refine i_orV ?_ | refine i_notV ?_ | refine i_meth ?_ | refine i_sl ?_ | refine i_nopart ?_ | refine i_part ?_ | refine i_revL ?_ | refine i_sortKey ?_ | refine i_sortSet ?_ | refine i_rg1 ?_ | refine i_seqS ?_ | refine i_revR ?_ | refine i_lc ?_ | refine i_yes ?_ | refine i_seqT ?_ | refine i_seqX ?_ | refine i_addI ?_ | refine i_subI ?_ | refine i_negI ?_ | refine i_iaddI ?_ | refine i_eqI ?_ | refine i_neI ?_ | refine i_eqX ?_ | refine i_neX ?_ | refine i_ltI ?_ | refine i_gtI ?_ | refine i_leI ?_ | refine i_geI ?_ | refine i_lenT ?_ | refine i_absI ?_ | refine i_intI ?_ | refine i_lstT ?_ | refine i_slT ?_ | refine i_iteT ?_ | refine i_iteF ?_ | refine i_var (by with_unfolding_all rfl) ?_ | refine i_aug (by with_unfolding_all rfl) ?_ | refine i_ixT (by with_unfolding_all rfl) ?_ | refine ⟨_, _, rfl, ?_⟩ | refine ⟨_, rfl, ?_⟩ | refine ⟨rfl, ?_⟩ | refine ⟨i_tyS, ?_⟩)))
      refine law_one_at (hk15 _ _ hg14) (hk15 _ _ hs14) hord (fun b hb => by have := g2 b ((hmem b).mp hb); omega) (hdr o ((hom o).mp (List.mem_of_getElem? ho))) (fun o' ho' => hdr o' ((hom o').mp ho')) (by omega) fun S16 z8 hk16 => hK2 _ _ ⟨⟨_, _, _, _, rfl⟩, hk15.trans hk16⟩
    · rintro l S15 ⟨⟨y7, y8, y9, y10, rfl⟩, hk15⟩
      exact hK _ _ ⟨⟨_, _, _, _, _, _, _, _, _, rfl⟩, hD14.keep hk15⟩
  · rintro l S2 ⟨⟨x2, x3, x4, x5, x6, x7, x8, x9, x10, rfl⟩, hD2⟩
    (repeat (with_reducible (first | refine i_seq ?_ | refine i_next ?_ | refine i_break ?_ | refine i_cont ?_ | refine i_drop ?_ | refine i_ret ?_ | refine i_retN ?_ | refine i_if ?_ | refine i_asg ?_ | refine i_par ?_ | refine i_for ?_ | refine i_nm ?_ | refine i_tp ?_ | refine i_gcons ?_ | refine i_gnil ?_ | refine i_gsub ?_ | refine i_c ?_ | refine i_anil ?_ | refine i_acons ?_ | refine i_tup ?_ | refine i_lst ?_ | refine i_op ?_ | refine i_un ?_ | refine i_call ?_ | refine i_fn ?_ | refine i_test ?_ | refine i_and ?_ | refine i_or ?_ | refine i_not ?_ | refine i_ifx ?_ | refine i_andV ?_ | refine i_orV ?_ | refine i_notV ?_ | refine i_meth ?_ | refine i_sl ?_ | refine i_nopart ?_ | refine i_part ?_ | refine i_revL ?_ | refine i_sortKey ?_ | refine i_sortSet ?_ | refine i_rg1 ?_ | refine i_seqS ?_ | refine i_revR ?_ | refine i_lc ?_ | refine i_yes ?_ | refine i_seqT ?_ | refine i_seqX ?_ | refine i_addI ?_ | refine i_subI ?_ | refine i_negI ?_ | refine i_iaddI ?_ | refine i_eqI ?_ | refine i_neI ?_ | refine i_eqX ?_ | refine i_neX ?_ | refine i_ltI ?_ | refine i_gtI ?_ | refine i_leI ?_ | refine i_geI ?_ | refine i_lenT ?_ | refine i_absI ?_ | refine i_intI ?_ | refine i_lstT ?_ | refine i_slT ?_ | refine i_iteT ?_ | refine i_iteF ?_ | refine i_var (by with_unfolding_all rfl) ?_ | refine i_aug (by with_unfolding_all rfl) ?_ | refine i_ixT (by with_unfolding_all rfl) ?_ | refine ⟨_, _, rfl, ?_⟩ | refine ⟨_, rfl, ?_⟩ | refine ⟨rfl, ?_⟩ | refine ⟨i_tyS, ?_⟩)))
    exact q S2
end AL

namespace AL
open PySem PySem.Spec PyProof.Rows L2
def n_law_rank : List Str := ["_law_maze", "_law_keys", "_law_branch", "_law_part"]
def t_law_rank (F : Spa) : TSa :=
  (aSeq (aAsg (aCall tupleA (aCons (aLc (iSeq (aOp ixA (aVar 0) (aC (.int 1)))) (gNm 2) aYes (aFn 1 F (aCons (aVar 2) aNil)) (ownIx ([("_law_branch", 2)] : List (Str × Nat)))) aNil)) (gNm 1))
  (aRet (aTup (aCons (aOp addA (aC (.int 1)) (aCall sumA (aCons (aLc (iSeq (aVar 1)) (gNm 3) aYes (aOp ixA (aVar 3) (aC (.int 0))) (ownIx ([("_law_part", 3)] : List (Str × Nat)))) aNil))) (aCons (aOp ixA (aVar 0) (aC (.int 0))) (aCons (aCall lenA (aCons (aVar 1) aNil)) (aCons (aVar 1) aNil)))))))
theorem bt_abs : bootBuiltins "abs" = some (.builtin "abs") := by decide +kernel
theorem bt_int : bootBuiltins "int" = some (.type "int") := by decide +kernel
theorem bt_len : bootBuiltins "len" = some (.builtin "len") := by decide +kernel
theorem bt_repr : bootBuiltins "repr" = some (.builtin "repr") := by decide +kernel
theorem bt_sum : bootBuiltins "sum" = some (.builtin "sum") := by decide +kernel
theorem bt_tuple : bootBuiltins "tuple" = some (.type "tuple") := by decide +kernel
theorem Ga.of {P : Program} {w : World} {K : PySem.W.Frag} {mg : Str → Option Value} {base : Heap} {x : Str} {st : Stmt} {N ps : List Str} {k : Nat} {t : TSa} {F : Spa} {f : Addr} {fd : FuncData} (Fn : Fun K x x st f fd) (Sc : FnScope N ps (defScope st))
    (hbody : ∀ (f : Addr) (cdv : Value) (A : Around) (outer : List Env) (s : Shared) (H : Hp) (E : XK), RoomG k (A.deeper (envOfC x (defScope st) s.heap.objs.size f cdv)) →
      ASs (cxOf CX0 P w K mg base N x (defScope st) f cdv A outer s H E).nox (defBody st) t)
    (hF : ∀ ds S Q, ds.length = ps.length → F ds S Q → semA N t ds S Q) : FnG P w K mg base CX0 (k + 1) f fd ps (LF K ps.length F) :=
  fa_imp (fa_of Fn Sc fun cdv A outer s H E hr => hbody f cdv A outer s H E hr) hF
theorem Ca.none {P : Program} {w : World} {K : PySem.W.Frag} {mg : Str → Option Value} {base : Heap} {x : Str} {st : Stmt} {ps : List Str} {k : Nat} {F : Spa} (D : Df K mg x st ps) (hF : ∀ ds S Q, F ds S Q → False) : Ca P w K mg base k x ps.length F := by
  obtain ⟨f, fd, Fn, m, b⟩ := D.ex
  exact ⟨f, fd, ps, ⟨fun vs H Q E h => h.1, fun A outer s H args us vs Q E hr e hb hv h => by obtain ⟨_, ds, S, Qa, _, _, g, _⟩ := h; exact (hF ds S Qa g).elim⟩, m, Fn.kp, b⟩
def top (i : Nat) : Stmt := PySem.Challenge.pw_anymaze_k33_whole_order_of_mazes.main.body.getD i (.Pass ⟨0, 0, 0, 0⟩)
structure Bi (mg : Str → Option Value) : Prop where
  b_abs : mg "abs" = none
  b_int : mg "int" = none
  b_len : mg "len" = none
  b_range : mg "range" = none
  b_repr : mg "repr" = none
  b_set : mg "set" = none
  b_sorted : mg "sorted" = none
  b_sum : mg "sum" = none
  b_tuple : mg "tuple" = none
section
variable {P : Program} {w : World} {K : PySem.W.Frag} {mg : Str → Option Value} {base : Heap}
abbrev s_key_of : Stmt := top 1
theorem sc_key_of : FnScope n_key_of ["maze"] (defScope s_key_of) := ⟨rfl, rfl, rfl, by decide +kernel, rfl, by decide +kernel, by decide +kernel⟩
theorem d_key_of {k : Nat} {F : Spa} (Dd : Df K mg "key_of" s_key_of ["maze"]) (B : Bi mg) (c_key_of : Ca P w K mg base k "key_of" 1 F)
    {G : Spa} (hF : ∀ ds S Q, ds.length = 1 → G ds S Q → semA n_key_of (t_key_of F) ds S Q) : Ca P w K mg base (k + 1) "key_of" 1 G := by
  refine Ca.of (t := t_key_of F) Dd sc_key_of (fun f cdv A outer s H E hr => ?_) hF
  exact (ass_cons (as_set 1 sc_key_of.nd (ae_callTy ca_tuple (by rfl) (B.b_tuple) bt_tuple (aa_cons (ae_lc (own := ([("branch", 2)] : List (Str × Nat))) rfl sc_key_of.nd (ai_seq (ae_ix (ia_ix hr) (ae_var 0) ae_int)) (blkOk_by (show blkC n_key_of (defScope s_key_of) _ _ = true by decide +kernel)) (fun s2 H2 C2 cl2 fp2 => (ago_name 2 sc_key_of.nd)) (fun s2 H2 C2 cl2 fp2 => ats_nil) (fun s2 H2 C2 cl2 fp2 => (ae_ca (hj := Nat.le_refl _) c_key_of hr (aa_cons (ae_var 2) aa_nil)))) aa_nil)))
      (ass_one (as_ret (ae_tup (aa_cons (ae_op oa_add ae_int (ae_callB (ca_sum rfl) (by rfl) (B.b_sum) bt_sum (aa_cons (ae_lc (own := ([("key", 3)] : List (Str × Nat))) rfl sc_key_of.nd (ai_seq (ae_var 1)) (blkOk_by (show blkC n_key_of (defScope s_key_of) _ _ = true by decide +kernel)) (fun s2 H2 C2 cl2 fp2 => (ago_name 3 sc_key_of.nd)) (fun s2 H2 C2 cl2 fp2 => ats_nil) (fun s2 H2 C2 cl2 fp2 => (ae_ix (ia_ix hr) (ae_var 3) ae_int))) aa_nil))) (aa_cons (ae_ix (ia_ix hr) (ae_var 0) ae_int) (aa_cons (ae_callB ca_len (by rfl) (B.b_len) bt_len (aa_cons (ae_var 1) aa_nil)) (aa_cons (ae_var 1) aa_nil))))))))
abbrev s_is_ahead : Stmt := top 2
theorem sc_is_ahead : FnScope n_is_ahead ["one", "other"] (defScope s_is_ahead) := ⟨rfl, rfl, rfl, by decide +kernel, rfl, by decide +kernel, by decide +kernel⟩
theorem d_is_ahead {k : Nat} (Dd : Df K mg "is_ahead" s_is_ahead ["one", "other"]) (c_key_of : Ca P w K mg base k "key_of" 1 sp_key_of)
    {G : Spa} (hF : ∀ ds S Q, ds.length = 2 → G ds S Q → semA n_is_ahead (t_is_ahead) ds S Q) : Ca P w K mg base (k + 1) "is_ahead" 2 G := by
  refine Ca.of (t := t_is_ahead) Dd sc_is_ahead (fun f cdv A outer s H E hr => ?_) hF
  exact (ass_one (as_ret (ae_cmp (oa_lt hr) (ae_ca (hj := Nat.le_refl _) c_key_of hr (aa_cons (ae_var 0) aa_nil)) (ae_ca (hj := Nat.le_refl _) c_key_of hr (aa_cons (ae_var 1) aa_nil)))))
abbrev s_law_deck : Stmt := top 4
theorem sc_law_deck : FnScope n_law_deck ["_law_script"] (defScope s_law_deck) := ⟨rfl, rfl, rfl, by decide +kernel, rfl, by decide +kernel, by decide +kernel⟩
theorem d_law_deck {k : Nat} (Dd : Df K mg "_law_deck" s_law_deck ["_law_script"]) (B : Bi mg)
    {G : Spa} (hF : ∀ ds S Q, ds.length = 1 → G ds S Q → semA n_law_deck (t_law_deck) ds S Q) : Ca P w K mg base (k + 1) "_law_deck" 1 G := by
  refine Ca.of (t := t_law_deck) Dd sc_law_deck (fun f cdv A outer s H E hr => ?_) hF
  exact (ass_one (as_ret (ae_lst (aa_cons (ae_lc (own := ([("_law_cell", 1)] : List (Str × Nat))) rfl sc_law_deck.nd (ai_seq (ae_slice (ae_var 0) apo_none (apo_some ae_int))) (blkOk_by (show blkC n_law_deck (defScope s_law_deck) _ _ = true by decide +kernel)) (fun s2 H2 C2 cl2 fp2 => (ago_name 1 sc_law_deck.nd)) (fun s2 H2 C2 cl2 fp2 => ats_nil) (fun s2 H2 C2 cl2 fp2 => (ae_callB ca_abs (by rfl) (B.b_abs) bt_abs (aa_cons (ae_var 1) aa_nil)))) (aa_cons ae_int aa_nil)))))
abbrev s_law_draw : Stmt := top 5
theorem sc_law_draw : FnScope n_law_draw ["_law_deck_here", "_law_many"] (defScope s_law_draw) := ⟨rfl, rfl, rfl, by decide +kernel, rfl, by decide +kernel, by decide +kernel⟩
theorem d_law_draw {k : Nat} (Dd : Df K mg "_law_draw" s_law_draw ["_law_deck_here", "_law_many"]) (B : Bi mg)
    {G : Spa} (hF : ∀ ds S Q, ds.length = 2 → G ds S Q → semA n_law_draw (t_law_draw) ds S Q) : Ca P w K mg base (k + 1) "_law_draw" 2 G := by
  refine Ca.of (t := t_law_draw) Dd sc_law_draw (fun f cdv A outer s H E hr => ?_) hF
  exact (ass_cons (as_asg (ae_op oa_add (ae_ix (ia_ix hr) (ae_var 0) ae_int) ae_int) (ag_sub hr (ae_var 0) ae_int))
      (ass_cons (as_asg (ae_tup (aa_cons ae_int (aa_cons (ae_un ua_neg ae_int) aa_nil))) (ag_tup rfl (ags_cons (ag_name 3 sc_law_draw.nd) (ags_cons (ag_name 4 sc_law_draw.nd) ags_nil))))
      (ass_cons (as_if (at_cmp (oa_gt hr) (ae_callB ca_len (by rfl) (B.b_len) bt_len (aa_cons (ae_ix (ia_ix hr) (ae_var 0) ae_int) aa_nil)) ae_int) (ass_cons (as_set 4 sc_law_draw.nd (ae_op oa_mod (ae_callTy ca_int (by rfl) (B.b_int) bt_int (aa_cons (ae_ix (ia_ix hr) (ae_var 0) ae_int) aa_nil)) (ae_callB ca_len (by rfl) (B.b_len) bt_len (aa_cons (ae_ix (ia_ix hr) (ae_var 0) ae_int) aa_nil))))
      (ass_one (as_set 3 sc_law_draw.nd (ae_ix (ia_ix hr) (ae_ix (ia_ix hr) (ae_var 0) ae_int) (ae_var 4))))) ass_nil)
      (ass_cons (as_if (at_cmp (oa_ge hr) (ae_var 3) (ae_op oa_pow ae_int ae_int)) (ass_cons (as_asg (ae_op oa_divW (ae_callTy ca_int (by rfl) (B.b_int) bt_int (aa_cons (ae_var 3) aa_nil)) (ae_var 1)) (ag_sub hr (ae_ix (ia_ix hr) (ae_var 0) ae_int) (ae_var 4)))
      (ass_one (as_ret (ae_op oa_mod (ae_callTy ca_int (by rfl) (B.b_int) bt_int (aa_cons (ae_var 3) aa_nil)) (ae_var 1))))) ass_nil)
      (ass_cons (as_set 2 sc_law_draw.nd (ae_op oa_add (ae_op oa_add (ae_op oa_mod (ae_callTy ca_int (by rfl) (B.b_int) bt_int (aa_cons (ae_var 3) aa_nil)) ae_int) (ae_op oa_mul ae_int (ae_ix (ia_ix hr) (ae_var 0) ae_int))) ae_int))
      (ass_one (as_ret (ae_op oa_mod (ae_callTy ca_int (by rfl) (B.b_int) bt_int (aa_cons (ae_op oa_mod (ae_callTy ca_int (by rfl) (B.b_int) bt_int (aa_cons (ae_op oa_pow (ae_var 2) ae_int) aa_nil)) ae_int) aa_nil)) (ae_var 1)))))))))
abbrev s_law_one : Stmt := top 6
theorem sc_law_one : FnScope n_law_one ["_law_deck_here", "_law_items"] (defScope s_law_one) := ⟨rfl, rfl, rfl, by decide +kernel, rfl, by decide +kernel, by decide +kernel⟩
theorem d_law_one {k : Nat} (Dd : Df K mg "_law_one" s_law_one ["_law_deck_here", "_law_items"]) (B : Bi mg) (c_law_draw : Ca P w K mg base k "_law_draw" 2 sp_law_draw)
    {G : Spa} (hF : ∀ ds S Q, ds.length = 2 → G ds S Q → semA n_law_one (t_law_one) ds S Q) : Ca P w K mg base (k + 1) "_law_one" 2 G := by
  refine Ca.of (t := t_law_one) Dd sc_law_one (fun f cdv A outer s H E hr => ?_) hF
  exact (ass_one (as_ret (ae_ix (ia_ix hr) (ae_var 1) (ae_ca (hj := Nat.le_refl _) c_law_draw hr (aa_cons (ae_var 0) (aa_cons (ae_callB ca_len (by rfl) (B.b_len) bt_len (aa_cons (ae_var 1) aa_nil)) aa_nil))))))
abbrev s_law_signs : Stmt := top 7
theorem sc_law_signs : FnScope n_law_signs ["_law_deck_here", "_law_many"] (defScope s_law_signs) := ⟨rfl, rfl, rfl, by decide +kernel, rfl, by decide +kernel, by decide +kernel⟩
theorem d_law_signs {k : Nat} (Dd : Df K mg "_law_signs" s_law_signs ["_law_deck_here", "_law_many"]) (B : Bi mg) (c_law_draw : Ca P w K mg base k "_law_draw" 2 sp_law_draw) (c_law_one : Ca P w K mg base k "_law_one" 2 sp_law_one)
    {G : Spa} (hF : ∀ ds S Q, ds.length = 2 → G ds S Q → semA n_law_signs (t_law_signs) ds S Q) : Ca P w K mg base (k + 1) "_law_signs" 2 G := by
  refine Ca.of (t := t_law_signs) Dd sc_law_signs (fun f cdv A outer s H E hr => ?_) hF
  exact (ass_cons (as_set 2 sc_law_signs.nd ae_str)
      (ass_cons (as_set 3 sc_law_signs.nd (ae_meth PySem.F.plainAttrs_str PySem.F.slot_str_join PySem.F.type_str_join ma_join ae_str (aa_cons (ae_lc (own := ([("_law_k", 5)] : List (Str × Nat))) rfl sc_law_signs.nd (ai_range1 (by rfl) (B.b_range) (aa_cons (ae_ca (hj := Nat.le_refl _) c_law_draw hr (aa_cons (ae_var 0) (aa_cons ae_int aa_nil))) aa_nil)) (blkOk_by (show blkC n_law_signs (defScope s_law_signs) _ _ = true by decide +kernel)) (fun s2 H2 C2 cl2 fp2 => (ago_name 5 sc_law_signs.nd)) (fun s2 H2 C2 cl2 fp2 => ats_nil) (fun s2 H2 C2 cl2 fp2 => (ae_ca (hj := Nat.le_refl _) c_law_one hr (aa_cons (ae_var 0) (aa_cons (ae_var 2) aa_nil))))) aa_nil)))
      (ass_cons (as_set 4 sc_law_signs.nd (ae_meth PySem.F.plainAttrs_str PySem.F.slot_str_join PySem.F.type_str_join ma_join ae_str (aa_cons (ae_lc (own := ([("_law_k", 5)] : List (Str × Nat))) rfl sc_law_signs.nd (ai_range1 (by rfl) (B.b_range) (aa_cons (ae_ca (hj := Nat.le_refl _) c_law_draw hr (aa_cons (ae_var 0) (aa_cons ae_int aa_nil))) aa_nil)) (blkOk_by (show blkC n_law_signs (defScope s_law_signs) _ _ = true by decide +kernel)) (fun s2 H2 C2 cl2 fp2 => (ago_name 5 sc_law_signs.nd)) (fun s2 H2 C2 cl2 fp2 => ats_nil) (fun s2 H2 C2 cl2 fp2 => (ae_ca (hj := Nat.le_refl _) c_law_one hr (aa_cons (ae_var 0) (aa_cons (ae_var 2) aa_nil))))) aa_nil)))
      (ass_one (as_ret (ae_lc (own := ([("_law_k", 5)] : List (Str × Nat))) rfl sc_law_signs.nd (ai_range1 (by rfl) (B.b_range) (aa_cons (ae_var 1) aa_nil)) (blkOk_by (show blkC n_law_signs (defScope s_law_signs) _ _ = true by decide +kernel)) (fun s2 H2 C2 cl2 fp2 => (ago_name 5 sc_law_signs.nd)) (fun s2 H2 C2 cl2 fp2 => ats_nil) (fun s2 H2 C2 cl2 fp2 => (ae_op oa_add (ae_op oa_add (ae_var 3) (ae_ix (ia_ix hr) ae_str (ae_var 5))) (ae_var 4)))))))))
abbrev s_law_kind : Stmt := top 8
theorem sc_law_kind : FnScope n_law_kind ["_law_deck_here", "_law_signs_here", "_law_most"] (defScope s_law_kind) := ⟨rfl, rfl, rfl, by decide +kernel, rfl, by decide +kernel, by decide +kernel⟩
theorem d_law_kind {k : Nat} (Dd : Df K mg "_law_kind" s_law_kind ["_law_deck_here", "_law_signs_here", "_law_most"]) (B : Bi mg) (c_law_one : Ca P w K mg base k "_law_one" 2 sp_law_one) (c_law_draw : Ca P w K mg base k "_law_draw" 2 sp_law_draw)
    {G : Spa} (hF : ∀ ds S Q, ds.length = 3 → G ds S Q → semA n_law_kind (t_law_kind) ds S Q) : Ca P w K mg base (k + 1) "_law_kind" 3 G := by
  refine Ca.of (t := t_law_kind) Dd sc_law_kind (fun f cdv A outer s H E hr => ?_) hF
  exact (ass_cons (as_set 3 sc_law_kind.nd (ae_lst (aa_cons (ae_tup (aa_cons (ae_ca (hj := Nat.le_refl _) c_law_one hr (aa_cons (ae_var 0) (aa_cons (ae_var 1) aa_nil))) (aa_cons ae_int aa_nil))) aa_nil)))
      (ass_cons (as_for PassesOwn.never rfl (ai_range1 (by rfl) (B.b_range) (aa_cons (ae_op oa_add ae_int (ae_ca (hj := Nat.le_refl _) c_law_draw hr (aa_cons (ae_var 0) (aa_cons (ae_var 2) aa_nil)))) aa_nil)) (ag_name 4 sc_law_kind.nd) (ass_one (as_expr (ae_meth PySem.F.plainAttrs_list PySem.F.slot_list_append PySem.F.type_list_append ma_append (ae_var 3) (aa_cons (ae_tup (aa_cons (ae_ca (hj := Nat.le_refl _) c_law_one hr (aa_cons (ae_var 0) (aa_cons (ae_var 1) aa_nil))) (aa_cons (ae_ca (hj := Nat.le_refl _) c_law_draw hr (aa_cons (ae_var 0) (aa_cons ae_int aa_nil))) aa_nil))) aa_nil)))))
      (ass_one (as_ret (ae_callTy ca_tuple (by rfl) (B.b_tuple) bt_tuple (aa_cons (ae_sortSetB hr rfl (by rfl) (B.b_sorted) (by rfl) (B.b_set) (ae_var 3)) aa_nil))))))
abbrev s_law_all : Stmt := top 9
theorem sc_law_all : FnScope n_law_all ["_law_kind_here", "_law_bound"] (defScope s_law_all) := ⟨rfl, rfl, rfl, by decide +kernel, rfl, by decide +kernel, by decide +kernel⟩
theorem d_law_all {k : Nat} (Dd : Df K mg "_law_all" s_law_all ["_law_kind_here", "_law_bound"]) (B : Bi mg)
    {G : Spa} (hF : ∀ ds S Q, ds.length = 2 → G ds S Q → semA n_law_all (t_law_all) ds S Q) : Ca P w K mg base (k + 1) "_law_all" 2 G := by
  refine Ca.of (t := t_law_all) Dd sc_law_all (fun f cdv A outer s H E hr => ?_) hF
  exact (ass_cons (as_set 2 sc_law_all.nd (ae_lst (aa_cons (ae_lst aa_nil) aa_nil)))
      (ass_cons (as_while PassesOwn.never (AW.at (aw_and (at_cmp (oa_lt hr) (ae_callB (ca_sum rfl) (by rfl) (B.b_sum) bt_sum (aa_cons (ae_lc (own := ([("_law_row", 3)] : List (Str × Nat))) rfl sc_law_all.nd (ai_seq (ae_var 2)) (blkOk_by (show blkC n_law_all (defScope s_law_all) _ _ = true by decide +kernel)) (fun s2 H2 C2 cl2 fp2 => (ago_name 3 sc_law_all.nd)) (fun s2 H2 C2 cl2 fp2 => ats_nil) (fun s2 H2 C2 cl2 fp2 => (ae_callB ca_len (by rfl) (B.b_len) bt_len (aa_cons (ae_var 3) aa_nil)))) aa_nil)) (ae_var 1)) (aw_and1 (at_cmp (oa_lt hr) (ae_callB ca_len (by rfl) (B.b_len) bt_len (aa_cons (ae_var 2) aa_nil)) ae_int)))) (ass_cons (as_par 3 4 rfl sc_law_all.nd (aa_cons (ae_lst aa_nil) (aa_cons (ae_callB ca_len (by rfl) (B.b_len) bt_len (aa_cons (ae_var 2) aa_nil)) aa_nil)))
      (ass_cons (as_for PassesOwn.never rfl (ai_seq (ae_var 0)) (ag_tup rfl (ags_cons (ag_name 5 sc_law_all.nd) (ags_cons (ag_name 6 sc_law_all.nd) ags_nil))) (ass_cons (as_if (AW.at (aw_and (at_cmp (oa_eq hr) (ae_var 6) ae_int) (aw_and1 (at_cmp (oa_eq hr) (ae_var 4) ae_int)))) (ass_one (as_expr (ae_meth PySem.F.plainAttrs_list PySem.F.slot_list_append PySem.F.type_list_append ma_append (ae_var 3) (aa_cons (ae_tup (aa_cons (ae_var 5) (aa_cons (ae_tup aa_nil) aa_nil))) aa_nil)))) ass_nil)
      (ass_cons (as_if (at_cmp (oa_eq hr) (ae_var 6) ae_int) (ass_one (as_expr (ae_meth PySem.F.plainAttrs_list PySem.F.slot_list_extend PySem.F.type_list_extend ma_extend (ae_var 3) (aa_cons (ae_lc (own := ([("_law_one_here", 8)] : List (Str × Nat))) rfl sc_law_all.nd (ai_seq (ae_ix (ia_ix hr) (ae_var 2) (ae_op oa_sub (ae_var 4) ae_int))) (blkOk_by (show blkC n_law_all (defScope s_law_all) _ _ = true by decide +kernel)) (fun s2 H2 C2 cl2 fp2 => (ago_name 8 sc_law_all.nd)) (fun s2 H2 C2 cl2 fp2 => ats_nil) (fun s2 H2 C2 cl2 fp2 => (ae_tup (aa_cons (ae_var 5) (aa_cons (ae_tup (aa_cons (ae_var 8) aa_nil)) aa_nil))))) aa_nil)))) ass_nil)
      (ass_one (as_if (at_cmp (oa_eq hr) (ae_var 6) ae_int) (ass_one (as_for PassesOwn.never rfl (ai_range2 (by rfl) (B.b_range) (aa_cons ae_int (aa_cons (ae_op oa_sub (ae_var 4) ae_int) aa_nil))) (ag_name 7 sc_law_all.nd) (ass_one (as_for PassesOwn.never rfl (ai_seq (ae_ix (ia_ix hr) (ae_var 2) (ae_var 7))) (ag_name 8 sc_law_all.nd) (ass_one (as_expr (ae_meth PySem.F.plainAttrs_list PySem.F.slot_list_extend PySem.F.type_list_extend ma_extend (ae_var 3) (aa_cons (ae_lc (own := ([("_law_other", 9)] : List (Str × Nat))) rfl sc_law_all.nd (ai_seq (ae_ix (ia_ix hr) (ae_var 2) (ae_op oa_sub (ae_op oa_sub (ae_var 4) ae_int) (ae_var 7)))) (blkOk_by (show blkC n_law_all (defScope s_law_all) _ _ = true by decide +kernel)) (fun s2 H2 C2 cl2 fp2 => (ago_name 9 sc_law_all.nd)) (fun s2 H2 C2 cl2 fp2 => ats_nil) (fun s2 H2 C2 cl2 fp2 => (ae_tup (aa_cons (ae_var 5) (aa_cons (ae_tup (aa_cons (ae_var 8) (aa_cons (ae_var 9) aa_nil))) aa_nil))))) aa_nil)))))))) ass_nil)))))
      (ass_one (as_expr (ae_meth PySem.F.plainAttrs_list PySem.F.slot_list_append PySem.F.type_list_append ma_append (ae_var 2) (aa_cons (ae_var 3) aa_nil)))))))
      (ass_one (as_ret (ae_var 2)))))
abbrev s_law_rank : Stmt := top 10
theorem sc_law_rank : FnScope n_law_rank ["_law_maze"] (defScope s_law_rank) := ⟨rfl, rfl, rfl, by decide +kernel, rfl, by decide +kernel, by decide +kernel⟩
theorem d_law_rank {k : Nat} {F : Spa} (Dd : Df K mg "_law_rank" s_law_rank ["_law_maze"]) (B : Bi mg) (c_law_rank : Ca P w K mg base k "_law_rank" 1 F)
    {G : Spa} (hF : ∀ ds S Q, ds.length = 1 → G ds S Q → semA n_law_rank (t_law_rank F) ds S Q) : Ca P w K mg base (k + 1) "_law_rank" 1 G := by
  refine Ca.of (t := t_law_rank F) Dd sc_law_rank (fun f cdv A outer s H E hr => ?_) hF
  exact (ass_cons (as_set 1 sc_law_rank.nd (ae_callTy ca_tuple (by rfl) (B.b_tuple) bt_tuple (aa_cons (ae_lc (own := ([("_law_branch", 2)] : List (Str × Nat))) rfl sc_law_rank.nd (ai_seq (ae_ix (ia_ix hr) (ae_var 0) ae_int)) (blkOk_by (show blkC n_law_rank (defScope s_law_rank) _ _ = true by decide +kernel)) (fun s2 H2 C2 cl2 fp2 => (ago_name 2 sc_law_rank.nd)) (fun s2 H2 C2 cl2 fp2 => ats_nil) (fun s2 H2 C2 cl2 fp2 => (ae_ca (hj := Nat.le_refl _) c_law_rank hr (aa_cons (ae_var 2) aa_nil)))) aa_nil)))
      (ass_one (as_ret (ae_tup (aa_cons (ae_op oa_add ae_int (ae_callB (ca_sum rfl) (by rfl) (B.b_sum) bt_sum (aa_cons (ae_lc (own := ([("_law_part", 3)] : List (Str × Nat))) rfl sc_law_rank.nd (ai_seq (ae_var 1)) (blkOk_by (show blkC n_law_rank (defScope s_law_rank) _ _ = true by decide +kernel)) (fun s2 H2 C2 cl2 fp2 => (ago_name 3 sc_law_rank.nd)) (fun s2 H2 C2 cl2 fp2 => ats_nil) (fun s2 H2 C2 cl2 fp2 => (ae_ix (ia_ix hr) (ae_var 3) ae_int))) aa_nil))) (aa_cons (ae_ix (ia_ix hr) (ae_var 0) ae_int) (aa_cons (ae_callB ca_len (by rfl) (B.b_len) bt_len (aa_cons (ae_var 1) aa_nil)) (aa_cons (ae_var 1) aa_nil))))))))
abbrev s_law : Stmt := top 11
theorem sc_law : FnScope n_law ["_law_script"] (defScope s_law) := ⟨rfl, rfl, rfl, by decide +kernel, rfl, by decide +kernel, by decide +kernel⟩
theorem d_law {k : Nat} {f : Addr} {fd : FuncData} (Dd : Fun K "law" "law" s_law f fd) (B : Bi mg) (c_law_deck : Ca P w K mg base k "_law_deck" 1 sp_law_deck) (c_law_kind : Ca P w K mg base k "_law_kind" 3 sp_law_kind) (c_law_signs : Ca P w K mg base k "_law_signs" 2 sp_law_signs) (c_law_draw : Ca P w K mg base k "_law_draw" 2 sp_law_draw) (c_law_all : Ca P w K mg base k "_law_all" 2 sp_law_all) (c_law_rank : Ca P w K mg base k "_law_rank" 1 sp_law_rank) (c_is_ahead : Ca P w K mg base k "is_ahead" 2 sp_is_ahead)
    {G : Spa} (hF : ∀ ds S Q, ds.length = 1 → G ds S Q → semA n_law (t_law) ds S Q) : FnG P w K mg base CX0 (k + 3) f fd ["_law_script"] (LF K 1 G) := by
  refine Ga.of (t := t_law) Dd sc_law (fun f cdv A outer s H E hr => ?_) hF
  exact (ass_cons (as_set 1 sc_law.nd (ae_ca (hj := Nat.le_add_right _ 2) c_law_deck hr (aa_cons (ae_var 0) aa_nil)))
      (ass_cons (as_for PassesOwn.never rfl (ai_range1 (by rfl) (B.b_range) (aa_cons ae_int aa_nil)) (ag_name 2 sc_law.nd) (ass_cons (as_set 3 sc_law.nd (ae_ca (hj := Nat.le_add_right _ 2) c_law_kind hr (aa_cons (ae_var 1) (aa_cons (ae_ca (hj := Nat.le_add_right _ 2) c_law_signs hr (aa_cons (ae_var 1) (aa_cons (ae_op oa_add ae_int (ae_ca (hj := Nat.le_add_right _ 2) c_law_draw hr (aa_cons (ae_var 1) (aa_cons ae_int aa_nil)))) aa_nil))) (aa_cons ae_int aa_nil)))))
      (ass_cons (as_set 4 sc_law.nd (ae_lst aa_nil))
      (ass_cons (as_for PassesOwn.never rfl (ai_seq (ae_ca (hj := Nat.le_add_right _ 2) c_law_all hr (aa_cons (ae_var 3) (aa_cons ae_int aa_nil)))) (ag_name 5 sc_law.nd) (ass_one (as_expr (ae_meth PySem.F.plainAttrs_list PySem.F.slot_list_extend PySem.F.type_list_extend ma_extend (ae_var 4) (aa_cons (ae_slice (ae_var 5) apo_none (apo_some ae_int)) aa_nil)))))
      (ass_cons (as_set 4 sc_law.nd (ae_sortKey c_law_rank hr (Nat.le_refl _) (by rfl) (B.b_sorted) (ae_var 4)))
      (ass_cons (as_set 6 sc_law.nd (ae_sortSetB hr rfl (by rfl) (B.b_sorted) (by rfl) (B.b_set) (ae_lc (own := ([("_law_k", 10)] : List (Str × Nat))) rfl sc_law.nd (ai_range1 (by rfl) (B.b_range) (aa_cons ae_int aa_nil)) (blkOk_by (show blkC n_law (defScope s_law) _ _ = true by decide +kernel)) (fun s2 H2 C2 cl2 fp2 => (ago_name 10 sc_law.nd)) (fun s2 H2 C2 cl2 fp2 => ats_nil) (fun s2 H2 C2 cl2 fp2 => (ae_ca (hj := Nat.le_add_right _ 2) c_law_draw hr (aa_cons (ae_var 1) (aa_cons (ae_callB ca_len (by rfl) (B.b_len) bt_len (aa_cons (ae_var 4) aa_nil)) aa_nil)))))))
      (ass_one (as_for PassesOwn.never rfl (ai_seq (ae_var 6)) (ag_name 7 sc_law.nd) (ass_cons (by first | exact as_set 8 sc_law.nd (ae_lc (own := ([("_law_other", 9)] : List (Str × Nat))) rfl sc_law.nd (ai_seq (ae_var 6)) (blkOk_by (show blkC n_law (defScope s_law) _ _ = true by decide +kernel)) (fun s2 H2 C2 cl2 fp2 => (ago_name 9 sc_law.nd)) (fun s2 H2 C2 cl2 fp2 => ats_nil) (fun s2 H2 C2 cl2 fp2 => (ae_cmp (oa_gt hr) (ae_var 9) (ae_var 7)))) | exact as_setLc 8 (hsw := by rfl) (own := ([("_law_other", 9)] : List (Str × Nat))) rfl sc_law.nd (ai_seq (ae_var 6)) (blkOk_by (show blkC n_law (defScope s_law) _ _ = true by decide +kernel)) (fun s2 H2 C2 cl2 fp2 => (ago_name 9 sc_law.nd)) (fun s2 H2 C2 cl2 fp2 => ats_nil) (fun s2 H2 C2 cl2 fp2 => (ae_cmp (oa_gt hr) (ae_var 9) (ae_var 7))))
      (ass_cons (as_if (at_cmp (oa_ne hr) (ae_callB (ca_repr hr) (by rfl) (B.b_repr) bt_repr (aa_cons (ae_lc (own := ([("_law_other", 9)] : List (Str × Nat))) rfl sc_law.nd (ai_seq (ae_var 6)) (blkOk_by (show blkC n_law (defScope s_law) _ _ = true by decide +kernel)) (fun s2 H2 C2 cl2 fp2 => (ago_name 9 sc_law.nd)) (fun s2 H2 C2 cl2 fp2 => ats_nil) (fun s2 H2 C2 cl2 fp2 => (ae_ca (hj := Nat.le_add_right _ 2) c_is_ahead hr (aa_cons (ae_ix (ia_ix hr) (ae_var 4) (ae_var 7)) (aa_cons (ae_ix (ia_ix hr) (ae_var 4) (ae_var 9)) aa_nil))))) aa_nil)) (ae_callB (ca_repr hr) (by rfl) (B.b_repr) bt_repr (aa_cons (ae_var 8) aa_nil))) (ass_one (as_ret ae_bl)) ass_nil)
      (ass_one (as_if (at_cmp (oa_ne hr) (ae_callB (ca_repr hr) (by rfl) (B.b_repr) bt_repr (aa_cons (ae_lc (own := ([("_law_other", 9)] : List (Str × Nat))) rfl sc_law.nd (ai_seq (ae_var 6)) (blkOk_by (show blkC n_law (defScope s_law) _ _ = true by decide +kernel)) (fun s2 H2 C2 cl2 fp2 => (ago_name 9 sc_law.nd)) (fun s2 H2 C2 cl2 fp2 => ats_nil) (fun s2 H2 C2 cl2 fp2 => (ae_ca (hj := Nat.le_add_right _ 2) c_is_ahead hr (aa_cons (ae_ix (ia_ix hr) (ae_var 4) (ae_var 9)) (aa_cons (ae_ix (ia_ix hr) (ae_var 4) (ae_var 7)) aa_nil))))) aa_nil)) (ae_callB (ca_repr hr) (by rfl) (B.b_repr) bt_repr (aa_cons (ae_lc (own := ([("_law_other", 9)] : List (Str × Nat))) rfl sc_law.nd (ai_seq (ae_var 6)) (blkOk_by (show blkC n_law (defScope s_law) _ _ = true by decide +kernel)) (fun s2 H2 C2 cl2 fp2 => (ago_name 9 sc_law.nd)) (fun s2 H2 C2 cl2 fp2 => ats_nil) (fun s2 H2 C2 cl2 fp2 => (ae_cmp (oa_lt hr) (ae_var 9) (ae_var 7)))) aa_nil))) (ass_one (as_ret ae_bl)) ass_nil))))))))))))
      (ass_one (as_ret ae_bl))))
end

section
variable {P : Program} {w : World} {K : PySem.W.Frag} {mg : Str → Option Value} {base : Heap}
theorem all_ca (D_key_of : Df K mg "key_of" s_key_of ["maze"]) (D_is_ahead : Df K mg "is_ahead" s_is_ahead ["one", "other"]) (D_law_deck : Df K mg "_law_deck" s_law_deck ["_law_script"]) (D_law_draw : Df K mg "_law_draw" s_law_draw ["_law_deck_here", "_law_many"]) (D_law_one : Df K mg "_law_one" s_law_one ["_law_deck_here", "_law_items"]) (D_law_signs : Df K mg "_law_signs" s_law_signs ["_law_deck_here", "_law_many"]) (D_law_kind : Df K mg "_law_kind" s_law_kind ["_law_deck_here", "_law_signs_here", "_law_most"]) (D_law_all : Df K mg "_law_all" s_law_all ["_law_kind_here", "_law_bound"]) (D_law_rank : Df K mg "_law_rank" s_law_rank ["_law_maze"]) (B : Bi mg) {f : Addr} {fd : FuncData} (Dd : Fun K "law" "law" s_law f fd) : FnG P w K mg base CX0 104 f fd ["_law_script"] (LF K 1 sp_law) := by
  have r_key_of : ∀ n, n ≤ 100 → Ca P w K mg base n "key_of" 1 (sp_key n) := by
    intro n
    induction n with
    | zero => intro _; exact Ca.none D_key_of fun ds S Q h => by obtain ⟨m, _, hm, _⟩ := h; have := Mz.size_pos m; omega
    | succ n ih => intro hn; exact d_key_of D_key_of B (ih (by omega)) (pl_key_of n (by omega))
  have c_key_of := r_key_of 100 (Nat.le_refl _)
  have c_is_ahead : Ca P w K mg base 101 "is_ahead" 2 sp_is_ahead := d_is_ahead (k := 100) D_is_ahead (c_key_of.mono (by decide)) pl_is_ahead
  have c_law_deck : Ca P w K mg base 1 "_law_deck" 1 sp_law_deck := d_law_deck (k := 0) D_law_deck B  pl_law_deck
  have c_law_draw : Ca P w K mg base 1 "_law_draw" 2 sp_law_draw := d_law_draw (k := 0) D_law_draw B  pl_law_draw
  have c_law_one : Ca P w K mg base 2 "_law_one" 2 sp_law_one := d_law_one (k := 1) D_law_one B (c_law_draw.mono (by decide)) pl_law_one
  have c_law_signs : Ca P w K mg base 3 "_law_signs" 2 sp_law_signs := d_law_signs (k := 2) D_law_signs B (c_law_draw.mono (by decide)) (c_law_one.mono (by decide)) pl_law_signs
  have c_law_kind : Ca P w K mg base 3 "_law_kind" 3 sp_law_kind := d_law_kind (k := 2) D_law_kind B (c_law_one.mono (by decide)) (c_law_draw.mono (by decide)) pl_law_kind
  have c_law_all : Ca P w K mg base 1 "_law_all" 2 sp_law_all := d_law_all (k := 0) D_law_all B  pl_law_all
  have r_law_rank : ∀ n, n ≤ 100 → Ca P w K mg base n "_law_rank" 1 (sp_key n) := by
    intro n
    induction n with
    | zero => intro _; exact Ca.none D_law_rank fun ds S Q h => by obtain ⟨m, _, hm, _⟩ := h; have := Mz.size_pos m; omega
    | succ n ih => intro hn; exact d_law_rank D_law_rank B (ih (by omega)) (pl_key_of n (by omega))
  have c_law_rank := r_law_rank 100 (Nat.le_refl _)
  exact d_law (k := 101) Dd B (c_law_deck.mono (by decide)) (c_law_kind.mono (by decide)) (c_law_signs.mono (by decide)) (c_law_draw.mono (by decide)) (c_law_all.mono (by decide)) (c_law_rank.mono (by decide)) (c_is_ahead.mono (by decide)) pl_law
end
theorem all_mk {l : PySem.W.OpenLaw} {w : World} {K : PySem.W.Frag} {h : Heap} {mg : Str → Option Value} {fa f0 f1 f2 f3 f4 f5 f6 f7 f8 f9 : Addr} (X : K.In h) (G : h.Ns mainGlobals mg) (hfa : mg "law" = some (.ref fa))
    {od0 an0 od1 an1 od2 an2 od3 an3 od4 an4 od5 an5 od6 an6 od7 an7 od8 an8 od9 an9 : Option Addr} {sl0 sl1 sl2 sl3 sl4 sl5 sl6 sl7 sl8 sl9 : Array (Option Value)} {oc0 kV0 dc0 pm0 cd0 ct0 oc1 kV1 dc1 pm1 cd1 ct1 oc2 kV2 dc2 pm2 cd2 ct2 oc3 kV3 dc3 pm3 cd3 ct3 oc4 kV4 dc4 pm4 cd4 ct4 oc5 kV5 dc5 pm5 cd5 ct5 oc6 kV6 dc6 pm6 cd6 ct6 oc7 kV7 dc7 pm7 cd7 ct7 oc8 kV8 dc8 pm8 cd8 ct8 oc9 kV9 dc9 pm9 cd9 ct9 : Value}
    (a0 : PySem.W.nsIn K mainGlobals "key_of" = some (some (.ref f0)))
    (l0 : K.lookup f0 = some ⟨oc0, od0, .func (PySem.W.fnOf "key_of" "key_of" (defArgs s_key_of) (defBody s_key_of) (defScope s_key_of) .none kV0 dc0 pm0 an0 cd0 ct0), sl0⟩)
    (c0 : PySem.W.codeIn K cd0 "key_of" = true) (k0 : PySem.W.keepIn K (.ref f0) = true)
    (a1 : PySem.W.nsIn K mainGlobals "is_ahead" = some (some (.ref f1)))
    (l1 : K.lookup f1 = some ⟨oc1, od1, .func (PySem.W.fnOf "is_ahead" "is_ahead" (defArgs s_is_ahead) (defBody s_is_ahead) (defScope s_is_ahead) .none kV1 dc1 pm1 an1 cd1 ct1), sl1⟩)
    (c1 : PySem.W.codeIn K cd1 "is_ahead" = true) (k1 : PySem.W.keepIn K (.ref f1) = true)
    (a2 : PySem.W.nsIn K mainGlobals "_law_deck" = some (some (.ref f2)))
    (l2 : K.lookup f2 = some ⟨oc2, od2, .func (PySem.W.fnOf "_law_deck" "_law_deck" (defArgs s_law_deck) (defBody s_law_deck) (defScope s_law_deck) .none kV2 dc2 pm2 an2 cd2 ct2), sl2⟩)
    (c2 : PySem.W.codeIn K cd2 "_law_deck" = true) (k2 : PySem.W.keepIn K (.ref f2) = true)
    (a3 : PySem.W.nsIn K mainGlobals "_law_draw" = some (some (.ref f3)))
    (l3 : K.lookup f3 = some ⟨oc3, od3, .func (PySem.W.fnOf "_law_draw" "_law_draw" (defArgs s_law_draw) (defBody s_law_draw) (defScope s_law_draw) .none kV3 dc3 pm3 an3 cd3 ct3), sl3⟩)
    (c3 : PySem.W.codeIn K cd3 "_law_draw" = true) (k3 : PySem.W.keepIn K (.ref f3) = true)
    (a4 : PySem.W.nsIn K mainGlobals "_law_one" = some (some (.ref f4)))
    (l4 : K.lookup f4 = some ⟨oc4, od4, .func (PySem.W.fnOf "_law_one" "_law_one" (defArgs s_law_one) (defBody s_law_one) (defScope s_law_one) .none kV4 dc4 pm4 an4 cd4 ct4), sl4⟩)
    (c4 : PySem.W.codeIn K cd4 "_law_one" = true) (k4 : PySem.W.keepIn K (.ref f4) = true)
    (a5 : PySem.W.nsIn K mainGlobals "_law_signs" = some (some (.ref f5)))
    (l5 : K.lookup f5 = some ⟨oc5, od5, .func (PySem.W.fnOf "_law_signs" "_law_signs" (defArgs s_law_signs) (defBody s_law_signs) (defScope s_law_signs) .none kV5 dc5 pm5 an5 cd5 ct5), sl5⟩)
    (c5 : PySem.W.codeIn K cd5 "_law_signs" = true) (k5 : PySem.W.keepIn K (.ref f5) = true)
    (a6 : PySem.W.nsIn K mainGlobals "_law_kind" = some (some (.ref f6)))
    (l6 : K.lookup f6 = some ⟨oc6, od6, .func (PySem.W.fnOf "_law_kind" "_law_kind" (defArgs s_law_kind) (defBody s_law_kind) (defScope s_law_kind) .none kV6 dc6 pm6 an6 cd6 ct6), sl6⟩)
    (c6 : PySem.W.codeIn K cd6 "_law_kind" = true) (k6 : PySem.W.keepIn K (.ref f6) = true)
    (a7 : PySem.W.nsIn K mainGlobals "_law_all" = some (some (.ref f7)))
    (l7 : K.lookup f7 = some ⟨oc7, od7, .func (PySem.W.fnOf "_law_all" "_law_all" (defArgs s_law_all) (defBody s_law_all) (defScope s_law_all) .none kV7 dc7 pm7 an7 cd7 ct7), sl7⟩)
    (c7 : PySem.W.codeIn K cd7 "_law_all" = true) (k7 : PySem.W.keepIn K (.ref f7) = true)
    (a8 : PySem.W.nsIn K mainGlobals "_law_rank" = some (some (.ref f8)))
    (l8 : K.lookup f8 = some ⟨oc8, od8, .func (PySem.W.fnOf "_law_rank" "_law_rank" (defArgs s_law_rank) (defBody s_law_rank) (defScope s_law_rank) .none kV8 dc8 pm8 an8 cd8 ct8), sl8⟩)
    (c8 : PySem.W.codeIn K cd8 "_law_rank" = true) (k8 : PySem.W.keepIn K (.ref f8) = true)
    (a9 : PySem.W.nsIn K mainGlobals "law" = some (some (.ref f9)))
    (l9 : K.lookup f9 = some ⟨oc9, od9, .func (PySem.W.fnOf "law" "law" (defArgs s_law) (defBody s_law) (defScope s_law) .none kV9 dc9 pm9 an9 cd9 ct9), sl9⟩)
    (c9 : PySem.W.codeIn K cd9 "law" = true) (k9 : PySem.W.keepIn K (.ref f9) = true)
    (z_abs : PySem.W.nsIn K mainGlobals "abs" = some none)
    (z_int : PySem.W.nsIn K mainGlobals "int" = some none)
    (z_len : PySem.W.nsIn K mainGlobals "len" = some none)
    (z_range : PySem.W.nsIn K mainGlobals "range" = some none)
    (z_repr : PySem.W.nsIn K mainGlobals "repr" = some none)
    (z_set : PySem.W.nsIn K mainGlobals "set" = some none)
    (z_sorted : PySem.W.nsIn K mainGlobals "sorted" = some none)
    (z_sum : PySem.W.nsIn K mainGlobals "sum" = some none)
    (z_tuple : PySem.W.nsIn K mainGlobals "tuple" = some none) :
    ∃ fd : FuncData, (∀ (s : Shared) (v : Value), BindsTo s fd ⟨[v], []⟩ [("_law_script", v)]) ∧ ∀ base : Heap, K.In base → base.Ns mainGlobals mg → FnG l.prog w K mg base CX0 104 fa fd ["_law_script"] (LF K 1 sp_law) := by
  have e := hfa.symm.trans (PySem.W.mg_of X G a9)
  cases e
  have D0 : Df K mg "key_of" s_key_of ["maze"] := Df.mk' X G a0 l0 c0 k0 fun _ _ _ _ _ _ us hl => match us, hl with | [_], _ => rfl
  have D1 : Df K mg "is_ahead" s_is_ahead ["one", "other"] := Df.mk' X G a1 l1 c1 k1 fun _ _ _ _ _ _ us hl => match us, hl with | [_, _], _ => rfl
  have D2 : Df K mg "_law_deck" s_law_deck ["_law_script"] := Df.mk' X G a2 l2 c2 k2 fun _ _ _ _ _ _ us hl => match us, hl with | [_], _ => rfl
  have D3 : Df K mg "_law_draw" s_law_draw ["_law_deck_here", "_law_many"] := Df.mk' X G a3 l3 c3 k3 fun _ _ _ _ _ _ us hl => match us, hl with | [_, _], _ => rfl
  have D4 : Df K mg "_law_one" s_law_one ["_law_deck_here", "_law_items"] := Df.mk' X G a4 l4 c4 k4 fun _ _ _ _ _ _ us hl => match us, hl with | [_, _], _ => rfl
  have D5 : Df K mg "_law_signs" s_law_signs ["_law_deck_here", "_law_many"] := Df.mk' X G a5 l5 c5 k5 fun _ _ _ _ _ _ us hl => match us, hl with | [_, _], _ => rfl
  have D6 : Df K mg "_law_kind" s_law_kind ["_law_deck_here", "_law_signs_here", "_law_most"] := Df.mk' X G a6 l6 c6 k6 fun _ _ _ _ _ _ us hl => match us, hl with | [_, _, _], _ => rfl
  have D7 : Df K mg "_law_all" s_law_all ["_law_kind_here", "_law_bound"] := Df.mk' X G a7 l7 c7 k7 fun _ _ _ _ _ _ us hl => match us, hl with | [_, _], _ => rfl
  have D8 : Df K mg "_law_rank" s_law_rank ["_law_maze"] := Df.mk' X G a8 l8 c8 k8 fun _ _ _ _ _ _ us hl => match us, hl with | [_], _ => rfl
  have B : Bi mg := ⟨PySem.W.mg_none_of X G z_abs, PySem.W.mg_none_of X G z_int, PySem.W.mg_none_of X G z_len, PySem.W.mg_none_of X G z_range, PySem.W.mg_none_of X G z_repr, PySem.W.mg_none_of X G z_set, PySem.W.mg_none_of X G z_sorted, PySem.W.mg_none_of X G z_sum, PySem.W.mg_none_of X G z_tuple⟩
  exact ⟨_, fun s v => .of_eq rfl, fun base _ _ => all_ca D0 D1 D2 D3 D4 D5 D6 D7 D8 B (fun_mk (st := s_law) l9 c9 k9)⟩
end AL
open PySem PySem.W PyProof.Rows in
set_option maxRecDepth 100000 in
set_option maxHeartbeats 0 in
theorem PySem.Challenge.cw_anymaze_k33_whole_order_of_mazes_holds : PySem.Challenge.rw_anymaze_k33_whole_order_of_mazes.Holds := by
  w_on; o_law; k_head; (case hw => w_witness2)
  k_fill
  refine AL.walkG (l := PySem.Challenge.rw_anymaze_k33_whole_order_of_mazes) (k := 104) (F0 := AL.sp_law) (x := "_law_script") rfl (by decide) rfl ⟨⟨rfl, by decide, by decide⟩, rfl⟩ (fun w h Y => PySem.W.kIn_of Y) ?F (fun ns hl => ⟨ns, rfl, fun _ => rfl⟩)
  case F =>
    intro w mg fa h KX G hmg
    refine' AL.all_mk KX G hmg ?a0 ?l0 ?c0 ?k0 ?a1 ?l1 ?c1 ?k1 ?a2 ?l2 ?c2 ?k2 ?a3 ?l3 ?c3 ?k3 ?a4 ?l4 ?c4 ?k4 ?a5 ?l5 ?c5 ?k5 ?a6 ?l6 ?c6 ?k6 ?a7 ?l7 ?c7 ?k7 ?a8 ?l8 ?c8 ?k8 ?a9 ?l9 ?c9 ?k9 ?z_abs ?z_int ?z_len ?z_range ?z_repr ?z_set ?z_sorted ?z_sum ?z_tuple
    (case a0 => k_is)
    (case l0 => k_is)
    (case c0 => k_is)
    (case k0 => k_is)
    (case a1 => k_is)
    (case l1 => k_is)
    (case c1 => k_is)
    (case k1 => k_is)
    (case a2 => k_is)
    (case l2 => k_is)
    (case c2 => k_is)
    (case k2 => k_is)
    (case a3 => k_is)
    (case l3 => k_is)
    (case c3 => k_is)
    (case k3 => k_is)
    (case a4 => k_is)
    (case l4 => k_is)
    (case c4 => k_is)
    (case k4 => k_is)
    (case a5 => k_is)
    (case l5 => k_is)
    (case c5 => k_is)
    (case k5 => k_is)
    (case a6 => k_is)
    (case l6 => k_is)
    (case c6 => k_is)
    (case k6 => k_is)
    (case a7 => k_is)
    (case l7 => k_is)
    (case c7 => k_is)
    (case k7 => k_is)
    (case a8 => k_is)
    (case l8 => k_is)
    (case c8 => k_is)
    (case k8 => k_is)
    (case a9 => k_is)
    (case l9 => k_is)
    (case c9 => k_is)
    (case k9 => k_is)
    (case z_abs => k_is)
    (case z_int => k_is)
    (case z_len => k_is)
    (case z_range => k_is)
    (case z_repr => k_is)
    (case z_set => k_is)
    (case z_sorted => k_is)
    (case z_sum => k_is)
    (case z_tuple => k_is)
#print axioms PySem.Challenge.cw_anymaze_k33_whole_order_of_mazes_holds
