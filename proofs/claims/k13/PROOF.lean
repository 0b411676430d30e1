import PyProof.Rows.All
import Wide.All
import OpenK.AllK
import Wide.FinOn
import PySem.Challenge.RW_marksheld_k13_whole_wrong_touches
import HandS.ForMost
import HandS.Exc
import HandS.ExcOwn
import HandS.WordsExc
import HandS.Defaults
import HandS.Deep
import HandS.HeadHook2
import KE.KDictKeyed
import KE.KDictWalk
import KE.SortData
import HandS.TupAny
import HandS.TupMul
import HandS.Flow
import HandS.More
import HandS.TupLen
import HandS.Conv
import HandS.IsInst
import HandS.DictComp
import KE.KDictDisplayH
import HandS.DictSubView0
import KE.GoesMore
import KE.GoesEnum
import KE.GoesZip
import KE.KDictZip
import HandS.ExcValue
import HandS.DictSubView
import HandS.NoneIn
import HandS.Star
import HandS.Style
import HandS.Head2
import HandS.HeadEnd
import HandS.HeadHook1
import HandS.Head0
import HandS.Head1
import KE.KStateDown
section
set_option Elab.async false
set_option linter.all false
set_option maxRecDepth 100000
set_option maxHeartbeats 2000000
/-! The D layer, 1: values by value, the abstract map of mutable objects, the lift to the hand layer's readings. -/
namespace Dy
open PySem PySem.Spec L2
open PyProof.Rows hiding St

inductive D where
  | non | bl (b : Bool) | int (i : Int) | str (x : Str) | ty (n : String)
  | tup (l : List D) | lst (l : List D) | dct (l : List (D × D)) | obj (C : Str) (fs : List (Str × D))
  | ref (a : Addr)

instance : Inhabited D := ⟨.non⟩

/-- mutable things -/
inductive MO where
  | lst (l : List D) | dct (l : List (D × D)) | ins (C : Str) (fs : List (Str × D))

abbrev Mp := Addr → Option MO
def updM (M : Mp) (a : Addr) (o : MO) : Mp := fun b => if b = a then some o else M b
theorem updM_same {M : Mp} {a : Addr} {o : MO} : updM M a o a = some o := if_pos rfl
theorem updM_ne {M : Mp} {a b : Addr} {o : MO} (h : b ≠ a) : updM M a o b = M b := if_neg h
theorem updM_updM {M : Mp} {a : Addr} {o u : MO} : updM (updM M a o) a u = updM M a u := by
  funext b; unfold updM; split <;> rfl
def delM (M : Mp) (a : Addr) : Mp := fun b => if b = a then none else M b
/-- what M knows, M' knows -/
def LeM (M M' : Mp) : Prop := ∀ a o, M a = some o → M' a = some o
theorem LeM.refl (M : Mp) : LeM M M := fun _ _ h => h
theorem LeM.trans {M M1 M2 : Mp} (a : LeM M M1) (b : LeM M1 M2) : LeM M M2 := fun c o h => b c o (a c o h)
theorem LeM.upd {M M' : Mp} {p : Addr} {o : MO} (h : LeM M M') (n : M p = none) : LeM M (updM M' p o) := fun c u e => by
  by_cases q : c = p
  · subst q; rw [n] at e; cases e
  · rw [updM_ne q]; exact h c u e
theorem LeM.del {M M' : Mp} {p : Addr} (h : LeM M M') (n : M p = none) : LeM M (delM M' p) := fun c u e => by
  by_cases q : c = p
  · subst q; rw [n] at e; cases e
  · unfold delM; rw [if_neg q]; exact h c u e
theorem LeM.none {M M' : Mp} {p : Addr} (h : LeM M M') (n : M' p = Option.none) : M p = Option.none := by
  cases e : M p with
  | none => rfl
  | some o => rw [h p o e] at n; cases n
theorem ne_of_M {M : Mp} {a b : Addr} {o : MO} (h : M a = some o) (n : M b = none) : a ≠ b := by
  intro e; subst e; rw [h] at n; cases n

/-! ### keys -/
mutual
/-- a value as a key of a dict; none: it is not used as one here -/
def keyN : D → Option NestedKey
  | .non => some .none
  | .bl b => some (.num (if b then 1 else 0))
  | .int i => some (.num i)
  | .str x => some (.text x)
  | .tup l => (keyNs l).map .tup
  | .ty _ => none
  | .lst _ => none
  | .dct _ => none
  | .obj _ _ => none
  | .ref _ => none
def keyNs : List D → Option (List NestedKey)
  | [] => some []
  | d :: ds => match keyN d, keyNs ds with
    | some k, some ks => some (k :: ks)
    | _, _ => none
end

/-! ### what a dict with tuple keys is -/
/-- at a a dict whose keys are the tuples at the addresses, worth the keys; its values -/
def NDict (P : Program) (w : World) (h : Heap) (a : Addr) (xs : List (NestedKey × Addr × V)) : Prop :=
  xs.length ≤ sizeLine ∧ (a == sysModules) = false ∧ ∃ vs : List (NestedKey × Addr × Value), Paired (fun (p : NestedKey × Addr × V) (q : NestedKey × Addr × Value) => p.1 = q.1 ∧ p.2.1 = q.2.1 ∧ RelV p.2.2 q.2.2) xs vs ∧
    ∃ o es ep, h.get? a = some o ∧ o.ExactDict ∧ o.data = .dict es ep ∧ es.toList = vs.map (entryOfKey (nestedKind P w)) ∧ (vs.map (·.1)).Nodup
def ndO (P : Program) (w : World) (a : Addr) (xs : List (NestedKey × Addr × V)) : HO := .ext fun h => NDict P w h a xs

/-! ### by value -/
structure Gv where
  P : Program
  w : World
  K : PySem.W.Frag

def FzL (K : PySem.W.Frag) (H : Hp) (a : Addr) (vs : List V) : Prop :=
  (∃ o, H a = some (.frz o (.lst vs))) ∨ (∃ (o : Obj) (its : Array Value) (n : Nat), K.lookup a = some o ∧ o.cls = .type "list" ∧ o.dict = none ∧ o.data = .seq its n ∧ its.size ≤ sizeLine ∧ Vals vs its.toList)
theorem FzL.sq {K : PySem.W.Frag} {H : Hp} {a : Addr} {vs : List V} (h : FzL K H a vs) : SqL K H a vs := h.elim (fun ⟨o, e⟩ => .inl (.inr ⟨o, e⟩)) .inr

mutual
inductive Abs (G : Gv) (H : Hp) : V → D → Prop where
  | non : Abs G H .non .non
  | bl (b : Bool) : Abs G H (.bl b) (.bl b)
  | int (i : Int) : Abs G H (.int i) (.int i)
  | str (x : Str) (h : PyData.strOk x = true) : Abs G H (.str x) (.str x)
  | ty (n : String) : Abs G H (.ty n) (.ty n)
  | tup {a : Addr} {vs : List V} {ds : List D} : SqT G.K H a vs → AbsL G H vs ds → Abs G H (.ref a) (.tup ds)
  | lst {a : Addr} {vs : List V} {ds : List D} : FzL G.K H a vs → AbsL G H vs ds → Abs G H (.ref a) (.lst ds)
  | dK {a : Addr} {o : Obj} {kvs : List (Key × V)} {ds : List (D × D)} : H a = some (.frz o (.dK kvs)) → AbsK G H kvs ds → Abs G H (.ref a) (.dct ds)
  | dN {a : Addr} {o : Obj} {xs : List (NestedKey × Addr × V)} {ds : List (D × D)} : H a = some (.frz o (ndO G.P G.w a xs)) → AbsN G H xs ds → Abs G H (.ref a) (.dct ds)
  | obj {a dx : Addr} {o : Obj} {C : Str} {fs : List (Str × V)} {ds : List (Str × D)} : H a = some (.frz o (.ins (He.ga G.K C) dx fs)) → AbsF G H fs ds → Abs G H (.ref a) (.obj C ds)
  | ref (a : Addr) : Abs G H (.ref a) (.ref a)
inductive AbsL (G : Gv) (H : Hp) : List V → List D → Prop where
  | nil : AbsL G H [] []
  | cons {v : V} {vs : List V} {d : D} {ds : List D} : Abs G H v d → AbsL G H vs ds → AbsL G H (v :: vs) (d :: ds)
inductive AbsK (G : Gv) (H : Hp) : List (Key × V) → List (D × D) → Prop where
  | nil : AbsK G H [] []
  | int {i : Int} {v : V} {kvs : List (Key × V)} {d : D} {ds : List (D × D)} : Abs G H v d → AbsK G H kvs ds → AbsK G H ((.inl i, v) :: kvs) ((.int i, d) :: ds)
  | str {x : Str} {v : V} {kvs : List (Key × V)} {d : D} {ds : List (D × D)} (h : PyData.strOk x = true) : Abs G H v d → AbsK G H kvs ds → AbsK G H ((.inr x, v) :: kvs) ((.str x, d) :: ds)
inductive AbsN (G : Gv) (H : Hp) : List (NestedKey × Addr × V) → List (D × D) → Prop where
  | nil : AbsN G H [] []
  | cons {ks : List NestedKey} {b : Addr} {v : V} {xs : List (NestedKey × Addr × V)} {l : List D} {d : D} {ds : List (D × D)} : keyNs l = some ks → (NestedKey.tup ks).depth ≤ 8 → Abs G H (.ref b) (.tup l) → Abs G H v d → AbsN G H xs ds → AbsN G H ((.tup ks, b, v) :: xs) ((.tup l, d) :: ds)
inductive AbsF (G : Gv) (H : Hp) : List (Str × V) → List (Str × D) → Prop where
  | nil : AbsF G H [] []
  | cons {x : Str} {v : V} {fs : List (Str × V)} {d : D} {ds : List (Str × D)} : Abs G H v d → AbsF G H fs ds → AbsF G H ((x, v) :: fs) ((x, d) :: ds)
end

/-- what stays: tuples, frozen things -/
def Ext (H H' : Hp) : Prop := (∀ a vs, H a = some (.tup vs) → H' a = some (.tup vs)) ∧ ∀ a o u, H a = some (.frz o u) → H' a = some (.frz o u)
theorem Ext.refl (H : Hp) : Ext H H := ⟨fun _ _ h => h, fun _ _ _ h => h⟩
theorem Ext.trans {H H1 H2 : Hp} (a : Ext H H1) (b : Ext H1 H2) : Ext H H2 := ⟨fun c vs h => b.1 c vs (a.1 c vs h), fun c o u h => b.2 c o u (a.2 c o u h)⟩
theorem Ext.new {H : Hp} {p : Addr} {o : HO} (n : H p = none) : Ext H (upd H p o) :=
  ⟨fun _ _ h => by rw [upd_ne (ne_of_none h n)]; exact h, fun _ _ _ h => by rw [upd_ne (ne_of_none h n)]; exact h⟩
theorem Ext.put {H : Hp} {p : Addr} {o u : HO} (h : H p = some u) (mu : Mut (some u)) : Ext H (upd H p o) :=
  ⟨fun b _ e => by rw [upd_ne (fun z => by subst z; rw [h] at e; cases e; exact mu)]; exact e, fun b _ _ e => by rw [upd_ne (fun z => by subst z; rw [h] at e; cases e; exact mu)]; exact e⟩
theorem Ext.rd {H H' : Hp} (e : Ext H H') {a : Addr} {vs : List V} (r : Rd H a (.tup vs)) : Rd H' a (.tup vs) := by
  rcases r with r | ⟨o, r⟩
  · exact .inl (e.1 _ _ r)
  · exact .inr ⟨o, e.2 _ _ _ r⟩
theorem Ext.sqT {K : PySem.W.Frag} {H H' : Hp} (e : Ext H H') {a : Addr} {vs : List V} (r : SqT K H a vs) : SqT K H' a vs := r.elim (fun q => .inl (e.rd q)) .inr
theorem Ext.fzL {K : PySem.W.Frag} {H H' : Hp} (e : Ext H H') {a : Addr} {vs : List V} (r : FzL K H a vs) : FzL K H' a vs := r.elim (fun ⟨o, q⟩ => .inl ⟨o, e.2 _ _ _ q⟩) .inr

section
variable {G : Gv} {H H' : Hp}
mutual
theorem Abs.ext (e : Ext H H') : ∀ {v : V} {d : D}, Abs G H v d → Abs G H' v d
  | _, _, .non => .non
  | _, _, .bl b => .bl b
  | _, _, .int i => .int i
  | _, _, .str x h => .str x h
  | _, _, .ty n => .ty n
  | _, _, .tup r l => .tup (e.sqT r) (AbsL.ext e l)
  | _, _, .lst r l => .lst (e.fzL r) (AbsL.ext e l)
  | _, _, .dK r l => .dK (e.2 _ _ _ r) (AbsK.ext e l)
  | _, _, .dN r l => .dN (e.2 _ _ _ r) (AbsN.ext e l)
  | _, _, .obj r l => .obj (e.2 _ _ _ r) (AbsF.ext e l)
  | _, _, .ref a => .ref a
theorem AbsL.ext (e : Ext H H') : ∀ {v : List V} {d : List D}, AbsL G H v d → AbsL G H' v d
  | _, _, .nil => .nil
  | _, _, .cons a l => .cons (Abs.ext e a) (AbsL.ext e l)
theorem AbsK.ext (e : Ext H H') : ∀ {v : List (Key × V)} {d : List (D × D)}, AbsK G H v d → AbsK G H' v d
  | _, _, .nil => .nil
  | _, _, .int a l => .int (Abs.ext e a) (AbsK.ext e l)
  | _, _, .str h a l => .str h (Abs.ext e a) (AbsK.ext e l)
theorem AbsN.ext (e : Ext H H') : ∀ {v : List (NestedKey × Addr × V)} {d : List (D × D)}, AbsN G H v d → AbsN G H' v d
  | _, _, .nil => .nil
  | _, _, .cons k z a b l => .cons k z (Abs.ext e a) (Abs.ext e b) (AbsN.ext e l)
theorem AbsF.ext (e : Ext H H') : ∀ {v : List (Str × V)} {d : List (Str × D)}, AbsF G H v d → AbsF G H' v d
  | _, _, .nil => .nil
  | _, _, .cons a l => .cons (Abs.ext e a) (AbsF.ext e l)
end
end

/-- a mutable thing, as it stands -/
inductive MAbs (G : Gv) (H : Hp) (a : Addr) : MO → Prop where
  | lst {vs : List V} {ds : List D} : H a = some (.lst vs) → AbsL G H vs ds → MAbs G H a (.lst ds)
  | dK {kvs : List (Key × V)} {ds : List (D × D)} : H a = some (.dK kvs) → AbsK G H kvs ds → MAbs G H a (.dct ds)
  | dN {xs : List (NestedKey × Addr × V)} {ds : List (D × D)} : H a = some (ndO G.P G.w a xs) → AbsN G H xs ds → MAbs G H a (.dct ds)
  | ins {dx : Addr} {C : Str} {fs : List (Str × V)} {ds : List (Str × D)} : H a = some (.ins (He.ga G.K C) dx fs) → AbsF G H fs ds → MAbs G H a (.ins C ds)
def HAbs (G : Gv) (H : Hp) (M : Mp) : Prop := ∀ a o, M a = some o → MAbs G H a o
abbrev Sd := List (Option D)
structure Sim (G : Gv) (H : Hp) (σ : St) (σd : Sd) (M : Mp) : Prop where
  len : σ.length = σd.length
  at_ : ∀ (i : Nat) (d : D), σd[i]? = some (some d) → ∃ v, σ[i]? = some (some v) ∧ Abs G H v d
  heap : HAbs G H M
theorem MAbs.there {G : Gv} {H : Hp} {a : Addr} {o : MO} (h : MAbs G H a o) : ∃ u, H a = some u ∧ Mut (some u) := by
  cases h with
  | lst e _ => exact ⟨_, e, trivial⟩
  | dK e _ => exact ⟨_, e, trivial⟩
  | dN e _ => exact ⟨_, e, trivial⟩
  | ins e _ => exact ⟨_, e, trivial⟩
theorem MAbs.ext {G : Gv} {H H' : Hp} {a : Addr} {o : MO} (h : MAbs G H a o) (e : Ext H H') (k : H' a = H a) : MAbs G H' a o := by
  cases h with
  | lst r l => exact .lst (k.trans r) (l.ext e)
  | dK r l => exact .dK (k.trans r) (l.ext e)
  | dN r l => exact .dN (k.trans r) (l.ext e)
  | ins r l => exact .ins (k.trans r) (l.ext e)
theorem HAbs.none {G : Gv} {H : Hp} {M : Mp} (h : HAbs G H M) {p : Addr} (n : H p = Option.none) : M p = Option.none := by
  cases e : M p with
  | none => rfl
  | some o =>
    obtain ⟨u, q, _⟩ := (h p o e).there
    rw [n] at q; cases q
theorem HAbs.le {G : Gv} {H : Hp} {M M' : Mp} (h : HAbs G H M') (l : LeM M M') : HAbs G H M := fun a o e => h a o (l a o e)
/-- the heap grows at p, M with it -/
theorem HAbs.new {G : Gv} {H : Hp} {M : Mp} {p : Addr} {u : HO} {o : MO} (h : HAbs G H M) (n : H p = Option.none) (m : MAbs G (upd H p u) p o) : HAbs G (upd H p u) (updM M p o) := fun a q e => by
  by_cases z : a = p
  · subst z; rw [updM_same] at e; cases e; exact m
  · rw [updM_ne z] at e
    exact (h a q e).ext (Ext.new n) (upd_ne z)
/-- .. and M not -/
theorem HAbs.newH {G : Gv} {H : Hp} {M : Mp} {p : Addr} {u : HO} (h : HAbs G H M) (n : H p = Option.none) : HAbs G (upd H p u) M := fun a q e => by
  obtain ⟨v, hv, _⟩ := (h a q e).there
  exact (h a q e).ext (Ext.new n) (upd_ne (ne_of_none hv n))
theorem HAbs.put {G : Gv} {H : Hp} {M : Mp} {p : Addr} {u' u : HO} {o : MO} (h : HAbs G H M) (e0 : H p = some u') (mu : Mut (some u')) (m : MAbs G (upd H p u) p o) : HAbs G (upd H p u) (updM M p o) := fun a q e => by
  by_cases z : a = p
  · subst z; rw [updM_same] at e; cases e; exact m
  · rw [updM_ne z] at e
    exact (h a q e).ext (Ext.put e0 mu) (upd_ne z)
theorem Sim.ext {G : Gv} {H H' : Hp} {σ : St} {σd : Sd} {M M' : Mp} (s : Sim G H σ σd M) (e : Ext H H') (h : HAbs G H' M') : Sim G H' σ σd M' :=
  ⟨s.len, fun i d q => let ⟨v, a, b⟩ := s.at_ i d q; ⟨v, a, b.ext e⟩, h⟩
theorem Sim.set {G : Gv} {H : Hp} {σ : St} {σd : Sd} {M : Mp} (s : Sim G H σ σd M) {v : V} {d : D} (i : Nat) (a : Abs G H v d) : Sim G H (σ.set i (some v)) (σd.set i (some d)) M := by
  refine ⟨by simp [s.len], fun j e q => ?_, s.heap⟩
  by_cases z : i = j
  · subst z
    by_cases lt : i < σd.length
    · rw [List.getElem?_set_self lt] at q
      cases q
      exact ⟨v, List.getElem?_set_self (by rw [s.len]; exact lt), a⟩
    · rw [List.getElem?_eq_none (by simpa using lt)] at q; cases q
  · rw [List.getElem?_set_ne z] at q
    rw [List.getElem?_set_ne z]
    exact s.at_ j e q

/-! ### readings over D -/
abbrev DK := D → Mp → Prop
abbrev DTE := Sd → Mp → DK → Prop
abbrev DTT := Sd → Mp → (Bool → Mp → Prop) → Prop
abbrev DTA := Sd → Mp → (List D → Mp → Prop) → Prop
abbrev DR1 := D → Mp → DK → Prop
abbrev DR2 := D → D → Mp → DK → Prop
abbrev DRn := List D → Mp → DK → Prop
structure DEnds where
  nx : Sd → Mp → Prop
  rt : DK
  bk : Sd → Mp → Prop := fun _ _ => False
  ct : Sd → Mp → Prop := fun _ _ => False
abbrev DTS := DEnds → Sd → Mp → Prop

/-- the wish Qd over D gives the wish Q over V -/
def Up (G : Gv) (H : Hp) (Qd : DK) (Q : VK) : Prop := ∀ d M' v H', Qd d M' → Ext H H' → Abs G H' v d → HAbs G H' M' → Q v H'
def UpT (G : Gv) (H : Hp) (Qd : Bool → Mp → Prop) (Q : Bool → Hp → Prop) : Prop := ∀ b M' H', Qd b M' → Ext H H' → HAbs G H' M' → Q b H'
def UpA (G : Gv) (H : Hp) (Qd : List D → Mp → Prop) (Q : List V → Hp → Prop) : Prop := ∀ ds M' vs H', Qd ds M' → Ext H H' → AbsL G H' vs ds → HAbs G H' M' → Q vs H'
def UpS (G : Gv) (H : Hp) (Qd : Sd → Mp → Prop) (Q : St → Hp → Prop) : Prop := ∀ σd M' σ H', Qd σd M' → Ext H H' → Sim G H' σ σd M' → Q σ H'
structure UpD (G : Gv) (H : Hp) (Dd : DEnds) (D : Ends) : Prop where
  nx : UpS G H Dd.nx D.nx
  rt : Up G H Dd.rt D.rt
  bk : UpS G H Dd.bk D.bk
  ct : UpS G H Dd.ct D.ct
theorem Up.ext {G : Gv} {H H1 : Hp} {Qd : DK} {Q : VK} (u : Up G H Qd Q) (e : Ext H H1) : Up G H1 Qd Q := fun d M' v H' q x a h => u d M' v H' q (e.trans x) a h
theorem UpT.ext {G : Gv} {H H1 : Hp} {Qd : Bool → Mp → Prop} {Q : Bool → Hp → Prop} (u : UpT G H Qd Q) (e : Ext H H1) : UpT G H1 Qd Q := fun b M' H' q x h => u b M' H' q (e.trans x) h
theorem UpA.ext {G : Gv} {H H1 : Hp} {Qd : List D → Mp → Prop} {Q : List V → Hp → Prop} (u : UpA G H Qd Q) (e : Ext H H1) : UpA G H1 Qd Q := fun b M' v H' q x a h => u b M' v H' q (e.trans x) a h
theorem UpS.ext {G : Gv} {H H1 : Hp} {Qd : Sd → Mp → Prop} {Q : St → Hp → Prop} (u : UpS G H Qd Q) (e : Ext H H1) : UpS G H1 Qd Q := fun b M' v H' q x a => u b M' v H' q (e.trans x) a
theorem UpD.ext {G : Gv} {H H1 : Hp} {Dd : DEnds} {D : Ends} (u : UpD G H Dd D) (e : Ext H H1) : UpD G H1 Dd D := ⟨u.nx.ext e, u.rt.ext e, u.bk.ext e, u.ct.ext e⟩

def lE (G : Gv) (t : DTE) : TE := fun σ H Q => ∃ σd M Qd, Sim G H σ σd M ∧ t σd M Qd ∧ Up G H Qd Q
def lT (G : Gv) (t : DTT) : TT := fun σ H Q => ∃ σd M Qd, Sim G H σ σd M ∧ t σd M Qd ∧ UpT G H Qd Q
def lA (G : Gv) (t : DTA) : TA := fun σ H Q => ∃ σd M Qd, Sim G H σ σd M ∧ t σd M Qd ∧ UpA G H Qd Q
def lS (G : Gv) (t : DTS) : TS := fun D σ H => ∃ σd M Dd, Sim G H σ σd M ∧ t Dd σd M ∧ UpD G H Dd D
def lOp (G : Gv) (r : DR2) : R2 := fun x y H Q => ∃ d e M Qd, Abs G H x d ∧ Abs G H y e ∧ HAbs G H M ∧ r d e M Qd ∧ Up G H Qd Q
def lUn (G : Gv) (r : DR1) : V → Hp → VK → Prop := fun x H Q => ∃ d M Qd, Abs G H x d ∧ HAbs G H M ∧ r d M Qd ∧ Up G H Qd Q
def lN (G : Gv) (r : DRn) : List V → Hp → VK → Prop := fun xs H Q => ∃ ds M Qd, AbsL G H xs ds ∧ HAbs G H M ∧ r ds M Qd ∧ Up G H Qd Q

abbrev Gx (X : Cx) : Gv := ⟨X.prog, X.w, X.K⟩
abbrev DE (X : Cx) (e : Expr) (t : DTE) : Prop := PE X e (lE (Gx X) t)
abbrev DT (X : Cx) (e : Expr) (t : DTT) : Prop := PT X e (lT (Gx X) t)
abbrev DA (X : Cx) (es : List Expr) (t : DTA) : Prop := PA X es (lA (Gx X) t)
abbrev DS (X : Cx) (st : Stmt) (t : DTS) : Prop := PS X st (lS (Gx X) t)
abbrev DSs (X : Cx) (st : List Stmt) (t : DTS) : Prop := PSs X st (lS (Gx X) t)
abbrev DOp (X : Cx) (f : Value → Value → Sem Value) (r : DR2) : Prop := OpR X f (lOp (Gx X) r)
abbrev DUn (X : Cx) (f : Value → Sem Value) (r : DR1) : Prop := UnR X f (lUn (Gx X) r)
abbrev DCall (X : Cx) (f : Value) (r : DRn) : Prop := CallR X f (lN (Gx X) r)

/-! ### weaker readings -/
section
variable {X : Cx}
theorem PE.imp {e : Expr} {t t' : TE} (h : PE X e t) (i : ∀ σ H Q, t' σ H Q → t σ H Q) : PE X e t' := ⟨fun pins s σ H Q I q => h.run pins s σ H Q I (i σ H Q q)⟩
theorem PT.imp {e : Expr} {t t' : TT} (h : PT X e t) (i : ∀ σ H Q, t' σ H Q → t σ H Q) : PT X e t' := ⟨fun pins s σ H Q I q => h.run pins s σ H Q I (i σ H Q q)⟩
theorem PW.imp {e : Expr} {t t' : TT} (h : PW X e t) (i : ∀ σ H Q, t' σ H Q → t σ H Q) : PW X e t' := ⟨fun whole pins s σ H Q I q => h.run whole pins s σ H Q I (i σ H Q q)⟩
theorem PA.imp {es : List Expr} {t t' : TA} (h : PA X es t) (i : ∀ σ H Q, t' σ H Q → t σ H Q) : PA X es t' := ⟨fun pos pins s σ H Q I q => h.run pos pins s σ H Q I (i σ H Q q)⟩
theorem PS.imp {st : Stmt} {t t' : TS} (h : PS X st t) (i : ∀ D σ H, t' D σ H → t D σ H) : PS X st t' := ⟨fun pins s σ H D I q => h.run pins s σ H D I (i D σ H q)⟩
theorem PSs.imp {st : List Stmt} {t t' : TS} (h : PSs X st t) (i : ∀ D σ H, t' D σ H → t D σ H) : PSs X st t' := ⟨fun pins s σ H D I q => h.run pins s σ H D I (i D σ H q)⟩
theorem OpR.imp {f : Value → Value → Sem Value} {r r' : R2} (h : OpR X f r) (i : ∀ x y H Q, r' x y H Q → r x y H Q) : OpR X f r' := fun pins s σ H x y v u Q I rx ry q => h pins s σ H x y v u Q I rx ry (i x y H Q q)
theorem CallR.imp {f : Value} {r r' : List V → Hp → VK → Prop} (h : CallR X f r) (i : ∀ xs H Q, r' xs H Q → r xs H Q) : CallR X f r' := fun pins s σ H xs us Q I rx q => h pins s σ H xs us Q I rx (i xs H Q q)
end
/-- a part has been walked -/
theorem lE_then {G : Gv} {σ : St} {σd : Sd} {H : Hp} {M : Mp} {t : DTE} {k : DK} {Q : VK} (s : Sim G H σ σd M) (h : t σd M k) (f : ∀ d M1 v H1, k d M1 → Ext H H1 → Abs G H1 v d → Sim G H1 σ σd M1 → Q v H1) : lE G t σ H Q :=
  ⟨σd, M, k, s, h, fun d M1 v H1 q e a hm => f d M1 v H1 q e a (s.ext e hm)⟩
theorem lT_then {G : Gv} {σ : St} {σd : Sd} {H : Hp} {M : Mp} {t : DTT} {k : Bool → Mp → Prop} {Q : Bool → Hp → Prop} (s : Sim G H σ σd M) (h : t σd M k) (f : ∀ b M1 H1, k b M1 → Ext H H1 → Sim G H1 σ σd M1 → Q b H1) : lT G t σ H Q :=
  ⟨σd, M, k, s, h, fun b M1 H1 q e hm => f b M1 H1 q e (s.ext e hm)⟩
theorem lA_then {G : Gv} {σ : St} {σd : Sd} {H : Hp} {M : Mp} {t : DTA} {k : List D → Mp → Prop} {Q : List V → Hp → Prop} (s : Sim G H σ σd M) (h : t σd M k) (f : ∀ d M1 v H1, k d M1 → Ext H H1 → AbsL G H1 v d → Sim G H1 σ σd M1 → Q v H1) : lA G t σ H Q :=
  ⟨σd, M, k, s, h, fun d M1 v H1 q e a hm => f d M1 v H1 q e a (s.ext e hm)⟩
end Dy
end
section
set_option Elab.async false
set_option linter.all false
set_option maxRecDepth 100000
set_option maxHeartbeats 2000000
/-! The D layer, 2: operations by values. -/
namespace Dy
open PySem PySem.Spec L2
open PyProof.Rows hiding St

/-! ### looking through -/
def lstOf (M : Mp) : D → Option (List D)
  | .lst l => some l
  | .ref p => match M p with
    | some (.lst l) => some l
    | _ => none
  | _ => none
def seqOf (M : Mp) : D → Option (List D)
  | .tup l => some l
  | .lst l => some l
  | .ref p => match M p with
    | some (.lst l) => some l
    | _ => none
  | _ => none
def dctOf (M : Mp) : D → Option (List (D × D))
  | .dct l => some l
  | .ref p => match M p with
    | some (.dct l) => some l
    | _ => none
  | _ => none
section
variable {G : Gv} {H : Hp} {M : Mp}
theorem AbsL.length {vs : List V} {ds : List D} (h : AbsL G H vs ds) : vs.length = ds.length := by
  induction ds generalizing vs with
  | nil => cases h; rfl
  | cons d ds ih =>
    cases h with
    | cons a l => simp [ih l]
theorem AbsL.append : ∀ {vs ws : List V} {ds es : List D}, AbsL G H vs ds → AbsL G H ws es → AbsL G H (vs ++ ws) (ds ++ es)
  | _, _, _, _, .nil, b => b
  | _, _, _, _, .cons a l, b => .cons a (l.append b)
theorem AbsL.get : ∀ {vs : List V} {ds : List D} {i : Nat} {d : D}, AbsL G H vs ds → ds[i]? = some d → ∃ v, vs[i]? = some v ∧ Abs G H v d
  | _, _, _, _, .nil, e => by simp at e
  | _, _, 0, _, .cons a _, e => by simp at e; subst e; exact ⟨_, rfl, a⟩
  | _, _, i + 1, d, .cons _ l, e => by
    obtain ⟨v, h1, h2⟩ := l.get (i := i) (d := d) (by simpa using e)
    exact ⟨v, by simpa using h1, h2⟩
theorem AbsL.take : ∀ {vs : List V} {ds : List D} (n : Nat), AbsL G H vs ds → AbsL G H (vs.take n) (ds.take n)
  | _, _, 0, _ => by simp; exact .nil
  | _, _, n + 1, .nil => .nil
  | _, _, n + 1, .cons a l => .cons a (l.take n)
theorem AbsL.drop : ∀ {vs : List V} {ds : List D} (n : Nat), AbsL G H vs ds → AbsL G H (vs.drop n) (ds.drop n)
  | _, _, 0, h => h
  | _, _, n + 1, .nil => .nil
  | _, _, n + 1, .cons a l => l.drop n
theorem AbsL.set {v : V} {d : D} (a : Abs G H v d) : ∀ {vs : List V} {ds : List D} (i : Nat), AbsL G H vs ds → AbsL G H (vs.set i v) (ds.set i d)
  | _, _, _, .nil => .nil
  | _, _, 0, .cons _ l => .cons a l
  | _, _, i + 1, .cons b l => .cons b (l.set a i)
theorem AbsL.dropLast {vs : List V} {ds : List D} (h : AbsL G H vs ds) : AbsL G H vs.dropLast ds.dropLast := by
  rw [List.dropLast_eq_take, List.dropLast_eq_take, h.length]
  exact h.take _
theorem AbsL.reverse : ∀ {vs : List V} {ds : List D}, AbsL G H vs ds → AbsL G H vs.reverse ds.reverse
  | _, _, .nil => .nil
  | _, _, .cons a l => by
    rw [List.reverse_cons, List.reverse_cons]
    exact l.reverse.append (.cons a .nil)
theorem AbsL.flat {vs : List V} {ds : List D} (h : AbsL G H vs ds) : ∀ k : Nat, AbsL G H (List.replicate k vs).flatten (List.replicate k ds).flatten
  | 0 => .nil
  | k + 1 => by
    simp only [List.replicate_succ, List.flatten_cons]
    exact h.append (h.flat k)
theorem AbsL.nil_iff {vs : List V} {ds : List D} (h : AbsL G H vs ds) : vs = [] ↔ ds = [] := by
  cases h <;> simp

/-- a list at a, its object known to the field -/
def LstR (K : PySem.W.Frag) (H : Hp) (a : Addr) (vs : List V) : Prop := H a = some (.lst vs) ∨ FzL K H a vs
theorem LstR.sq {K : PySem.W.Frag} {a : Addr} {vs : List V} (h : LstR K H a vs) : SqL K H a vs := h.elim (fun e => .inl (.inl e)) FzL.sq
theorem lst_abs {x : V} {d : D} {l : List D} (e : lstOf M d = some l) (a : Abs G H x d) (hm : HAbs G H M) : ∃ p vs, x = .ref p ∧ LstR G.K H p vs ∧ AbsL G H vs l := by
  cases a with
  | lst r q => simp only [lstOf, Option.some.injEq] at e; subst e; exact ⟨_, _, rfl, .inr r, q⟩
  | ref p =>
    simp only [lstOf] at e
    cases z : M p with
    | none => rw [z] at e; cases e
    | some o =>
      rw [z] at e
      cases o with
      | lst ds =>
        simp only [Option.some.injEq] at e; subst e
        cases hm p _ z with
        | lst r q => exact ⟨p, _, rfl, .inl r, q⟩
      | dct _ => cases e
      | ins _ _ => cases e
  | _ => cases e
theorem seq_abs {x : V} {d : D} {l : List D} (e : seqOf M d = some l) (a : Abs G H x d) (hm : HAbs G H M) : ∃ p vs, x = .ref p ∧ (LstR G.K H p vs ∨ SqT G.K H p vs) ∧ AbsL G H vs l := by
  cases a with
  | tup r q => simp only [seqOf, Option.some.injEq] at e; subst e; exact ⟨_, _, rfl, .inr r, q⟩
  | lst r q => simp only [seqOf, Option.some.injEq] at e; subst e; exact ⟨_, _, rfl, .inl (.inr r), q⟩
  | ref p =>
    obtain ⟨p, vs, h1, h2, h3⟩ := lst_abs (d := .ref p) e (.ref p) hm
    exact ⟨p, vs, h1, .inl h2, h3⟩
  | _ => cases e
end
section
variable {X : Cx} {pins : List (Addr × Obj)} {σ : St} {H : Hp} {s : Shared}
/-- the object of a list is as a list's -/
theorem lstR_obj {a : Addr} {vs : List V} (I : Inv X pins σ H s) (h : LstR X.K H a vs) : vs.length ≤ sizeLine ∧ ∃ (its : List Value), Vals vs its ∧ PlainL s.heap a its.toArray := by
  obtain ⟨its, r, p, z⟩ := I.list h.sq
  exact ⟨z, its, r, p⟩
end

/-! ### constants of the layer: a new mutable thing -/
def newL (l : List D) (M : Mp) (Q : DK) : Prop := ∀ p, M p = none → Q (.ref p) (updM M p (.lst l))
def newD (l : List (D × D)) (M : Mp) (Q : DK) : Prop := ∀ p, M p = none → Q (.ref p) (updM M p (.dct l))

/-! ### operators -/
section
variable {X : Cx}
theorem OpR.alt {f : Value → Value → Sem Value} {r : DR2} (h : ∀ (pins : List (Addr × Obj)) (s : Shared) (σ : St) (H : Hp) (x y : V) (v u : Value) (d e : D) (M : Mp) (Qd : DK) (Q : VK), Inv X pins σ H s → RelV x v → RelV y u → Abs (Gx X) H x d → Abs (Gx X) H y e → HAbs (Gx X) H M → r d e M Qd → Up (Gx X) H Qd Q →
    wpAny (model X.prog X.w) X.A (f v u) (EP X pins σ Q) X.xe s) : DOp X f r := fun pins s σ H x y v u Q I rx ry ⟨d, e, M, Qd, ax, ay, hm, q, up⟩ => h pins s σ H x y v u d e M Qd Q I rx ry ax ay hm q up
/-- by a rule of the hand layer -/
theorem DOp.of {f : Value → Value → Sem Value} {r : DR2} {r' : R2} (h : OpR X f r') (i : ∀ (H : Hp) (x y : V) (d e : D) (M : Mp) (Qd : DK) (Q : VK), Abs (Gx X) H x d → Abs (Gx X) H y e → HAbs (Gx X) H M → r d e M Qd → Up (Gx X) H Qd Q → r' x y H Q) : DOp X f r :=
  OpR.imp h fun x y H Q ⟨d, e, M, Qd, ax, ay, hm, q, up⟩ => i H x y d e M Qd Q ax ay hm q up
theorem DOp.or {f : Value → Value → Sem Value} {r r' : DR2} (h : DOp X f r) (h' : DOp X f r') : DOp X f (fun d e M Q => r d e M Q ∨ r' d e M Q) :=
  OpR.imp (OpR.or h h') fun x y H Q ⟨d, e, M, Qd, ax, ay, hm, q, up⟩ => q.elim (fun q => .inl ⟨d, e, M, Qd, ax, ay, hm, q, up⟩) fun q => .inr ⟨d, e, M, Qd, ax, ay, hm, q, up⟩
theorem DOp.weak {f : Value → Value → Sem Value} {r r' : DR2} (h : DOp X f r) (i : ∀ d e M Q, r' d e M Q → r d e M Q) : DOp X f r' :=
  OpR.imp h fun x y H Q ⟨d, e, M, Qd, ax, ay, hm, q, up⟩ => ⟨d, e, M, Qd, ax, ay, hm, i d e M Qd q, up⟩

/-- two ints in, a value out -/
def dII (C : Int → Int → Prop) (g : Int → Int → D) : DR2 := fun x y M Q => ∃ i j, x = .int i ∧ y = .int j ∧ C i j ∧ Q (g i j) M
theorem dop_ii {f : Value → Value → Sem Value} {C C' : Int → Int → Prop} {g : Int → Int → D} {g' : Int → Int → V} (h : OpR X f (rI C' g')) (hc : ∀ i j, C i j → C' i j) (hg : ∀ i j H, C i j → Abs (Gx X) H (g' i j) (g i j)) : DOp X f (dII C g) := by
  refine .of h fun H x y d e M Qd Q ax ay hm q up => ?_
  obtain ⟨i, j, rfl, rfl, c, q⟩ := q
  cases ax; cases ay
  exact ⟨i, j, rfl, rfl, hc i j c, up _ _ _ _ q (Ext.refl H) (hg i j H c) hm⟩
theorem dop_ii0 {f : Value → Value → Sem Value} {g : Int → Int → D} {g' : Int → Int → V} (h : OpR X f (rI0 g')) (hg : ∀ i j H, Abs (Gx X) H (g' i j) (g i j)) : DOp X f (dII (fun _ _ => True) g) := by
  refine .of h fun H x y d e M Qd Q ax ay hm q up => ?_
  obtain ⟨i, j, rfl, rfl, c, q⟩ := q
  cases ax; cases ay
  exact ⟨i, j, rfl, rfl, up _ _ _ _ q (Ext.refl H) (hg i j H) hm⟩
/-- two lists, whichever they are -/
def dCatL : DR2 := fun x y M Q => ∃ a b, lstOf M x = some a ∧ lstOf M y = some b ∧ a.length + b.length ≤ sizeLine ∧ newL (a ++ b) M Q
theorem add_listP {prog : Program} {w : World} {A : Around} {E : Value → Shared → Prop} {s : Shared} {l b : Addr} {xs ys : Array Value} {Q : Value → Shared → Prop} (hl : PlainL s.heap l xs) (hb : PlainL s.heap b ys)
    (h : Q (.ref s.heap.objs.size) { s with heap := s.heap.push { cls := .type "list", data := .seq (xs ++ ys) } }) (hsz : xs.size + ys.size ≤ sizeLine) : wpAny (model prog w) A (binaryOp .Add (.ref l) (.ref b)) Q E s := by
  obtain ⟨o1, n1, g1, c1, e1, f1⟩ := hl
  obtain ⟨o2, n2, g2, c2, e2, f2⟩ := hb
  cases o1 with | mk cl1 di1 da1 s1 =>
  cases o2 with | mk cl2 di2 da2 s2 =>
  simp only at c1 e1 f1 c2 e2 f2
  subst c1 e1 f1 c2 e2 f2
  exact concat_meets ⟨_, g1, rfl⟩ ⟨_, g2, rfl⟩ noFill_list_add seq_list_add PySem.F.slot_list_add PySem.F.entry_list_add (PySem.F.args_list_add_2 _ _) (list_addW l b xs ys n1 n2 _ _ s1 s2 hsz) ⟨g1, g2, h⟩
theorem dop_catL : DOp X (binaryOp .Add) dCatL := by
  refine OpR.alt fun pins s σ H x y v u d e M Qd Q I rx ry ax ay hm q up => ?_
  obtain ⟨a, b, ha, hb, hz, q⟩ := q
  obtain ⟨p1, vs, rfl, l1, q1⟩ := lst_abs ha ax hm
  obtain ⟨p2, ws, rfl, l2, q2⟩ := lst_abs hb ay hm
  cases rx
  cases ry
  obtain ⟨z1, its1, r1, g1⟩ := lstR_obj I l1
  obtain ⟨z2, its2, r2, g2⟩ := lstR_obj I l2
  have n1 := q1.length
  have n2 := q2.length
  have m1 := r1.length
  have m2 := r2.length
  refine add_listP g1 g2 ?_ (by simp only [List.size_toArray]; omega)
  rw [List.append_toArray]
  have hf := I.fresh
  refine ⟨.ref _, _, I.lnew (t' := s.toks) (r1.append r2) (by rw [List.length_append]; omega), rfl, ?_⟩
  refine up _ _ _ _ (q _ (hm.none hf)) (Ext.new hf) (.ref _) (hm.new hf (.lst upd_same ?_))
  exact (q1.append q2).ext (Ext.new hf)
/-- two texts -/
theorem strOk_append {a b : Str} (ha : PyData.strOk a = true) (hb : PyData.strOk b = true) : PyData.strOk (a ++ b) = true := by
  unfold PyData.strOk at *
  show (a.cps ++ b.cps).all _ = true
  rw [Array.all_append, ha, hb]; rfl
def dCatS : DR2 := fun x y M Q => ∃ a b, x = .str a ∧ y = .str b ∧ a.length + b.length ≤ sizeLine ∧ Q (.str (a ++ b)) M
theorem dop_catS : DOp X (binaryOp .Add) dCatS := by
  refine .of op_add_str fun H x y d e M Qd Q ax ay hm q up => ?_
  obtain ⟨a, b, rfl, rfl, z, q⟩ := q
  cases ax with | str _ h1 =>
  cases ay with | str _ h2 =>
  exact ⟨a, b, rfl, rfl, z, up _ _ _ _ q (Ext.refl H) (.str _ (strOk_append h1 h2)) hm⟩
/-- two tuples -/
theorem tup_abs {G : Gv} {H : Hp} {x : V} {l : List D} (a : Abs G H x (.tup l)) : ∃ p vs, x = .ref p ∧ SqT G.K H p vs ∧ AbsL G H vs l := by
  cases a with | tup r q => exact ⟨_, _, rfl, r, q⟩
def dCatT : DR2 := fun x y M Q => ∃ a b, x = .tup a ∧ y = .tup b ∧ a.length + b.length ≤ sizeLine ∧ Q (.tup (a ++ b)) M
theorem dop_catT : DOp X (binaryOp .Add) dCatT := by
  refine .of op_catA fun H x y d e M Qd Q ax ay hm q up => ?_
  obtain ⟨a, b, rfl, rfl, hz, q⟩ := q
  obtain ⟨p1, vs, rfl, l1, q1⟩ := tup_abs ax
  obtain ⟨p2, ws, rfl, l2, q2⟩ := tup_abs ay
  refine ⟨p1, p2, vs, ws, rfl, rfl, l1, l2, by rw [q1.length, q2.length]; exact hz, fun z => ?_, fun _ z => ?_, fun _ _ p hp => ?_⟩
  · rw [q1.nil_iff.mp z, List.nil_append] at q
    exact up _ _ _ _ q (Ext.refl H) ay hm
  · rw [q2.nil_iff.mp z, List.append_nil] at q
    exact up _ _ _ _ q (Ext.refl H) ax hm
  · exact up _ _ _ _ q (Ext.new hp) (.tup (SqT.of upd_same) ((q1.append q2).ext (Ext.new hp))) (hm.newH hp)
def dAdd : DR2 := fun x y M Q => match x, y with
  | .int i, .int j => Q (.int (i + j)) M
  | .str a, .str b => a.length + b.length ≤ sizeLine ∧ Q (.str (a ++ b)) M
  | .tup a, .tup b => a.length + b.length ≤ sizeLine ∧ Q (.tup (a ++ b)) M
  | x, y => match lstOf M x, lstOf M y with
    | some a, some b => a.length + b.length ≤ sizeLine ∧ newL (a ++ b) M Q
    | _, _ => False
theorem dop_add : DOp X (binaryOp .Add) dAdd := by
  refine DOp.weak (((dop_ii0 op_add (g := fun i j => .int (i + j)) fun i j H => .int _).or dop_catS).or (dop_catT.or dop_catL)) fun d e M Q q => ?_
  unfold dAdd at q
  split at q
  · exact .inl (.inl ⟨_, _, rfl, rfl, trivial, q⟩)
  · exact .inl (.inr ⟨_, _, rfl, rfl, q⟩)
  · exact .inr (.inl ⟨_, _, rfl, rfl, q⟩)
  · split at q
    · exact .inr (.inr ⟨_, _, by assumption, by assumption, q⟩)
    · exact q.elim
def dSub : DR2 := fun x y M Q => match x, y with
  | .int i, .int j => Q (.int (i - j)) M
  | _, _ => False
theorem dop_sub : DOp X (binaryOp .Sub) dSub := by
  refine DOp.weak (dop_ii0 op_sub (g := fun i j => .int (i - j)) fun i j H => .int _) fun d e M Q q => ?_
  unfold dSub at q
  split at q
  · exact ⟨_, _, rfl, rfl, trivial, q⟩
  · exact q.elim
/-- a tuple, once: itself -/
theorem tuple_mulW1 (l : Addr) (items : Array Value) (n : Nat) (dd : Option Addr) (sl : Array (Option Value)) (u : Tok) :
    Meets (Builtin.«tuple.__mul__» ⟨[.ref l, .int 1 u], []⟩) (fun _ R s => s.heap.get? l = some { cls := .type "tuple", dict := dd, data := .seq items n, slots := sl } ∧ R (.ok (.ret (Value.ref l))) s) :=
  .of_wp fun prog w A R s h => by
    obtain ⟨hp, g, d, tk, os⟩ := s
    obtain ⟨hl, h⟩ := h
    have f1 := AutoSeq1.idx_int
    wp_walk using wpAny_loadPart' hl
    exact ⟨_, rfl, h⟩
theorem int_rmul_tuple1 (t : Tok) (l : Addr) (items : Array Value) (n : Nat) (dd : Option Addr) (sl : Array (Option Value)) : Meets (Builtin.«int.__rmul__» ⟨[.int 1 t, .ref l], []⟩) (fun _ R s => s.heap.get? l = some { cls := .type "tuple", dict := dd, data := .seq items n, slots := sl } ∧ R (.ok (.ret Value.notImplemented)) s) := L2.int_rmul_tuple 1 t l items n dd sl
/-- tuple * int, the int at least 1 -/
def dRepT : DR2 := fun x y M Q => ∃ a k, x = .tup a ∧ y = .int k ∧ a ≠ [] ∧ 1 ≤ k ∧ k ≤ 1000 ∧ a.length ≤ 1000 ∧ Q (.tup (List.replicate k.toNat a).flatten) M
theorem dop_repT : DOp X (binaryOp .Mult) dRepT := by
  refine OpR.alt fun pins s σ H x y v u d e M Qd Q I rx ry ax ay hm q up => ?_
  obtain ⟨a, k, rfl, rfl, ne, k1, k2, z, q⟩ := q
  obtain ⟨p, vs, rfl, l1, q1⟩ := tup_abs ax
  have ay' := ay
  cases ay
  by_cases h : k = 1
  · subst h
    have e1 : (List.replicate (1 : Int).toNat a).flatten = a := by simp
    rw [e1] at q
    cases rx
    obtain ⟨t, rfl⟩ := ry
    obtain ⟨its, r, ⟨o, ho, hc, n, hd⟩, hs⟩ := I.tuple l1
    cases o with | mk c1 d1 dt1 sl1 =>
    simp only at hc hd
    subst hc hd
    refine wpAny_binaryOp_repeat_ref (T := "tuple") (U := "int") (by decide) ⟨_, ho, rfl⟩ (fun s' => typeIs_int s' 1 t) noFill_tuple_mul PySem.F.fills_int_mul PySem.F.slot_int_rmul repeat_tuple PySem.F.slot_int_index.lookup
      (call_meets PySem.F.slot_int_rmul (typeIs_int s 1 t) PySem.F.entry_int_rmul (PySem.F.args_int_rmul_2 _ _) (int_rmul_tuple1 t p its.toArray n d1 sl1) ⟨ho, rfl, ⟨_, ho, rfl⟩, ?_⟩)
    refine call_meets PySem.F.slot_tuple_mul ⟨_, ho, rfl⟩ PySem.F.entry_tuple_mul (PySem.F.args_tuple_mul_2 _ _) (tuple_mulW1 p its.toArray n d1 sl1 t) ⟨ho, ?_⟩
    exact ⟨.ref p, H, I, rfl, up _ _ _ _ q (Ext.refl H) ax hm⟩
  · have hx := q1.length
    refine op_repT pins s σ H _ _ v u Q I rx ry ⟨p, k, vs, rfl, rfl, l1, fun z => ne (q1.nil_iff.mp z), by omega, k2, by omega, fun p' hp => ?_⟩
    exact up _ _ _ _ q (Ext.new hp) (.tup (SqT.of upd_same) ((q1.flat _).ext (Ext.new hp))) (hm.newH hp)
def dMul : DR2 := fun x y M Q => match x, y with
  | .int i, .int j => CMul i j ∧ Q (.int (i * j)) M
  | .tup a, .int k => a ≠ [] ∧ 1 ≤ k ∧ k ≤ 1000 ∧ a.length ≤ 1000 ∧ Q (.tup (List.replicate k.toNat a).flatten) M
  | _, _ => False
theorem dop_mul : DOp X (binaryOp .Mult) dMul := by
  refine DOp.weak ((dop_ii op_mul (C := CMul) (g := fun i j => .int (i * j)) (fun _ _ h => h) fun i j H _ => .int _).or dop_repT) fun d e M Q q => ?_
  unfold dMul at q
  split at q
  · exact .inl ⟨_, _, rfl, rfl, q.1, q.2⟩
  · exact .inr ⟨_, _, rfl, rfl, q⟩
  · exact q.elim
def dMod : DR2 := fun x y M Q => match x, y with
  | .int i, .int j => 0 < j ∧ Q (.int (i % j)) M
  | _, _ => False
theorem dop_mod : DOp X (binaryOp .Mod) dMod := by
  refine DOp.weak (dop_ii op_mod (C := fun _ j => 0 < j) (g := fun i j => .int (i % j)) (fun _ _ h => h) fun i j H _ => .int _) fun d e M Q q => ?_
  unfold dMod at q
  split at q
  · exact ⟨_, _, rfl, rfl, q.1, q.2⟩
  · exact q.elim
def dFdiv : DR2 := fun x y M Q => match x, y with
  | .int i, .int j => CDiv i j ∧ Q (.int (i / j)) M
  | _, _ => False
theorem dop_fdiv : DOp X (binaryOp .FloorDiv) dFdiv := by
  refine DOp.weak (dop_ii op_fdiv (C := CDiv) (g := fun i j => .int (i / j)) (fun _ _ h => h) fun i j H _ => .int _) fun d e M Q q => ?_
  unfold dFdiv at q
  split at q
  · exact ⟨_, _, rfl, rfl, q.1, q.2⟩
  · exact q.elim
def dPow : DR2 := fun x y M Q => match x, y with
  | .int i, .int j => CPow i j ∧ Q (.int (i ^ j.toNat)) M
  | _, _ => False
theorem dop_pow : DOp X (binaryOp .Pow) dPow := by
  refine DOp.weak (dop_ii op_pow (C := CPow) (g := fun i j => .int (i ^ j.toNat)) (fun _ _ h => h) fun i j H _ => .int _) fun d e M Q q => ?_
  unfold dPow at q
  split at q
  · exact ⟨_, _, rfl, rfl, q.1, q.2⟩
  · exact q.elim
/-- every operator that the layer has -/
def dBin (op : Operator) : DR2 := match op with
  | .Add => dAdd
  | .Sub => dSub
  | .Mult => dMul
  | .Mod => dMod
  | .FloorDiv => dFdiv
  | .Pow => dPow
  | _ => fun _ _ _ _ => False
theorem dop_bin (op : Operator) : DOp X (binaryOp op) (dBin op) := by
  cases op with
  | Add => exact dop_add
  | Sub => exact dop_sub
  | Mult => exact dop_mul
  | Mod => exact dop_mod
  | FloorDiv => exact dop_fdiv
  | Pow => exact dop_pow
  | _ => exact OpR.alt fun _ _ _ _ _ _ _ _ _ _ _ _ _ _ _ _ _ _ _ q _ => q.elim

/-! ### comparisons -/
mutual
/-- == of plain data, as Python's -/
def eqD : D → D → Bool
  | .non, .non => true
  | .bl a, .bl b => a == b
  | .bl a, .int j => (if a then 1 else 0) == j
  | .int i, .bl b => i == (if b then 1 else 0)
  | .int i, .int j => i == j
  | .str x, .str y => x == y
  | .lst a, .lst b => eqDs a b
  | .tup a, .tup b => eqDs a b
  | _, _ => false
def eqDs : List D → List D → Bool
  | [], [] => true
  | x :: xs, y :: ys => eqD x y && eqDs xs ys
  | _, _ => false
end
mutual
def pyD : D → Option PyData
  | .non => some .none
  | .bl b => some (.bool b)
  | .int i => some (.int i)
  | .str x => some (.str x)
  | .tup l => (pyDs l).map .tuple
  | .lst l => (pyDs l).map .list
  | .ty _ => none
  | .dct _ => none
  | .obj _ _ => none
  | .ref _ => none
def pyDs : List D → Option (List PyData)
  | [] => some []
  | d :: ds => match pyD d, pyDs ds with
    | some k, some ks => some (k :: ks)
    | _, _ => none
end
mutual
def dep : D → Nat
  | .tup l => deps l + 1
  | .lst l => deps l + 1
  | .non => 0
  | .bl _ => 0
  | .int _ => 0
  | .str _ => 0
  | .ty _ => 0
  | .dct _ => 0
  | .obj _ _ => 0
  | .ref _ => 0
def deps : List D → Nat
  | [] => 0
  | d :: ds => max (dep d) (deps ds)
end
mutual
/-- plain data -/
def plain : D → Bool
  | .non => true
  | .bl _ => true
  | .int _ => true
  | .str _ => true
  | .tup l => plains l
  | .lst l => plains l
  | .ty _ => false
  | .dct _ => false
  | .obj _ _ => false
  | .ref _ => false
def plains : List D → Bool
  | [] => true
  | d :: ds => plain d && plains ds
end
theorem pyDs_cons {d : D} {ds : List D} {ps : List PyData} (h : pyDs (d :: ds) = some ps) : ∃ p qs, pyD d = some p ∧ pyDs ds = some qs ∧ ps = p :: qs := by
  rw [pyDs] at h
  cases e1 : pyD d with
  | none => rw [e1] at h; cases h
  | some p =>
    cases e2 : pyDs ds with
    | none => rw [e1, e2] at h; cases h
    | some qs => rw [e1, e2] at h; exact ⟨p, qs, rfl, rfl, (Option.some.inj h).symm⟩
mutual
theorem plain_py : ∀ d : D, plain d = true → ∃ p, pyD d = some p ∧ p.depth = dep d
  | .non, _ => ⟨_, rfl, rfl⟩
  | .bl b, _ => ⟨_, rfl, rfl⟩
  | .int i, _ => ⟨_, rfl, rfl⟩
  | .str x, _ => ⟨_, rfl, rfl⟩
  | .tup l, h => by
    rw [plain] at h
    obtain ⟨ps, e, z⟩ := plains_py l h
    exact ⟨.tuple ps, by rw [pyD, e]; rfl, by rw [PyData.depth, z, dep]⟩
  | .lst l, h => by
    rw [plain] at h
    obtain ⟨ps, e, z⟩ := plains_py l h
    exact ⟨.list ps, by rw [pyD, e]; rfl, by rw [PyData.depth, z, dep]⟩
  | .ty _, h => by rw [plain] at h; cases h
  | .dct _, h => by rw [plain] at h; cases h
  | .obj _ _, h => by rw [plain] at h; cases h
  | .ref _, h => by rw [plain] at h; cases h
theorem plains_py : ∀ l : List D, plains l = true → ∃ ps, pyDs l = some ps ∧ PyData.depthAll ps = deps l
  | [], _ => ⟨[], rfl, rfl⟩
  | d :: ds, h => by
    rw [plains, Bool.and_eq_true] at h
    obtain ⟨p, e1, z1⟩ := plain_py d h.1
    obtain ⟨ps, e2, z2⟩ := plains_py ds h.2
    exact ⟨p :: ps, by rw [pyDs, e1, e2], by rw [PyData.depthAll, deps, z1, z2]⟩
end
section
variable {G : Gv} {H : Hp}
mutual
theorem abs_dp : ∀ (d : D) (v : V) (p : PyData), pyD d = some p → Abs G H v d → Dp G.K H v p ∧ p.canLay0 = true
  | .non, _, _, e, a => by cases a; cases e; exact ⟨.non, rfl⟩
  | .bl b, _, _, e, a => by cases a; cases e; exact ⟨.bl b, rfl⟩
  | .int i, _, _, e, a => by cases a; cases e; exact ⟨.int i, rfl⟩
  | .str x, _, _, e, a => by
    cases a with | str _ h =>
    cases e
    exact ⟨.str x, by rw [PyData.canLay0]; exact h⟩
  | .tup l, _, _, e, a => by
    cases a with | tup r q =>
    rw [pyD] at e
    obtain ⟨ps, e1, rfl⟩ := Option.map_eq_some_iff.mp e
    obtain ⟨h1, h2⟩ := absL_dp l _ ps e1 q
    exact ⟨.tup r h1, by rw [PyData.canLay0]; exact h2⟩
  | .lst l, _, _, e, a => by
    cases a with | lst r q =>
    rw [pyD] at e
    obtain ⟨ps, e1, rfl⟩ := Option.map_eq_some_iff.mp e
    obtain ⟨h1, h2⟩ := absL_dp l _ ps e1 q
    exact ⟨.lst r.sq h1, by rw [PyData.canLay0]; exact h2⟩
  | .ty _, _, _, e, _ => by rw [pyD] at e; cases e
  | .dct _, _, _, e, _ => by rw [pyD] at e; cases e
  | .obj _ _, _, _, e, _ => by rw [pyD] at e; cases e
  | .ref _, _, _, e, _ => by rw [pyD] at e; cases e
theorem absL_dp : ∀ (l : List D) (vs : List V) (ps : List PyData), pyDs l = some ps → AbsL G H vs l → DpAll G.K H vs ps ∧ PyData.canLayAll0 ps = true
  | [], _, _, e, a => by cases a; rw [pyDs] at e; cases e; exact ⟨.nil, rfl⟩
  | d :: ds, _, _, e, a => by
    cases a with | cons a1 a2 =>
    obtain ⟨p, qs, e1, e2, rfl⟩ := pyDs_cons e
    obtain ⟨h1, h2⟩ := abs_dp d _ p e1 a1
    obtain ⟨h3, h4⟩ := absL_dp ds _ qs e2 a2
    exact ⟨.cons h1 h3, by rw [PyData.canLayAll0, h2, h4]; rfl⟩
end
end
mutual
theorem eqD_py : ∀ (d e : D) (p q : PyData), pyD d = some p → pyD e = some q → PyData.eqv p q = eqD d e
  | d, e, p, q, h1, h2 => by
    cases d <;> cases e <;> simp only [pyD, Option.some.injEq, Option.map_eq_some_iff, reduceCtorEq] at h1 h2 <;>
      first
      | (subst h1 h2; first | rfl | simp [PyData.eqv, eqD])
      | (obtain ⟨ps, e1, rfl⟩ := h1; obtain ⟨qs, e2, rfl⟩ := h2; first | (rw [PyData.eqv, eqD]; exact eqDs_py _ _ ps qs e1 e2) | simp [PyData.eqv, eqD])
      | (obtain ⟨ps, e1, rfl⟩ := h1; subst h2; simp [PyData.eqv, eqD])
      | (obtain ⟨ps, e1, rfl⟩ := h2; subst h1; simp [PyData.eqv, eqD])
theorem eqDs_py : ∀ (l m : List D) (ps qs : List PyData), pyDs l = some ps → pyDs m = some qs → PyData.eqvAll ps qs = eqDs l m
  | [], [], _, _, h1, h2 => by rw [pyDs] at h1 h2; cases h1; cases h2; rfl
  | [], _ :: _, _, _, h1, h2 => by
    rw [pyDs] at h1; cases h1
    obtain ⟨p, qs, _, _, rfl⟩ := pyDs_cons h2
    rfl
  | _ :: _, [], _, _, h1, h2 => by
    rw [pyDs] at h2; cases h2
    obtain ⟨p, qs, _, _, rfl⟩ := pyDs_cons h1
    rfl
  | d :: ds, e :: es, _, _, h1, h2 => by
    obtain ⟨p, ps, a1, a2, rfl⟩ := pyDs_cons h1
    obtain ⟨q, qs, b1, b2, rfl⟩ := pyDs_cons h2
    rw [PyData.eqvAll, eqDs, eqD_py d e p q a1 b1, eqDs_py ds es ps qs a2 b2]
end
end
end Dy
end
section
set_option Elab.async false
set_option linter.all false
set_option maxRecDepth 100000
set_option maxHeartbeats 2000000
/-! The D layer, 3: dicts. -/
namespace Dy
open PySem PySem.Spec L2
open PyProof.Rows hiding St

/-! ### by value -/
def getD (kvs : List (D × D)) (x : D) : Option D := (kvs.find? fun kv => eqD kv.1 x).map (·.2)
def putD (kvs : List (D × D)) (x v : D) : List (D × D) :=
  if (getD kvs x).isSome = true then kvs.map (fun kv => if eqD kv.1 x = true then (kv.1, v) else kv) else kvs ++ [(x, v)]
def dropD (kvs : List (D × D)) (x : D) : List (D × D) := kvs.filter fun kv => !eqD kv.1 x
theorem getD_nil {x : D} : getD [] x = none := rfl
theorem getD_cons {k u x : D} {r : List (D × D)} : getD ((k, u) :: r) x = if eqD k x then some u else getD r x := by
  unfold getD
  rw [List.find?_cons]
  cases eqD k x <;> rfl

/-- a scalar key -/
def keyS : D → Option Key
  | .int i => some (.inl i)
  | .str x => some (.inr x)
  | _ => none
theorem eqD_keyS {a b : D} {k j : Key} (ha : keyS a = some k) (hb : keyS b = some j) : eqD a b = decide (k = j) := by
  cases a <;> simp only [keyS, reduceCtorEq] at ha <;> cases b <;> simp only [keyS, reduceCtorEq] at hb <;> cases ha <;> cases hb
  · rw [key_ll]; rfl
  · rw [key_lr]; rfl
  · rw [key_rl]; rfl
  · rw [key_rr]
    simp only [eqD]
    rename_i x y
    by_cases e : x = y
    · subst e; simp
    · rw [decide_eq_false e]; exact beq_eq_false_iff_ne.mpr e
mutual
theorem eqD_keyN : ∀ (a b : D) (k j : NestedKey), keyN a = some k → keyN b = some j → eqD a b = decide (k = j)
  | a, b, k, j, ha, hb => by
    cases a <;> simp only [keyN, reduceCtorEq, Option.some.injEq, Option.map_eq_some_iff] at ha <;> cases b <;> simp only [keyN, reduceCtorEq, Option.some.injEq, Option.map_eq_some_iff] at hb <;>
      first
      | (subst ha hb; first | rfl | (simp only [eqD, NestedKey.num.injEq, NestedKey.text.injEq, reduceCtorEq, decide_false]; done) | (rename_i x y; cases x <;> cases y <;> rfl) | (rename_i x y; simp only [eqD, NestedKey.num.injEq]; cases x <;> simp [Bool.beq_eq_decide_eq]; done) | (rename_i x y; simp only [eqD, NestedKey.num.injEq]; cases y <;> simp [Bool.beq_eq_decide_eq]; done) | (rename_i x y; simp only [eqD, NestedKey.num.injEq, NestedKey.text.injEq]; by_cases e : x = y <;> simp [e]; done))
      | (obtain ⟨ks, e1, rfl⟩ := ha; obtain ⟨js, e2, rfl⟩ := hb; rw [eqD, eqDs_keyNs _ _ ks js e1 e2]; simp only [NestedKey.tup.injEq]; done)
      | (obtain ⟨ks, e1, rfl⟩ := ha; subst hb; simp only [eqD, reduceCtorEq, decide_false]; done)
      | (obtain ⟨ks, e1, rfl⟩ := hb; subst ha; simp only [eqD, reduceCtorEq, decide_false]; done)
theorem eqDs_keyNs : ∀ (l m : List D) (ks js : List NestedKey), keyNs l = some ks → keyNs m = some js → eqDs l m = decide (ks = js)
  | [], [], _, _, h1, h2 => by rw [keyNs] at h1 h2; cases h1; cases h2; rfl
  | [], e :: es, _, _, h1, h2 => by
    simp only [keyNs, Option.some.injEq] at h1; subst h1; rw [keyNs] at h2
    cases e1 : keyN e with
    | none => rw [e1] at h2; cases h2
    | some k =>
      cases e2 : keyNs es with
      | none => rw [e1, e2] at h2; cases h2
      | some ks => rw [e1, e2] at h2; cases h2; simp [eqDs]
  | d :: ds, [], _, _, h1, h2 => by
    simp only [keyNs, Option.some.injEq] at h2; subst h2; rw [keyNs] at h1
    cases e1 : keyN d with
    | none => rw [e1] at h1; cases h1
    | some k =>
      cases e2 : keyNs ds with
      | none => rw [e1, e2] at h1; cases h1
      | some ks => rw [e1, e2] at h1; cases h1; simp [eqDs]
  | d :: ds, e :: es, _, _, h1, h2 => by
    rw [keyNs] at h1 h2
    cases a1 : keyN d with
    | none => rw [a1] at h1; cases h1
    | some k =>
      cases a2 : keyNs ds with
      | none => rw [a1, a2] at h1; cases h1
      | some ks =>
        rw [a1, a2] at h1; cases h1
        cases b1 : keyN e with
        | none => rw [b1] at h2; cases h2
        | some j =>
          cases b2 : keyNs es with
          | none => rw [b1, b2] at h2; cases h2
          | some js =>
            rw [b1, b2] at h2; cases h2
            rw [eqDs, eqD_keyN d e k j a1 b1, eqDs_keyNs ds es ks js a2 b2]
            simp only [List.cons.injEq]
            by_cases q : k = j <;> simp [q]
end

/-! ### what stands in the heap -/
section
variable {X : Cx} {pins : List (Addr × Obj)} {σ : St} {H : Hp} {s : Shared}
mutual
theorem abs_nested (I : Inv X pins σ H s) : ∀ (d : D) (v : V) (u : Value) (k : NestedKey), keyN d = some k → Abs (Gx X) H v d → RelV v u → NestedIs s.heap k u
  | .non, _, _, _, e, a, r => by cases a; cases r; cases e; exact .none
  | .bl b, _, _, _, e, a, r => by cases a; cases r; cases e; exact .bool rfl
  | .int i, _, _, _, e, a, r => by cases a; obtain ⟨t, rfl⟩ := r; cases e; exact .int i t
  | .str x, _, _, _, e, a, r => by cases a; obtain ⟨t, rfl⟩ := r; cases e; exact .text x t
  | .tup l, _, _, _, e, a, r => by
    cases a with | tup q ql =>
    cases r
    rw [keyN] at e
    obtain ⟨ks, e1, rfl⟩ := Option.map_eq_some_iff.mp e
    obtain ⟨its, rv, ⟨o, ho, hc, n, hd⟩, hz⟩ := I.tuple q
    exact .tup ho hc hd (absL_nested I l _ its ks e1 ql rv)
  | .ty _, _, _, _, e, _, _ => by rw [keyN] at e; cases e
  | .lst _, _, _, _, e, _, _ => by rw [keyN] at e; cases e
  | .dct _, _, _, _, e, _, _ => by rw [keyN] at e; cases e
  | .obj _ _, _, _, _, e, _, _ => by rw [keyN] at e; cases e
  | .ref _, _, _, _, e, _, _ => by rw [keyN] at e; cases e
theorem absL_nested (I : Inv X pins σ H s) : ∀ (l : List D) (vs : List V) (us : List Value) (ks : List NestedKey), keyNs l = some ks → AbsL (Gx X) H vs l → Vals vs us → NestedAll s.heap ks us
  | [], _, _, _, e, a, r => by cases a; cases r; simp only [keyNs, Option.some.injEq] at e; subst e; exact .nil
  | d :: ds, _, _, _, e, a, r => by
    cases a with | cons a1 a2 =>
    cases r with | cons r1 r2 =>
    rw [keyNs] at e
    cases e1 : keyN d with
    | none => rw [e1] at e; cases e
    | some k =>
      cases e2 : keyNs ds with
      | none => rw [e1, e2] at e; cases e
      | some ks => rw [e1, e2] at e; cases e; exact .cons (abs_nested I d _ _ k e1 a1 r1) (absL_nested I ds _ _ ks e2 a2 r2)
end
/-- the concrete entries -/
abbrev NV : List (NestedKey × Addr × V) → List (NestedKey × Addr × Value) → Prop := Paired fun p q => p.1 = q.1 ∧ p.2.1 = q.2.1 ∧ RelV p.2.2 q.2.2
theorem NDict.stable {P : Program} {w : World} {a : Addr} {xs : List (NestedKey × Addr × V)} : ∀ h1 h2 : Heap, NDict P w h1 a xs → (∀ o, h1.get? a = some o → h2.get? a = some o) → NDict P w h2 a xs :=
  fun _ _ ⟨z, y, vs, r, o, es, ep, g, q⟩ k => ⟨z, y, vs, r, o, es, ep, k o g, q⟩
theorem nd_ok {P : Program} {w : World} {H' : Hp} {h' : Heap} {a : Addr} {xs : List (NestedKey × Addr × V)} (n : NDict P w h' a xs) : ObjOk P w H' h' a (ndO P w a xs) :=
  ⟨n, let ⟨_, _, _, _, o, _, _, g, _⟩ := n; ⟨o, g⟩, NDict.stable⟩
theorem nd_rd {a : Addr} {xs : List (NestedKey × Addr × V)} (I : Inv X pins σ H s) (e : Rd H a (ndO X.prog X.w a xs)) : NDict X.prog X.w s.heap a xs :=
  (show ObjOk X.prog X.w H s.heap a (ndO X.prog X.w a xs) from e.ok I.hok).1
theorem absN_keys (I : Inv X pins σ H s) : ∀ {ds : List (D × D)} {xs : List (NestedKey × Addr × V)} {vs : List (NestedKey × Addr × Value)}, AbsN (Gx X) H xs ds → NV xs vs → ∀ x ∈ vs, (nestedKind X.prog X.w).is s.heap x.1 x.2.1
  | _, _, _, .nil, .nil, x, hx => nomatch hx
  | _, _, _, .cons k z a b l, .cons r t, x, hx => by
    obtain ⟨r1, r2, r3⟩ := r
    rcases List.mem_cons.mp hx with e | hx
    · subst e
      rw [← r1, ← r2]
      refine ⟨abs_nested I (.tup _) _ (.ref _) _ (by rw [keyN, k]; rfl) a rfl, z⟩
    · exact absN_keys I l t x hx
theorem nd_of {a : Addr} {xs : List (NestedKey × Addr × V)} {ds : List (D × D)} (I : Inv X pins σ H s) (e : Rd H a (ndO X.prog X.w a xs)) (l : AbsN (Gx X) H xs ds) :
    xs.length ≤ sizeLine ∧ (a == sysModules) = false ∧ ∃ vs, NV xs vs ∧ s.heap.DictOfH (nestedKind X.prog X.w) a vs := by
  obtain ⟨z, y, vs, r, o, es, ep, h1, h2, h3, h4, h5⟩ := nd_rd I e
  exact ⟨z, y, vs, r, o, es, ep, h1, h2, h3, h4, absN_keys I l r, h5⟩
/-- the tuple as a key -/
theorem key_nested {b : Addr} {l : List D} {ks : List NestedKey} (I : Inv X pins σ H s) (e : keyNs l = some ks) (z : (NestedKey.tup ks).depth ≤ 8) (a : Abs (Gx X) H (.ref b) (.tup l)) : (nestedKind X.prog X.w).is s.heap (.tup ks) b :=
  ⟨abs_nested I (.tup l) _ (.ref b) _ (by rw [keyN, e]; rfl) a rfl, z⟩
/-- an empty dict is one of tuples too -/
theorem nd_nil {a : Addr} (I : Inv X pins σ H s) (e : H a = some (.dK [])) : Inv X pins σ (upd H a (ndO X.prog X.w a [])) s := by
  obtain ⟨z, y, vs, r, o, es, ep, h1, h2, h3, h4, h5, h6⟩ := dk_of I.hok e
  cases r
  have es0 : es.toList = [] := by
    cases q : es.toList with
    | nil => rfl
    | cons x xs => rw [q] at h5; cases h5
  have n : NDict X.prog X.w s.heap a [] := ⟨Nat.zero_le _, y, [], .nil, o, es, ep, h1, h2, h3, by rw [es0]; rfl, .nil⟩
  have I2 := I.write (x := a) (e := a) (o := ndO X.prog X.w a []) (t' := s.toks) (h' := s.heap) (by rw [e]; exact trivial) (.inl rfl) (fun b u _ q => q) ⟨o, h1⟩ (nd_ok n)
  exact I2
theorem dk_nil {a : Addr} (I : Inv X pins σ H s) (e : H a = some (ndO X.prog X.w a [])) : Inv X pins σ (upd H a (.dK [])) s := by
  obtain ⟨z, y, vs, r, o, es, ep, h1, h2, h3, h4, h5⟩ := nd_rd I (.inl e)
  cases r
  have es0 : es.toList = [] := h4
  have n : ObjOk X.prog X.w (upd H a (.dK [])) s.heap a (.dK []) := ⟨Nat.zero_le _, y, [], .nil, o, es, ep, h1, h2, h3, by
    intro en hen
    have : es = #[] := by
      apply Array.toList_inj.mp; rw [es0]
    subst this
    simp at hen, by rw [es0]; exact .nil, .nil⟩
  exact I.write (x := a) (e := a) (o := .dK []) (t' := s.toks) (h' := s.heap) (by rw [e]; exact trivial) (.inl rfl) (fun b u _ q => q) ⟨o, h1⟩ n
end

/-! ### facts of a dict, as its keys are -/
def scalK (x : D) : Prop := ∃ k, keyS x = some k
def tupK (x : D) : Prop := ∃ l ks, x = .tup l ∧ keyNs l = some ks ∧ (NestedKey.tup ks).depth ≤ 8
def AllS (kvs : List (D × D)) : Prop := ∀ kv ∈ kvs, scalK kv.1
def AllT (kvs : List (D × D)) : Prop := ∀ kv ∈ kvs, ∃ l, kv.1 = .tup l
/-- the key may be asked of this dict -/
def keyFit (x : D) (kvs : List (D × D)) : Prop := (scalK x ∧ AllS kvs) ∨ (tupK x ∧ AllT kvs)
section
variable {X : Cx} {pins : List (Addr × Obj)} {σ : St} {H : Hp} {s : Shared} {M : Mp}
theorem absK_S {kvs : List (Key × V)} {ds : List (D × D)} (h : AbsK (Gx X) H kvs ds) : AllS ds := by
  intro kv hk
  induction ds generalizing kvs with
  | nil => exact nomatch hk
  | cons d ds ih =>
    cases h with
    | int a l =>
      rcases List.mem_cons.mp hk with e | hk
      · subst e; exact ⟨_, rfl⟩
      · exact ih l hk
    | str h a l =>
      rcases List.mem_cons.mp hk with e | hk
      · subst e; exact ⟨_, rfl⟩
      · exact ih l hk
theorem absN_T {xs : List (NestedKey × Addr × V)} {ds : List (D × D)} (h : AbsN (Gx X) H xs ds) : AllT ds := by
  intro kv hk
  induction ds generalizing xs with
  | nil => exact nomatch hk
  | cons d ds ih =>
    cases h with
    | cons k z a b l =>
      rcases List.mem_cons.mp hk with e | hk
      · subst e; exact ⟨_, rfl⟩
      · exact ih l hk
theorem AllS.T_nil {ds : List (D × D)} (a : AllS ds) (b : AllT ds) : ds = [] := by
  cases ds with
  | nil => rfl
  | cons d ds =>
    obtain ⟨k, hk⟩ := a d List.mem_cons_self
    obtain ⟨l, hl⟩ := b d List.mem_cons_self
    rw [hl] at hk; cases hk
/-- where a dict stands: tracked or frozen -/
inductive DAt (G : Gv) (H : Hp) (a : Addr) (ds : List (D × D)) : Prop where
  | k {kvs : List (Key × V)} : Rd H a (.dK kvs) → AbsK G H kvs ds → DAt G H a ds
  | n {xs : List (NestedKey × Addr × V)} : Rd H a (ndO G.P G.w a xs) → AbsN G H xs ds → DAt G H a ds
theorem dct_abs {G : Gv} {x : V} {d : D} {l : List (D × D)} (e : dctOf M d = some l) (a : Abs G H x d) (hm : HAbs G H M) : ∃ p, x = .ref p ∧ DAt G H p l := by
  cases a with
  | dK r q => simp only [dctOf, Option.some.injEq] at e; subst e; exact ⟨_, rfl, .k (.inr ⟨_, r⟩) q⟩
  | dN r q => simp only [dctOf, Option.some.injEq] at e; subst e; exact ⟨_, rfl, .n (.inr ⟨_, r⟩) q⟩
  | ref p =>
    simp only [dctOf] at e
    cases z : M p with
    | none => rw [z] at e; cases e
    | some o =>
      rw [z] at e
      cases o with
      | lst _ => cases e
      | dct ds =>
        simp only [Option.some.injEq] at e; subst e
        cases hm p _ z with
        | dK r q => exact ⟨p, rfl, .k (.inl r) q⟩
        | dN r q => exact ⟨p, rfl, .n (.inl r) q⟩
      | ins _ _ => cases e
  | _ => cases e
theorem factS {a : Addr} {ds : List (D × D)} (I : Inv X pins σ H s) (h : DAt (Gx X) H a ds) (hs : AllS ds) :
    (a == sysModules) = false ∧ ∃ kvs vs, AbsK (Gx X) H kvs ds ∧ KV kvs vs ∧ s.heap.DictOf (mixKind X.prog X.w) a vs ∧ kvs.length ≤ sizeLine := by
  cases h with
  | k r q =>
    obtain ⟨z, hd, vs, rel, dd⟩ := dk_rd I.hok r
    exact ⟨hd, _, vs, q, rel, dd, z⟩
  | n r q =>
    have e := hs.T_nil (absN_T q)
    subst e
    cases q
    obtain ⟨z, hd, vs, rel, o, es, ep, h1, h2, h3, h4, h5⟩ := nd_rd I r
    cases rel
    refine ⟨hd, [], [], .nil, .nil, ⟨o, es, ep, h1, h2, h3, ?_, by rw [show es.toList = [] from h4]; exact .nil, .nil⟩, Nat.zero_le _⟩
    intro en hen
    have : es = #[] := by apply Array.toList_inj.mp; exact h4
    subst this
    simp at hen
theorem factT {a : Addr} {ds : List (D × D)} (I : Inv X pins σ H s) (h : DAt (Gx X) H a ds) (hs : AllT ds) :
    (a == sysModules) = false ∧ ∃ xs vs, AbsN (Gx X) H xs ds ∧ NV xs vs ∧ s.heap.DictOfH (nestedKind X.prog X.w) a vs ∧ xs.length ≤ sizeLine := by
  cases h with
  | n r q =>
    obtain ⟨z, hd, vs, rel, dd⟩ := nd_of I r q
    exact ⟨hd, _, vs, q, rel, dd, z⟩
  | k r q =>
    have e := (absK_S q).T_nil hs
    subst e
    cases q
    obtain ⟨z, hd, vs, rel, o, es, ep, h1, h2, h3, h4, h5, h6⟩ := dk_rd I.hok r
    cases rel
    refine ⟨hd, [], [], .nil, .nil, ⟨o, es, ep, h1, h2, h3, ?_, fun x hx => (nomatch hx), .nil⟩, Nat.zero_le _⟩
    cases q : es.toList with
    | nil => rfl
    | cons x xs => rw [q] at h5; cases h5
/-- a scalar key's value -/
theorem scal_abs {x : V} {d : D} {k : Key} (e : keyS d = some k) (a : Abs (Gx X) H x d) : x = kV k := by
  cases d <;> simp only [keyS, reduceCtorEq, Option.some.injEq] at e <;> subst e <;> cases a <;> rfl
/-- what is there -/
def OAbs (G : Gv) (H : Hp) : Option V → Option D → Prop
  | some v, some d => Abs G H v d
  | none, none => True
  | _, _ => False
theorem OAbs.of_some {G : Gv} {o : Option V} {d : D} (h : OAbs G H o (some d)) : ∃ v, o = some v ∧ Abs G H v d := by
  cases o with
  | none => exact h.elim
  | some v => exact ⟨v, rfl, h⟩
theorem OAbs.of_none {G : Gv} {o : Option V} (h : OAbs G H o none) : o = none := by
  cases o with
  | none => rfl
  | some v => exact h.elim
theorem OAbs.isSome {G : Gv} {o : Option V} {d : Option D} (h : OAbs G H o d) : o.isSome = d.isSome := by
  cases o <;> cases d <;> first | rfl | exact h.elim
theorem absK_get {x : D} {k : Key} (e : keyS x = some k) : ∀ {ds : List (D × D)} {kvs : List (Key × V)}, AbsK (Gx X) H kvs ds → OAbs (Gx X) H (valV kvs k) (getD ds x)
  | _, _, .nil => trivial
  | _, _, .int (i := i) (d := d) a l => by
    rw [getD_cons, eqD_keyS (k := .inl i) rfl e]
    by_cases q : (Sum.inl i : Key) = k
    · rw [valV_pos q, decide_eq_true q]; exact a
    · rw [valV_neg q, decide_eq_false q]; exact absK_get e l
  | _, _, .str (x := i) (d := d) h a l => by
    rw [getD_cons, eqD_keyS (k := .inr i) rfl e]
    by_cases q : (Sum.inr i : Key) = k
    · rw [valV_pos q, decide_eq_true q]; exact a
    · rw [valV_neg q, decide_eq_false q]; exact absK_get e l
/-- .. of the concrete entries -/
def valN (xs : List (NestedKey × Addr × V)) (k : NestedKey) : Option V := (xs.find? fun x => decide (x.1 = k)).map (·.2.2)
theorem absN_get {l : List D} {ks : List NestedKey} (e : keyNs l = some ks) : ∀ {ds : List (D × D)} {xs : List (NestedKey × Addr × V)}, AbsN (Gx X) H xs ds → OAbs (Gx X) H (valN xs (.tup ks)) (getD ds (.tup l))
  | _, _, .nil => trivial
  | _, _, .cons (ks := js) (l := m) (xs := xs) k z a b t => by
    rw [getD_cons, eqD_keyN (.tup m) (.tup l) (.tup js) (.tup ks) (by rw [keyN, k]; rfl) (by rw [keyN, e]; rfl)]
    unfold valN
    rw [List.find?_cons]
    by_cases q : NestedKey.tup js = NestedKey.tup ks
    · rw [decide_eq_true q]; exact b
    · rw [decide_eq_false q]; exact absN_get e t
theorem nv_val {k : NestedKey} : ∀ {xs : List (NestedKey × Addr × V)} {vs : List (NestedKey × Addr × Value)}, NV xs vs → RelO (valN xs k) ((atKey vs k).map (·.2))
  | _, _, .nil => trivial
  | _, _, .cons (a := p) (b := q) r t => by
    obtain ⟨r1, r2, r3⟩ := r
    unfold valN atKey
    rw [List.find?_cons, List.find?_cons, r1]
    by_cases z : q.1 = k
    · rw [decide_eq_true z]; exact r3
    · rw [decide_eq_false z]; exact nv_val t
end

/-! ### asking -/
section
variable {X : Cx}
def dDIn (neg : Bool) : DR2 := fun x y M Q => ∃ kvs, dctOf M y = some kvs ∧ keyFit x kvs ∧ Q (.bl (if neg then !(getD kvs x).isSome else (getD kvs x).isSome)) M
theorem dop_din (hu : X.A.units + 64 < cLine) : DOp X (compareOp .In) (dDIn false) := by
  refine OpR.alt fun pins s σ H x y v u d e M Qd Q I rx ry ax ay hm q up => ?_
  obtain ⟨kvs, hd, fit, q⟩ := q
  obtain ⟨p, rfl, at_⟩ := dct_abs hd ay hm
  cases ry
  rcases fit with ⟨⟨k, hk⟩, hs⟩ | ⟨⟨l, ks, rfl, hk, hz⟩, ht⟩
  · have ex := scal_abs hk ax
    subst ex
    obtain ⟨hp, kvs', vs, ak, rel, dd, _⟩ := factS I at_ hs
    refine wpAny_in_of (kV_is rx) hp dd.mapOf ?_
    rw [← (rel.val k).isSome_eq, (absK_get hk ak).isSome]
    exact ⟨.bl _, H, I.tok _, rfl, up _ _ _ _ q (Ext.refl H) (.bl _) hm⟩
  · obtain ⟨b, ws, rfl, _, _⟩ := tup_abs ax
    cases rx
    obtain ⟨hp, xs, vs, an, rel, dd, _⟩ := factT I at_ ht
    refine wpAny_in_heap (show X.A.in1.units + 8 < cLine from by show X.A.units + 1 + 8 < cLine; omega) (key_nested I hk hz ax) hp dd ?_
    have e1 := (nv_val (k := .tup ks) rel).isSome_eq
    rw [Option.isSome_map] at e1
    rw [← e1, (absN_get hk an).isSome]
    exact ⟨.bl _, H, I.tok _, rfl, up _ _ _ _ q (Ext.refl H) (.bl _) hm⟩
theorem dop_dnotin (hu : X.A.units + 64 < cLine) : DOp X (compareOp .NotIn) (dDIn true) := by
  refine OpR.alt fun pins s σ H x y v u d e M Qd Q I rx ry ax ay hm q up => ?_
  obtain ⟨kvs, hd, fit, q⟩ := q
  obtain ⟨p, rfl, at_⟩ := dct_abs hd ay hm
  cases ry
  rcases fit with ⟨⟨k, hk⟩, hs⟩ | ⟨⟨l, ks, rfl, hk, hz⟩, ht⟩
  · have ex := scal_abs hk ax
    subst ex
    obtain ⟨hp, kvs', vs, ak, rel, dd, _⟩ := factS I at_ hs
    refine wpAny_notIn_of (kV_is rx) hp dd.mapOf ?_
    rw [← (rel.val k).isSome_eq, (absK_get hk ak).isSome]
    exact ⟨.bl _, H, I.tok _, rfl, up _ _ _ _ q (Ext.refl H) (.bl _) hm⟩
  · obtain ⟨b, ws, rfl, _, _⟩ := tup_abs ax
    cases rx
    obtain ⟨hp, xs, vs, an, rel, dd, _⟩ := factT I at_ ht
    refine wpAny_notIn_heap (show X.A.in1.units + 8 < cLine from by show X.A.units + 1 + 8 < cLine; omega) (key_nested I hk hz ax) hp dd ?_
    have e1 := (nv_val (k := .tup ks) rel).isSome_eq
    rw [Option.isSome_map] at e1
    rw [← e1, (absN_get hk an).isSome]
    exact ⟨.bl _, H, I.tok _, rfl, up _ _ _ _ q (Ext.refl H) (.bl _) hm⟩
/-- d[k] -/
def dDGet : DR2 := fun x y M Q => ∃ kvs v, dctOf M x = some kvs ∧ keyFit y kvs ∧ getD kvs y = some v ∧ Q v M
theorem dix_dict (hu : X.A.units + 64 < cLine) {pins : List (Addr × Obj)} {σ : St} {H : Hp} {s : Shared} {x y : V} {v u : Value} {d e : D} {M : Mp} {Qd : DK} {Q : VK} (I : Inv X pins σ H s) (rx : RelV x v) (ry : RelV y u)
    (ax : Abs (Gx X) H x d) (ay : Abs (Gx X) H y e) (hm : HAbs (Gx X) H M) (q : dDGet d e M Qd) (up : Up (Gx X) H Qd Q) : wpAny (model X.prog X.w) X.A (getItem v u) (EP X pins σ Q) X.xe s := by
  obtain ⟨kvs, z, hd, fit, hg, q⟩ := q
  obtain ⟨p, rfl, at_⟩ := dct_abs hd ax hm
  cases rx
  rcases fit with ⟨⟨k, hk⟩, hs⟩ | ⟨⟨l, ks, rfl, hk, hz⟩, ht⟩
  · have ex := scal_abs hk ay
    subst ex
    obtain ⟨hp, kvs', vs, ak, rel, dd, _⟩ := factS I at_ hs
    have g := absK_get hk ak
    rw [hg] at g
    obtain ⟨w1, g1, g2⟩ := g.of_some
    obtain ⟨w', hw, rw'⟩ := RelO.some_of (v := w1) (o := valueAt vs k) (by rw [← g1]; exact rel.val k)
    exact wpAny_getItem_of (kV_is ry) dd.mapOf hw ⟨w1, H, I.tok _, rw', up _ _ _ _ q (Ext.refl H) g2 hm⟩
  · obtain ⟨b, ws, rfl, _, _⟩ := tup_abs ay
    cases ry
    obtain ⟨hp, xs, vs, an, rel, dd, _⟩ := factT I at_ ht
    have g := absN_get hk an
    rw [hg] at g
    obtain ⟨w1, g1, g2⟩ := g.of_some
    obtain ⟨w', hw, rw'⟩ := RelO.some_of (v := w1) (o := (atKey vs (.tup ks)).map (·.2)) (by rw [← g1]; exact nv_val rel)
    obtain ⟨pp, hpp, hp2⟩ := Option.map_eq_some_iff.mp hw
    refine wpAny_getItem_heap (show X.A.in1.units + 8 < cLine from by show X.A.units + 1 + 8 < cLine; omega) (key_nested I hk hz ay) dd hpp ?_
    rw [hp2]
    exact ⟨w1, H, I.tok _, rw', up _ _ _ _ q (Ext.refl H) g2 hm⟩
end

/-! ### storing -/
section
variable {X : Cx} {pins : List (Addr × Obj)} {σ : St} {H : Hp} {s : Shared} {M : Mp}
theorem AbsK.length {G : Gv} : ∀ {ds : List (D × D)} {kvs : List (Key × V)}, AbsK G H kvs ds → kvs.length = ds.length
  | _, _, .nil => rfl
  | _, _, .int _ l => by simp [l.length]
  | _, _, .str _ _ l => by simp [l.length]
theorem AbsN.length {G : Gv} : ∀ {ds : List (D × D)} {xs : List (NestedKey × Addr × V)}, AbsN G H xs ds → xs.length = ds.length
  | _, _, .nil => rfl
  | _, _, .cons _ _ _ _ l => by simp [l.length]
theorem absK_map {G : Gv} {x d : D} {k : Key} {v : V} (e : keyS x = some k) (a : Abs G H v d) : ∀ {ds : List (D × D)} {kvs : List (Key × V)}, AbsK G H kvs ds →
    AbsK G H (kvs.map fun kv => if kv.1 = k then (kv.1, v) else kv) (ds.map fun kv => if eqD kv.1 x = true then (kv.1, d) else kv)
  | _, _, .nil => .nil
  | _, _, .int (i := i) b l => by
    have t := absK_map e a l
    have q0 := eqD_keyS (a := .int i) (k := .inl i) rfl e
    simp only [List.map_cons, q0]
    by_cases q : (Sum.inl i : Key) = k
    · simp only [if_pos q, decide_eq_true q, if_true]; exact .int a t
    · simp only [if_neg q, decide_eq_false q, Bool.false_eq_true, if_false]; exact .int b t
  | _, _, .str (x := i) h b l => by
    have t := absK_map e a l
    have q0 := eqD_keyS (a := .str i) (k := .inr i) rfl e
    simp only [List.map_cons, q0]
    by_cases q : (Sum.inr i : Key) = k
    · simp only [if_pos q, decide_eq_true q, if_true]; exact .str h a t
    · simp only [if_neg q, decide_eq_false q, Bool.false_eq_true, if_false]; exact .str h b t
theorem absK_snoc {G : Gv} {x d : D} {k : Key} {v : V} (e : keyS x = some k) (hs : ∀ y, x = .str y → PyData.strOk y = true) (a : Abs G H v d) : ∀ {ds : List (D × D)} {kvs : List (Key × V)}, AbsK G H kvs ds → AbsK G H (kvs ++ [(k, v)]) (ds ++ [(x, d)])
  | _, _, .nil => by
    cases x <;> simp only [keyS, reduceCtorEq, Option.some.injEq] at e <;> subst e
    · exact .int a .nil
    · exact .str (hs _ rfl) a .nil
  | _, _, .int b l => .int b (absK_snoc e hs a l)
  | _, _, .str h b l => .str h b (absK_snoc e hs a l)
theorem key_str {G : Gv} {vx : V} {x : D} (a : Abs G H vx x) : ∀ y, x = .str y → PyData.strOk y = true := by
  intro y e; subst e; cases a; assumption
theorem absK_put {x d : D} {k : Key} {v : V} {ds : List (D × D)} {kvs : List (Key × V)} (e : keyS x = some k) (hs : ∀ y, x = .str y → PyData.strOk y = true) (a : Abs (Gx X) H v d) (l : AbsK (Gx X) H kvs ds) : AbsK (Gx X) H (putK kvs k v) (putD ds x d) := by
  unfold putK putD
  rw [valV_any, (absK_get e l).isSome]
  split
  · exact absK_map e a l
  · exact absK_snoc e hs a l
theorem putD_le (ds : List (D × D)) (x v : D) : (putD ds x v).length ≤ ds.length + 1 := by
  unfold putD; split <;> simp
/-- .. with tuples -/
def putN (xs : List (NestedKey × Addr × V)) (k : NestedKey) (b : Addr) (v : V) : List (NestedKey × Addr × V) :=
  if (valN xs k).isSome = true then xs.map (fun x => if x.1 = k then (x.1, x.2.1, v) else x) else xs ++ [(k, b, v)]
theorem nv_put {k : NestedKey} {b : Addr} {v : V} {u : Value} (r : RelV v u) {xs : List (NestedKey × Addr × V)} {vs : List (NestedKey × Addr × Value)} (h : NV xs vs) : NV (putN xs k b v) (storedH vs k b u) := by
  unfold putN storedH
  have e := (nv_val (k := k) h).isSome_eq
  rw [Option.isSome_map] at e
  rw [e]
  split
  · rename_i hc
    clear e hc
    induction h with
    | nil => exact .nil
    | @cons p q ps qs hq t ih =>
      obtain ⟨e1, e2, e3⟩ := hq
      simp only [List.map_cons]
      refine .cons ?_ ih
      unfold putAt
      rw [e1]
      split
      · exact ⟨rfl, e2, r⟩
      · exact ⟨e1, e2, e3⟩
  · rename_i hc
    clear e hc
    induction h with
    | nil => exact .cons ⟨rfl, rfl, r⟩ .nil
    | cons hq t ih => exact .cons hq ih
theorem absN_map {G : Gv} {l : List D} {d : D} {ks : List NestedKey} {v : V} (e : keyNs l = some ks) (a : Abs G H v d) : ∀ {ds : List (D × D)} {xs : List (NestedKey × Addr × V)}, AbsN G H xs ds →
    AbsN G H (xs.map fun x => if x.1 = .tup ks then (x.1, x.2.1, v) else x) (ds.map fun kv => if eqD kv.1 (.tup l) = true then (kv.1, d) else kv)
  | _, _, .nil => .nil
  | _, _, .cons (ks := js) (l := m) k z b c t => by
    simp only [List.map_cons, eqD_keyN (.tup m) (.tup l) (.tup js) (.tup ks) (by rw [keyN, k]; rfl) (by rw [keyN, e]; rfl)]
    by_cases q : NestedKey.tup js = NestedKey.tup ks
    · simp only [q, if_true, decide_true]
      have q' := q
      rw [NestedKey.tup.injEq] at q'
      subst q'
      exact .cons k z b a (absN_map e a t)
    · simp only [q, if_false, decide_false, Bool.false_eq_true]; exact .cons k z b c (absN_map e a t)
theorem absN_snoc {G : Gv} {l : List D} {d : D} {ks : List NestedKey} {v : V} {b : Addr} (e : keyNs l = some ks) (z : (NestedKey.tup ks).depth ≤ 8) (ab : Abs G H (.ref b) (.tup l)) (a : Abs G H v d) : ∀ {ds : List (D × D)} {xs : List (NestedKey × Addr × V)}, AbsN G H xs ds → AbsN G H (xs ++ [(.tup ks, b, v)]) (ds ++ [(.tup l, d)])
  | _, _, .nil => .cons e z ab a .nil
  | _, _, .cons k y b' c t => .cons k y b' c (absN_snoc e z ab a t)
theorem absN_put {l : List D} {d : D} {ks : List NestedKey} {v : V} {b : Addr} {ds : List (D × D)} {xs : List (NestedKey × Addr × V)} (e : keyNs l = some ks) (z : (NestedKey.tup ks).depth ≤ 8) (ab : Abs (Gx X) H (.ref b) (.tup l)) (a : Abs (Gx X) H v d)
    (h : AbsN (Gx X) H xs ds) : AbsN (Gx X) H (putN xs (.tup ks) b v) (putD ds (.tup l) d) := by
  unfold putN putD
  rw [(absN_get e h).isSome]
  split
  · exact absN_map e a h
  · exact absN_snoc e z ab a h
/-- d[k] = v: what it asks, what stands behind it -/
def dDSet : D → D → D → Mp → (Mp → Prop) → Prop := fun x y z M Q => ∃ p kvs, x = .ref p ∧ M p = some (.dct kvs) ∧ keyFit y kvs ∧ kvs.length < sizeLine ∧ Q (updM M p (.dct (putD kvs y z)))
theorem dset_dict (hu : X.A.units + 64 < cLine) {E : Value → Shared → Prop} {x y z : V} {ov iv u : Value} {d e f : D} {Qd : Mp → Prop} {Q : Hp → Prop} (I : Inv X pins σ H s) (rx : RelV x ov) (ry : RelV y iv) (rz : RelV z u)
    (ax : Abs (Gx X) H x d) (ay : Abs (Gx X) H y e) (az : Abs (Gx X) H z f) (hm : HAbs (Gx X) H M) (q : dDSet d e f M Qd) (up : ∀ M' H', Qd M' → Ext H H' → HAbs (Gx X) H' M' → Q H') :
    wpAny (model X.prog X.w) X.A (setItem ov iv u) (fun _ s' => ∃ H', Inv X pins σ H' s' ∧ Q H') E s := by
  obtain ⟨p, kvs, rfl, hM, fit, hl, q⟩ := q
  cases ax
  cases rx
  rcases fit with ⟨⟨k, hk⟩, hs⟩ | ⟨⟨l, ks, rfl, hk, hz⟩, ht⟩
  · have ex := scal_abs hk ay
    subst ex
    -- its place is one of scalar keys, or turned into one
    have go : ∀ {H1 : Hp} {ws : List (Key × V)}, Inv X pins σ H1 s → H1 p = some (.dK ws) → AbsK (Gx X) H1 ws kvs → Abs (Gx X) H1 z f → HAbs (Gx X) H1 M → Ext H H1 → wpAny (model X.prog X.w) X.A (setItem (.ref p) iv u) (fun _ s' => ∃ H', Inv X pins σ H' s' ∧ Q H') E s := by
      intro H1 ws I1 e1 l1 az1 hm1 x1
      refine d_setItem (by omega) I1 (DPut.k (k := k) (v := z) e1 (by rw [l1.length]; exact hl)) ry rz fun s' I' => ⟨_, I', ?_⟩
      have x2 : Ext H1 (upd H1 p (.dK (putK ws k z))) := Ext.put e1 trivial
      exact up _ _ q (x1.trans x2) (hm1.put e1 trivial (.dK upd_same ((absK_put hk (key_str ay) az1 l1).ext x2)))
    cases hm p _ hM with
    | dK r t => exact go I r t az hm (Ext.refl H)
    | dN r t =>
      have en := hs.T_nil (absN_T t)
      subst en
      cases t
      have x1 : Ext H (upd H p (.dK [])) := Ext.put r trivial
      have hm1 := hm.put (o := .dct []) r trivial (u := .dK []) (.dK upd_same .nil)
      have eM : updM M p (.dct []) = M := by
        funext b; by_cases q : b = p
        · subst q; rw [updM_same, hM]
        · rw [updM_ne q]
      rw [eM] at hm1
      exact go (dk_nil I r) upd_same .nil (az.ext x1) hm1 x1
  · obtain ⟨b, ws, rfl, _, _⟩ := tup_abs ay
    cases ry
    have go : ∀ {H1 : Hp} {xs : List (NestedKey × Addr × V)}, Inv X pins σ H1 s → H1 p = some (ndO X.prog X.w p xs) → AbsN (Gx X) H1 xs kvs → Abs (Gx X) H1 (.ref b) (.tup l) → Abs (Gx X) H1 z f → HAbs (Gx X) H1 M → Ext H H1 → wpAny (model X.prog X.w) X.A (setItem (.ref p) (.ref b) u) (fun _ s' => ∃ H', Inv X pins σ H' s' ∧ Q H') E s := by
      intro H1 xs I1 e1 l1 ay1 az1 hm1 x1
      obtain ⟨zz, hp, vs, rel, dd⟩ := nd_of I1 (.inl e1) l1
      have hlen : vs.length = xs.length := (Paired.length rel).symm
      refine wpAny_setItem_heap (hsz := by rw [hlen]; exact zz) (show X.A.in1.units + 8 < cLine from by show X.A.units + 1 + 8 < cLine; omega) (key_nested I1 hk hz ay1) dd fun h' dd' hs => ?_
      obtain ⟨o, es, ep, h1, h2, h3, h4, h5, h6⟩ := dd'
      have x2 : Ext H1 (upd H1 p (ndO X.prog X.w p (putN xs (.tup ks) b z))) := Ext.put e1 trivial
      have hN : NDict X.prog X.w h' p (putN xs (.tup ks) b z) := ⟨by unfold putN; split <;> simp <;> have := l1.length <;> omega, hp, _, nv_put rz rel, o, es, ep, h1, h2, h3, h4, h6⟩
      refine ⟨_, d_write I1 (by rw [e1]; exact trivial) hs ⟨o, h1⟩ (nd_ok hN), ?_⟩
      exact up _ _ q (x1.trans x2) (hm1.put e1 trivial (.dN upd_same ((absN_put hk hz ay1 az1 l1).ext x2)))
    cases hm p _ hM with
    | dN r t => exact go I r t ay az hm (Ext.refl H)
    | dK r t =>
      have en := (absK_S t).T_nil ht
      subst en
      cases t
      have x1 : Ext H (upd H p (ndO X.prog X.w p [])) := Ext.put r trivial
      have hm1 := hm.put (o := .dct []) r trivial (u := ndO X.prog X.w p []) (.dN upd_same .nil)
      have eM : updM M p (.dct []) = M := by
        funext b; by_cases q : b = p
        · subst q; rw [updM_same, hM]
        · rw [updM_ne q]
      rw [eM] at hm1
      exact go (nd_nil I r) upd_same .nil (ay.ext x1) (az.ext x1) hm1 x1
end
end Dy
end
section
set_option Elab.async false
set_option linter.all false
set_option maxRecDepth 100000
set_option maxHeartbeats 2000000
/-! The D layer, 4: comparisons, places, calls of built-ins by values. -/
namespace Dy
open PySem PySem.Spec L2
open PyProof.Rows hiding St

section
variable {X : Cx}
/-! ### equality and membership of plain data -/
/-- a list that is known by its address, looked through -/
def top (M : Mp) : D → D
  | .ref p => match M p with
    | some (.lst l) => .lst l
    | _ => .ref p
  | d => d
theorem top_dp {G : Gv} {H : Hp} {M : Mp} {x : V} {d : D} {p : PyData} (e : pyD (top M d) = some p) (a : Abs G H x d) (hm : HAbs G H M) : Dp G.K H x p ∧ p.canLay0 = true := by
  cases d with
  | ref q =>
    cases a
    simp only [top] at e
    cases z : M q with
    | none => rw [z] at e; simp only [pyD, reduceCtorEq] at e
    | some o =>
      rw [z] at e
      cases o with
      | lst l =>
        simp only [pyD, Option.map_eq_some_iff] at e
        obtain ⟨ps, e1, rfl⟩ := e
        cases hm q _ z with
        | lst r t =>
          obtain ⟨h1, h2⟩ := absL_dp l _ ps e1 t
          exact ⟨.lst (.inl (.inl r)) h1, by rw [PyData.canLay0]; exact h2⟩
      | dct _ => simp only [pyD, reduceCtorEq] at e
      | ins _ _ => simp only [pyD, reduceCtorEq] at e
  | _ => exact abs_dp _ _ _ e a
def dEq (neg : Bool) : DR2 := fun x y M Q => plain (top M x) = true ∧ plain (top M y) = true ∧ (dep (top M x) ≤ 60 ∨ dep (top M y) ≤ 60) ∧ Q (.bl (if neg then !eqD (top M x) (top M y) else eqD (top M x) (top M y))) M
theorem dop_eq (hu : X.A.units + 64 < cLine) : DOp X (compareOp .Eq) (dEq false) := by
  refine OpR.alt fun pins s σ H x y v u d e M Qd Q I rx ry ax ay hm q up => ?_
  obtain ⟨p1, p2, hd, q⟩ := q
  obtain ⟨a, ea, da⟩ := plain_py _ p1
  obtain ⟨b, eb, db⟩ := plain_py _ p2
  obtain ⟨g1, c1⟩ := top_dp ea ax hm
  obtain ⟨g2, c2⟩ := top_dp eb ay hm
  obtain ⟨as, r1⟩ := Dp.reads I a x v g1 rx
  obtain ⟨bs, r2⟩ := Dp.reads I b y u g2 ry
  refine SeqAt.compareEq_reads r1 r2 c1 c2 (by omega) ?_
  rw [eqD_py _ _ a b ea eb]
  exact ⟨.bl _, H, I, rfl, up _ _ _ _ q (Ext.refl H) (.bl _) hm⟩
theorem dop_ne (hu : X.A.units + 64 < cLine) : DOp X (compareOp .NotEq) (dEq true) := by
  refine OpR.alt fun pins s σ H x y v u d e M Qd Q I rx ry ax ay hm q up => ?_
  obtain ⟨p1, p2, hd, q⟩ := q
  obtain ⟨a, ea, da⟩ := plain_py _ p1
  obtain ⟨b, eb, db⟩ := plain_py _ p2
  obtain ⟨g1, c1⟩ := top_dp ea ax hm
  obtain ⟨g2, c2⟩ := top_dp eb ay hm
  obtain ⟨as, r1⟩ := Dp.reads I a x v g1 rx
  obtain ⟨bs, r2⟩ := Dp.reads I b y u g2 ry
  refine SeqAt.compareNe_reads r1 r2 c1 c2 (by omega) ?_
  rw [eqD_py _ _ a b ea eb]
  exact ⟨.bl _, H, I, rfl, up _ _ _ _ q (Ext.refl H) (.bl _) hm⟩
theorem any_py {l : List D} {ps : List PyData} {d : D} {p : PyData} (h : pyDs l = some ps) (hd : pyD d = some p) : (ps.any fun y => PyData.eqv y p) = l.any fun y => eqD y d := by
  induction l generalizing ps with
  | nil => simp only [pyDs, Option.some.injEq] at h; subst h; rfl
  | cons e es ih =>
    obtain ⟨q, qs, e1, e2, rfl⟩ := pyDs_cons h
    simp only [List.any_cons, ih e2, eqD_py e d q p e1 hd]
/-- x in a list or a tuple -/
def dSIn (neg : Bool) : DR2 := fun x y M Q => ∃ l, seqOf M y = some l ∧ plain x = true ∧ plains l = true ∧ (dep x ≤ 60 ∨ deps l ≤ 60) ∧ Q (.bl (if neg then !l.any (fun z => eqD z x) else l.any fun z => eqD z x)) M
theorem seq_dp {G : Gv} {H : Hp} {M : Mp} {y : V} {e : D} {l : List D} {ps : List PyData} (hs : seqOf M e = some l) (ep : pyDs l = some ps) (a : Abs G H y e) (hm : HAbs G H M) :
    (Dp G.K H y (.list ps) ∨ Dp G.K H y (.tuple ps)) ∧ PyData.canLayAll0 ps = true := by
  obtain ⟨p, vs, rfl, h, q⟩ := seq_abs hs a hm
  obtain ⟨h1, h2⟩ := absL_dp l _ ps ep q
  refine ⟨?_, h2⟩
  rcases h with h | h
  · exact .inl (.lst h.sq h1)
  · exact .inr (.tup h h1)
theorem dop_sin (hu : X.A.units + 64 < cLine) : DOp X (compareOp .In) (dSIn false) := by
  refine OpR.alt fun pins s σ H x y v u d e M Qd Q I rx ry ax ay hm q up => ?_
  obtain ⟨l, hs, p1, p2, hd, q⟩ := q
  obtain ⟨a, ea, da⟩ := plain_py _ p1
  obtain ⟨ps, ep, dp⟩ := plains_py _ p2
  obtain ⟨g1, c1⟩ := abs_dp d x a ea ax
  obtain ⟨as, r1⟩ := Dp.reads I a x v g1 rx
  obtain ⟨g2, c2⟩ := seq_dp hs ep ay hm
  have fin : EP X pins σ Q (.bool (ps.any fun y => PyData.eqv y a)) s := by
    rw [any_py ep ea]
    exact ⟨.bl _, H, I, rfl, up _ _ _ _ q (Ext.refl H) (.bl _) hm⟩
  rcases g2 with g2 | g2
  · obtain ⟨bs, r2⟩ := Dp.reads I _ y u g2 ry
    exact SeqAt.in_list_reads r2 r1 c2 c1 (by omega) fin
  · obtain ⟨bs, r2⟩ := Dp.reads I _ y u g2 ry
    exact SeqAt.in_tuple_reads r2 r1 c2 c1 (by omega) fin
theorem dop_snotin (hu : X.A.units + 64 < cLine) : DOp X (compareOp .NotIn) (dSIn true) := by
  refine OpR.alt fun pins s σ H x y v u d e M Qd Q I rx ry ax ay hm q up => ?_
  obtain ⟨l, hs, p1, p2, hd, q⟩ := q
  obtain ⟨a, ea, da⟩ := plain_py _ p1
  obtain ⟨ps, ep, dp⟩ := plains_py _ p2
  obtain ⟨g1, c1⟩ := abs_dp d x a ea ax
  obtain ⟨as, r1⟩ := Dp.reads I a x v g1 rx
  obtain ⟨g2, c2⟩ := seq_dp hs ep ay hm
  have fin : EP X pins σ Q (.bool (!ps.any fun y => PyData.eqv y a)) s := by
    rw [any_py ep ea]
    exact ⟨.bl _, H, I, rfl, up _ _ _ _ q (Ext.refl H) (.bl _) hm⟩
  rcases g2 with g2 | g2
  · obtain ⟨bs, r2⟩ := Dp.reads I _ y u g2 ry
    exact SeqAt.notIn_list_reads r2 r1 c2 c1 (by omega) fin
  · obtain ⟨bs, r2⟩ := Dp.reads I _ y u g2 ry
    exact SeqAt.notIn_tuple_reads r2 r1 c2 c1 (by omega) fin
/-- a sign in a text -/
def dTIn (neg : Bool) : DR2 := fun x y M Q => ∃ c z, x = .str ⟨#[c]⟩ ∧ y = .str z ∧ Q (.bl (if neg then !decide (c ∈ z.cps.toList) else decide (c ∈ z.cps.toList))) M
theorem dop_tin : DOp X (compareOp .In) (dTIn false) := by
  refine DOp.of op_in_sign fun H x y d e M Qd Q ax ay hm q up => ?_
  obtain ⟨c, z, rfl, rfl, q⟩ := q
  cases ax; cases ay
  exact ⟨c, z, rfl, rfl, up _ _ _ _ q (Ext.refl H) (.bl _) hm⟩
theorem dop_tnotin : DOp X (compareOp .NotIn) (dTIn true) := by
  refine DOp.of op_notIn_sign fun H x y d e M Qd Q ax ay hm q up => ?_
  obtain ⟨c, z, rfl, rfl, q⟩ := q
  cases ax; cases ay
  exact ⟨c, z, rfl, rfl, up _ _ _ _ q (Ext.refl H) (.bl _) hm⟩
def dIn (neg : Bool) : DR2 := fun x y M Q => dSIn neg x y M Q ∨ dDIn neg x y M Q ∨ dTIn neg x y M Q
/-- is None -/
def isNone : D → Bool
  | .non => true
  | _ => false
theorem isNone_abs {G : Gv} {H : Hp} {x : V} {d : D} (a : Abs G H x d) : decide (x = .non) = isNone d := by
  cases a <;> simp [isNone]
def dIs (neg : Bool) : DR2 := fun x y M Q => y = .non ∧ Q (.bl (if neg then !isNone x else isNone x)) M
theorem dop_is : DOp X (compareOp .Is) (dIs false) := by
  refine DOp.of op_isN fun H x y d e M Qd Q ax ay hm q up => ?_
  obtain ⟨rfl, q⟩ := q
  cases ay
  exact ⟨rfl, by rw [isNone_abs ax]; exact up _ _ _ _ q (Ext.refl H) (.bl _) hm⟩
theorem dop_isnot : DOp X (compareOp .IsNot) (dIs true) := by
  refine DOp.of op_notN fun H x y d e M Qd Q ax ay hm q up => ?_
  obtain ⟨rfl, q⟩ := q
  cases ay
  exact ⟨rfl, by rw [isNone_abs ax]; exact up _ _ _ _ q (Ext.refl H) (.bl _) hm⟩
/-- the order of ints, of texts -/
def dOrd (f : Int → Int → Bool) (g : List Nat → List Nat → Bool) : DR2 := fun x y M Q => match x, y with
  | .int i, .int j => Q (.bl (f i j)) M
  | .str a, .str b => Q (.bl (g a.cps.toList b.cps.toList)) M
  | _, _ => False
theorem dop_ord {op : CmpOp} {f : Int → Int → Bool} {g : List Nat → List Nat → Bool} (h1 : OpR X (compareOp op) (rI0 fun i j => .bl (f i j))) (h2 : OpR X (compareOp op) (fun x y H Q => ∃ i j, x = .str i ∧ y = .str j ∧ Q (.bl (g i.cps.toList j.cps.toList)) H)) : DOp X (compareOp op) (dOrd f g) := by
  refine DOp.of (OpR.or h1 h2) fun H x y d e M Qd Q ax ay hm q up => ?_
  unfold dOrd at q
  split at q
  · cases ax; cases ay
    exact .inl ⟨_, _, rfl, rfl, up _ _ _ _ q (Ext.refl H) (.bl _) hm⟩
  · cases ax; cases ay
    exact .inr ⟨_, _, rfl, rfl, up _ _ _ _ q (Ext.refl H) (.bl _) hm⟩
  · exact q.elim
def dCmp (op : CmpOp) : DR2 := match op with
  | .Eq => dEq false
  | .NotEq => dEq true
  | .Lt => dOrd (fun i j => decide (i < j)) fun a b => decide (a < b)
  | .LtE => dOrd (fun i j => decide (i ≤ j)) fun a b => !decide (b < a)
  | .Gt => dOrd (fun i j => decide (j < i)) fun a b => decide (b < a)
  | .GtE => dOrd (fun i j => decide (j ≤ i)) fun a b => !decide (a < b)
  | .Is => dIs false
  | .IsNot => dIs true
  | .In => dIn false
  | .NotIn => dIn true
theorem dop_cmp (hu : X.A.units + 64 < cLine) (op : CmpOp) : DOp X (compareOp op) (dCmp op) := by
  cases op with
  | Eq => exact dop_eq hu
  | NotEq => exact dop_ne hu
  | Lt => exact dop_ord (g := fun a b => decide (a < b)) op_lt op_lt_str
  | LtE => exact dop_ord (g := fun a b => !decide (b < a)) op_le op_le_str
  | Gt => exact dop_ord (g := fun a b => decide (b < a)) op_gt op_gt_str
  | GtE => exact dop_ord (g := fun a b => !decide (a < b)) op_ge op_ge_str
  | Is => exact dop_is
  | IsNot => exact dop_isnot
  | In => exact DOp.or (dop_sin hu) (DOp.or (dop_din hu) dop_tin)
  | NotIn => exact DOp.or (dop_snotin hu) (DOp.or (dop_dnotin hu) dop_tnotin)

/-! ### places -/
theorem atI_abs {G : Gv} {H : Hp} {vs : List V} {l : List D} {i : Int} {d : D} (h : AbsL G H vs l) (e : atI l i = some d) : ∃ v, atI vs i = some v ∧ Abs G H v d := by
  unfold atI at *
  rw [h.length]
  cases z : ixN l.length i with
  | none => rw [z] at e; cases e
  | some j => rw [z] at e; exact h.get e
/-- o[i]: of a list, a tuple, a dict -/
def dIx : DR2 := fun x y M Q => (∃ l i v, seqOf M x = some l ∧ y = .int i ∧ atI l i = some v ∧ Q v M) ∨ dDGet x y M Q
theorem DAt.typeIs {H : Hp} {σ : St} {s : Shared} {pins : List (Addr × Obj)} {a : Addr} {ds : List (D × D)} (I : Inv X pins σ H s) (h : DAt (Gx X) H a ds) : s.TypeIs (.ref a) "dict" ∧ ∃ o, s.heap.get? a = some o ∧ o.dict = none := by
  cases h with
  | k r q =>
    obtain ⟨_, _, _, _, o, _, _, h1, h2, _⟩ := dk_rd I.hok r
    exact ⟨⟨o, h1, h2.1⟩, o, h1, h2.2.1⟩
  | n r q =>
    obtain ⟨_, _, _, _, o, _, _, h1, h2, _⟩ := nd_rd I r
    exact ⟨⟨o, h1, h2.1⟩, o, h1, h2.2.1⟩
theorem ix_d (hu : X.A.units + 64 < cLine) : IxR X (lOp (Gx X) dIx) := by
  intro value slice pins s σ H x y v u Q I rx ry h hs
  obtain ⟨d, e, M, Qd, ax, ay, hm, q, up⟩ := h
  rcases q with ⟨l, i, z, hl, rfl, hz, q⟩ | q
  · obtain ⟨p, vs, rfl, hp, hv⟩ := seq_abs hl ax hm
    obtain ⟨w', hw, aw⟩ := atI_abs hv hz
    cases ay
    have fin := up _ _ _ _ q (Ext.refl H) aw hm
    rcases hp with hp | hp
    · exact ix_list value slice pins s σ H _ _ v u Q I rx ry ⟨p, vs, i, w', rfl, rfl, hp.sq, hw, fin⟩ hs
    · exact ix_tup value slice pins s σ H _ _ v u Q I rx ry ⟨p, vs, i, w', rfl, rfl, hp, hw, fin⟩ hs
  · obtain ⟨kvs, z, hd, _⟩ := id q
    obtain ⟨p, rfl, at_⟩ := dct_abs hd ax hm
    cases rx
    exact tail_any (at_.typeIs I).1 PySem.F.slot_dict_getitem.lookup (dix_dict hu I (x := .ref p) rfl ry ax ay hm q up) hs
/-- o[i] = v -/
def dSet : D → D → D → Mp → (Mp → Prop) → Prop := fun x y z M Q => (∃ p l i j, x = .ref p ∧ y = .int i ∧ M p = some (.lst l) ∧ ixN l.length i = some j ∧ Q (updM M p (.lst (l.set j z)))) ∨ dDSet x y z M Q
def lSet (G : Gv) (r : D → D → D → Mp → (Mp → Prop) → Prop) : V → V → V → Hp → (Hp → Prop) → Prop := fun x y z H Q => ∃ d e f M Qd, Abs G H x d ∧ Abs G H y e ∧ Abs G H z f ∧ HAbs G H M ∧ r d e f M Qd ∧ ∀ M' H', Qd M' → Ext H H' → HAbs G H' M' → Q H'
theorem set_d (hu : X.A.units + 64 < cLine) : PSet X (lSet (Gx X) dSet) := by
  intro pins s σ H o i v ov iv u Q I ro ri rv h
  obtain ⟨d, e, f, M, Qd, ax, ay, az, hm, q, up⟩ := h
  rcases q with ⟨p, l, k, j, rfl, rfl, hM, hj, q⟩ | q
  · cases ax; cases ay
    cases hm p _ hM with
    | lst r t =>
      refine set_list pins s σ H _ _ _ ov iv u Q I ro ri rv ⟨p, _, k, j, rfl, rfl, r, by rw [t.length]; exact hj, ?_⟩
      have x1 : ∀ o, Ext H (upd H p o) := fun o => Ext.put r trivial
      exact up _ _ q (x1 _) (hm.put r trivial (.lst upd_same ((t.ext (x1 _)).set (az.ext (x1 _)) j)))
  · exact dset_dict hu I ro ri rv ax ay az hm q up

/-! ### slices -/
def cutD (l : List D) (lo hi : Option Int) : List D := (l.drop (HT.sIx l.length 0 lo)).take (HT.sIx l.length l.length hi - HT.sIx l.length 0 lo)
theorem cut_abs {G : Gv} {H : Hp} {vs : List V} {l : List D} (h : AbsL G H vs l) (lo hi : Option Int) : AbsL G H (cutV vs lo hi) (cutD l lo hi) := by
  unfold cutV cutD
  rw [h.length]
  exact (h.drop _).take _
theorem cut_whole {α : Type} {l : List α} {lo hi : Option Int} (h : HT.sIx l.length 0 lo = 0 ∧ HT.sIx l.length l.length hi = l.length) : (l.drop (HT.sIx l.length 0 lo)).take (HT.sIx l.length l.length hi - HT.sIx l.length 0 lo) = l := by
  rw [h.1, h.2]; simp
/-- of a tuple: a tuple; of a list: a new list -/
def dSl : D → Option Int → Option Int → Mp → DK → Prop := fun x lo hi M Q => match x with
  | .tup l => Q (.tup (cutD l lo hi)) M
  | d => match lstOf M d with
    | some l => newL (cutD l lo hi) M Q
    | none => False
def lSl (G : Gv) (r : D → Option Int → Option Int → Mp → DK → Prop) : V → Option Int → Option Int → Hp → VK → Prop := fun x lo hi H Q => ∃ d M Qd, Abs G H x d ∧ HAbs G H M ∧ r d lo hi M Qd ∧ Up G H Qd Q
theorem sl_d : SlR X (lSl (Gx X) dSl) := by
  intro pins s σ H x v vl vu lo hi sl Q I rx hs pl pu h
  obtain ⟨d, M, Qd, ax, hm, q, up⟩ := h
  unfold dSl at q
  split at q
  · obtain ⟨p, vs, rfl, hp, hv⟩ := tup_abs ax
    refine sl_tupA pins s σ H _ v vl vu lo hi sl Q I rx hs pl pu ⟨p, vs, rfl, hp, fun w => ?_, fun _ p' hp' => ?_⟩
    · rename_i l
      have w' : HT.sIx l.length 0 lo = 0 ∧ HT.sIx l.length l.length hi = l.length := by rw [← hv.length]; exact w
      have e : cutD l lo hi = l := cut_whole w'
      rw [e] at q
      exact up _ _ _ _ q (Ext.refl H) ax hm
    · exact up _ _ _ _ q (Ext.new hp') (.tup (SqT.of upd_same) ((cut_abs hv lo hi).ext (Ext.new hp'))) (hm.newH hp')
  · split at q
    · obtain ⟨p, vs, rfl, hp, hv⟩ := lst_abs (by assumption) ax hm
      refine sl_list pins s σ H _ v vl vu lo hi sl Q I rx hs pl pu ⟨p, vs, rfl, hp.sq, fun p' hp' => ?_⟩
      exact up _ _ _ _ (q p' (hm.none hp')) (Ext.new hp') (.ref _) (hm.new hp' (.lst upd_same ((cut_abs hv lo hi).ext (Ext.new hp'))))
    · exact q.elim

/-! ### calls of built-ins -/
theorem DCall.of {f : Value} {r : DRn} {r' : List V → Hp → VK → Prop} (h : CallR X f r') (i : ∀ (H : Hp) (xs : List V) (ds : List D) (M : Mp) (Qd : DK) (Q : VK), AbsL (Gx X) H xs ds → HAbs (Gx X) H M → r ds M Qd → Up (Gx X) H Qd Q → r' xs H Q) : DCall X f r :=
  CallR.imp h fun xs H Q ⟨ds, M, Qd, ax, hm, q, up⟩ => i H xs ds M Qd Q ax hm q up
theorem DCall.alt {f : Value} {r : DRn} (h : ∀ (pins : List (Addr × Obj)) (s : Shared) (σ : St) (H : Hp) (xs : List V) (us : List Value) (ds : List D) (M : Mp) (Qd : DK) (Q : VK), Inv X pins σ H s → Vals xs us → AbsL (Gx X) H xs ds → HAbs (Gx X) H M → r ds M Qd → Up (Gx X) H Qd Q →
    wpAny (model X.prog X.w) X.A (call f us) (EP X pins σ Q) X.xe s) : DCall X f r := fun pins s σ H xs us Q I rx ⟨ds, M, Qd, ax, hm, q, up⟩ => h pins s σ H xs us ds M Qd Q I rx ax hm q up
theorem DCall.or {f : Value} {r r' : DRn} (h : DCall X f r) (h' : DCall X f r') : DCall X f (fun ds M Q => r ds M Q ∨ r' ds M Q) :=
  CallR.imp (CallR.or h h') fun x H Q ⟨d, M, Qd, ax, hm, q, up⟩ => q.elim (fun q => .inl ⟨d, M, Qd, ax, hm, q, up⟩) fun q => .inr ⟨d, M, Qd, ax, hm, q, up⟩
theorem DCall.weak {f : Value} {r r' : DRn} (h : DCall X f r) (i : ∀ ds M Q, r' ds M Q → r ds M Q) : DCall X f r' :=
  CallR.imp h fun x H Q ⟨d, M, Qd, ax, hm, q, up⟩ => ⟨d, M, Qd, ax, hm, i d M Qd q, up⟩
theorem absL1 {G : Gv} {H : Hp} {xs : List V} {d : D} (h : AbsL G H xs [d]) : ∃ x, xs = [x] ∧ Abs G H x d := by
  cases h with | cons a t => cases t; exact ⟨_, rfl, a⟩
theorem absL2 {G : Gv} {H : Hp} {xs : List V} {d e : D} (h : AbsL G H xs [d, e]) : ∃ x y, xs = [x, y] ∧ Abs G H x d ∧ Abs G H y e := by
  cases h with | cons a t => cases t with | cons b t => cases t; exact ⟨_, _, rfl, a, b⟩
def seqOrSq {K : PySem.W.Frag} {H : Hp} {p : Addr} {vs : List V} (h : LstR K H p vs ∨ SqT K H p vs) : SqL K H p vs ∨ SqT K H p vs := h.imp LstR.sq id
/-- len -/
def cLen : DRn := fun ds M Q => ∃ d, ds = [d] ∧ ((∃ l, seqOf M d = some l ∧ Q (.int (l.length : Nat)) M) ∨ (∃ l, dctOf M d = some l ∧ Q (.int (l.length : Nat)) M) ∨ ∃ z, d = .str z ∧ z.length ≤ sizeLine ∧ Q (.int (z.length : Nat)) M)
theorem call_len_d : DCall X (.builtin "len") cLen := by
  refine DCall.alt fun pins s σ H xs us ds M Qd Q I rx ax hm q up => ?_
  obtain ⟨d, rfl, q⟩ := q
  obtain ⟨x, rfl, a⟩ := absL1 ax
  rcases q with ⟨l, hl, q⟩ | ⟨l, hl, q⟩ | ⟨z, rfl, hz, q⟩
  · obtain ⟨p, vs, rfl, hp, hv⟩ := seq_abs hl a hm
    exact call_len_seq pins s σ H _ us Q I rx ⟨p, vs, rfl, seqOrSq hp, by rw [hv.length]; exact up _ _ _ _ q (Ext.refl H) (.int _) hm⟩
  · obtain ⟨p, rfl, at_⟩ := dct_abs hl a hm
    obtain ⟨u, rfl, ru⟩ := vals1 rx
    cases ru
    have fin : ∀ t s', Inv X pins σ H s' → EP X pins σ Q (.int (l.length : Nat) t) s' := fun t s' I' => ⟨.int _, H, I', ⟨t, rfl⟩, up _ _ _ _ q (Ext.refl H) (.int _) hm⟩
    cases at_ with
    | k r t =>
      refine d_len I r fun t' s' I' => ?_
      rw [t.length]
      exact fin t' s' I'
    | n r t =>
      obtain ⟨zz, hp, vs, rel, dd⟩ := nd_of I r t
      have e1 : vs.length = l.length := (Paired.length rel).symm.trans t.length
      refine call_len_dictH hp dd (by rw [e1, ← t.length]; rw [sizeLine_eq] at zz; omega) ?_
      rw [e1]
      exact fin _ _ (I.tok _)
  · cases a
    exact call_len_str pins s σ H _ us Q I rx ⟨z, rfl, hz, up _ _ _ _ q (Ext.refl H) (.int _) hm⟩
/-- list(x) of a list, a tuple -/
def cListS : DRn := fun ds M Q => ∃ d l, ds = [d] ∧ seqOf M d = some l ∧ newL l M Q
theorem call_listS : DCall X (.type "list") cListS := by
  refine DCall.of call_list_of fun H xs ds M Qd Q ax hm q up => ?_
  obtain ⟨d, l, rfl, hl, q⟩ := q
  obtain ⟨x, rfl, a⟩ := absL1 ax
  obtain ⟨p, vs, rfl, hp, hv⟩ := seq_abs hl a hm
  exact ⟨p, vs, rfl, seqOrSq hp, fun b hb => up _ _ _ _ (q b (hm.none hb)) (Ext.new hb) (.ref _) (hm.new hb (.lst upd_same (hv.ext (Ext.new hb))))⟩
/-- tuple(x) -/
def cTup : DRn := fun ds M Q => ∃ d l, ds = [d] ∧ seqOf M d = some l ∧ Q (.tup l) M
theorem call_tup_d : DCall X (.type "tuple") cTup := by
  refine DCall.of call_tuple_of fun H xs ds M Qd Q ax hm q up => ?_
  obtain ⟨d, l, rfl, hl, q⟩ := q
  obtain ⟨x, rfl, a⟩ := absL1 ax
  obtain ⟨p, vs, rfl, hp, hv⟩ := seq_abs hl a hm
  refine ⟨p, vs, rfl, ?_⟩
  rcases hp with hp | hp
  · exact .inl ⟨hp.sq, fun b hb => up _ _ _ _ q (Ext.new hb) (.tup (SqT.of upd_same) (hv.ext (Ext.new hb))) (hm.newH hb)⟩
  · exact .inr ⟨hp, up _ _ _ _ q (Ext.refl H) (.tup hp hv) hm⟩
/-- int(x) -/
def cInt : DRn := fun ds M Q => match ds with
  | [.int i] => Q (.int i) M
  | [.bl b] => Q (.int (if b then 1 else 0)) M
  | _ => False
theorem call_int_d : DCall X (.type "int") cInt := by
  refine DCall.of call_int1 fun H xs ds M Qd Q ax hm q up => ?_
  unfold cInt at q
  split at q
  · obtain ⟨x, rfl, a⟩ := absL1 ax
    cases a
    exact .inl ⟨_, rfl, up _ _ _ _ q (Ext.refl H) (.int _) hm⟩
  · obtain ⟨x, rfl, a⟩ := absL1 ax
    cases a
    exact .inr ⟨_, rfl, up _ _ _ _ q (Ext.refl H) (.int _) hm⟩
  · exact q.elim
/-- all, any of truths -/
def bools : List D → Option (List Bool)
  | [] => some []
  | .bl b :: r => (bools r).map (b :: ·)
  | _ => none
theorem bools_abs {G : Gv} {H : Hp} : ∀ {l : List D} {bs : List Bool} {vs : List V}, bools l = some bs → AbsL G H vs l → vs = bs.map V.bl
  | [], _, _, e, a => by simp only [bools, Option.some.injEq] at e; subst e; cases a; rfl
  | d :: ds, _, _, e, a => by
    cases a with | cons a t =>
    cases d <;> simp only [bools, reduceCtorEq, Option.map_eq_some_iff] at e
    obtain ⟨cs, e, rfl⟩ := e
    cases a
    rw [bools_abs e t]; rfl
theorem bools_map {α : Type} (f : α → Bool) : ∀ l : List α, bools (l.map fun x => .bl (f x)) = some (l.map f)
  | [] => rfl
  | x :: xs => by simp only [List.map_cons, bools, bools_map f xs]; rfl
def cAll (any : Bool) : DRn := fun ds M Q => ∃ d l bs, ds = [d] ∧ lstOf M d = some l ∧ bools l = some bs ∧ Q (.bl (if any then bs.any id else bs.all id)) M
theorem call_all_d (hc : X.calm = true) : DCall X (.builtin "all") (cAll false) := by
  refine DCall.of (cr_all hc) fun H xs ds M Qd Q ax hm q up => ?_
  obtain ⟨d, l, bs, rfl, hl, hb, q⟩ := q
  obtain ⟨x, rfl, a⟩ := absL1 ax
  obtain ⟨p, vs, rfl, hp, hv⟩ := lst_abs hl a hm
  rw [bools_abs hb hv] at hp
  exact ⟨p, bs, rfl, hp.sq, up _ _ _ _ q (Ext.refl H) (.bl _) hm⟩
theorem call_any_d (hc : X.calm = true) : DCall X (.builtin "any") (cAll true) := by
  refine DCall.of (cr_any hc) fun H xs ds M Qd Q ax hm q up => ?_
  obtain ⟨d, l, bs, rfl, hl, hb, q⟩ := q
  obtain ⟨x, rfl, a⟩ := absL1 ax
  obtain ⟨p, vs, rfl, hp, hv⟩ := lst_abs hl a hm
  rw [bools_abs hb hv] at hp
  exact ⟨p, bs, rfl, hp.sq, up _ _ _ _ q (Ext.refl H) (.bl _) hm⟩
/-- min(a, b) -/
def cMin : DRn := fun ds M Q => match ds with
  | [.int i, .int j] => Q (.int (if j < i then j else i)) M
  | _ => False
theorem call_min_d (hc : X.calm = true) : DCall X (.builtin "min") cMin := by
  refine DCall.of (call_min2 hc) fun H xs ds M Qd Q ax hm q up => ?_
  unfold cMin at q
  split at q
  · obtain ⟨x, y, rfl, a, b⟩ := absL2 ax
    cases a; cases b
    exact ⟨_, _, rfl, up _ _ _ _ q (Ext.refl H) (.int _) hm⟩
  · exact q.elim
/-- dict(d) -/
def cDict : DRn := fun ds M Q => ∃ d kvs, ds = [d] ∧ dctOf M d = some kvs ∧ AllS kvs ∧ newD kvs M Q
theorem factK {H : Hp} {σ : St} {s : Shared} {pins : List (Addr × Obj)} {a : Addr} {ds : List (D × D)} (I : Inv X pins σ H s) (h : DAt (Gx X) H a ds) (hs : AllS ds) (ne : ds ≠ []) : ∃ kvs, Rd H a (.dK kvs) ∧ AbsK (Gx X) H kvs ds := by
  cases h with
  | k r q => exact ⟨_, r, q⟩
  | n r q => exact absurd (hs.T_nil (absN_T q)) ne
theorem call_dict_d : DCall X (.type "dict") cDict := by
  refine DCall.alt fun pins s σ H xs us ds M Qd Q I rx ax hm q up => ?_
  obtain ⟨d, kvs, rfl, hd, hs, q⟩ := q
  obtain ⟨x, rfl, a⟩ := absL1 ax
  obtain ⟨p, rfl, at_⟩ := dct_abs hd a hm
  obtain ⟨u, rfl, ru⟩ := vals1 rx
  cases ru
  obtain ⟨hp, ws, vs, ak, rel, dd, z⟩ := factS I at_ hs
  refine kt_call_dict hp dd (by rw [← rel.length]; exact z) fun h' dd' hs' => ?_
  have nn : (s.heap.objs.size == sysModules) = false := beq_eq_false_iff_ne.mpr (Ne.symm (Nat.ne_of_lt I.big))
  have hf := I.fresh
  have I2 := I.laid (a := s.heap.objs.size) (o := .dK ws) (t' := s.toks) (h' := h') (fun b q hq => (hs'.2 b (Nat.ne_of_lt (Heap.lt_size hq))).trans (Heap.get?_push_of_some _ hq)) (Nat.le_refl _) (dk_new z nn rel dd')
  exact ⟨.ref _, _, I2, rfl, up _ _ _ _ (q _ (hm.none hf)) (Ext.new hf) (.ref _) (hm.new hf (.dK upd_same (ak.ext (Ext.new hf))))⟩
end
end Dy
end
section
set_option Elab.async false
set_option linter.all false
set_option maxRecDepth 100000
set_option maxHeartbeats 4000000
/-! The D layer, 4b: methods of built-in types. -/
namespace Dy
open PySem PySem.Spec L2
open PyProof.Rows hiding St

/-- the built-in type, by name, as far as it is asked -/
def tyD (M : Mp) : D → Option String
  | .str _ => some "str"
  | .int _ => some "int"
  | .bl _ => some "bool"
  | .non => some "NoneType"
  | .tup _ => some "tuple"
  | .lst _ => some "list"
  | .dct _ => some "dict"
  | .ref p => match M p with
    | some (.lst _) => some "list"
    | some (.dct _) => some "dict"
    | _ => none
  | _ => none
section
variable {X : Cx} {pins : List (Addr × Obj)} {σ : St} {H : Hp} {s : Shared} {M : Mp}
theorem dat_is {p : Addr} {l : List (D × D)} (I : Inv X pins σ H s) (h : DAt (Gx X) H p l) : s.TypeIs (.ref p) "dict" ∧ ∀ a, Value.ref p = .ref a → ∃ ob, s.heap.get? a = some ob ∧ ob.dict = none := by
  cases h with
  | k r q =>
    obtain ⟨_, _, vs, _, dd⟩ := dk_rd I.hok r
    refine ⟨dd.typeIs, fun b q => ?_⟩
    cases q
    obtain ⟨ob, _, _, h1, h2, _⟩ := dd
    exact ⟨ob, h1, h2.2.1⟩
  | n r q =>
    obtain ⟨_, _, vs, _, o, es, ep, h1, h2, _⟩ := nd_rd I r
    refine ⟨⟨o, h1, h2.1⟩, fun b q => ?_⟩
    cases q
    exact ⟨o, h1, h2.2.1⟩
/-- types that have no tuples among them -/
theorem tyD_is {T : String} {x : V} {v : Value} {d : D} (I : Inv X pins σ H s) (r : RelV x v) (a : Abs (Gx X) H x d) (hm : HAbs (Gx X) H M) (h : tyD M d = some T) (hT : T = "str" ∨ T = "list" ∨ T = "dict") : s.TypeIs v T ∧ ∀ a, v = .ref a → ∃ ob, s.heap.get? a = some ob ∧ ob.dict = none := by
  have onL : ∀ {p : Addr} {vs : List V}, SqL X.K H p vs → s.TypeIs (.ref p) "list" ∧ ∀ a, Value.ref p = .ref a → ∃ ob, s.heap.get? a = some ob ∧ ob.dict = none := fun {p vs} hq => by
    obtain ⟨its, _, pl, _⟩ := I.list hq
    refine ⟨pl.isList.typeIs, fun a e => ?_⟩
    cases e
    obtain ⟨o, n, e, c, hd, _⟩ := pl
    exact ⟨o, e, hd⟩
  cases a with
  | str x hx =>
    cases h
    obtain ⟨t, rfl⟩ := r
    exact ⟨typeIs_str s x t, fun _ e => nomatch e⟩
  | int i => simp only [tyD, Option.some.injEq] at h; subst h; simp at hT
  | bl b => simp only [tyD, Option.some.injEq] at h; subst h; simp at hT
  | non => simp only [tyD, Option.some.injEq] at h; subst h; simp at hT
  | tup r l => simp only [tyD, Option.some.injEq] at h; subst h; simp at hT
  | lst q l => cases h; cases r; exact onL q.sq
  | dK q l => cases h; cases r; exact dat_is I (.k (.inr ⟨_, q⟩) l)
  | dN q l => cases h; cases r; exact dat_is I (.n (.inr ⟨_, q⟩) l)
  | ref p =>
    cases r
    simp only [tyD] at h
    cases z : M p with
    | none => rw [z] at h; cases h
    | some o =>
      rw [z] at h
      cases o with
      | lst l =>
        cases h
        cases hm p _ z with | lst r q => exact onL (.inl (.inl r))
      | dct l =>
        cases h
        cases hm p _ z with
        | dK r q => exact dat_is I (.k (.inl r) q)
        | dN r q => exact dat_is I (.n (.inl r) q)
      | ins _ _ => cases h
  | _ => cases h
end
/-- a built-in method, by values -/
def DMt (X : Cx) (id : String) (r : D → List D → Mp → DK → Prop) : Prop :=
  ∀ (pins : List (Addr × Obj)) (s : Shared) (σ : St) (H : Hp) (x : V) (xs : List V) (v : Value) (us : List Value) (d : D) (ds : List D) (M : Mp) (Qd : DK) (Q : VK), Inv X pins σ H s → RelV x v → Vals xs us → Abs (Gx X) H x d → AbsL (Gx X) H xs ds → HAbs (Gx X) H M → r d ds M Qd → Up (Gx X) H Qd Q →
    wpAny (model X.prog X.w) X.A (call (.builtin id) (v :: us)) (EP X pins σ Q) X.xe s
/-- the expression's base is looked at as it is -/
def abOk : Expr → Bool
  | .Call .. => false
  | _ => true
theorem ab_of {o : Expr} (h : abOk o = true) (f : Str) (env : Env) (w : Sem Value) : attributeBase o f env w = w := by
  cases o <;> first | rfl | (simp [abOk] at h)
section
variable {X : Cx} {o e : Expr} {es : List Expr} {name : Str} {apos cpos : Pos} {T id : String} {r : D → List D → Mp → DK → Prop} {to : DTE} {t : DTA}
theorem de_bm (hT : T = "str" ∨ T = "list" ∨ T = "dict") (pa : PlainAttrs T) (slot : Slot T name id) (hty : typeOf (.builtin id) = pure (.type "method_descriptor")) (hm : DMt X id r) (ho : PE X o (lE (Gx X) to)) (ha : PA X (e :: es) (lA (Gx X) t))
    (hbase : attributeBase o name X.env (eval o X.env) = eval o X.env)
    (hfew : ((backTo cpos (starEach (e :: es) X.env)).all (fun x => !x.1) && (backToKw cpos (keywordEach [] X.env)).all (fun x => x.1.isSome)
      && decide ((e :: es).length + ([] : List Keyword).length + (if ([] : List Keyword).isEmpty then 0 else 1) < 30)) = true)
    (hline : (apos.endLine == cpos.line) = true) (hs : starEach (e :: es) X.env = (false, eval e X.env) :: starEach es X.env) (hplain : (backTo cpos (starEach es X.env)).any (·.1) = false) :
    PE X (.Call (.Attribute o name apos) (e :: es) [] cpos) (lE (Gx X) fun σ M Q => to σ M fun d M1 => tyD M1 d = some T ∧ t σ M1 fun ds M2 => r d ds M2 Q) := by
  refine ⟨fun pins s σ H Q I ⟨σd, M, Qd, sim, q, up⟩ => ?_⟩
  refine wpAny_Call_method_late hbase hfew hline rfl (thn (ho.run pins s σ H (fun v H1 => ∃ d M1, Ext H H1 ∧ Abs (Gx X) H1 v d ∧ HAbs (Gx X) H1 M1 ∧ tyD M1 d = some T ∧ t σd M1 fun ds M2 => r d ds M2 Qd) I ⟨σd, M, _, sim, q, fun d M1 v H1 q1 e1 a1 h1 => ⟨d, M1, e1, a1, h1, q1⟩⟩) fun v s1 ⟨x, H1, I1, r1, d, M1, e1, a1, h1, ty, q1⟩ => ?_)
  obtain ⟨t1, t2⟩ := tyD_is I1 r1 a1 h1 ty hT
  refine ⟨T, id, pa, slot, hty, t1, t2, ?_⟩
  have hA := ha.run cpos pins s1 σ H1 (fun vs H2 => ∃ ds M2, Ext H1 H2 ∧ AbsL (Gx X) H2 vs ds ∧ HAbs (Gx X) H2 M2 ∧ r d ds M2 Qd) I1 ⟨σd, M1, _, sim.ext e1 h1, q1, fun ds M2 vs H2 q2 e2 a2 h2 => ⟨ds, M2, e2, a2, h2, q2⟩⟩
  rw [hs] at hA ⊢
  refine Calls.callWith_builtin (by show (false || (backTo cpos (starEach es X.env)).any (·.1)) = false; rw [hplain] <;> rfl) (Calls.evalArgs_plain ?_)
  exact thn hA fun us s2 ⟨vs, H2, I2, r2, ds, M2, e2, a2, h2, q2⟩ => hm pins s2 σ H2 x vs v us d ds M2 Qd Q I2 r1 r2 (a1.ext e2) a2 h2 q2 ((up.ext e1).ext e2)
theorem de_bm0 (hT : T = "str" ∨ T = "list" ∨ T = "dict") (pa : PlainAttrs T) (slot : Slot T name id) (hty : typeOf (.builtin id) = pure (.type "method_descriptor")) (hm : DMt X id r) (ho : PE X o (lE (Gx X) to))
    (hbase : attributeBase o name X.env (eval o X.env) = eval o X.env) (hline : (apos.endLine == cpos.line) = true) : PE X (.Call (.Attribute o name apos) [] [] cpos) (lE (Gx X) fun σ M Q => to σ M fun d M1 => tyD M1 d = some T ∧ r d [] M1 Q) := by
  refine ⟨fun pins s σ H Q I ⟨σd, M, Qd, sim, q, up⟩ => ?_⟩
  refine wpAny_Call_method0_late hbase hline (thn (ho.run pins s σ H (fun v H1 => ∃ d M1, Ext H H1 ∧ Abs (Gx X) H1 v d ∧ HAbs (Gx X) H1 M1 ∧ tyD M1 d = some T ∧ r d [] M1 Qd) I ⟨σd, M, _, sim, q, fun d M1 v H1 q1 e1 a1 h1 => ⟨d, M1, e1, a1, h1, q1⟩⟩) fun v s1 ⟨x, H1, I1, r1, d, M1, e1, a1, h1, ty, q1⟩ => ?_)
  obtain ⟨t1, t2⟩ := tyD_is I1 r1 a1 h1 ty hT
  exact ⟨T, id, pa, slot, hty, t1, t2, Calls.callWith_builtin rfl (PySem.evalArgs_none (hm pins s1 σ H1 x [] v [] d [] M1 Qd Q I1 r1 .nil a1 .nil h1 q1 (up.ext e1)))⟩
end
/-! ### list methods -/
section
variable {X : Cx}
def mAppend : D → List D → Mp → DK → Prop := fun x ds M Q => match x, ds with
  | .ref p, [d] => match M p with
    | some (.lst l) => l.length < sizeLine ∧ Q .non (updM M p (.lst (l ++ [d])))
    | _ => False
  | _, _ => False
theorem dm_append : DMt X "list.append" mAppend := by
  intro pins s σ H x xs v us d ds M Qd Q I rx rxs ax axs hm q up
  unfold mAppend at q
  split at q
  · rename_i p d'
    split at q
    · rename_i l hl
      cases ax
      obtain ⟨w, rfl, aw⟩ : ∃ w, xs = [w] ∧ Abs (Gx X) H w d' := by
        cases axs with | cons a r => cases r; exact ⟨_, rfl, a⟩
      cases hm p _ hl with
      | @lst vs _ r t =>
        have x1 : Ext H (upd H p (.lst (vs ++ [w]))) := Ext.put r trivial
        exact mt_append pins s σ H _ _ _ _ Q I rx rxs ⟨p, vs, w, rfl, rfl, r, by rw [t.length]; exact q.1, up _ _ _ _ q.2 x1 .non (hm.put r trivial (.lst upd_same ((t.append (.cons aw .nil)).ext x1)))⟩
    · exact q.elim
  · exact q.elim
/-- with all of a list that stands, written or frozen -/
def mClear : D → List D → Mp → DK → Prop := fun x ds M Q => match x, ds with
  | .ref p, [] => match M p with
    | some (.lst l) => Q .non (updM M p (.lst []))
    | _ => False
  | _, _ => False
theorem dm_clear : DMt X "list.clear" mClear := by
  intro pins s σ H x xs v us d ds M Qd Q I rx rxs ax axs hm q up
  unfold mClear at q
  split at q
  · rename_i p
    split at q
    · rename_i l hl
      cases ax
      cases axs
      cases hm p _ hl with
      | @lst vs _ r t =>
        have x1 : Ext H (upd H p (.lst [])) := Ext.put r trivial
        exact mt_clear pins s σ H _ _ _ _ Q I rx rxs ⟨p, vs, rfl, rfl, r, up _ _ _ _ q x1 .non (hm.put r trivial (.lst upd_same .nil))⟩
    · exact q.elim
  · exact q.elim
end
/-! ### dict methods -/
section
variable {X : Cx}
/-- d.get(k, e) -/
def mGet : D → List D → Mp → DK → Prop := fun x ds M Q => match ds with
  | [y, z] => ∃ kvs, dctOf M x = some kvs ∧ keyFit y kvs ∧ Q ((getD kvs y).getD z) M
  | _ => False
theorem dm_get (hu : X.A.units + 64 < cLine) : DMt X "dict.get" mGet := by
  intro pins s σ H x xs v us d ds M Qd Q I rx rxs ax axs hm q up
  unfold mGet at q
  split at q
  · rename_i y z
    obtain ⟨kvs, hd, fit, q⟩ := q
    obtain ⟨p, rfl, at_⟩ := dct_abs hd ax hm
    cases rx
    cases axs with
    | cons ay axs =>
      cases axs with
      | cons az axs =>
        cases axs
        cases rxs with
        | cons ry rxs =>
          cases rxs with
          | cons rz rxs =>
            cases rxs
            rcases fit with ⟨⟨k, hk⟩, hs⟩ | ⟨⟨l, ks, rfl, hk, hz⟩, ht⟩
            · have ex := scal_abs hk ay
              subst ex
              obtain ⟨hp, kvs', vs, ak, rel, dd, _⟩ := factS I at_ hs
              refine call_meetsIn PySem.F.slot_dict_get dd.typeIs PySem.F.entry_dict_get (PySem.F.args_dict_get_3 _ _ _) (meets_dict_get_default (mixKind X.prog X.w) p (kV_is ry) hp _) ⟨_, dd.mapOf, ?_⟩
              have g := absK_get hk ak
              cases e : getD kvs y with
              | none =>
                rw [e] at g q
                have g1 := g.of_none
                have g2 := rel.val k
                rw [g1] at g2
                cases g3 : valueAt vs k with
                | none => exact ⟨_, H, I.tok _, rz, up _ _ _ _ q (Ext.refl H) az hm⟩
                | some w => rw [g3] at g2; exact g2.elim
              | some w =>
                rw [e] at g q
                obtain ⟨w1, g1, g2⟩ := g.of_some
                obtain ⟨w', hw, rw'⟩ := RelO.some_of (v := w1) (o := valueAt vs k) (by rw [← g1]; exact rel.val k)
                rw [hw]
                exact ⟨w1, H, I.tok _, rw', up _ _ _ _ q (Ext.refl H) g2 hm⟩
            · obtain ⟨b, ws, rfl, _, _⟩ := tup_abs ay
              cases ry
              obtain ⟨hp, xs, vs, an, rel, dd, _⟩ := factT I at_ ht
              refine call_meetsIn PySem.F.slot_dict_get dd.typeIs PySem.F.entry_dict_get (PySem.F.args_dict_get_3 _ _ _) (meetsH_dict_get_default (nestedKind X.prog X.w) p b hp _) ⟨?_, _, vs, key_nested I hk hz ay, dd, ?_⟩
              · show X.A.in1.units + 8 < cLine
                show X.A.units + 1 + 8 < cLine
                omega
              · have g := absN_get hk an
                cases e : getD kvs (.tup l) with
                | none =>
                  rw [e] at g q
                  have g1 := g.of_none
                  have g2 := nv_val (k := .tup ks) rel
                  rw [g1] at g2
                  cases g3 : (atKey vs (.tup ks)).map (·.2) with
                  | none => exact ⟨_, H, I.tok _, rz, up _ _ _ _ q (Ext.refl H) az hm⟩
                  | some w => rw [g3] at g2; exact g2.elim
                | some w =>
                  rw [e] at g q
                  obtain ⟨w1, g1, g2⟩ := g.of_some
                  obtain ⟨w', hw, rw'⟩ := RelO.some_of (v := w1) (o := (atKey vs (.tup ks)).map (·.2)) (by rw [← g1]; exact nv_val rel)
                  rw [hw]
                  exact ⟨w1, H, I.tok _, rw', up _ _ _ _ q (Ext.refl H) g2 hm⟩
  · exact q.elim
end
end Dy
end
section
set_option Elab.async false
set_option linter.all false
set_option maxRecDepth 100000
set_option maxHeartbeats 4000000
/-! The D layer, 4c: sorted texts, list(dict), isinstance. -/
namespace Dy
open PySem PySem.Spec L2
open PyProof.Rows hiding St

/-! ### an order of texts -/
def leS (x y : Str) : Bool := !ltCps y.cps.toList x.cps.toList
theorem leS_iff {x y : Str} : leS x y = true ↔ x.cps.toList ≤ y.cps.toList := by
  unfold leS
  rw [ltCps_eq, Bool.not_eq_true', decide_eq_false_iff_not]
  exact Iff.rfl
theorem leS_total (x y : Str) : leS x y = true ∨ leS y x = true := by
  rw [leS_iff, leS_iff]; exact List.le_total _ _
theorem leS_trans {x y z : Str} (a : leS x y = true) (b : leS y z = true) : leS x z = true := by
  rw [leS_iff] at *; exact List.le_trans a b
theorem leS_anti {x y : Str} (a : leS x y = true) (b : leS y x = true) : x = y := by
  rw [leS_iff] at *
  have := List.le_antisymm a b
  cases x; cases y
  exact congrArg _ (Array.toList_inj.mp this)
theorem leS_refl (x : Str) : leS x x = true := (leS_total x x).elim id id
def insS (x : Str) : List Str → List Str
  | [] => [x]
  | y :: r => if leS x y = true then x :: y :: r else y :: insS x r
def srt : List Str → List Str
  | [] => []
  | x :: r => insS x (srt r)
theorem insS_perm (x : Str) : ∀ l : List Str, (insS x l).Perm (x :: l)
  | [] => .refl _
  | y :: r => by
    unfold insS
    split
    · exact .refl _
    · exact (List.Perm.cons y (insS_perm x r)).trans (.swap x y r)
theorem srt_perm : ∀ l : List Str, (srt l).Perm l
  | [] => .refl _
  | x :: r => (insS_perm x _).trans (.cons x (srt_perm r))
theorem insS_sorted {x : Str} : ∀ {l : List Str}, l.Pairwise (fun a b => leS a b = true) → (insS x l).Pairwise (fun a b => leS a b = true)
  | [], _ => List.pairwise_singleton _ _
  | y :: r, h => by
    unfold insS
    split
    · rename_i c
      refine List.pairwise_cons.mpr ⟨fun b hb => ?_, h⟩
      rcases List.mem_cons.mp hb with e | hb
      · subst e; exact c
      · exact leS_trans c ((List.pairwise_cons.mp h).1 b hb)
    · rename_i c
      have c' : leS y x = true := (leS_total x y).resolve_left c
      refine List.pairwise_cons.mpr ⟨fun b hb => ?_, insS_sorted (List.pairwise_cons.mp h).2⟩
      rcases List.mem_cons.mp ((insS_perm x r).mem_iff.mp hb) with e | hb
      · subst e; exact c'
      · exact (List.pairwise_cons.mp h).1 b hb
theorem srt_sorted : ∀ l : List Str, (srt l).Pairwise (fun a b => leS a b = true)
  | [] => .nil
  | x :: r => insS_sorted (srt_sorted r)
theorem rising_pair : ∀ (p : Str) (l : List Str), risingS p l = true → (p :: l).Pairwise (fun a b => leS a b = true)
  | p, [], _ => List.pairwise_singleton _ _
  | p, x :: r, h => by
    have h : (!ltCps x.cps.toList p.cps.toList && risingS x r) = true := h
    rw [Bool.and_eq_true] at h
    have ih := rising_pair x r h.2
    have c : leS p x = true := h.1
    refine List.pairwise_cons.mpr ⟨fun b hb => ?_, ih⟩
    rcases List.mem_cons.mp hb with e | hb
    · subst e; exact c
    · exact leS_trans c ((List.pairwise_cons.mp ih).1 b hb)
theorem srt_of {ys ks : List Str} (p : ys.Perm ks) (h : sortedS ys = true) : ys = srt ks := by
  have s : ys.Pairwise (fun a b => leS a b = true) := by
    cases ys with
    | nil => exact .nil
    | cons y r => exact rising_pair y r h
  exact List.Perm.eq_of_pairwise (fun a b _ _ h1 h2 => leS_anti h1 h2) s (srt_sorted ks) (p.trans (srt_perm ks).symm)
/-- sorted twice is sorted -/
theorem srt_id {l : List Str} (h : l.Pairwise (fun a b => leS a b = true)) : srt l = l :=
  List.Perm.eq_of_pairwise (fun a b _ _ h1 h2 => leS_anti h1 h2) (srt_sorted l) h (srt_perm l)
theorem srt_srt (l : List Str) : srt (srt l) = srt l := srt_id (srt_sorted l)
theorem srt_congr {l m : List Str} (h : l.Perm m) : srt l = srt m :=
  List.Perm.eq_of_pairwise (fun a b _ _ h1 h2 => leS_anti h1 h2) (srt_sorted l) (srt_sorted m) ((srt_perm l).trans (h.trans (srt_perm m).symm))

/-! ### sorted(..), list(..) -/
def strsOf : List D → Option (List Str)
  | [] => some []
  | .str x :: r => (strsOf r).map (x :: ·)
  | _ :: _ => none
theorem strsOf_eq : ∀ {l : List D} {xs : List Str}, strsOf l = some xs → l = xs.map .str
  | [], xs, h => by simp only [strsOf, Option.some.injEq] at h; subst h; rfl
  | .str x :: r, xs, h => by
    simp only [strsOf, Option.map_eq_some_iff] at h
    obtain ⟨ys, e, rfl⟩ := h
    rw [strsOf_eq e]; rfl
  | .non :: _, xs, h => by simp [strsOf] at h
  | .bl _ :: _, xs, h => by simp [strsOf] at h
  | .int _ :: _, xs, h => by simp [strsOf] at h
  | .ty _ :: _, xs, h => by simp [strsOf] at h
  | .tup _ :: _, xs, h => by simp [strsOf] at h
  | .lst _ :: _, xs, h => by simp [strsOf] at h
  | .dct _ :: _, xs, h => by simp [strsOf] at h
  | .obj _ _ :: _, xs, h => by simp [strsOf] at h
  | .ref _ :: _, xs, h => by simp [strsOf] at h
theorem strsOf_map (xs : List Str) : strsOf (xs.map .str) = some xs := by
  induction xs with
  | nil => rfl
  | cons x r ih => simp [strsOf, ih]
section
variable {X : Cx} {G : Gv} {H : Hp}
theorem abs_strs : ∀ {xs : List Str} {vs : List V}, AbsL G H vs (xs.map .str) → vs = xs.map V.str ∧ ∀ x ∈ xs, PyData.strOk x = true
  | [], _, .nil => ⟨rfl, fun _ h => nomatch h⟩
  | x :: xs, _, .cons a l => by
    obtain ⟨e, f⟩ := abs_strs l
    cases a with
    | str _ h =>
      refine ⟨by rw [e]; rfl, fun y hy => ?_⟩
      rcases List.mem_cons.mp hy with z | hy
      · subst z; exact h
      · exact f y hy
theorem strs_abs : ∀ {xs : List Str}, (∀ x ∈ xs, PyData.strOk x = true) → AbsL G H (xs.map V.str) (xs.map D.str)
  | [], _ => .nil
  | x :: xs, h => .cons (.str x (h x List.mem_cons_self)) (strs_abs fun y hy => h y (List.mem_cons_of_mem _ hy))
/-- the keys of a dict of texts -/
theorem absK_keys {kvs : List (Key × V)} {ds : List (D × D)} (h : AbsK G H kvs ds) : ∀ {xs : List Str}, ds.map (·.1) = xs.map .str → kvs.map (·.1) = xs.map Sum.inr ∧ ∀ x ∈ xs, PyData.strOk x = true := by
  induction ds generalizing kvs with
  | nil =>
    intro xs e
    cases h
    cases xs with
    | nil => exact ⟨rfl, fun _ h => nomatch h⟩
    | cons _ _ => simp at e
  | cons d ds ih =>
    intro xs e
    cases xs with
    | nil => simp at e
    | cons x xs =>
      simp only [List.map_cons, List.cons.injEq] at e
      cases h with
      | int a l => simp at e
      | str hx a l =>
        simp only [D.str.injEq] at e
        obtain ⟨rfl, e2⟩ := e
        obtain ⟨e3, f⟩ := ih l e2
        refine ⟨by simp [e3], fun y hy => ?_⟩
        rcases List.mem_cons.mp hy with z | hy
        · subst z; exact hx
        · exact f y hy
/-- what sorted and list are asked of: the items of a sequence, the keys of a dict -/
def itemsOf (M : Mp) (d : D) : Option (List D) := match lstOf M d with
  | some l => some l
  | none => (dctOf M d).map fun l => l.map (·.1)
end
section
variable {X : Cx}
def cSorted : DRn := fun ds M Q => match ds with
  | [d] => match itemsOf M d with
    | some l => match strsOf l with
      | some xs => (xs ≠ [] ∨ (lstOf M d).isSome = true) ∧ xs.length < 64 ∧ newL ((srt xs).map .str) M Q
      | none => False
    | none => False
  | _ => False
theorem abs_one {G : Gv} {H : Hp} {vs : List V} {d : D} (h : AbsL G H vs [d]) : ∃ v, vs = [v] ∧ Abs G H v d := by
  cases h with | cons a r => cases r; exact ⟨_, rfl, a⟩
theorem call_sorted_d (hc : X.calm = true) : DCall X (.builtin "sorted") cSorted := by
  intro pins s σ H xs us Q I r ⟨ds, M, Qd, axs, hm, q, up⟩
  unfold cSorted at q
  split at q
  · rename_i d
    obtain ⟨v, rfl, a⟩ := abs_one axs
    split at q
    · rename_i l hl
      split at q
      · rename_i zs hz
        have el := strsOf_eq hz
        subst el
        unfold itemsOf at hl
        have fin : ∀ (p : Addr), (∀ z ∈ zs, PyData.strOk z = true) → H p = none → Q (.ref p) (upd H p (.lst ((srt zs).map V.str))) := fun p ok hp => by
          have ok' : ∀ z ∈ srt zs, PyData.strOk z = true := fun z hz => ok z ((srt_perm zs).mem_iff.mp hz)
          have x1 : Ext H (upd H p (.lst ((srt zs).map V.str))) := Ext.new hp
          exact up _ _ _ _ (q.2.2 p (hm.none hp)) x1 (.ref p) (hm.new hp (.lst upd_same (strs_abs ok')))
        cases e : lstOf M d with
        | some l' =>
          rw [e] at hl
          cases hl
          obtain ⟨p, vs, rfl, hq, al⟩ := lst_abs e a hm
          obtain ⟨rfl, ok⟩ := abs_strs al
          exact cr_sortedS pins s σ H _ _ Q I r ⟨p, zs, rfl, hq.sq, q.2.1, fun ys p' h1 h2 h3 => by rw [srt_of h1 h2]; exact fin p' ok h3⟩
        | none =>
          rw [e] at hl
          simp only [Option.map_eq_some_iff] at hl
          obtain ⟨kvs, hd, hk⟩ := hl
          obtain ⟨p, rfl, at_⟩ := dct_abs hd a hm
          cases at_ with
          | k hr hq =>
            obtain ⟨e1, ok⟩ := absK_keys hq hk
            exact call_sortedD hc pins s σ H _ _ Q I r ⟨p, _, zs, rfl, hr, e1, q.2.1, fun ys p' h1 h2 h3 => by rw [srt_of h1 h2]; exact fin p' ok h3⟩
          | n hr hq =>
            have hT := absN_T hq
            exfalso
            refine q.1.elim (fun q1 => q1 ?_) (fun z => by rw [e] at z; cases z)
            cases zs with
            | nil => rfl
            | cons z zs =>
              cases kvs with
              | nil => simp at hk
              | cons kv kvs =>
                obtain ⟨l, hl⟩ := hT kv List.mem_cons_self
                simp only [List.map_cons, List.cons.injEq] at hk
                rw [hl] at hk
                simp at hk
      · exact q.elim
    · exact q.elim
  · exact q.elim

theorem absK_kl {G : Gv} {H : Hp} : ∀ {kvs : List (Key × V)} {ds : List (D × D)}, AbsK G H kvs ds → AbsL G H (kvs.map fun kv => kV kv.1) (ds.map (·.1))
  | _, _, .nil => .nil
  | _, _, .int a l => .cons (.int _) (absK_kl l)
  | _, _, .str h a l => .cons (.str _ h) (absK_kl l)
theorem absN_kl {G : Gv} {H : Hp} : ∀ {xs : List (NestedKey × Addr × V)} {ds : List (D × D)}, AbsN G H xs ds → AbsL G H (xs.map fun x => V.ref x.2.1) (ds.map (·.1))
  | _, _, .nil => .nil
  | _, _, .cons k z a b l => .cons a (absN_kl l)
theorem pairs_rel {P : Program} {w : World} : ∀ {es : List DictEntry} {kvs : List (Key × V)} {vs : List (Key × Value)}, Pairs (mixKind P w) es vs → KV kvs vs → ∀ (j : Nat) (k : V) (en : DictEntry), (kvs.map fun kv => kV kv.1)[j]? = some k → es[j]? = some en → RelV k en.key
  | _, _, _, .nil, .nil, j, k, en, h1, h2 => by simp at h1
  | _, _, _, .cons a b l, .cons r t, 0, k, en, h1, h2 => by
    simp only [List.map_cons, List.getElem?_cons_zero, Option.some.injEq] at h1 h2
    subst h1; subst h2
    obtain ⟨r1, _⟩ := r
    rw [r1]
    exact keyIs_rel a
  | _, _, _, .cons a b l, .cons r t, j + 1, k, en, h1, h2 => pairs_rel l t j k en (by simpa using h1) (by simpa using h2)
theorem pairs_len {P : Program} {w : World} : ∀ {es : List DictEntry} {vs : List (Key × Value)}, Pairs (mixKind P w) es vs → es.length = vs.length
  | _, _, .nil => rfl
  | _, _, .cons _ _ l => by simp [pairs_len l]
/-- a dict's entries as they lie -/
theorem dat_raw {pins : List (Addr × Obj)} {σ : St} {H : Hp} {s : Shared} {a : Addr} {ds : List (D × D)} (I : Inv X pins σ H s) (h : DAt (Gx X) H a ds) :
    (a == sysModules) = false ∧ ds.length ≤ sizeLine ∧ ∃ (o : Obj) (es : Array DictEntry) (ep : Nat) (ks : List V), s.heap.get? a = some o ∧ o.ExactDict ∧ o.data = .dict es ep ∧ es.size = ds.length ∧ AbsL (Gx X) H ks (ds.map (·.1)) ∧
      ∀ (j : Nat) (k : V) (en : DictEntry), ks[j]? = some k → es[j]? = some en → RelV k en.key := by
  cases h with
  | k r q =>
    obtain ⟨z, hd, vs, rel, o, es, ep, h1, h2, h3, h4, h5, h6⟩ := dk_rd I.hok r
    refine ⟨hd, by rw [← q.length]; exact z, o, es, ep, _, h1, h2, h3, ?_, absK_kl q, fun j k en e1 e2 => pairs_rel h5 rel j k en e1 (by rw [Array.getElem?_toList]; exact e2)⟩
    have l1 := pairs_len h5
    have l2 := Paired.length rel
    rw [Array.length_toList] at l1
    rw [← q.length]; omega
  | n r q =>
    obtain ⟨z, hd, vs, rel, o, es, ep, h1, h2, h3, h4, h5⟩ := nd_rd I r
    have l1 : es.size = vs.length := by rw [← Array.length_toList, h4, List.length_map]
    have l2 := Paired.length rel
    refine ⟨hd, by rw [← q.length]; exact z, o, es, ep, _, h1, h2, h3, by rw [← q.length]; omega, absN_kl q, fun j k en e1 e2 => ?_⟩
    rw [List.getElem?_map] at e1
    rw [← Array.getElem?_toList, h4, List.getElem?_map] at e2
    cases z1 : ‹List (NestedKey × Addr × V)›[j]? with
    | none => rw [z1] at e1; cases e1
    | some p =>
      rw [z1] at e1
      obtain ⟨b, hb, r1, r2, _⟩ := L2.paired_get rel z1
      rw [hb] at e2
      cases e1; cases e2
      show RelV (.ref p.2.1) (.ref b.2.1)
      rw [r2]; rfl
/-- list(x): of a list, a tuple, of a dict its keys -/
def cList : DRn := fun ds M Q => match ds with
  | [d] => match seqOf M d with
    | some l => newL l M Q
    | none => match dctOf M d with
      | some l => newL (l.map (·.1)) M Q
      | none => False
  | _ => False
theorem call_list_d (hc : X.calm = true) : DCall X (.type "list") cList := by
  intro pins s σ H xs us Q I r ⟨ds, M, Qd, axs, hm, q, up⟩
  unfold cList at q
  split at q
  · rename_i d
    split at q
    · rename_i l hl
      exact call_listS pins s σ H xs us Q I r ⟨_, M, Qd, axs, hm, ⟨d, l, rfl, hl, q⟩, up⟩
    · split at q
      · rename_i l hl
        obtain ⟨v, rfl, a⟩ := abs_one axs
        obtain ⟨p, rfl, at_⟩ := dct_abs hl a hm
        obtain ⟨u, rfl, rx⟩ := vals1 r
        cases rx
        obtain ⟨hd, hz, o, es, ep, ks, h1, h2, h3, h4, h5, h6⟩ := dat_raw I at_
        refine PySem.W.kdl_call (kdl_raw hd h2 h3) (I.ok.hd hc) h1 (by omega) fun h' tk acc' c' kp e it => ?_
        have lk := h5.length
        rw [List.length_map] at lk
        have rv : Vals ks acc'.toList := by
          refine vals_of_at (by have e1 : acc'.toList.length = acc'.size := Array.length_toList; have e2 := it.1; omega) fun j x w e1 e2 => ?_
          obtain ⟨en, hen, hv⟩ := it.2 j w (by rw [← Array.getElem?_toList]; exact e2)
          rw [hv]
          exact h6 j x en e1 hen
        have hf := I.fresh
        have x1 : Ext H (upd H s.heap.objs.size (.lst ks)) := Ext.new hf
        refine ⟨.ref s.heap.objs.size, _, I.laid (t' := tk) (o := .lst ks) kp (Nat.le_refl _) ⟨by omega, acc'.toList, c', rv, by rw [Array.toArray_toList]; exact e⟩, rfl, up _ _ _ _ (q _ (hm.none hf)) x1 (.ref _) (hm.new hf (.lst upd_same (h5.ext x1)))⟩
      · exact q.elim
  · exact q.elim
/-! ### isinstance with a built-in type -/
theorem kit_d {pins : List (Addr × Obj)} {σ : St} {s : Shared} {H : Hp} {M : Mp} {x : V} {u : Value} {d : D} {T : String} (I : Inv X pins σ H s) (rx : RelV x u) (a : Abs (Gx X) H x d) (hm : HAbs (Gx X) H M) (h : tyD M d = some T) :
    ∃ P : Heap → Prop, PySem.W.KitX X.K u (.type T) P ∧ P s.heap ∧ u ≠ .builtin "__main__.__loader__#opaque" := by
  have onD : ∀ {p : Addr} {l : List (D × D)}, DAt (Gx X) H p l → ∃ P : Heap → Prop, PySem.W.KitX X.K (.ref p) (.type "dict") P ∧ P s.heap ∧ Value.ref p ≠ .builtin "__main__.__loader__#opaque" := fun {p l} at_ => by
    obtain ⟨_, _, o, es, ep, ks, h1, h2, _⟩ := dat_raw I at_
    exact ⟨_, PySem.W.kitx_dict, ⟨o, h1, h2.1⟩, fun z => nomatch z⟩
  have onL : ∀ {p : Addr} {vs : List V}, SqL X.K H p vs → ∃ P : Heap → Prop, PySem.W.KitX X.K (.ref p) (.type "list") P ∧ P s.heap ∧ Value.ref p ≠ .builtin "__main__.__loader__#opaque" := fun {p vs} hq => by
    obtain ⟨its, _, ⟨o, n, e, c, _⟩, _⟩ := I.list hq
    exact ⟨_, PySem.W.kitx_list, ⟨o, e, c⟩, fun z => nomatch z⟩
  cases a with
  | non => cases h; cases (show u = Value.none from rx); exact ⟨_, PySem.W.kitx_none, trivial, fun z => nomatch z⟩
  | bl b => cases h; cases (show u = Value.bool b from rx); exact ⟨_, PySem.W.kitx_bool, trivial, fun z => nomatch z⟩
  | int i => cases h; obtain ⟨t, rfl⟩ := (show ∃ t, u = Value.int i t from rx); exact ⟨_, PySem.W.kitx_int, trivial, fun z => nomatch z⟩
  | str x _ => cases h; obtain ⟨t, rfl⟩ := (show ∃ t, u = Value.str x t from rx); exact ⟨_, PySem.W.kitx_str, trivial, fun z => nomatch z⟩
  | tup r l =>
    cases h; cases rx
    obtain ⟨its, _, ⟨o, e, c, _⟩, _⟩ := I.tuple r
    exact ⟨_, PySem.W.kitx_tuple, ⟨o, e, c⟩, fun z => nomatch z⟩
  | lst q l => cases h; cases rx; exact onL q.sq
  | dK q l => cases h; cases rx; exact onD (.k (.inr ⟨_, q⟩) l)
  | dN q l => cases h; cases rx; exact onD (.n (.inr ⟨_, q⟩) l)
  | ref p =>
    cases rx
    simp only [tyD] at h
    cases z : M p with
    | none => rw [z] at h; cases h
    | some o =>
      rw [z] at h
      cases o with
      | lst l =>
        cases h
        cases hm p _ z with | lst r q => exact onL (.inl (.inl r))
      | dct l =>
        cases h
        cases hm p _ z with
        | dK r q => exact onD (.k (.inl r) q)
        | dN r q => exact onD (.n (.inl r) q)
      | ins _ _ => cases h
  | _ => cases h
def cIsi : DRn := fun ds M Q => match ds with
  | [d, .ty T] => match tyD M d with
    | some t => match kitB t T with
      | some b => Q (.bl b) M
      | none => False
    | none => False
  | _ => False
theorem abs_two {G : Gv} {H : Hp} {vs : List V} {d e : D} (h : AbsL G H vs [d, e]) : ∃ v w, vs = [v, w] ∧ Abs G H v d ∧ Abs G H w e := by
  cases h with | cons a r => cases r with | cons b r => cases r; exact ⟨_, _, rfl, a, b⟩
theorem call_isi_d : DCall X (.builtin "isinstance") cIsi := by
  intro pins s σ H xs us Q I r ⟨ds, M, Qd, axs, hm, q, up⟩
  unfold cIsi at q
  split at q
  · rename_i d T
    obtain ⟨v, w, rfl, a, b⟩ := abs_two axs
    cases b
    obtain ⟨u1, u2, rfl, r1, r2⟩ := vals2 r
    cases (show u2 = Value.type T from r2)
    split at q
    · rename_i t ht
      split at q
      · rename_i b hb
        obtain ⟨P, Z, p, hx⟩ := kit_d I r1 a hm ht
        exact PySem.W.kia_one Z I.kIn p (kit_ty hb) hx fun tk => ⟨.bl b, H, I.tok tk, rfl, up _ _ _ _ q (Ext.refl H) (.bl _) hm⟩
      · exact q.elim
    · exact q.elim
  · exact q.elim
example : kitB "int" "bool" = some false := by decide +kernel
example : kitB "bool" "int" = some true := by decide +kernel
end
end Dy
end
section
set_option Elab.async false
set_option linter.all false
set_option maxRecDepth 100000
set_option maxHeartbeats 4000000
/-! The D layer, 4d: comprehensions of dicts with keys of any kind; displays. -/
namespace Dy
open PySem PySem.Spec L2
open PyProof.Rows hiding St

section
variable {X : Cx} {pins : List (Addr × Obj)} {σ : St} {H : Hp} {s : Shared} {M : Mp}
/-- a store without the look at the class -/
theorem dput_dict (hu : X.A.units + 64 < cLine) {E : Value → Shared → Prop} {p : Addr} {y z : V} {iv u : Value} {e f : D} {Qd : Mp → Prop} {Q : Hp → Prop} (I : Inv X pins σ H s) (ry : RelV y iv) (rz : RelV z u)
    (ay : Abs (Gx X) H y e) (az : Abs (Gx X) H z f) (hm : HAbs (Gx X) H M) (q : dDSet (.ref p) e f M Qd) (up : ∀ M' H', Qd M' → Ext H H' → HAbs (Gx X) H' M' → Q H') :
    wpAny (model X.prog X.w) X.A (dictSet p iv u) (fun _ s' => ∃ H', Inv X pins σ H' s' ∧ Q H') E s := by
  obtain ⟨p', kvs, ep, hM, fit, hl, q⟩ := q
  cases ep
  rcases fit with ⟨⟨k, hk⟩, hs⟩ | ⟨⟨l, ks, rfl, hk, hz⟩, ht⟩
  · have ex := scal_abs hk ay
    subst ex
    have go : ∀ {H1 : Hp} {ws : List (Key × V)}, Inv X pins σ H1 s → H1 p = some (.dK ws) → AbsK (Gx X) H1 ws kvs → Abs (Gx X) H1 z f → HAbs (Gx X) H1 M → Ext H H1 → wpAny (model X.prog X.w) X.A (dictSet p iv u) (fun _ s' => ∃ H', Inv X pins σ H' s' ∧ Q H') E s := by
      intro H1 ws I1 e1 l1 az1 hm1 x1
      refine d_dictSet I1 e1 (by rw [l1.length]; exact hl) ry rz fun s' I' => ⟨_, I', ?_⟩
      have x2 : Ext H1 (upd H1 p (.dK (putK ws k z))) := Ext.put e1 trivial
      exact up _ _ q (x1.trans x2) (hm1.put e1 trivial (.dK upd_same ((absK_put hk (key_str ay) az1 l1).ext x2)))
    cases hm p _ hM with
    | dK r t => exact go I r t az hm (Ext.refl H)
    | dN r t =>
      have en := hs.T_nil (absN_T t)
      subst en
      cases t
      have x1 : Ext H (upd H p (.dK [])) := Ext.put r trivial
      have hm1 := hm.put (o := .dct []) r trivial (u := .dK []) (.dK upd_same .nil)
      have eM : updM M p (.dct []) = M := by
        funext b; by_cases q : b = p
        · subst q; rw [updM_same, hM]
        · rw [updM_ne q]
      rw [eM] at hm1
      exact go (dk_nil I r) upd_same .nil (az.ext x1) hm1 x1
  · obtain ⟨b, ws, rfl, _, _⟩ := tup_abs ay
    cases ry
    have go : ∀ {H1 : Hp} {xs : List (NestedKey × Addr × V)}, Inv X pins σ H1 s → H1 p = some (ndO X.prog X.w p xs) → AbsN (Gx X) H1 xs kvs → Abs (Gx X) H1 (.ref b) (.tup l) → Abs (Gx X) H1 z f → HAbs (Gx X) H1 M → Ext H H1 → wpAny (model X.prog X.w) X.A (dictSet p (.ref b) u) (fun _ s' => ∃ H', Inv X pins σ H' s' ∧ Q H') E s := by
      intro H1 xs I1 e1 l1 ay1 az1 hm1 x1
      obtain ⟨zz, hp, vs, rel, dd⟩ := nd_of I1 (.inl e1) l1
      have hlen : vs.length = xs.length := (Paired.length rel).symm
      refine wpAny_dictSet_heap (hsz := by rw [hlen]; exact zz) (show X.A.units + 8 < cLine from by omega) (key_nested I1 hk hz ay1) dd fun h' dd' hs => ?_
      obtain ⟨o, es, ep, h1, h2, h3, h4, h5, h6⟩ := dd'
      have x2 : Ext H1 (upd H1 p (ndO X.prog X.w p (putN xs (.tup ks) b z))) := Ext.put e1 trivial
      have hN : NDict X.prog X.w h' p (putN xs (.tup ks) b z) := ⟨by unfold putN; split <;> simp <;> have := l1.length <;> omega, hp, _, nv_put rz rel, o, es, ep, h1, h2, h3, h4, h6⟩
      refine ⟨_, d_write I1 (by rw [e1]; exact trivial) hs ⟨o, h1⟩ (nd_ok hN), ?_⟩
      exact up _ _ q (x1.trans x2) (hm1.put e1 trivial (.dN upd_same ((absN_put hk hz ay1 az1 l1).ext x2)))
    cases hm p _ hM with
    | dN r t => exact go I r t ay az hm (Ext.refl H)
    | dK r t =>
      have en := (absK_S t).T_nil ht
      subst en
      cases t
      have x1 : Ext H (upd H p (ndO X.prog X.w p [])) := Ext.put r trivial
      have hm1 := hm.put (o := .dct []) r trivial (u := ndO X.prog X.w p []) (.dN upd_same .nil)
      have eM : updM M p (.dct []) = M := by
        funext b; by_cases q : b = p
        · subst q; rw [updM_same, hM]
        · rw [updM_ne q]
      rw [eM] at hm1
      exact go (nd_nil I r) upd_same .nil (ay.ext x1) (az.ext x1) hm1 x1
end
/-- a store into the dict at an address, by values -/
abbrev TPut := Addr → V → V → Hp → (Hp → Prop) → Prop
def PPut (X : Cx) (t : TPut) : Prop := ∀ (pins : List (Addr × Obj)) (s : Shared) (σ : St) (H : Hp) (p : Addr) (y z : V) (u r : Value) (Q : Hp → Prop), Inv X pins σ H s → RelV y u → RelV z r → t p y z H Q →
  wpAny (model X.prog X.w) X.A (dictSet p u r) (fun _ s' => ∃ H', Inv X pins σ H' s' ∧ Q H') (fun _ _ => False) s
def lPut (G : Gv) : TPut := fun p y z H Q => ∃ e f M Qd, Abs G H y e ∧ Abs G H z f ∧ HAbs G H M ∧ dDSet (.ref p) e f M Qd ∧ ∀ M' H', Qd M' → Ext H H' → HAbs G H' M' → Q H'
theorem pput_d {X : Cx} (hu : X.A.units + 64 < cLine) : PPut X (lPut (Gx X)) := fun pins s σ H p y z u r Q I ry rz ⟨e, f, M, Qd, ay, az, hm, q, up⟩ => dput_dict hu I ry rz ay az hm q up
section
variable {X : Cx}
/-- {k: v for target in iter if ..}: D the new dict, t how it is stored -/
def tDg (wi : TI) (g : TG) (tt : TT) (tk tv : TE) (t : TPut) (vs : List Nat) : TE := fun σ H Q => wi σ H fun J H1 => ∀ D, H1 D = none → ∃ W : Nat → Nat → Hp → Prop, (∃ m, W 0 m (upd H1 D (.dK []))) ∧ ∀ i m H, W i m H →
  (J.stop i H ∧ Q (.ref D) H) ∨ (J.go i H ∧ ∃ Nx : Hp → Prop, (∀ H', Nx H' → ∃ m', m' < m ∧ W (i + 1) m' H') ∧ ∀ x H', J.yld i H x H' → g x (wipe σ vs) H' fun σ2 H2 => wipe σ2 vs = wipe σ vs ∧ tt σ2 H2 fun b H3 =>
    if b = true then tk σ2 H3 fun y H4 => tv σ2 H4 fun z H5 => t D y z H5 Nx else Nx H3)
/-- the block's walk, whatever the store -/
theorem pe_dg {kx vx tg iter : Expr} {ifs : List Expr} {scope : Scope} {own : List (Str × Nat)} {pos : Pos} {wi : TI} {g : TG} {tt : TT} {tk tv : TE} {t : TPut} (calm : X.calm = true) (nd : X.N.Nodup) (hi : PI X tg iter wi) (ok : BlkOk X.N X.env.scope scope own)
    (b1 : ∀ (s : Shared) (H : Hp) (C : Addr) (cl : List (Str × Addr)) (fp : List Addr), PG (X.blk s H scope (compEnvC scope cl C X.env) fp) tg g ∧ PTs (X.blk s H scope (compEnvC scope cl C X.env) fp) ifs tt ∧ PE (X.blk s H scope (compEnvC scope cl C X.env) fp) kx tk ∧ PE (X.blk s H scope (compEnvC scope cl C X.env) fp) vx tv ∧ PPut (X.blk s H scope (compEnvC scope cl C X.env) fp) t)
    (fold : ∀ x, foldedSetIterable iter X.env x = pure x) : PE X (.DictComp kx vx [⟨tg, iter, ifs, 0⟩] scope pos) (tDg wi g tt tk tv t (own.map (·.2))) := by
  refine ⟨fun pins s σ H Q I h => ?_⟩
  rw [arm_eval_DictComp]
  have cls : ∀ y ∈ scope.names, y.2 = .free → ∃ c, X.env.cells.lookup y.1 = some c := fun y hy e => (ok.free y hy e).elim (fun k => I.ok.has _ (.inl k)) (fun k => I.ok.has _ (.inr k))
  refine wpAny_comprehension_free (use := none) rfl fold (closure_ok cls) ok.kind (fun y hy e => by rw [ok.uniq y hy, e]) (thn (hi.run pins s σ H _ I h) fun _ _ hx => thn hx fun _ sA hA => ?_)
  obtain ⟨it, fp, tn, J, HA, eq, IA, T, stA, fA, q⟩ := hA
  subst eq
  refine wpAny_newObj_type (newEnv_comp ?_)
  have hDn : HA sA.heap.objs.size = none := IA.fresh
  obtain ⟨W, ⟨m0, w0⟩, turn⟩ := q sA.heap.objs.size hDn
  generalize hD : sA.heap.objs.size = D at hDn w0 turn
  -- the new dict
  generalize hsB : ({ sA with heap := sA.heap.push { cls := .type "dict", data := .dict #[] } } : Shared) = sB
  have hB : sB.heap = sA.heap.push { cls := .type "dict", data := .dict #[] } := by subst hsB; rfl
  generalize hHB : upd HA D (.dK []) = HB at w0
  have IB : Inv X pins σ HB sB := by
    subst hsB; subst hHB; subst hD
    exact IA.laid (t' := sA.toks) (fun _ _ e => Heap.get?_push_of_some _ e) (Nat.le_refl _) (dk_empty sA.heap IA.big)
  have fB : ∀ b ∈ fp, FpOk X pins HB b ∧ b < sB.heap.objs.size := fun b hb => by
    obtain ⟨o, e, _⟩ := T.obj _ _ stA b hb
    have lt := Heap.lt_size e
    refine ⟨⟨?_, (fA b hb).2⟩, by rw [hB, Heap.size_push]; exact Nat.lt_succ_of_lt lt⟩
    rw [← hHB, upd_ne (Nat.ne_of_lt (hD ▸ lt))]
    exact (fA b hb).1
  have I4 := block_start IB ok nd fB
  generalize hN : sB.heap.objs.size = Na at I4
  generalize hcl : cellsFrom (Na + 1) scope.names (cloFrom X.env.cells scope.names []) = cl at I4
  obtain ⟨pg, pt, pk, pv, pp⟩ := b1 sB HB Na cl fp
  have eL : (compEnvC scope cl Na X.env).locals = Na := rfl
  subst hcl
  show codeAny _ _ (.compStart (.DictComp kx vx [⟨tg, iter, ifs, 0⟩] scope pos) 0 (.ref it) (.ref D) (compEnvC scope (cellsFrom (Na + 1) scope.names (cloFrom X.env.cells scope.names [])) Na X.env)) (compPost (model X.prog X.w) X.A X.xe none (EP X pins σ Q) (.ref D) Na) { sB with heap := pushCells (sB.heap.push { cls := .type "dict", data := .dict #[] }) scope.names }
  generalize hce : compEnvC scope (cellsFrom (Na + 1) scope.names (cloFrom X.env.cells scope.names [])) Na X.env = ce at I4 pg pt pk pv pp eL
  have st4 : tn 0 (pushCells (sB.heap.push { cls := .type "dict", data := .dict #[] }) scope.names) := T.keep _ _ _ stA fun b _ o e => pushCells_keeps _ _ _ _ (Heap.get?_push_of_some _ (by rw [hB]; exact Heap.get?_push_of_some _ e))
  generalize hs4 : ({ sB with heap := pushCells (sB.heap.push { cls := .type "dict", data := .dict #[] }) scope.names } : Shared) = s4 at I4
  have st4' : tn 0 s4.heap := by subst hs4; exact st4
  have fpB : ∀ {σ' : St} {H' : Hp} {s' : Shared}, Inv (X.blk sB HB scope ce fp) [] σ' H' s' → (∀ b ∈ fp, H' b = none) → ∀ b ∈ fp, FpOk (X.blk sB HB scope ce fp) [] H' b := fun I' hn b hb =>
    ⟨hn b hb, (I'.ok.exf b hb).1, I'.ok.exfs b hb, .inl hb, (I'.ok.exf b hb).2, fun p hp => (List.mem_append.mp hp).elim (fun z => nomatch z) (fun z => nomatch z)⟩
  have loop : codeAny (model X.prog X.w) X.A (.compLoop (.DictComp kx vx [⟨tg, iter, ifs, 0⟩] scope pos) 0 (.ref it) (.ref D) ce) (compPost (model X.prog X.w) X.A X.xe none (EP X pins σ Q) (.ref D) Na) s4 := by
    refine compLoop_anyD (fun n s' => ∃ i H', Inv (X.blk sB HB scope ce fp) [] (wipe σ (own.map (·.2))) H' s' ∧ tn i s'.heap ∧ (∀ b ∈ fp, H' b = none) ∧ W i n H') (fun n s5 ⟨i, H5, I5, st5, n5, w5⟩ => ?_) m0 ⟨0, HB, I4, st4', fun b hb => (fB b hb).1.1, w0⟩
    rcases turn i n H5 w5 with ⟨stop, fin⟩ | ⟨go, Nx, hNx, step⟩
    · refine thnF (T.done (X.blk sB HB scope ce fp) rfl rfl rfl calm i [] s5 _ H5 (fun _ _ => False) I5 (fpB I5 n5) st5 stop) fun r s6 ⟨er, I6⟩ => ?_
      subst er
      have I7 : Inv X pins σ H5 s6 := IB.call' (ch := fp) I6.os I6.base I6.hok I6.bare fun b hb => ⟨(fB b hb).1.2.2.2.1, (fB b hb).1.2.1, (fB b hb).1.2.2.2.2.1, (fB b hb).1.2.2.2.2.2⟩
      have nN : H5 Na = none := eL ▸ I6.free
      obtain ⟨m, hm, _⟩ := I6.loc
      have hm : s6.heap.Ns Na m := eL ▸ hm
      have f := IB.fpOk (H' := H5) (b := Na) (Nat.le_of_eq hN) nN
      obtain ⟨f0, f1, f2, f3, f4, f5⟩ := f
      exact ⟨m, hm, fun h'' sb => ⟨.ref D, H5, I7.turned (t' := s6.toks) (fun b o hb e => (sb.2 b hb).trans e) f0 f1 f3 f4 f5, rfl, fin⟩⟩
    · refine thnF (T.item (X.blk sB HB scope ce fp) rfl rfl rfl calm i [] s5 _ H5 (fun _ _ => False) I5 (fpB I5 n5) st5 go) fun r s6 ⟨u, er, h6⟩ => ?_
      subst er
      refine thnF h6 fun _ s7 ⟨x, H7, I7, r7, y7, st7, n7⟩ => ?_
      refine thnF (pg.run _ s7 _ H7 x u _ (I7.pinned (fpB I7 n7) (T.obj _ _ st7)) r7 (step x H7 y7)) fun _ s8 ⟨σ8, H8, I8, hw, q8⟩ => ?_
      refine thnF (pt.run _ s8 σ8 H8 _ I8 q8) fun b s9 ⟨H9, I9, q9⟩ => ?_
      have next : ∀ {s' : Shared} {H' : Hp}, Inv (X.blk sB HB scope ce fp) ([] ++ pinsAt fp s7.heap) σ8 H' s' → Nx H' → ∃ m, m < n ∧ ∃ i H', Inv (X.blk sB HB scope ce fp) [] (wipe σ (own.map (·.2))) H' s' ∧ tn i s'.heap ∧ (∀ b ∈ fp, H' b = none) ∧ W i m H' := fun {s' H'} I' nx => by
        obtain ⟨m', lt, w'⟩ := hNx H' nx
        have look : ∀ b ∈ fp, ∀ o, s7.heap.get? b = some o → s'.heap.get? b = some o ∧ H' b = none := fun b hb o e => by
          have z := I'.pin (b, o) (List.mem_append_right _ (List.mem_append_right _ (mem_pinsAt hb e)))
          exact ⟨z.1, z.2.1⟩
        refine ⟨m', lt, i + 1, H', (I'.unpinned (pins := [])).weak (by rw [← hw, wipe_length]) (fun j v e => (wipe_some (hw ▸ e)).1), T.keep _ _ _ st7 fun b hb o e => (look b hb o e).1, fun b hb => ?_, w'⟩
        obtain ⟨o, e, _⟩ := T.obj _ _ st7 b hb
        exact (look b hb o e).2
      cases b with
      | false => simp only [Bool.false_eq_true, if_false] at q9 ⊢; exact next I9 q9
      | true =>
        simp only [if_true] at q9 ⊢
        refine thnF (pk.run _ s9 σ8 H9 _ I9 q9) fun uk sC ⟨yk, HC, IC, rC, qC⟩ => ?_
        refine thnF (pv.run _ sC σ8 HC _ IC qC) fun uv sE ⟨yv, HE, IE, rE, qE⟩ => ?_
        exact thnF (pp _ sE σ8 HE D yk yv uk uv Nx IE rC rE qE) fun _ sF ⟨HF, IF, nx⟩ => next IF nx
  exact codeAny_compStart_dict loop (T.self X.A 0 _ _ _ st4' loop)
end
end Dy
end
section
set_option Elab.async false
set_option linter.all false
set_option maxRecDepth 100000
set_option maxHeartbeats 4000000
/-! The D layer, 4e: displays of dicts. -/
namespace Dy
open PySem PySem.Spec L2
open PyProof.Rows hiding St

abbrev DTP := Sd → Mp → (List (D × D) → Mp → Prop) → Prop
inductive AbsP (G : Gv) (H : Hp) : List (V × V) → List (D × D) → Prop where
  | nil : AbsP G H [] []
  | cons {x y : V} {d e : D} {ps : List (V × V)} {ds : List (D × D)} : Abs G H x d → Abs G H y e → AbsP G H ps ds → AbsP G H ((x, y) :: ps) ((d, e) :: ds)
theorem AbsP.ext {G : Gv} {H H' : Hp} (e : Ext H H') : ∀ {ps : List (V × V)} {ds : List (D × D)}, AbsP G H ps ds → AbsP G H' ps ds
  | _, _, .nil => .nil
  | _, _, .cons a b l => .cons (a.ext e) (b.ext e) (l.ext e)
section
variable {X : Cx}
/-- the pairs of a display, by values -/
structure PPd (X : Cx) (pos : Pos) (keys : List (Option Expr)) (values : List Expr) (t : DTP) : Prop where
  run : ∀ (pins : List (Addr × Obj)) (s : Shared) (σ : St) (H : Hp) (σd : Sd) (M : Mp) (Q : List (D × D) → Mp → Prop), Inv X pins σ H s → Sim (Gx X) H σ σd M → t σd M Q →
    wpAny (model X.prog X.w) X.A (evalPairs (pairTrees keys values X.env pos)) (fun vs s' => ∃ ps H' ds M', Inv X pins σ H' s' ∧ VV ps vs ∧ Ext H H' ∧ AbsP (Gx X) H' ps ds ∧ HAbs (Gx X) H' M' ∧ Q ds M') X.xe s
theorem ppd_nil {pos : Pos} : PPd X pos [] [] (fun _ M Q => Q [] M) := ⟨fun pins s σ H σd M Q I sim q => pairTrees_nil_walk ⟨[], H, [], M, I, .nil, Ext.refl H, .nil, sim.heap, q⟩⟩
theorem ppd_cons {pos : Pos} {k v : Expr} {ks : List (Option Expr)} {vs : List Expr} {tk tv : DTE} {t : DTP} (hk : PE X k (lE (Gx X) tk)) (hv : PE X v (lE (Gx X) tv)) (hr : PPd X pos ks vs t) :
    PPd X pos (some k :: ks) (v :: vs) (fun σ M Q => tk σ M fun d M1 => tv σ M1 fun e M2 => t σ M2 fun ds M3 => Q ((d, e) :: ds) M3) := ⟨fun pins s σ H σd M Q I sim q => by
  refine pairTrees_cons_walk (thn (hk.run pins s σ H (fun x H1 => ∃ d M1, Ext H H1 ∧ Abs (Gx X) H1 x d ∧ HAbs (Gx X) H1 M1 ∧ _) I ⟨σd, M, _, sim, q, fun d M1 x H1 q1 e1 a1 h1 => ⟨d, M1, e1, a1, h1, q1⟩⟩) fun u s1 ⟨x, H1, I1, rx, d, M1, e1, a1, h1, q1⟩ => ?_)
  refine thn (hv.run pins s1 σ H1 (fun y H2 => ∃ e M2, Ext H1 H2 ∧ Abs (Gx X) H2 y e ∧ HAbs (Gx X) H2 M2 ∧ _) I1 ⟨σd, M1, _, sim.ext e1 h1, q1, fun e M2 y H2 q2 e2 a2 h2 => ⟨e, M2, e2, a2, h2, q2⟩⟩) fun u2 s2 ⟨y, H2, I2, ry, e, M2, e2, a2, h2, q2⟩ => ?_
  refine thn (hr.run pins s2 σ H2 σd M2 _ I2 (sim.ext (e1.trans e2) h2) q2) fun us s3 ⟨ps, H3, ds, M3, I3, rel, e3, a3, h3, q3⟩ => ?_
  exact ⟨(x, y) :: ps, H3, (d, e) :: ds, M3, I3, .cons ⟨rx, ry⟩ rel, (e1.trans e2).trans e3, .cons ((a1.ext e2).ext e3) (a2.ext e3) a3, h3, q3⟩⟩
def putAll (acc l : List (D × D)) : List (D × D) := l.foldl (fun a kv => putD a kv.1 kv.2) acc
def AllTk (kvs : List (D × D)) : Prop := ∀ kv ∈ kvs, tupK kv.1
def dispEnd (tk : Bool) (p : Addr) (Q : DK) : List (D × D) → Mp → Prop := fun l M => M p = some (.dct []) ∧ l.length ≤ 15 ∧ (if tk = true then AllTk l else AllS l) ∧ Q (.ref p) (updM M p (.dct (putAll [] l)))
/-- scalars -/
theorem keysS {H : Hp} : ∀ {ps : List (V × V)} {l : List (D × D)}, AbsP (Gx X) H ps l → AllS l → ∃ kvs : List (Key × V), ps = kvs.map (fun kv => (kV kv.1, kv.2)) ∧ kvs.length = l.length ∧ ∀ (acc : List (Key × V)) (da : List (D × D)), AbsK (Gx X) H acc da → AbsK (Gx X) H (mergeK acc kvs) (putAll da l)
  | _, _, .nil, _ => ⟨[], rfl, rfl, fun acc da h => h⟩
  | _, _, .cons (d := d) (y := y) a b r, h => by
    obtain ⟨k, hk⟩ := h _ List.mem_cons_self
    obtain ⟨kvs, e1, e2, e3⟩ := keysS r fun kv hkv => h kv (List.mem_cons_of_mem _ hkv)
    have ex := scal_abs hk a
    subst ex
    refine ⟨(k, y) :: kvs, by rw [e1]; rfl, by simp [e2], fun acc da hacc => ?_⟩
    exact e3 _ _ (absK_put hk (key_str a) b hacc)
theorem mergeK_len (acc kvs : List (Key × V)) : (mergeK acc kvs).length ≤ acc.length + kvs.length := length_mergeK kvs acc
/-- tuples -/
theorem keysT {H : Hp} {pins : List (Addr × Obj)} {σ : St} {s : Shared} (I : Inv X pins σ H s) : ∀ {ps : List (V × V)} {l : List (D × D)} {ws : List (Value × Value)}, AbsP (Gx X) H ps l → AllTk l → VV ps ws →
    ∃ (xs : List (NestedKey × Addr × V)) (vs : List (NestedKey × Addr × Value)), NV xs vs ∧ CarriesH (nestedKind X.prog X.w) s.heap ws vs ∧ xs.length = l.length ∧
      ∀ (acc : List (NestedKey × Addr × V)) (va : List (NestedKey × Addr × Value)) (da : List (D × D)), AbsN (Gx X) H acc da → NV acc va → acc.length + xs.length ≤ sizeLine → ∃ out, NV out (storedAllH va vs) ∧ AbsN (Gx X) H out (putAll da l) ∧ out.length ≤ acc.length + xs.length
  | _, _, _, .nil, _, .nil => ⟨[], [], .nil, trivial, rfl, fun acc va da h n _ => ⟨acc, n, h, Nat.le_refl _⟩⟩
  | _, _, _, .cons (d := d) (y := y) a b r, h, .cons (b := wv) r1 rr => by
    obtain ⟨l0, ks, rfl, hk, hz⟩ := h _ List.mem_cons_self
    obtain ⟨xs, vs, n1, c1, e2, e3⟩ := keysT I r (fun kv hkv => h kv (List.mem_cons_of_mem _ hkv)) rr
    obtain ⟨p, us, rfl, _, _⟩ := tup_abs a
    obtain ⟨w1, w2⟩ := wv
    obtain ⟨r2, r3⟩ := r1
    have r2 : RelV (.ref p) w1 := r2
    have r3 : RelV y w2 := r3
    cases r2
    refine ⟨(.tup ks, p, y) :: xs, (.tup ks, p, w2) :: vs, .cons ⟨rfl, rfl, r3⟩ n1, ⟨rfl, rfl, key_nested I hk hz a, c1⟩, by simp [e2], fun acc va da hacc hn hl => ?_⟩
    have pl : (putN acc (.tup ks) p y).length ≤ acc.length + 1 := by unfold putN; split <;> simp
    simp only [List.length_cons] at hl ⊢
    obtain ⟨out, o1, o2, o3⟩ := e3 (putN acc (.tup ks) p y) (storedH va (.tup ks) p w2) (putD da (.tup l0) _) (absN_put hk hz a b hacc) (nv_put r3 hn) (by omega)
    exact ⟨out, o1, o2, by omega⟩
/-- the new dict, as one of the wanted kind -/
theorem disp_k {pins : List (Addr × Obj)} {σ : St} {s : Shared} {H : Hp} {M : Mp} {p : Addr} (I : Inv X pins σ H s) (hm : HAbs (Gx X) H M) (e : M p = some (.dct [])) : ∃ H1, Inv X pins σ H1 s ∧ H1 p = some (.dK []) ∧ Ext H H1 ∧ HAbs (Gx X) H1 M := by
  have eM : updM M p (.dct []) = M := by
    funext b; by_cases q : b = p
    · subst q; rw [updM_same, e]
    · rw [updM_ne q]
  cases hm p _ e with
  | dK r t => cases t; exact ⟨H, I, r, Ext.refl H, hm⟩
  | dN r t =>
    cases t
    have hm1 := hm.put (o := .dct []) r trivial (u := .dK []) (.dK upd_same .nil)
    rw [eM] at hm1
    exact ⟨_, dk_nil I r, upd_same, Ext.put r trivial, hm1⟩
theorem disp_n {pins : List (Addr × Obj)} {σ : St} {s : Shared} {H : Hp} {M : Mp} {p : Addr} (I : Inv X pins σ H s) (hm : HAbs (Gx X) H M) (e : M p = some (.dct [])) : ∃ H1, Inv X pins σ H1 s ∧ H1 p = some (ndO X.prog X.w p []) ∧ Ext H H1 ∧ HAbs (Gx X) H1 M := by
  have eM : updM M p (.dct []) = M := by
    funext b; by_cases q : b = p
    · subst q; rw [updM_same, e]
    · rw [updM_ne q]
  cases hm p _ e with
  | dN r t => cases t; exact ⟨H, I, r, Ext.refl H, hm⟩
  | dK r t =>
    cases t
    have hm1 := hm.put (o := .dct []) r trivial (u := ndO X.prog X.w p []) (.dN upd_same .nil)
    rw [eM] at hm1
    exact ⟨_, nd_nil I r, upd_same, Ext.put r trivial, hm1⟩
theorem AbsP.len {G : Gv} {H : Hp} : ∀ {ps : List (V × V)} {l : List (D × D)}, AbsP G H ps l → ps.length = l.length
  | _, _, .nil => rfl
  | _, _, .cons _ _ r => by simp [r.len]
def dDisp (en : Addr → DK → List (D × D) → Mp → Prop) (t : DTP) : DTE := fun σ M Q => ∀ p, M p = none → t σ (updM M p (.dct [])) (en p Q)
theorem de_ddispS {pos : Pos} {keys : List (Option Expr)} {values : List Expr} {t : DTP} (h : PPd X pos keys values t) (hall : keys.all (·.isSome) = true) (hl : keys.length = values.length) (h0 : keys ≠ []) (h15 : keys.length ≤ 15) {en : Addr → DK → List (D × D) → Mp → Prop} (hE : ∀ p Q l M, en p Q l M → dispEnd false p Q l M) :
    PE X (.Dict keys values pos) (lE (Gx X) (dDisp en t)) := by
  refine ⟨fun pins s σ H Q I ⟨σd, M, Qd, sim, q, up⟩ => ?_⟩
  have hn := I.fresh
  have I1 := I.laid (a := s.heap.objs.size) (o := .dK []) (h' := s.heap.push { cls := .type "dict", data := .dict #[] }) (t' := s.toks) (fun _ _ e => Heap.get?_push_of_some _ e) (Nat.le_refl _) (dk_empty s.heap I.big)
  have x0 : Ext H (upd H s.heap.objs.size (.dK [])) := Ext.new hn
  have hm0 := sim.heap.new (o := .dct []) (u := .dK []) hn (.dK upd_same .nil)
  refine wpAny_Dict_walk (knd := mixKind X.prog X.w) hall hl h0 h15 (thn (h.run pins _ σ _ σd _ _ I1 (sim.ext x0 hm0) (q _ (sim.heap.none hn))) fun ws s2 ⟨ps, H2, l, M2, I2, rel, e2, a2, hm2, q0⟩ => ?_)
  obtain ⟨e, h15', ha, q2⟩ := hE _ _ _ _ q0
  simp only [Bool.false_eq_true, if_false] at ha
  obtain ⟨H3, I3, e3, x3, hm3⟩ := disp_k I2 hm2 e
  obtain ⟨kvs, ep, el, put⟩ := keysS (a2.ext x3) ha
  subst ep
  obtain ⟨rs, c, rk⟩ := carries_of (P := X.prog) (w := X.w) rel
  obtain ⟨z, hd, vs0, r0, dd⟩ := dk_of I3.hok e3
  cases r0
  refine ⟨rs, c, dd, fun h' dd' hs => ⟨.ref s.heap.objs.size, upd H3 s.heap.objs.size (.dK (mergeK [] kvs)), ?_, rfl, ?_⟩⟩
  · have hz : (mergeK [] kvs).length ≤ sizeLine := by
      have h1 := mergeK_len [] kvs
      rw [List.length_nil] at h1
      rw [sizeLine_eq]; omega
    have he : ∃ q, h'.get? s.heap.objs.size = some q := let ⟨q, _, _, hq, _⟩ := dd'; ⟨q, hq⟩
    exact d_write I3 (by rw [e3]; exact trivial) hs he (dk_new hz hd (rk.merge .nil) dd')
  · have x4 : Ext H3 (upd H3 s.heap.objs.size (.dK (mergeK [] kvs))) := Ext.put e3 trivial
    exact up _ _ _ _ q2 (((x0.trans e2).trans x3).trans x4) (.ref _) (hm3.put e3 trivial (.dK upd_same ((put [] [] .nil).ext x4)))
theorem de_ddispT (hu : X.A.units + 64 < cLine) {pos : Pos} {keys : List (Option Expr)} {values : List Expr} {t : DTP} (h : PPd X pos keys values t) (hall : keys.all (·.isSome) = true) (hl : keys.length = values.length) (h0 : keys ≠ []) (h15 : keys.length ≤ 15) {en : Addr → DK → List (D × D) → Mp → Prop} (hE : ∀ p Q l M, en p Q l M → dispEnd true p Q l M) :
    PE X (.Dict keys values pos) (lE (Gx X) (dDisp en t)) := by
  refine ⟨fun pins s σ H Q I ⟨σd, M, Qd, sim, q, up⟩ => ?_⟩
  have hn := I.fresh
  have I1 := I.laid (a := s.heap.objs.size) (o := .dK []) (h' := s.heap.push { cls := .type "dict", data := .dict #[] }) (t' := s.toks) (fun _ _ e => Heap.get?_push_of_some _ e) (Nat.le_refl _) (dk_empty s.heap I.big)
  have x0 : Ext H (upd H s.heap.objs.size (.dK [])) := Ext.new hn
  have hm0 := sim.heap.new (o := .dct []) (u := .dK []) hn (.dK upd_same .nil)
  have lp := pairTrees_length keys values X.env pos hall hl
  rw [arm_eval_Dict, zip_pairTrees keys values X.env pos hall hl, dictDisplay_pairs (pairTrees keys values X.env pos) (fun z => h0 (List.length_eq_zero_iff.mp (by rw [← lp, z]; rfl))) (by omega)]
  refine wpAny_bind (wpAny_standAt (wpAny_bind (wpAny_subDictH (knd := nestedKind X.prog X.w) (Q := fun d s' => wpAny (model X.prog X.w) X.A (pure (Value.ref d)) (EP X pins σ Q) X.xe s') (show X.A.units + 8 < cLine by omega) (by omega) ?_)))
  refine thn (h.run pins _ σ _ σd _ _ I1 (sim.ext x0 hm0) (q _ (sim.heap.none hn))) fun ws s2 ⟨ps, H2, l, M2, I2, rel, e2, a2, hm2, q0⟩ => ?_
  obtain ⟨e, h15', ha, q2⟩ := hE _ _ _ _ q0
  simp only [if_true] at ha
  obtain ⟨H3, I3, e3, x3, hm3⟩ := disp_n I2 hm2 e
  obtain ⟨xs, vs, n1, c1, el, put⟩ := keysT I3 (a2.ext x3) ha rel
  obtain ⟨out, o1, o2, o3⟩ := put [] [] [] .nil .nil (by rw [sizeLine_eq, List.length_nil]; omega)
  obtain ⟨z, hd, vs0, r0, dd⟩ := nd_of (ds := []) I3 (.inl e3) .nil
  cases r0
  refine ⟨vs, c1, dd, fun h' tk dd' hs => wpAny_pure ⟨.ref s.heap.objs.size, upd H3 s.heap.objs.size (ndO X.prog X.w s.heap.objs.size out), ?_, rfl, ?_⟩⟩
  · obtain ⟨o, es, ep, g1, g2, g3, g4, g5, g6⟩ := dd'
    have hN : NDict X.prog X.w h' s.heap.objs.size out := ⟨by rw [sizeLine_eq]; rw [List.length_nil] at o3; omega, hd, _, o1, o, es, ep, g1, g2, g3, g4, g6⟩
    exact (d_write (t' := tk) I3 (by rw [e3]; exact trivial) hs ⟨o, g1⟩ (nd_ok hN))
  · have x4 : Ext H3 (upd H3 s.heap.objs.size (ndO X.prog X.w s.heap.objs.size out)) := Ext.put e3 trivial
    exact up _ _ _ _ q2 (((x0.trans e2).trans x3).trans x4) (.ref _) (hm3.put e3 trivial (.dN upd_same (o2.ext x4)))
end
end Dy
end
section
set_option Elab.async false
set_option linter.all false
set_option maxRecDepth 100000
set_option maxHeartbeats 4000000
/-! The D layer, 4f: walks that make tuples: enumerate, zip. -/
namespace Dy
open PySem PySem.Spec L2
open PyProof.Rows hiding St

section
variable {prog : Program} {w : World} {A : Around} {E : Value → Shared → Prop} {s : Shared}
theorem kndKey : DVw.Knd prog w "dict_keyiterator" 0 := ⟨fun h q => wpAny_typeNameOfWhole_keyiter h q, fun h q => wpAny_isOneOf_keyiter h q, by decide, by decide⟩
theorem vNext_key : Builtin.«dict_keyiterator.__next__» = DVw.vNext "dict_keyiterator.__next__" := by kernel_rfl
def keyOb (d : Addr) (i n ep : Nat) : Obj := DVw.itOb "dict_keyiterator" #[.ref d, .int i 0, .int n 0, .int ep 0]
theorem nk_item {it d : Addr} {i n ep : Nat} {od : Obj} {es : Array DictEntry} {e : DictEntry} {Q : Value → Shared → Prop} (ho : s.heap.get? it = some (keyOb d i n ep)) (hd : s.heap.get? d = some od) (hdd : od.data = .dict es ep) (hn : es.size = n) (he : es[i]? = some e)
    (hQ : ∀ h', h'.get? it = some (keyOb d (i + 1) n ep) → Heap.SameBut it s.heap h' → Q e.key { s with heap := h' }) : wpAny (model prog w) A (Builtin.SmallTypes.nextOf (.ref it)) Q E s := by
  have hT : s.TypeIs (.ref it) "dict_keyiterator" := DVw.itOb_is ho
  unfold Builtin.SmallTypes.nextOf
  refine wpAny_bind (wpAny_callSpecial?_slot (name := Str.ofString "__next__") hT F.slot_dict_keyiterator_next (wpAny_call_entry F.slot_dict_keyiterator_next hT F.entry_dict_keyiterator_next ?_ (F.args_dict_keyiterator_next_1 _)))
  rw [vNext_key]
  refine DVw.vStep kndKey ho rfl (by show 1 < 4; omega) hd hdd hn he fun h' he' sb => ?_
  have hT' : Shared.TypeIs ({ s with heap := h' } : Shared) (.ref it) "dict_keyiterator" := ⟨_, he', rfl⟩
  unfold DVw.vPick
  refine wpAny_bind (wpAny_isOneOf_keyiter hT' ?_)
  have he2 : h'.get? it = some (keyOb d (i + 1) n ep) := by
    have z : ((i + 1 : Nat) : Int) = (i : Int) + 1 := by omega
    unfold keyOb; rw [z]; exact he'
  exact wpAny_pure (wpAny_pure (hQ h' he2 sb))
theorem nk_end {it d : Addr} {i n ep : Nat} {od : Obj} {es : Array DictEntry} {Q : Value → Shared → Prop} (hh : A.handled = none) (ho : s.heap.get? it = some (keyOb d i n ep)) (hd : s.heap.get? d = some od) (hdd : od.data = .dict es ep) (hn : es.size = n) (he : es[i]? = none)
    (hQ : ∀ h' e, Heap.ExtBut it s.heap h' → (∃ o, h'.get? e = some o ∧ o.cls = .type "StopIteration") → E (.ref e) { s with heap := h' }) : wpAny (model prog w) A (Builtin.SmallTypes.nextOf (.ref it)) Q E s := by
  have hT : s.TypeIs (.ref it) "dict_keyiterator" := DVw.itOb_is ho
  unfold Builtin.SmallTypes.nextOf
  refine wpAny_bind (wpAny_callSpecial?_slot (name := Str.ofString "__next__") hT F.slot_dict_keyiterator_next (wpAny_call_entry F.slot_dict_keyiterator_next hT F.entry_dict_keyiterator_next ?_ (F.args_dict_keyiterator_next_1 _)))
  rw [vNext_key]
  exact DVw.vStop (show A.in1.handled = none from hh) kndKey ho rfl (by show 0 < 4; omega) hd hdd hn he fun h' e oe kp hx hc => hQ h' e kp ⟨oe, hx, hc⟩
theorem nv_item {it d : Addr} {i n ep : Nat} {od : Obj} {es : Array DictEntry} {e : DictEntry} {Q : Value → Shared → Prop} (ho : s.heap.get? it = some (DVw.valOb d i n ep)) (hd : s.heap.get? d = some od) (hdd : od.data = .dict es ep) (hn : es.size = n) (he : es[i]? = some e)
    (hQ : ∀ h', h'.get? it = some (DVw.valOb d (i + 1) n ep) → Heap.SameBut it s.heap h' → Q e.val { s with heap := h' }) : wpAny (model prog w) A (Builtin.SmallTypes.nextOf (.ref it)) Q E s := by
  have hT : s.TypeIs (.ref it) "dict_valueiterator" := DVw.itOb_is ho
  unfold Builtin.SmallTypes.nextOf
  refine wpAny_bind (wpAny_callSpecial?_slot (name := Str.ofString "__next__") hT F.slot_dict_valueiterator_next (wpAny_call_entry F.slot_dict_valueiterator_next hT F.entry_dict_valueiterator_next ?_ (F.args_dict_valueiterator_next_1 _)))
  rw [DVw.vNext_val]
  refine DVw.vStep DVw.kndVal ho rfl (by show 1 < 4; omega) hd hdd hn he fun h' he' sb => ?_
  have hT' : Shared.TypeIs ({ s with heap := h' } : Shared) (.ref it) "dict_valueiterator" := ⟨_, he', rfl⟩
  unfold DVw.vPick
  refine wpAny_bind (wpAny_isOneOf_valiter hT' (wpAny_bind (wpAny_isOneOf_valiter hT' ?_)))
  have he2 : h'.get? it = some (DVw.valOb d (i + 1) n ep) := by
    have z : ((i + 1 : Nat) : Int) = (i : Int) + 1 := by omega
    unfold DVw.valOb; rw [z]; exact he'
  exact wpAny_pure (wpAny_pure (hQ h' he2 sb))
theorem nv_end {it d : Addr} {i n ep : Nat} {od : Obj} {es : Array DictEntry} {Q : Value → Shared → Prop} (hh : A.handled = none) (ho : s.heap.get? it = some (DVw.valOb d i n ep)) (hd : s.heap.get? d = some od) (hdd : od.data = .dict es ep) (hn : es.size = n) (he : es[i]? = none)
    (hQ : ∀ h' e, Heap.ExtBut it s.heap h' → (∃ o, h'.get? e = some o ∧ o.cls = .type "StopIteration") → E (.ref e) { s with heap := h' }) : wpAny (model prog w) A (Builtin.SmallTypes.nextOf (.ref it)) Q E s := by
  have hT : s.TypeIs (.ref it) "dict_valueiterator" := DVw.itOb_is ho
  unfold Builtin.SmallTypes.nextOf
  refine wpAny_bind (wpAny_callSpecial?_slot (name := Str.ofString "__next__") hT F.slot_dict_valueiterator_next (wpAny_call_entry F.slot_dict_valueiterator_next hT F.entry_dict_valueiterator_next ?_ (F.args_dict_valueiterator_next_1 _)))
  rw [DVw.vNext_val]
  exact DVw.vStop (show A.in1.handled = none from hh) DVw.kndVal ho rfl (by show 0 < 4; omega) hd hdd hn he fun h' e oe kp hx hc => hQ h' e kp ⟨oe, hx, hc⟩
end
theorem drawsK {prog : Program} {w : World} {A : Around} (hh : A.handled = none) {it d : Addr} {od : Obj} {es : Array DictEntry} {ep : Nat} (ne : d ≠ it) (hdd : od.data = .dict es ep) :
    Draws prog w A it [it, d] es.size (fun i v => ∃ e, es[i]? = some e ∧ v = e.key) (fun i h => h.get? it = some (keyOb d i es.size ep) ∧ h.get? d = some od) where
  live := fun _ _ st => ⟨_, st.1⟩
  frame := fun _ _ _ st hk => ⟨hk it (by simp) _ st.1, hk d (by simp) _ st.2⟩
  item := fun i s Q E hi st hQ => nk_item st.1 st.2 hdd rfl (Array.getElem?_eq_getElem hi) fun h' g sb => hQ _ h' s.toks ⟨_, Array.getElem?_eq_getElem hi, rfl⟩ ⟨g, (sb.2 d ne).trans st.2⟩ sb
  done := fun s Q E st hE => nk_end hh st.1 st.2 hdd rfl (Array.getElem?_eq_none (Nat.le_refl _)) hE
theorem drawsV {prog : Program} {w : World} {A : Around} (hh : A.handled = none) {it d : Addr} {od : Obj} {es : Array DictEntry} {ep : Nat} (ne : d ≠ it) (hdd : od.data = .dict es ep) :
    Draws prog w A it [it, d] es.size (fun i v => ∃ e, es[i]? = some e ∧ v = e.val) (fun i h => h.get? it = some (DVw.valOb d i es.size ep) ∧ h.get? d = some od) where
  live := fun _ _ st => ⟨_, st.1⟩
  frame := fun _ _ _ st hk => ⟨hk it (by simp) _ st.1, hk d (by simp) _ st.2⟩
  item := fun i s Q E hi st hQ => nv_item st.1 st.2 hdd rfl (Array.getElem?_eq_getElem hi) fun h' g sb => hQ _ h' s.toks ⟨_, Array.getElem?_eq_getElem hi, rfl⟩ ⟨g, (sb.2 d ne).trans st.2⟩ sb
  done := fun s Q E st hE => nv_end hh st.1 st.2 hdd rfl (Array.getElem?_eq_none (Nat.le_refl _)) hE
/-- an iterator of tuples, each a new one: what it needs stands by SH -/
def Itw (SH : Hp → Prop) (n : Nat) (Row : Nat → Hp → List V → Prop) : L2.It :=
  ⟨fun i H => SH H ∧ i < n, fun i H x H' => ∃ T vs, x = .ref T ∧ H T = none ∧ H' = upd H T (.tup vs) ∧ Row i H vs, fun i H => SH H ∧ i = n⟩
theorem turn_W {P : Program} {w : World} {K : PySem.W.Frag} {elts : List Expr} {kk : Nat} {tpos : Pos} {C : Type} {it : Addr} {own fp wr : List Addr} {n : Nat} {Pt : C → Nat → Array Value → Prop} {St : C → Nat → Heap → Prop} {Mid : C → Nat → Addr → Heap → Prop}
    {Own : Nat → Heap → Prop} {Stat : C → Heap → Prop} {SH : Hp → Prop} {Row : Nat → Hp → List V → Prop} (mem : it ∈ own) (hwr : ∀ b ∈ wr, b ∈ own)
    (W : ∀ (A : Around), A.handled = none → ∀ c, WalksT P w A it fp wr n (Pt c) (St c) (Mid c))
    (sp : ∀ c i h, St c i h ↔ Own i h ∧ Stat c h) (obj : ∀ i h, Own i h → ∀ b ∈ own, ∃ o, h.get? b = some o ∧ ∀ v, o.data ≠ .cell v) (keep : ∀ i h h', Own i h → (∀ b ∈ own, ∀ o, h.get? b = some o → h'.get? b = some o) → Own i h')
    (self : ∀ (A : Around) (i : Nat) (s : Shared) (Q : Value → Shared → Prop) (E : Value → Shared → Prop), Own i s.heap → Q (.ref it) s → wpAny (model P w) A (pyIter (.ref it)) Q E s)
    (pick : ∀ (X : Cx), X.prog = P → X.w = w → X.K = K → ∀ (pins : List (Addr × Obj)) (s : Shared) (σ : L2.St) (H : Hp), Inv X pins σ H s → SH H → ∃ c, Stat c s.heap ∧ ∀ i vals, i < n → Pt c i vals → ∃ vs, Vals vs vals.toList ∧ Row i H vs ∧ vs.length ≤ sizeLine) :
    Turn P w K (.Tuple elts kk tpos) (Itw SH n Row) own it Own where
  mem := mem
  obj := obj
  keep := keep
  item := fun X hP hw hK hc i pins s σ H E I hf st hg => by
    subst hP; subst hw; subst hK
    obtain ⟨c, hs, row⟩ := pick X rfl rfl rfl pins s σ H I hg.1
    have Wc := W X.A (I.ok.hd hc) c
    refine Wc.item i s _ E hg.2 ((sp c i _).mpr ⟨st, hs⟩) fun T vals h' tk hPt hle hT hMid hk => ⟨.ref T, rfl, ?_⟩
    obtain ⟨vs, rv, hr, hz⟩ := row i vals hg.2 hPt
    refine Wc.go elts kk tpos i T { s with heap := h', toks := tk } _ E hMid fun h'' st'' hk' => ?_
    have hTw : T ∉ wr := Wc.apart i T h' hMid
    have hT'' : IsTup h'' T vals := by
      obtain ⟨o, e, r⟩ := hT
      exact ⟨o, hk' T o hTw e, r⟩
    have new : ObjOk X.prog X.w (upd H T (.tup vs)) h'' T (.tup vs) := ⟨hz, vals.toList, rv, by rw [Array.toArray_toList]; exact hT''⟩
    have I1 := I.turnedNew (t' := tk) (h' := h'') (ch := wr) (ob := .tup vs) (fun b o hb e => hk' b o hb (hk b o hb e)) (fun b hb => hf b (hwr b hb)) hle new
    refine ⟨.ref T, _, I1, rfl, ⟨T, vs, rfl, I.hok.fresh hle, rfl, hr⟩, ((sp c (i + 1) _).mp st'').1, fun b hb => ?_⟩
    obtain ⟨o, e, _⟩ := obj i _ st b hb
    rw [upd_ne (Nat.ne_of_lt (Nat.lt_of_lt_of_le (Heap.lt_size e) hle))]
    exact (hf b hb).1
  done := fun X hP hw hK hc i pins s σ H E I hf st hg => by
    subst hP; subst hw; subst hK
    obtain ⟨hs, rfl⟩ := hg
    obtain ⟨c, hst, row⟩ := pick X rfl rfl rfl pins s σ H I hs
    refine (W X.A (I.ok.hd hc) c).done s _ E ((sp c i _).mpr ⟨st, hst⟩) fun h' tk hk => ⟨rfl, ?_⟩
    exact I.turnedL (ch := wr) (t' := tk) (h' := h') (fun b o hb e => hk b o hb e) fun b hb => hf b (hwr b hb)
  self := self
end Dy
end
section
set_option Elab.async false
set_option linter.all false
set_option maxRecDepth 100000
set_option maxHeartbeats 4000000
/-! The D layer, 4g: the operations as functions, each wish named once. -/
namespace Dy
open PySem PySem.Spec L2
open PyProof.Rows hiding St

def isS (x : D) : Bool := match x with
  | .int _ => true
  | .str _ => true
  | _ => false
def isT (x : D) : Bool := match x with
  | .tup _ => true
  | _ => false
def tkB (x : D) : Bool := match x with
  | .tup l => (match keyNs l with
    | some ks => decide ((NestedKey.tup ks).depth ≤ 8)
    | none => false)
  | _ => false
def allS (l : List (D × D)) : Bool := l.all fun kv => isS kv.1
def keyOk (x : D) (kvs : List (D × D)) : Bool := (isS x && allS kvs) || (tkB x && kvs.all fun kv => isT kv.1)
theorem isS_of {x : D} (h : isS x = true) : scalK x := by
  cases x <;> simp [isS] at h
  · exact ⟨_, rfl⟩
  · exact ⟨_, rfl⟩
theorem allS_of {l : List (D × D)} (h : allS l = true) : AllS l := fun kv hk => isS_of (List.all_eq_true.mp h kv hk)
theorem tkB_of {x : D} (h : tkB x = true) : tupK x := by
  cases x with
  | tup l =>
    simp only [tkB] at h
    split at h
    · exact ⟨l, _, rfl, by assumption, of_decide_eq_true h⟩
    · cases h
  | _ => simp [tkB] at h
theorem isT_of {x : D} (h : isT x = true) : ∃ l, x = .tup l := by
  cases x with
  | tup l => exact ⟨l, rfl⟩
  | _ => simp [isT] at h
theorem keyOk_of {x : D} {kvs : List (D × D)} (h : keyOk x kvs = true) : keyFit x kvs := by
  unfold keyOk at h
  simp only [Bool.or_eq_true, Bool.and_eq_true] at h
  rcases h with ⟨a, b⟩ | ⟨a, b⟩
  · exact .inl ⟨isS_of a, allS_of b⟩
  · exact .inr ⟨tkB_of a, fun kv hk => isT_of (List.all_eq_true.mp b kv hk)⟩
/-! ### places -/
def ixD (M : Mp) (x y : D) : Option D := match seqOf M x with
  | some l => (match y with
    | .int i => atI l i
    | _ => none)
  | none => match dctOf M x with
    | some kvs => if keyOk y kvs = true then getD kvs y else none
    | none => none
def fIx : DR2 := fun x y M Q => match ixD M x y with
  | some v => Q v M
  | none => False
theorem fIx_d {x y : D} {M : Mp} {Q : DK} (h : fIx x y M Q) : dIx x y M Q := by
  unfold fIx ixD at h
  split at h
  · rename_i v e
    split at e
    · rename_i l hl
      split at e
      · exact .inl ⟨l, _, v, hl, rfl, e, h⟩
      · cases e
    · split at e
      · rename_i kvs hk
        split at e
        · exact .inr ⟨kvs, v, hk, keyOk_of (by assumption), e, h⟩
        · cases e
      · cases e
  · exact h.elim
def fDSet : D → D → D → Mp → (Mp → Prop) → Prop := fun x y z M Q => match x with
  | .ref p => (match M p with
    | some (.dct kvs) => keyOk y kvs = true ∧ kvs.length < sizeLine ∧ Q (updM M p (.dct (putD kvs y z)))
    | _ => False)
  | _ => False
theorem fDSet_d {x y z : D} {M : Mp} {Q : Mp → Prop} (h : fDSet x y z M Q) : dDSet x y z M Q := by
  unfold fDSet at h
  split at h
  · rename_i p
    split at h
    · rename_i kvs hk
      exact ⟨p, kvs, rfl, hk, keyOk_of h.1, h.2.1, h.2.2⟩
    · exact h.elim
  · exact h.elim
def fSet : D → D → D → Mp → (Mp → Prop) → Prop := fun x y z M Q => match x with
  | .ref p => (match M p with
    | some (.lst l) => (match y with
      | .int i => (match ixN l.length i with
        | some j => Q (updM M p (.lst (l.set j z)))
        | none => False)
      | _ => False)
    | some (.dct kvs) => keyOk y kvs = true ∧ kvs.length < sizeLine ∧ Q (updM M p (.dct (putD kvs y z)))
    | _ => False)
  | _ => False
theorem fSet_d {x y z : D} {M : Mp} {Q : Mp → Prop} (h : fSet x y z M Q) : dSet x y z M Q := by
  unfold fSet at h
  split at h
  · rename_i p
    split at h
    · rename_i l hl
      split at h
      · rename_i i
        split at h
        · exact .inl ⟨p, l, i, _, rfl, rfl, hl, by assumption, h⟩
        · exact h.elim
      · exact h.elim
    · rename_i kvs hk
      exact .inr ⟨p, kvs, rfl, hk, keyOk_of h.1, h.2.1, h.2.2⟩
    · exact h.elim
  · exact h.elim
/-! ### membership -/
def inD (M : Mp) (x y : D) : Option Bool := match dctOf M y with
  | some kvs => if keyOk x kvs = true then some (getD kvs x).isSome else none
  | none => match y with
    | .str z => (match x with
      | .str ⟨⟨[c]⟩⟩ => some (decide (c ∈ z.cps.toList))
      | _ => none)
    | y => match seqOf M y with
      | some l => if (plain x && plains l && (decide (dep x ≤ 60) || decide (deps l ≤ 60))) = true then some (l.any fun z => eqD z x) else none
      | none => none
def fIn (neg : Bool) : DR2 := fun x y M Q => match inD M x y with
  | some b => Q (.bl (if neg then !b else b)) M
  | none => False
theorem fIn_d {neg : Bool} {x y : D} {M : Mp} {Q : DK} (h : fIn neg x y M Q) : dIn neg x y M Q := by
  unfold fIn inD at h
  split at h
  · rename_i b e
    split at e
    · rename_i kvs hk
      split at e
      · cases e
        refine .inr (.inl ⟨kvs, hk, keyOk_of (by assumption), ?_⟩)
        exact h
      · cases e
    · split at e
      · split at e
        · cases e
          exact .inr (.inr ⟨_, _, rfl, rfl, h⟩)
        · cases e
      · split at e
        · rename_i l hl
          split at e
          · rename_i hc
            cases e
            simp only [Bool.and_eq_true, Bool.or_eq_true, decide_eq_true_eq] at hc
            exact .inl ⟨l, hl, hc.1.1, hc.1.2, hc.2, h⟩
          · cases e
        · cases e
  · exact h.elim
/-- x != y; where y is an empty list, x may hold what it likes -/
def fNe : DR2 := fun x y M Q => match y with
  | .lst [] => (match lstOf M x with
    | some l => Q (.bl (!l.isEmpty)) M
    | none => False)
  | y => dEq true x y M Q
theorem dop_ne0 {X : Cx} (hu : X.A.units + 64 < cLine) : DOp X (compareOp .NotEq) (fun x y M Q => y = .lst [] ∧ ∃ l, lstOf M x = some l ∧ Q (.bl (!l.isEmpty)) M) := by
  refine OpR.alt fun pins s σ H x y v u d e M Qd Q I rx ry ax ay hm q up => ?_
  obtain ⟨rfl, l, hl, q⟩ := q
  obtain ⟨p, vs, rfl, hp, al⟩ := lst_abs hl ax hm
  obtain ⟨p2, vs2, rfl, hp2, al2⟩ := lst_abs (d := .lst []) (l := []) rfl ay hm
  cases al2
  cases rx
  cases ry
  obtain ⟨its, r, ⟨o, n, e1, k1, k2, k3⟩, z⟩ := I.list hp.sq
  obtain ⟨its2, r2, ⟨o2, n2, e2, j1, j2, j3⟩, z2⟩ := I.list hp2.sq
  have hb : s.heap.IsList p2 its2.toArray := ⟨o2, e2, by first | exact j1 | exact j2, n2, by first | exact j3 | exact j2⟩
  have ha : s.heap.IsList p its.toArray := ⟨o, e1, by first | exact k1 | exact k2, n, by first | exact k3 | exact k2⟩
  have l2 : its2.length = 0 := by rw [← r2.length]; rfl
  have l1 : its.length = vs.length := r.length.symm
  have l3 : vs.length = l.length := al.length
  have room : X.A.units < cLine := by omega
  cases l with
  | nil =>
    have h0 : its.toArray.size = its2.toArray.size := by simp; rw [l1, l3, l2]; rfl
    refine SeqAt.RcNeAt.lists (e := fun _ => true) ha hb h0 room (fun j h1 _ => ?_) X.prog X.w _ _ ?_
    · exfalso
      simp at h1
      rw [l1, l3] at h1
      simp at h1
    · have e0 : (!(List.range its.toArray.size).all fun _ => true) = !([] : List D).isEmpty := by simp
      rw [e0]
      exact ⟨.bl _, H, I, rfl, up _ _ _ _ q (Ext.refl H) (.bl _) hm⟩
  | cons d ds =>
    have h0 : (its.toArray.size != its2.toArray.size) = true := by simp; rw [l1, l3, l2]; simp
    refine SeqAt.RcNeAt.lists_lengths ha hb h0 room X.prog X.w _ _ ?_
    exact ⟨.bl _, H, I, rfl, up _ _ _ _ q (Ext.refl H) (.bl _) hm⟩
theorem fNe_or {x y : D} {M : Mp} {Q : DK} (h : fNe x y M Q) : dEq true x y M Q ∨ (y = .lst [] ∧ ∃ l, lstOf M x = some l ∧ Q (.bl (!l.isEmpty)) M) := by
  unfold fNe at h
  split at h
  · split at h
    · exact .inr ⟨rfl, _, by assumption, h⟩
    · exact h.elim
  · exact .inl h
def fCmp (op : CmpOp) : DR2 := match op with
  | .Eq => dEq false
  | .NotEq => fNe
  | .Lt => dOrd (fun i j => decide (i < j)) fun a b => decide (a < b)
  | .LtE => dOrd (fun i j => decide (i ≤ j)) fun a b => !decide (b < a)
  | .Gt => dOrd (fun i j => decide (j < i)) fun a b => decide (b < a)
  | .GtE => dOrd (fun i j => decide (j ≤ i)) fun a b => !decide (a < b)
  | .Is => dIs false
  | .IsNot => dIs true
  | .In => fIn false
  | .NotIn => fIn true
theorem fop_cmp {X : Cx} (hu : X.A.units + 64 < cLine) (op : CmpOp) : DOp X (compareOp op) (fCmp op) := by
  have z := dop_cmp hu op
  cases op with
  | NotEq => exact (DOp.or (dop_ne hu) (dop_ne0 hu)).weak fun x y M Q h => fNe_or h
  | In => exact z.weak fun x y M Q h => fIn_d h
  | NotIn => exact z.weak fun x y M Q h => fIn_d h
  | _ => exact z
/-! ### calls -/
def lenD (M : Mp) (d : D) : Option Int := match d with
  | .str z => if z.length ≤ sizeLine then some (z.length : Nat) else none
  | d => match seqOf M d with
    | some l => some (l.length : Nat)
    | none => match dctOf M d with
      | some l => some (l.length : Nat)
      | none => none
def fLen : DRn := fun ds M Q => match ds with
  | [d] => (match lenD M d with
    | some n => Q (.int n) M
    | none => False)
  | _ => False
theorem fLen_d {ds : List D} {M : Mp} {Q : DK} (h : fLen ds M Q) : cLen ds M Q := by
  unfold fLen at h
  split at h
  · rename_i d
    split at h
    · rename_i n e
      unfold lenD at e
      split at e
      · split at e
        · cases e; exact ⟨_, rfl, .inr (.inr ⟨_, rfl, by assumption, h⟩)⟩
        · cases e
      · split at e
        · rename_i l hl
          cases e; exact ⟨_, rfl, .inl ⟨l, hl, h⟩⟩
        · split at e
          · rename_i l hl
            cases e; exact ⟨_, rfl, .inr (.inl ⟨l, hl, h⟩)⟩
          · cases e
    · exact h.elim
  · exact h.elim
def fTup : DRn := fun ds M Q => match ds with
  | [d] => (match seqOf M d with
    | some l => Q (.tup l) M
    | none => False)
  | _ => False
theorem fTup_d {ds : List D} {M : Mp} {Q : DK} (h : fTup ds M Q) : cTup ds M Q := by
  unfold fTup at h
  split at h
  · split at h
    · exact ⟨_, _, rfl, by assumption, h⟩
    · exact h.elim
  · exact h.elim
def fAll (any : Bool) : DRn := fun ds M Q => match ds with
  | [d] => (match lstOf M d with
    | some l => (match bools l with
      | some bs => Q (.bl (if any then bs.any id else bs.all id)) M
      | none => False)
    | none => False)
  | _ => False
theorem fAll_d {any : Bool} {ds : List D} {M : Mp} {Q : DK} (h : fAll any ds M Q) : cAll any ds M Q := by
  unfold fAll at h
  split at h
  · split at h
    · split at h
      · exact ⟨_, _, _, rfl, by assumption, by assumption, h⟩
      · exact h.elim
    · exact h.elim
  · exact h.elim
def fDict : DRn := fun ds M Q => match ds with
  | [d] => (match dctOf M d with
    | some l => allS l = true ∧ newD l M Q
    | none => False)
  | _ => False
theorem fDict_d {ds : List D} {M : Mp} {Q : DK} (h : fDict ds M Q) : cDict ds M Q := by
  unfold fDict at h
  split at h
  · split at h
    · exact ⟨_, _, rfl, by assumption, allS_of h.1, h.2⟩
    · exact h.elim
  · exact h.elim
def fGet : D → List D → Mp → DK → Prop := fun x ds M Q => match ds with
  | [y, z] => (match dctOf M x with
    | some kvs => keyOk y kvs = true ∧ Q ((getD kvs y).getD z) M
    | none => False)
  | _ => False
theorem fGet_d {x : D} {ds : List D} {M : Mp} {Q : DK} (h : fGet x ds M Q) : mGet x ds M Q := by
  unfold fGet at h
  unfold mGet
  split at h
  · split at h
    · exact ⟨_, by assumption, keyOk_of h.1, h.2⟩
    · exact h.elim
  · exact h.elim
theorem DMt.weak {X : Cx} {id : String} {r r' : D → List D → Mp → DK → Prop} (h : DMt X id r) (i : ∀ x ds M Q, r' x ds M Q → r x ds M Q) : DMt X id r' := fun pins s σ H x xs v us d ds M Qd Q I rx rxs ax axs hm q up => h pins s σ H x xs v us d ds M Qd Q I rx rxs ax axs hm (i _ _ _ _ q) up
def fDisp (tk : Bool) (p : Addr) (Q : DK) : List (D × D) → Mp → Prop := fun l M => M p = some (.dct []) ∧ l.length ≤ 15 ∧ (if tk = true then l.all (fun kv => tkB kv.1) else allS l) = true ∧ Q (.ref p) (updM M p (.dct (putAll [] l)))
theorem fDisp_d {tk : Bool} {p : Addr} {Q : DK} {l : List (D × D)} {M : Mp} (h : fDisp tk p Q l M) : dispEnd tk p Q l M := by
  refine ⟨h.1, h.2.1, ?_, h.2.2.2⟩
  have z := h.2.2.1
  cases tk with
  | true => simp only [if_true] at z ⊢; exact fun kv hk => tkB_of (List.all_eq_true.mp z kv hk)
  | false => simp only [Bool.false_eq_true, if_false] at z ⊢; exact allS_of z
end Dy
end
section
set_option Elab.async false
set_option linter.all false
set_option maxRecDepth 100000
set_option maxHeartbeats 4000000
/-! The D layer, 4h: list(zip(d.values(), x, y)): the tuples stay with the list. -/
namespace Dy
open PySem PySem.Spec L2
open PyProof.Rows hiding St

section
variable {prog : Program} {w : World} {A : Around} {E : Value → Shared → Prop} {s : Shared} {z TI TO i1 i2 i3 : Addr} {fp1 fp2 fp3 : List Addr} {n1 n2 n3 i : Nat} {P1 P2 P3 : Nat → Value → Prop} {St1 St2 St3 : Nat → Heap → Prop}
theorem z3_held {T : Addr} {f : Bool} {oT : Obj} {Q : Value → Shared → Prop} (S : ZipSep3 z TI TO i1 i2 i3 fp1 fp2 fp3) (D1 : Draws prog w A i1 fp1 n1 P1 St1) (D2 : Draws prog w A i2 fp2 n2 P2 St2) (D3 : Draws prog w A i3 fp3 n3 P3 St3)
    (hz : IsZipHeld s.heap z TI TO T f) (hT : s.heap.get? T = some oT) (hTI : IsTupOf3 s.heap TI (.ref i1) (.ref i2) (.ref i3)) (st1 : St1 i s.heap) (st2 : St2 i s.heap) (st3 : St3 i s.heap) (hlt1 : i < n1) (hlt2 : i < n2) (hlt3 : i < n3)
    (hQ : ∀ x1 x2 x3 h' tk, P1 i x1 → P2 i x2 → P3 i x3 → IsZipHeld h' z TI TO T true → St1 (i + 1) h' → St2 (i + 1) h' → St3 (i + 1) h' → IsTupOf3 h' s.heap.objs.size x1 x2 x3 → h'.objs.size = s.heap.objs.size + 1 →
      (∀ c o, c ≠ z → c ≠ i1 → c ≠ i2 → c ≠ i3 → s.heap.get? c = some o → h'.get? c = some o) → Q (.ref s.heap.objs.size) { s with heap := h', toks := tk }) :
    wpAny (model prog w) A (Builtin.«zip.__next__» ⟨[.ref z], []⟩) (fun fin s' => ∃ v, fin = .done (.ret v) ∧ Q v s') E s := by
  obtain ⟨hp, g, d, tk0, os⟩ := s
  show wpAny _ _ (field (.ref z) 2 >>= _) _ _ _
  refine wpAny_bind (wpAny_field hz rfl (x := .bool false) rfl ?_)
  show wpAny _ _ (field (.ref z) 3 >>= _) _ _ _
  refine wpAny_bind (wpAny_field hz rfl (x := .ref TI) rfl (wpAny_bind (wpAny_seqItems hTI rfl ?_)))
  show wpAny _ _ (Builtin.SmallTypes.ownedTupleIsFree (.ref z) >>= _) _ _ _
  refine wpAny_bind (wpAny_tupleHeld_zip hz hT fun g0 hz0 hs0 => ?_)
  replace hs0 : Heap.SameBut z hp g0 := hs0
  simp only [Bool.false_eq_true, if_false]
  refine wpAny_bind ?_
  rw [← Array.forIn_toList]
  simp only [List.forIn_cons, List.forIn_nil]
  refine wpAny_bind (wpAny_bind (wpAny_holding ?_))
  show wpAny _ _ (Builtin.SmallTypes.nextOf (.ref i1) >>= _) _ _ ⟨g0, g, d, tk0, os⟩
  refine wpAny_bind (D1.item i _ _ _ hlt1 (D1.over st1 hs0 S.zf1) fun x1 p1 tk1 hx1 sn1 hp1 => wpAny_pure (wpAny_pure ?_))
  replace hp1 : Heap.SameBut i1 g0 p1 := hp1
  refine wpAny_bind (wpAny_bind (wpAny_holding ?_))
  show wpAny _ _ (Builtin.SmallTypes.nextOf (.ref i2) >>= _) _ _ ⟨p1, g, d, tk1, os⟩
  refine wpAny_bind (D2.item i _ _ _ hlt2 (D2.over (D2.over st2 hs0 S.zf2) hp1 S.sep1_2) fun x2 p2 tk2 hx2 sn2 hp2 => wpAny_pure (wpAny_pure ?_))
  replace hp2 : Heap.SameBut i2 p1 p2 := hp2
  refine wpAny_bind (wpAny_bind (wpAny_holding ?_))
  show wpAny _ _ (Builtin.SmallTypes.nextOf (.ref i3) >>= _) _ _ ⟨p2, g, d, tk2, os⟩
  refine wpAny_bind (D3.item i _ _ _ hlt3 (D3.over (D3.over (D3.over st3 hs0 S.zf3) hp1 S.sep1_3) hp2 S.sep2_3) fun x3 p3 tk3 hx3 sn3 hp3 => wpAny_pure (wpAny_pure (wpAny_pure ?_)))
  replace hp3 : Heap.SameBut i3 p2 p3 := hp3
  show wpAny _ _ (newTuple [x1, x2, x3] >>= _) _ _ ⟨p3, g, d, tk3, os⟩
  refine wpAny_bind (wpAny_newTuple ?_)
  have hsz : p3.objs.size = hp.objs.size := by rw [hp3.1, hp2.1, hp1.1, hs0.1]
  have hz3 : IsZipHeld p3 z TI TO T true := hp3.extBut _ _ S.zi3 (hp2.extBut _ _ S.zi2 (hp1.extBut _ _ S.zi1 hz0))
  have kk : ∀ c o, c ≠ z → c ≠ i1 → c ≠ i2 → c ≠ i3 → hp.get? c = some o → p3.get? c = some o := fun c o cz c1 c2 c3 e => hp3.extBut _ _ c3 (hp2.extBut _ _ c2 (hp1.extBut _ _ c1 (hs0.extBut _ _ cz e)))
  have j1 : St1 (i + 1) p3 := D1.over (D1.over sn1 hp2 S.sep2_1) hp3 S.sep3_1
  have j2 : St2 (i + 1) p3 := D2.over sn2 hp3 S.sep3_2
  refine wpAny_pure ⟨_, rfl, ?_⟩
  show Q (.ref p3.objs.size) _
  have tu : IsTupOf3 (p3.push { cls := .type "tuple", data := .seq #[x1, x2, x3] }) p3.objs.size x1 x2 x3 := Heap.get?_push_size _ rfl
  have sz : (p3.push { cls := .type "tuple", data := .seq #[x1, x2, x3] }).objs.size = p3.objs.size + 1 := Heap.size_push ..
  rw [hsz] at tu sz ⊢
  have up : ∀ b o, p3.get? b = some o → (p3.push { cls := .type "tuple", data := .seq #[x1, x2, x3] }).get? b = some o := fun b o e => Heap.get?_push_of_some _ e
  exact hQ x1 x2 x3 _ tk3 hx1 hx2 hx3 (up _ _ hz3) (D1.frame _ _ _ j1 fun b _ o e => up b o e) (D2.frame _ _ _ j2 fun b _ o e => up b o e) (D3.frame _ _ _ sn3 fun b _ o e => up b o e) tu sz fun c o cz c1 c2 c3 e => up c o (kk c o cz c1 c2 c3 e)
theorem z3_held_end {T : Addr} {f : Bool} {oT : Obj} {Q : Fin → Shared → Prop} (S : ZipSep3 z TI TO i1 i2 i3 fp1 fp2 fp3) (D1 : Draws prog w A i1 fp1 n1 P1 St1)
    (hz : IsZipHeld s.heap z TI TO T f) (hT : s.heap.get? T = some oT) (hTI : IsTupOf3 s.heap TI (.ref i1) (.ref i2) (.ref i3)) (st1 : St1 n1 s.heap)
    (hE : ∀ h' e, (∀ c o, c ≠ z → c ≠ i1 → s.heap.get? c = some o → h'.get? c = some o) → (∃ o, h'.get? e = some o ∧ o.cls = .type "StopIteration") → E (.ref e) { s with heap := h' }) :
    wpAny (model prog w) A (Builtin.«zip.__next__» ⟨[.ref z], []⟩) Q E s := by
  obtain ⟨hp, g, d, tk0, os⟩ := s
  show wpAny _ _ (field (.ref z) 2 >>= _) _ _ _
  refine wpAny_bind (wpAny_field hz rfl (x := .bool false) rfl ?_)
  show wpAny _ _ (field (.ref z) 3 >>= _) _ _ _
  refine wpAny_bind (wpAny_field hz rfl (x := .ref TI) rfl (wpAny_bind (wpAny_seqItems hTI rfl ?_)))
  show wpAny _ _ (Builtin.SmallTypes.ownedTupleIsFree (.ref z) >>= _) _ _ _
  refine wpAny_bind (wpAny_tupleHeld_zip hz hT fun g0 hz0 hs0 => ?_)
  replace hs0 : Heap.SameBut z hp g0 := hs0
  simp only [Bool.false_eq_true, if_false]
  refine wpAny_bind ?_
  rw [← Array.forIn_toList]
  simp only [List.forIn_cons, List.forIn_nil]
  refine wpAny_bind (wpAny_bind (wpAny_holding ?_))
  show wpAny _ _ (Builtin.SmallTypes.nextOf (.ref i1) >>= _) _ _ ⟨g0, g, d, tk0, os⟩
  refine wpAny_bind (D1.done ⟨g0, g, d, tk0, os⟩ _ _ (D1.over st1 hs0 S.zf1) fun q e hq he => ?_)
  replace hq : Heap.ExtBut i1 g0 q := hq
  exact hE q e (fun c o cz c1 x => hq _ _ c1 (hs0.extBut _ _ cz x)) he
theorem z3_next {T : Addr} {f : Bool} {oT : Obj} {Q : Option Value → Shared → Prop} (S : ZipSep3 z TI TO i1 i2 i3 fp1 fp2 fp3) (D1 : Draws prog w A.in1 i1 fp1 n1 P1 St1) (D2 : Draws prog w A.in1 i2 fp2 n2 P2 St2) (D3 : Draws prog w A.in1 i3 fp3 n3 P3 St3)
    (hz : IsZipHeld s.heap z TI TO T f) (hT : s.heap.get? T = some oT) (hTI : IsTupOf3 s.heap TI (.ref i1) (.ref i2) (.ref i3)) (st1 : St1 i s.heap) (st2 : St2 i s.heap) (st3 : St3 i s.heap) (hlt1 : i < n1) (hlt2 : i < n2) (hlt3 : i < n3)
    (hQ : ∀ x1 x2 x3 h' tk, P1 i x1 → P2 i x2 → P3 i x3 → IsZipHeld h' z TI TO T true → St1 (i + 1) h' → St2 (i + 1) h' → St3 (i + 1) h' → IsTupOf3 h' s.heap.objs.size x1 x2 x3 → h'.objs.size = s.heap.objs.size + 1 →
      (∀ c o, c ≠ z → c ≠ i1 → c ≠ i2 → c ≠ i3 → s.heap.get? c = some o → h'.get? c = some o) → Q (some (.ref s.heap.objs.size)) { s with heap := h', toks := tk }) :
    wpAny (model prog w) A (pyNext (.ref z)) Q E s := by
  have hTy : s.TypeIs (.ref z) "zip" := ⟨_, hz, rfl⟩
  unfold pyNext
  exact wpAny_bind (wpAny_attempt (wpAny_callSpecial?_slot (name := Str.ofString "__next__") hTy F.slot_zip_next (wpAny_call_entry F.slot_zip_next hTy F.entry_zip_next
    (z3_held S D1 D2 D3 hz hT hTI st1 st2 st3 hlt1 hlt2 hlt3 fun x1 x2 x3 h' tk a1 a2 a3 a4 a5 a6 a7 a8 a9 b1 => wpAny_pure (hQ x1 x2 x3 h' tk a1 a2 a3 a4 a5 a6 a7 a8 a9 b1)) (F.args_zip_next_1 _))))
theorem z3_next_end {T : Addr} {f : Bool} {oT : Obj} {Q : Option Value → Shared → Prop} (S : ZipSep3 z TI TO i1 i2 i3 fp1 fp2 fp3) (D1 : Draws prog w A.in1 i1 fp1 n1 P1 St1)
    (hz : IsZipHeld s.heap z TI TO T f) (hT : s.heap.get? T = some oT) (hTI : IsTupOf3 s.heap TI (.ref i1) (.ref i2) (.ref i3)) (st1 : St1 n1 s.heap)
    (hQ : ∀ h', (∀ c o, c ≠ z → c ≠ i1 → s.heap.get? c = some o → h'.get? c = some o) → Q none { s with heap := h' }) : wpAny (model prog w) A (pyNext (.ref z)) Q E s := by
  have hTy : s.TypeIs (.ref z) "zip" := ⟨_, hz, rfl⟩
  unfold pyNext
  refine wpAny_bind (wpAny_attempt (wpAny_callSpecial?_slot (name := Str.ofString "__next__") hTy F.slot_zip_next (wpAny_call_entry F.slot_zip_next hTy F.entry_zip_next
    (z3_held_end S D1 hz hT hTI st1 fun h' e hk he => ?_) (F.args_zip_next_1 _))))
  obtain ⟨o, ho, hc⟩ := he
  exact wpAny_bind (wpAny_isInstance (T := "StopIteration") (b := true) ⟨o, ho, hc⟩ isSubtype_stop (wpAny_pure (hQ _ hk)))
end
end Dy
end
section
set_option Elab.async false
set_option linter.all false
set_option maxRecDepth 100000
set_option maxHeartbeats 4000000
/-! The D layer, 4i: the list of a zip is filled. -/
namespace Dy
open PySem PySem.Spec L2
open PyProof.Rows hiding St

abbrev lstOb (acc : Array Value) (c : Nat) : Obj := { cls := .type "list", dict := none, data := .seq acc c, slots := #[] }
/-- a zip being drawn into the list at L: the tuples at Ts, all made later than N -/
structure Z3 (N L z TI TO i1 i2 i3 : Addr) (P1 P2 P3 : Nat → Value → Prop) (St1 St2 St3 : Nat → Heap → Prop) (Ts : List Addr) (h : Heap) : Prop where
  zip : (Ts = [] ∧ IsZip h z TI TO .none) ∨ ∃ T f, T ∈ Ts ∧ IsZipHeld h z TI TO T f
  ti : IsTupOf3 h TI (.ref i1) (.ref i2) (.ref i3)
  to : ∃ a1 a2 a3, IsTupOf3 h TO a1 a2 a3
  s1 : St1 Ts.length h
  s2 : St2 Ts.length h
  s3 : St3 Ts.length h
  rows : ∀ j T, Ts[j]? = some T → ∃ x1 x2 x3, P1 j x1 ∧ P2 j x2 ∧ P3 j x3 ∧ IsTupOf3 h T x1 x2 x3
  lo : ∀ T ∈ Ts, N ≤ T
  up : Ts.Pairwise (· < ·)
  hi : N ≤ h.objs.size
  lst : ∃ c, h.get? L = some (lstOb (Ts.map Value.ref).toArray c)
/-- what the places are to each other -/
structure Z3P (N L z TI TO i1 i2 i3 : Addr) (fp1 fp2 fp3 : List Addr) : Prop where
  sep : ZipSep3 z TI TO i1 i2 i3 fp1 fp2 fp3
  lz : L ≠ z
  lTI : L ≠ TI
  lTO : L ≠ TO
  l1 : L ∉ fp1
  l2 : L ∉ fp2
  l3 : L ∉ fp3
  nL : L < N
  nz : z < N
  nTO : TO < N
  n1 : i1 < N
  n2 : i2 < N
  n3 : i3 < N
section
variable {prog : Program} {w : World} {A : Around} {N L z TI TO i1 i2 i3 : Addr} {fp1 fp2 fp3 : List Addr} {n : Nat} {P1 P2 P3 : Nat → Value → Prop} {St1 St2 St3 : Nat → Heap → Prop} {R : Result → Shared → Prop}
theorem Z3.got {s : Shared} {Ts : List Addr} (Z : Z3 N L z TI TO i1 i2 i3 P1 P2 P3 St1 St2 St3 Ts s.heap) {T : Addr} (m : T ∈ Ts) : ∃ o, s.heap.get? T = some o := by
  obtain ⟨j, hj⟩ := List.getElem?_of_mem m
  obtain ⟨x1, x2, x3, _, _, _, e⟩ := Z.rows j T hj
  exact ⟨_, e⟩
/-- a turn: a new tuple, the list longer by it -/
theorem z3_turn (W : Z3P N L z TI TO i1 i2 i3 fp1 fp2 fp3) (D1 : Draws prog w A.in1.in1 i1 fp1 n P1 St1) (D2 : Draws prog w A.in1.in1 i2 fp2 n P2 St2) (D3 : Draws prog w A.in1.in1 i3 fp3 n P3 St3) (hn : n ≤ 1000) {res : Value} {s : Shared} {Ts : List Addr} (lt : Ts.length < n) (Z : Z3 N L z TI TO i1 i2 i3 P1 P2 P3 St1 St2 St3 Ts s.heap)
    (hR : ∀ h' tk T, Z3 N L z TI TO i1 i2 i3 P1 P2 P3 St1 St2 St3 (Ts ++ [T]) h' → (∀ b o, b ≠ L → b ≠ z → b ≠ TO → b ≠ i1 → b ≠ i2 → b ≠ i3 → s.heap.get? b = some o → h'.get? b = some o) → codeAny (model prog w) A (.builtin "list.extend.loop" ⟨[.ref L, .ref z, res], []⟩) R { s with heap := h', toks := tk }) :
    codeAny (model prog w) A (.builtin "list.extend.loop" ⟨[.ref L, .ref z, res], []⟩) R s := by
  have hz : 1000 ≤ sizeLine := by decide
  have S := W.sep
  have fin : ∀ x1 x2 x3 h' tk, P1 Ts.length x1 → P2 Ts.length x2 → P3 Ts.length x3 → (∃ T f, T ∈ Ts ++ [s.heap.objs.size] ∧ IsZipHeld h' z TI TO T f) → (∃ a1 a2 a3, IsTupOf3 h' TO a1 a2 a3) → St1 (Ts.length + 1) h' → St2 (Ts.length + 1) h' → St3 (Ts.length + 1) h' → IsTupOf3 h' s.heap.objs.size x1 x2 x3 → h'.objs.size = s.heap.objs.size + 1 →
      (∀ c o, c ≠ z → c ≠ TO → c ≠ i1 → c ≠ i2 → c ≠ i3 → s.heap.get? c = some o → h'.get? c = some o) →
      wpAny (model prog w) A.in1 (updateSeq L (·.push (.ref s.heap.objs.size)) >>= fun _ => again (.builtin "list.extend.loop" ⟨[.ref L, .ref z, res], []⟩)) (fun fin s' => match fin with | .done f => R (.ok f) s' | .again c' => c'.quiet = true ∧ codeAny (model prog w) A c' R s') (fun e s' => R (.error e) s') { s with heap := h', toks := tk } := by
    intro x1 x2 x3 h' tk p1 p2 p3 hzip hto t1 t2 t3 hT hsz kp
    obtain ⟨c, hl0⟩ := Z.lst
    have hL : h'.get? L = some (lstOb (Ts.map Value.ref).toArray c) := kp L _ W.lz W.lTO (fun e => W.l1 (e ▸ S.mem1)) (fun e => W.l2 (e ▸ S.mem2)) (fun e => W.l3 (e ▸ S.mem3)) hl0
    refine wpAny_bind (wpAny_updateSeq hL rfl (wpAny_pure ⟨plainId_quiet F.plain_extend_loop _, ?_⟩) (by simp; omega) (by simp; omega))
    have hs : Heap.SameBut L h' (h'.update L (Obj.mapSeq (·.push (.ref s.heap.objs.size)))) := Heap.SameBut.update ..
    have hLn : N ≤ s.heap.objs.size := Z.hi
    have nTL : s.heap.objs.size ≠ L := Nat.ne_of_gt (Nat.lt_of_lt_of_le W.nL hLn)
    refine hR _ tk s.heap.objs.size ⟨.inr ?_, hs.extBut _ _ W.lTI.symm (kp TI _ S.TIz S.TITO S.TIi1 S.TIi2 S.TIi3 Z.ti), ?_, ?_, ?_, ?_, ?_, ?_, ?_, ?_, ?_⟩ ?_
    · obtain ⟨T, f, m, hz⟩ := hzip
      exact ⟨T, f, m, hs.extBut _ _ W.lz.symm hz⟩
    · obtain ⟨a1, a2, a3, e⟩ := hto
      exact ⟨a1, a2, a3, hs.extBut _ _ W.lTO.symm e⟩
    · rw [List.length_append]; exact D1.over t1 hs W.l1
    · rw [List.length_append]; exact D2.over t2 hs W.l2
    · rw [List.length_append]; exact D3.over t3 hs W.l3
    · intro j T hj
      by_cases q : j < Ts.length
      · rw [List.getElem?_append_left q] at hj
        obtain ⟨y1, y2, y3, q1, q2, q3, e⟩ := Z.rows j T hj
        have lo := Z.lo T (List.mem_of_getElem? hj)
        have ne : ∀ {b : Addr}, b < N → T ≠ b := fun hb e => by subst e; exact absurd (Nat.lt_of_lt_of_le hb lo) (Nat.lt_irrefl _)
        exact ⟨y1, y2, y3, q1, q2, q3, hs.extBut _ _ (ne W.nL) (kp T _ (ne W.nz) (ne W.nTO) (ne W.n1) (ne W.n2) (ne W.n3) e)⟩
      · rw [List.getElem?_append_right (by omega)] at hj
        have e0 : j - Ts.length = 0 := by
          rcases Nat.eq_zero_or_pos (j - Ts.length) with e | e
          · exact e
          · rw [List.getElem?_eq_none (by simp; omega)] at hj; cases hj
        rw [e0] at hj
        cases hj
        have : j = Ts.length := by omega
        subst this
        exact ⟨x1, x2, x3, p1, p2, p3, hs.extBut _ _ nTL hT⟩
    · intro T hT
      rcases List.mem_append.mp hT with m | m
      · exact Z.lo T m
      · rw [List.mem_singleton.mp m]; exact hLn
    · rw [List.pairwise_append]
      refine ⟨Z.up, List.pairwise_singleton _ _, fun a ha b hb => ?_⟩
      rw [List.mem_singleton.mp hb]
      obtain ⟨o, e⟩ := Z.got ha
      exact Heap.lt_size e
    · rw [hs.1, hsz]; exact Nat.le_succ_of_le hLn
    · have ea : ((Ts ++ [s.heap.objs.size]).map Value.ref).toArray = (Ts.map Value.ref).toArray.push (.ref s.heap.objs.size) := by simp
      rw [ea]
      exact ⟨_, Heap.get?_update_self _ hL rfl⟩
    · intro b o bL bz bTO b1 b2 b3 e
      exact hs.extBut _ _ bL (kp b o bz bTO b1 b2 b3 e)
  refine codeAny_builtin F.entry_extend_loop ?_
  rw [Around.under_plainId F.plain_extend_loop _]
  show wpAny _ A.in1 (pyNext (.ref z) >>= _) _ _ s
  rcases Z.zip with ⟨e0, hzip⟩ | ⟨T, f, m, hzip⟩
  · obtain ⟨a1, a2, a3, hTO⟩ := Z.to
    refine wpAny_bind (wpAny_pyNext_zipD3_item S D1 D2 D3 hzip Z.ti hTO Z.s1 Z.s2 Z.s3 lt lt lt fun x1 x2 x3 h' tk q1 q2 q3 b1 b2 t1 t2 t3 b5 b6 b7 => ?_)
    exact fin x1 x2 x3 h' tk q1 q2 q3 ⟨_, false, by simp, b1⟩ ⟨_, _, _, b2⟩ t1 t2 t3 b5 b6 b7
  · obtain ⟨oT, hoT⟩ := Z.got m
    obtain ⟨a1, a2, a3, hTO⟩ := Z.to
    refine wpAny_bind (z3_next S D1 D2 D3 hzip hoT Z.ti Z.s1 Z.s2 Z.s3 lt lt lt fun x1 x2 x3 h' tk q1 q2 q3 b1 t1 t2 t3 b5 b6 b7 => ?_)
    exact fin x1 x2 x3 h' tk q1 q2 q3 ⟨T, true, List.mem_append_left _ m, b1⟩ ⟨a1, a2, a3, b7 _ _ S.TOz S.Ti1 S.Ti2 S.Ti3 hTO⟩ t1 t2 t3 b5 b6 fun b o bz _ b1 b2 b3 e => b7 b o bz b1 b2 b3 e
theorem z3_loop (W : Z3P N L z TI TO i1 i2 i3 fp1 fp2 fp3) (D1 : Draws prog w A.in1.in1 i1 fp1 n P1 St1) (D2 : Draws prog w A.in1.in1 i2 fp2 n P2 St2) (D3 : Draws prog w A.in1.in1 i3 fp3 n P3 St3) (h0 : 0 < n) (hn : n ≤ 1000) {res : Value} : ∀ (k : Nat) {s : Shared} {Ts : List Addr}, Ts.length + k = n → Z3 N L z TI TO i1 i2 i3 P1 P2 P3 St1 St2 St3 Ts s.heap →
    (∀ h' tk (Ts' : List Addr) c', Ts'.length = n → (∀ j T, Ts'[j]? = some T → ∃ x1 x2 x3, P1 j x1 ∧ P2 j x2 ∧ P3 j x3 ∧ IsTupOf3 h' T x1 x2 x3) → (∀ T ∈ Ts', N ≤ T) → Ts'.Pairwise (· < ·) → h'.get? L = some (lstOb (Ts'.map Value.ref).toArray c') → (∀ b o, b ≠ L → b ≠ z → b ≠ TO → b ≠ i1 → b ≠ i2 → b ≠ i3 → s.heap.get? b = some o → h'.get? b = some o) → R (.ok (.ret res)) { s with heap := h', toks := tk }) →
    codeAny (model prog w) A (.builtin "list.extend.loop" ⟨[.ref L, .ref z, res], []⟩) R s
  | 0, s, Ts, hk, Z, hR => by
    have S := W.sep
    obtain ⟨c, hl0⟩ := Z.lst
    refine codeAny_builtin F.entry_extend_loop ?_
    rw [Around.under_plainId F.plain_extend_loop _]
    show wpAny _ A.in1 (pyNext (.ref z) >>= _) _ _ s
    rcases Z.zip with ⟨e0, hzip⟩ | ⟨T, f, m, hzip⟩
    · subst e0
      simp only [List.length_nil] at hk
      omega
    · obtain ⟨oT, hoT⟩ := Z.got m
      have st1 : St1 n s.heap := by have := Z.s1; rw [show Ts.length = n by omega] at this; exact this
      refine wpAny_bind (z3_next_end S D1 hzip hoT Z.ti st1 fun h' kp => wpAny_pure ?_)
      have ne : ∀ {T b : Addr}, T ∈ Ts → b < N → T ≠ b := fun hT hb e => by subst e; exact absurd (Nat.lt_of_lt_of_le hb (Z.lo _ hT)) (Nat.lt_irrefl _)
      refine hR h' s.toks Ts c (by omega) (fun j T hj => ?_) Z.lo Z.up (kp L _ W.lz (fun e => W.l1 (e ▸ S.mem1)) hl0) fun b o _ bz _ b1 _ _ e => kp b o bz b1 e
      obtain ⟨y1, y2, y3, q1, q2, q3, e⟩ := Z.rows j T hj
      have mT := List.mem_of_getElem? hj
      exact ⟨y1, y2, y3, q1, q2, q3, kp T _ (ne mT W.nz) (ne mT W.n1) e⟩
  | k + 1, s, Ts, hk, Z, hR => z3_turn W D1 D2 D3 hn (by omega) Z fun h' tk T Z' kp =>
    z3_loop W D1 D2 D3 h0 hn k (s := { s with heap := h', toks := tk }) (by simp; omega) Z' fun h2 tk2 Ts' c2 a1 a2 a3 a4 a5 a6 => hR h2 tk2 Ts' c2 a1 a2 a3 a4 a5 fun b o b1 b2 b3 b4 b5 b6 e => a6 b o b1 b2 b3 b4 b5 b6 (kp b o b1 b2 b3 b4 b5 b6 e)
end
end Dy
end
section
set_option Elab.async false
set_option linter.all false
set_option maxRecDepth 100000
set_option maxHeartbeats 4000000
/-! The D layer, 4j: list(zip(..)) is called. -/
namespace Dy
open PySem PySem.Spec L2
open PyProof.Rows hiding St

theorem zip_len0 : typeLookup (.type "zip") "__len__" = pure none := by rw [typeLookup_type, builtinLookup_eq_fast]; kernel_rfl
theorem zip_hint0 : typeLookup (.type "zip") "__length_hint__" = pure none := by rw [typeLookup_type, builtinLookup_eq_fast]; kernel_rfl
section
variable {prog : Program} {w : World} {A : Around} {N L z TI TO i1 i2 i3 : Addr} {fp1 fp2 fp3 : List Addr} {n : Nat} {P1 P2 P3 : Nat → Value → Prop} {St1 St2 St3 : Nat → Heap → Prop} {R : Result → Shared → Prop}
theorem Z3.moveL {A1 : Around} {Ts : List Addr} {h h' : Heap} (W : Z3P N L z TI TO i1 i2 i3 fp1 fp2 fp3) (D1 : Draws prog w A1 i1 fp1 n P1 St1) (D2 : Draws prog w A1 i2 fp2 n P2 St2) (D3 : Draws prog w A1 i3 fp3 n P3 St3) (Z : Z3 N L z TI TO i1 i2 i3 P1 P2 P3 St1 St2 St3 Ts h)
    (hs : ∀ b o, b ≠ L → h.get? b = some o → h'.get? b = some o) (hi : N ≤ h'.objs.size) (hl : ∃ c, h'.get? L = some (lstOb (Ts.map Value.ref).toArray c)) : Z3 N L z TI TO i1 i2 i3 P1 P2 P3 St1 St2 St3 Ts h' where
  zip := Z.zip.imp (fun ⟨a, b⟩ => ⟨a, hs _ _ W.lz.symm b⟩) fun ⟨T, f, m, b⟩ => ⟨T, f, m, hs _ _ W.lz.symm b⟩
  ti := hs _ _ W.lTI.symm Z.ti
  to := let ⟨a1, a2, a3, e⟩ := Z.to; ⟨a1, a2, a3, hs _ _ W.lTO.symm e⟩
  s1 := D1.frame _ _ _ Z.s1 fun b hb o e => hs b o (fun q => W.l1 (q ▸ hb)) e
  s2 := D2.frame _ _ _ Z.s2 fun b hb o e => hs b o (fun q => W.l2 (q ▸ hb)) e
  s3 := D3.frame _ _ _ Z.s3 fun b hb o e => hs b o (fun q => W.l3 (q ▸ hb)) e
  rows := fun j T hj => by
    obtain ⟨x1, x2, x3, q1, q2, q3, e⟩ := Z.rows j T hj
    have ne : T ≠ L := fun q => absurd (Nat.lt_of_lt_of_le W.nL (q ▸ Z.lo T (List.mem_of_getElem? hj))) (Nat.lt_irrefl _)
    exact ⟨x1, x2, x3, q1, q2, q3, hs _ _ ne e⟩
  lo := Z.lo
  up := Z.up
  hi := hi
  lst := hl
/-- what the end of it tells -/
def Z3E (prog : Program) (w : World) (N L z TO i1 i2 i3 : Addr) (n : Nat) (P1 P2 P3 : Nat → Value → Prop) (s : Shared) (K : Shared → Prop) : Prop :=
  ∀ h' tk (Ts : List Addr) c, Ts.length = n → (∀ j T, Ts[j]? = some T → ∃ x1 x2 x3, P1 j x1 ∧ P2 j x2 ∧ P3 j x3 ∧ IsTupOf3 h' T x1 x2 x3) → (∀ T ∈ Ts, N ≤ T) → Ts.Pairwise (· < ·) → h'.get? L = some (lstOb (Ts.map Value.ref).toArray c) →
    (∀ b o, b ≠ L → b ≠ z → b ≠ TO → b ≠ i1 → b ≠ i2 → b ≠ i3 → s.heap.get? b = some o → h'.get? b = some o) → K { s with heap := h', toks := tk }
theorem z3_extend (W : Z3P N L z TI TO i1 i2 i3 fp1 fp2 fp3) (D1 : Draws prog w A.in1.in1 i1 fp1 n P1 St1) (D2 : Draws prog w A.in1.in1 i2 fp2 n P2 St2) (D3 : Draws prog w A.in1.in1 i3 fp3 n P3 St3) (h0 : 0 < n) (hn : n ≤ 1000) {res : Value} {s : Shared} (Z : Z3 N L z TI TO i1 i2 i3 P1 P2 P3 St1 St2 St3 [] s.heap)
    (hR : Z3E prog w N L z TO i1 i2 i3 n P1 P2 P3 s fun s' => R (.ok (.ret res)) s') :
    wpAny (model prog w) A.in1 (Builtin.List.listExtendWith (.ref L) (.ref z) res)
      (fun fin s' => match fin with | .done f => R (.ok f) s' | .again c' => c'.quiet = true ∧ codeAny (model prog w) A c' R s') (fun e s' => R (.error e) s') s := by
  have hzip : IsZip s.heap z TI TO .none := by
    rcases Z.zip with h | ⟨T, f, m, _⟩
    · exact h.2
    · cases m
  have hT : s.TypeIs (.ref z) "zip" := ⟨_, hzip, rfl⟩
  unfold Builtin.List.listExtendWith
  refine wpAny_bind (wpAny_typeOf hT ?_)
  have e1 : Builtin.List.listSameRef (.ref L) (.ref z) = false := by simp [Builtin.List.listSameRef, W.lz]
  have e2 : (Value.type "zip" == Value.type "list") = false := by decide
  have e3 : (Value.type "zip" == Value.type "tuple") = false := by decide
  simp only [e1, e2, e3, Bool.or_false, Bool.false_eq_true, if_false]
  refine wpAny_bind (wpAny_pyIter_zip hzip (wpAny_bind (wpAny_holding ?_)))
  unfold Builtin.List.listLengthHint
  refine wpAny_bind (wpAny_specialOf hT zip_len0 ?_)
  show wpAny _ A.in1 (specialOf (Value.ref z) (Str.ofString "__length_hint__") >>= _) _ _ _
  refine wpAny_bind (wpAny_specialOf hT zip_hint0 (wpAny_pure ?_))
  show wpAny _ A.in1 (rule "list.extend.makes-room" >>= fun _ => Builtin.List.listTouch (.ref L) >>= fun _ => again (.builtin "list.extend.loop" ⟨[.ref L, .ref z, res], []⟩)) _ _ _
  refine wpAny_bind (wpAny_rule (wpAny_bind ?_))
  obtain ⟨c0, hL⟩ := Z.lst
  show wpAny _ A.in1 (updateSeq L (·.push .none) >>= fun _ => updateSeq L (·.pop)) _ _ _
  refine wpAny_bind (wpAny_updateSeq hL rfl ?_)
  have hL2 := Heap.get?_update_self (Obj.mapSeq (·.push Value.none)) hL rfl
  refine wpAny_updateSeq (hz := by seq_fits) hL2 rfl ?_
  have hL3 := Heap.get?_update_self (Obj.mapSeq (·.pop)) hL2 rfl
  have oth : ∀ b o, b ≠ L → s.heap.get? b = some o → ((s.heap.update L (Obj.mapSeq (·.push Value.none))).update L (Obj.mapSeq (·.pop))).get? b = some o :=
    fun b o hb e => (Heap.get?_update_other _ _ (Ne.symm hb)).trans ((Heap.get?_update_other _ _ (Ne.symm hb)).trans e)
  have hsz : ((s.heap.update L (Obj.mapSeq (·.push Value.none))).update L (Obj.mapSeq (·.pop))).objs.size = s.heap.objs.size := by
    rw [(Heap.SameBut.update ..).1, (Heap.SameBut.update ..).1]
  refine wpAny_pure ⟨plainId_quiet F.plain_extend_loop _, ?_⟩
  refine z3_loop W D1 D2 D3 h0 hn n (Ts := []) (by simp) (Z.moveL W D1 D2 D3 oth (by rw [hsz]; exact Z.hi) ⟨_, hL3⟩) fun h' tk Ts' c' a1 a2 a3 a4 a5 a6 => ?_
  exact hR h' tk Ts' c' a1 a2 a3 a4 a5 fun b o b1 b2 b3 b4 b5 b6 e => a6 b o b1 b2 b3 b4 b5 b6 (oth b o b1 e)
theorem z3_init (W : Z3P N L z TI TO i1 i2 i3 fp1 fp2 fp3) (D1 : Draws prog w A.in1.in1 i1 fp1 n P1 St1) (D2 : Draws prog w A.in1.in1 i2 fp2 n P2 St2) (D3 : Draws prog w A.in1.in1 i3 fp3 n P3 St3) (h0 : 0 < n) (hn : n ≤ 1000) {s : Shared} (Z : Z3 N L z TI TO i1 i2 i3 P1 P2 P3 St1 St2 St3 [] s.heap)
    (hR : Z3E prog w N L z TO i1 i2 i3 n P1 P2 P3 s fun s' => R (.ok (.ret .none)) s') :
    wpAny (model prog w) A.in1 (Builtin.«list.__init__» ⟨[.ref L, .ref z], []⟩)
      (fun fin s' => match fin with | .done f => R (.ok f) s' | .again c' => c'.quiet = true ∧ codeAny (model prog w) A c' R s') (fun e s' => R (.error e) s') s := by
  obtain ⟨c0, hL⟩ := Z.lst
  show wpAny _ _ (do let old ← Builtin.List.listItems (.ref L); Builtin.List.listUpdate (.ref L) (fun _ => #[]); letGo old.toList.reverse; Builtin.List.listExtendWith (.ref L) (.ref z) .none) _ _ s
  refine wpAny_bind ?_
  unfold Builtin.List.listItems
  refine wpAny_bind (wpAny_seqItems hL rfl (wpAny_pure ?_))
  show wpAny _ _ (updateSeq L (fun _ => #[]) >>= fun _ => letGo (#[] : Array Value).toList.reverse >>= fun _ => Builtin.List.listExtendWith (.ref L) (.ref z) .none) _ _ s
  refine wpAny_bind (wpAny_updateSeq hL rfl ?_)
  have hL2 := Heap.get?_update_self (Obj.mapSeq (fun _ => (#[] : Array Value))) hL rfl
  have oth : ∀ b o, b ≠ L → s.heap.get? b = some o → (s.heap.update L (Obj.mapSeq (fun _ => (#[] : Array Value)))).get? b = some o :=
    fun b o hb e => (Heap.get?_update_other _ _ (Ne.symm hb)).trans e
  refine wpAny_bind (wpAny_letGo ?_)
  refine z3_extend W D1 D2 D3 h0 hn (Z.moveL W D1 D2 D3 oth (by rw [(Heap.SameBut.update ..).1]; exact Z.hi) ⟨_, hL2⟩) fun h' tk Ts' c' a1 a2 a3 a4 a5 a6 => ?_
  exact hR h' tk Ts' c' a1 a2 a3 a4 a5 fun b o b1 b2 b3 b4 b5 b6 e => a6 b o b1 b2 b3 b4 b5 b6 (oth b o b1 e)
theorem z3_call {E : Value → Shared → Prop} {Q : Value → Shared → Prop} {s : Shared} (S : ZipSep3 z TI TO i1 i2 i3 fp1 fp2 fp3) (hh : A.handled = none) (D1 : ∀ A' : Around, A'.handled = none → Draws prog w A' i1 fp1 n P1 St1) (D2 : ∀ A' : Around, A'.handled = none → Draws prog w A' i2 fp2 n P2 St2) (D3 : ∀ A' : Around, A'.handled = none → Draws prog w A' i3 fp3 n P3 St3) (h0 : 0 < n) (hn : n ≤ 1000)
    (hz : IsZip s.heap z TI TO .none) (hTI : IsTupOf3 s.heap TI (.ref i1) (.ref i2) (.ref i3)) {a1 a2 a3 : Value} (hTO : IsTupOf3 s.heap TO a1 a2 a3) (st1 : St1 0 s.heap) (st2 : St2 0 s.heap) (st3 : St3 0 s.heap)
    (lt1 : ∀ b ∈ fp1, b < s.heap.objs.size) (lt2 : ∀ b ∈ fp2, b < s.heap.objs.size) (lt3 : ∀ b ∈ fp3, b < s.heap.objs.size)
    (hQ : ∀ h' tk (Ts : List Addr) c, Ts.length = n → (∀ j T, Ts[j]? = some T → ∃ x1 x2 x3, P1 j x1 ∧ P2 j x2 ∧ P3 j x3 ∧ IsTupOf3 h' T x1 x2 x3) → (∀ T ∈ Ts, s.heap.objs.size < T) → Ts.Pairwise (· < ·) → h'.get? s.heap.objs.size = some (lstOb (Ts.map Value.ref).toArray c) →
      (∀ b o, b ≠ z → b ≠ TO → b ≠ i1 → b ≠ i2 → b ≠ i3 → s.heap.get? b = some o → h'.get? b = some o) → Q (.ref s.heap.objs.size) { s with heap := h', toks := tk }) :
    wpAny (model prog w) A (call (.type "list") [.ref z]) Q E s := by
  refine callType_codes (Q₁ := fun obj s₁ => obj = .ref s.heap.objs.size ∧ s₁ = { s with heap := s.heap.push { cls := .type "list", data := .seq #[] } }) PySem.F.called_list (PySem.F.typeCall_list_1 _) PySem.F.entry_list_init
    (code_list_new _ ⟨rfl, rfl⟩) fun obj s₁ h₁ => ?_
  obtain ⟨rfl, rfl⟩ := h₁
  have hL : (s.heap.push { cls := .type "list", data := .seq #[] }).get? s.heap.objs.size = some { cls := .type "list", data := .seq #[] } := Heap.get?_push_size _ rfl
  have up : ∀ b o, s.heap.get? b = some o → (s.heap.push { cls := .type "list", data := .seq #[] }).get? b = some o := fun b o e => Heap.get?_push_of_some _ e
  have ne : ∀ {b o}, s.heap.get? b = some o → s.heap.objs.size ≠ b := fun e => Nat.ne_of_gt (Heap.lt_size e)
  have g1 := D1 A.in1.in1.in1.in1 hh
  have g2 := D2 A.in1.in1.in1.in1 hh
  have g3 := D3 A.in1.in1.in1.in1 hh
  have lt : ∀ {b : Addr}, b < s.heap.objs.size → b < s.heap.objs.size + 1 := fun h => Nat.lt_succ_of_lt h
  have W : Z3P (s.heap.objs.size + 1) s.heap.objs.size z TI TO i1 i2 i3 fp1 fp2 fp3 :=
    { sep := S, lz := ne hz, lTI := ne hTI, lTO := ne hTO, l1 := fun m => Nat.lt_irrefl _ (lt1 _ m), l2 := fun m => Nat.lt_irrefl _ (lt2 _ m), l3 := fun m => Nat.lt_irrefl _ (lt3 _ m), nL := Nat.lt_succ_self _,
      nz := lt (Heap.lt_size hz), nTO := lt (Heap.lt_size hTO), n1 := lt (lt1 _ S.mem1), n2 := lt (lt2 _ S.mem2), n3 := lt (lt3 _ S.mem3) }
  have Z : Z3 (s.heap.objs.size + 1) s.heap.objs.size z TI TO i1 i2 i3 P1 P2 P3 St1 St2 St3 [] (s.heap.push { cls := .type "list", data := .seq #[] }) :=
    { zip := .inl ⟨rfl, up _ _ hz⟩, ti := up _ _ hTI, to := ⟨_, _, _, up _ _ hTO⟩, s1 := g1.frame _ _ _ st1 fun b _ o e => up b o e, s2 := g2.frame _ _ _ st2 fun b _ o e => up b o e, s3 := g3.frame _ _ _ st3 fun b _ o e => up b o e,
      rows := fun j T hj => by simp at hj, lo := fun T m => (nomatch m), up := List.Pairwise.nil, hi := by rw [Heap.size_push]; exact Nat.le_refl _, lst := ⟨_, hL⟩ }
  refine ⟨⟨_, hL, rfl⟩, PySem.F.args_list_init_2 _ _, z3_init (A := A.in1) W (D1 _ hh) (D2 _ hh) (D3 _ hh) h0 hn Z fun h' tk Ts c b1 b2 b3 b4 b5 b6 => ?_⟩
  exact ⟨rfl, hQ h' tk Ts c b1 b2 (fun T hT => b3 T hT) b4 b5 fun b o q1 q2 q3 q4 q5 e => b6 b o (Nat.ne_of_lt (Heap.lt_size e)) q1 q2 q3 q4 q5 (up b o e)⟩
end
/-! ### many new things are laid at once -/
def updAll (H : Hp) : List (Addr × HO) → Hp
  | [] => H
  | p :: r => updAll (upd H p.1 p.2) r
theorem lay_all {X : Cx} {pins : List (Addr × Obj)} {σ : L2.St} {h' : Heap} {t' : Nat} : ∀ {news : List (Addr × HO)} {H : Hp} {s : Shared}, Inv X pins σ H s → (∀ b u, s.heap.get? b = some u → h'.get? b = some u) → (news.map (·.1)).Nodup →
    (∀ p ∈ news, s.heap.get? p.1 = none ∧ H p.1 = none ∧ ∀ (H2 : Hp) (h2 : Heap), h2.get? p.1 = h'.get? p.1 → ObjOk X.prog X.w H2 h2 p.1 p.2) → Inv X pins σ (updAll H news) { s with heap := h', toks := t' }
  | [], H, s, I, k, nd, ok => I.kept k
  | (a, o) :: r, H, s, I, k, nd, ok => by
    obtain ⟨G, g1, g2⟩ := restrict h' fun b => (s.heap.get? b).isSome || decide (b = a)
    have nd' := List.nodup_cons.mp nd
    obtain ⟨n1, n2, n3⟩ := ok _ List.mem_cons_self
    have ga : G.get? a = h'.get? a := g1 a (by simp)
    have I1 : Inv X pins σ (upd H a o) { s with heap := G, toks := s.toks } := I.laidN (fun b u e => by rw [g1 b (by simp [e])]; exact k b u e) n1 n2 (n3 _ _ ga)
    have e : ({ s with heap := h', toks := t' } : Shared) = { ({ s with heap := G, toks := s.toks } : Shared) with heap := h', toks := t' } := rfl
    rw [e]
    refine lay_all (news := r) I1 (fun b u e => ?_) nd'.2 fun p hp => ?_
    · by_cases q : ((s.heap.get? b).isSome || decide (b = a)) = true
      · rw [← g1 b q]; exact e
      · have := g2 b (by simpa using q)
        rw [show ({ s with heap := G, toks := s.toks } : Shared).heap = G from rfl, this] at e
        cases e
    · obtain ⟨m1, m2, m3⟩ := ok p (List.mem_cons_of_mem _ hp)
      have ne : p.1 ≠ a := fun z => nd'.1 (List.mem_map.mpr ⟨p, hp, z⟩)
      exact ⟨g2 p.1 (by rw [m1]; simp [ne]), by rw [upd_ne ne]; exact m2, m3⟩
theorem updAll_ext {news : List (Addr × HO)} : ∀ {H : Hp}, (news.map (·.1)).Nodup → (∀ p ∈ news, H p.1 = none) → Ext H (updAll H news) := by
  induction news with
  | nil => exact fun _ _ => Ext.refl _
  | cons p r ih =>
    intro H nd n
    have nd' := List.nodup_cons.mp nd
    refine (Ext.new (n p List.mem_cons_self)).trans (ih nd'.2 fun q hq => ?_)
    rw [upd_ne (fun z => nd'.1 (List.mem_map.mpr ⟨q, hq, z⟩))]
    exact n q (List.mem_cons_of_mem _ hq)
theorem updAll_ne {news : List (Addr × HO)} {a : Addr} : ∀ {H : Hp}, a ∉ news.map (·.1) → updAll H news a = H a := by
  induction news with
  | nil => exact fun _ => rfl
  | cons p r ih =>
    intro H n
    simp only [List.map_cons, List.mem_cons, not_or] at n
    show updAll (upd H p.1 p.2) r a = _
    rw [ih n.2, upd_ne n.1]
theorem updAll_at {news : List (Addr × HO)} {a : Addr} {o : HO} : ∀ {H : Hp}, (news.map (·.1)).Nodup → (a, o) ∈ news → updAll H news a = some o := by
  induction news with
  | nil => exact fun _ h => nomatch h
  | cons p r ih =>
    intro H nd h
    have nd' := List.nodup_cons.mp nd
    show updAll (upd H p.1 p.2) r a = _
    rcases List.mem_cons.mp h with e | h
    · subst e
      rw [updAll_ne nd'.1, upd_same]
    · exact ih nd'.2 h
end Dy
end
section
set_option Elab.async false
set_option linter.all false
set_option maxRecDepth 100000
set_option maxHeartbeats 2000000
/-! The D layer, 5: the small language, its wp. -/
namespace Dy
open PySem PySem.Spec L2
open PyProof.Rows hiding St

/-- an exception as it flies: its class by name, its fields -/
structure DX where
  C : Str
  fs : List (Str × D)
abbrev XQ := DX → Mp → Prop
/-- a def's contract -/
abbrev DSp := List D → Mp → DK → XQ → Prop

inductive Bif where
  | len | list | tuple | int | all | any | min | dict | sorted | isi
  deriving DecidableEq
/-- methods of built-in types -/
inductive Mth where
  | append | clear | get
  deriving DecidableEq
mutual
inductive E where
  | var (i : Nat)
  | lit (d : D)
  | glob (x : Str) (d : D)
  | bin (op : Operator) (a b : E)
  | cmp (op : CmpOp) (a b : E)
  | chain (o1 o2 : CmpOp) (a b c : E)
  | nott (a : E)
  | andd (l : Es)
  | orr (l : Es)
  | ife (c a b : E)
  | tup (l : Es)
  | lst (frz : Bool) (l : Es)
  | idx (a b : E)
  | slc (a : E) (lo hi : Es)
  | bif (b : Bif) (l : Es)
  | call (f : Str) (c : DSp) (l : Es)
  | fz (a : E)
  | lc (frz : Bool) (own : List (Str × Nat)) (elt : E) (tg : Tg) (it : It) (ifs : Es)
  | dnew
  | bty (x : Str) (T : String)
  | meth (m : Mth) (o : E) (l : Es)
  | attr (C : Str) (o : E) (f : Str)
  | mk (C : Str) (c : DSp) (l : Es)
  | ddisp (tk : Bool) (l : Es)
  | dc (frz : Bool) (own : List (Str × Nat)) (key val : E) (tg : Tg) (it : It) (ifs : Es)
  | fzk (key : D) (a : E)
  | zip3 (a : E) (i j : Nat)
inductive Es where
  | nil
  | cons (e : E) (l : Es)
  | star (e : E) (l : Es)
inductive Tg where
  | name (i : Nat)
  | tup (l : Tgs)
inductive Tgs where
  | nil
  | cons (t : Tg) (l : Tgs)
inductive It where
  | seq (e : E)
  | rng (l : Es)
  | vals (e : E)
  | items (e : E)
  | enum (e : E)
end
inductive Lhs where
  | tg (t : Tg)
  | sub (o i : E)
  | fld (C : Str) (o : E) (f : Str)
mutual
inductive S where
  | asg (g : Lhs) (e : E)
  | par2 (i j : Nat) (a b : E)
  | par3 (i j k : Nat) (a b c : E)
  | aug (i : Nat) (op : Operator) (e : E)
  | ret (e : E)
  | retN
  | iff (c : E) (a b : B)
  | whl (c : E) (b : B)
  | forr (g : Tg) (it : It) (b : B)
  | expr (e : E)
  | pass
  | never
inductive B where
  | nil
  | cons (s : S) (b : B)
  | frz (i : Nat) (b : B)
  | frzk (i : Nat) (key : D) (b : B)
end

/-! ### wp -/
def dVar (i : Nat) : DTE := fun σ M Q => match σ[i]? with
  | some (some d) => Q d M
  | _ => False
def dB (t : DTE) : DTT := fun σ M Q => t σ M fun d M1 => match d with
  | .bl b => Q b M1
  | _ => False
/-- a list that has come is frozen -/
def fzK (Q : DK) : DK := fun d M => match d with
  | .ref p => match M p with
    | some (.lst l) => Q (.lst l) (delM M p)
    | some (.dct l) => Q (.dct l) (delM M p)
    | _ => False
  | d => Q d M
def mkL (frz : Bool) (l : List D) (M : Mp) (Q : DK) : Prop := match frz with
  | true => Q (.lst l) M
  | false => newL l M Q
def dBif (b : Bif) : DRn := match b with
  | .len => fLen
  | .list => cList
  | .sorted => cSorted
  | .isi => cIsi
  | .tuple => fTup
  | .int => cInt
  | .all => fAll false
  | .any => fAll true
  | .min => cMin
  | .dict => fDict
def Mth.T : Mth → String
  | .append => "list"
  | .clear => "list"
  | .get => "dict"
def dMth : Mth → D → List D → Mp → DK → Prop
  | .append => mAppend
  | .clear => mClear
  | .get => fGet
def dAttr (C f : Str) (d : D) (M : Mp) (Q : DK) : Prop := match d with
  | .ref p => match M p with
    | some (.ins C' fs) => C' = C ∧ (match fs.lookup f with
      | some v => Q v M
      | none => False)
    | _ => False
  | _ => False
def putFD (f : Str) (v : D) : List (Str × D) → List (Str × D)
  | [] => [(f, v)]
  | (g, x) :: r => if g = f then (g, v) :: r else (g, x) :: putFD f v r
def dFld (C f : Str) (d v : D) (M : Mp) (Q : Mp → Prop) : Prop := match d with
  | .ref p => match M p with
    | some (.ins C' fs) => C' = C ∧ fs.length < 1000 ∧ Q (updM M p (.ins C (putFD f v fs)))
    | _ => False
  | _ => False
/-- a value in place of a reference -/
def subR (q : Addr) (d' : D) : D → D
  | .ref a => if a = q then d' else .ref a
  | d => d
/-- what stands behind a key is frozen -/
def fzKey (key : D) (Q : DK) : DK := fun d M => match d with
  | .ref p => match M p with
    | some (.dct l) => match getD l key with
      | some (.ref q) => match M q with
        | some (.dct u) => p ≠ q ∧ Q (.ref p) (updM (delM M q) p (.dct (l.map fun kv => (kv.1, subR q (.dct u) kv.2))))
        | some (.lst u) => p ≠ q ∧ Q (.ref p) (updM (delM M q) p (.dct (l.map fun kv => (kv.1, subR q (.lst u) kv.2))))
        | _ => False
      | _ => False
    | _ => False
  | _ => False
mutual
/-- the slots behind a target; none: it can't be -/
def tgSet : Tg → D → Sd → Option Sd
  | .name i, d, σ => some (σ.set i (some d))
  | .tup l, .tup ds, σ => tgSets l ds σ
  | .tup l, .lst ds, σ => tgSets l ds σ
  | .tup _, _, _ => none
def tgSets : Tgs → List D → Sd → Option Sd
  | .nil, [], σ => some σ
  | .cons t l, d :: ds, σ => (tgSet t d σ).bind fun σ1 => tgSets l ds σ1
  | _, _, _ => none
end
def wTg (t : Tg) (d : D) (σ : Sd) (M : Mp) (Q : Sd → Mp → Prop) : Prop := match tgSet t d σ with
  | some σ1 => Q σ1 M
  | none => False
def Tgs.len : Tgs → Nat
  | .nil => 0
  | .cons _ l => l.len + 1
mutual
def Tg.idx : Tg → List Nat
  | .name i => [i]
  | .tup l => l.idx
def Tgs.idx : Tgs → List Nat
  | .nil => []
  | .cons t l => t.idx ++ l.idx
end
/-- what a loop walks: items known beforehand, and whether they still stand -/
inductive Src where
  | val (l : List D)
  | ref (p : Addr) (l : List D)
def Src.items : Src → List D
  | .val l => l
  | .ref _ l => l
def Src.ok (M : Mp) : Src → Prop
  | .val _ => True
  | .ref p l => M p = some (.lst l)
def signs (x : Str) : List D := x.cps.toList.map fun c => .str ⟨#[c]⟩
def srcOf (M : Mp) : D → Option Src
  | .tup l => some (.val l)
  | .lst l => some (.val l)
  | .dct l => some (.val (l.map (·.1)))
  | .str x => some (.val (signs x))
  | .ref p => match M p with
    | some (.lst l) => some (.ref p l)
    | _ => none
  | _ => none
def rngD (lo : Int) (n : Nat) : List D := (List.range n).map fun i => .int (lo + (i : Nat))
def wipeD (σ : Sd) : List Nat → Sd
  | [] => σ
  | v :: vs => (wipeD σ vs).set v none
/-- the items of a comprehension, one after another; the list stands at D -/
def lcRun (src : Src) (D : Addr) (one : Dy.D → Mp → (Option Dy.D → Mp → Prop) → Prop) (Q : List Dy.D → Mp → Prop) : List Dy.D → List Dy.D → Mp → Prop
  | [], acc, M => src.ok M ∧ M D = some (.lst acc) ∧ Q acc M
  | d :: ds, acc, M => src.ok M ∧ one d M fun r M1 => match r with
    | some e => M1 D = some (.lst acc) ∧ acc.length < sizeLine ∧ lcRun src D one Q ds (acc ++ [e]) (updM M1 D (.lst (acc ++ [e])))
    | none => M1 D = some (.lst acc) ∧ lcRun src D one Q ds acc M1
def lcEnd (frz : Bool) (D : Addr) (Q : DK) (acc : List Dy.D) (M : Mp) : Prop := match frz with
  | true => Q (.lst acc) (delM M D)
  | false => Q (.ref D) M
/-- .. of a dict -/
def dcRun (src : Src) (D : Addr) (one : Dy.D → Mp → (Option (Dy.D × Dy.D) → Mp → Prop) → Prop) (Q : Mp → Prop) : List Dy.D → Mp → Prop
  | [], M => src.ok M ∧ Q M
  | d :: ds, M => src.ok M ∧ one d M fun r M1 => match r with
    | some kv => fDSet (.ref D) kv.1 kv.2 M1 fun M2 => dcRun src D one Q ds M2
    | none => dcRun src D one Q ds M1
def dcEnd (frz : Bool) (D : Addr) (Q : DK) (M : Mp) : Prop := match frz with
  | true => fzK Q (.ref D) M
  | false => Q (.ref D) M
def enumOf (ks : List D) : List D := ks.zipIdx.map fun p => .tup [.int (p.2 : Nat), p.1]
def pairsD (l : List (D × D)) : List D := l.map fun kv => .tup [kv.1, kv.2]
/-- the rows of list(zip(d.values(), x, y)) -/
def zipRows : List (D × D) → List D → List D → List D
  | kv :: r, x :: xs, y :: ys => .tup [kv.2, x, y] :: zipRows r xs ys
  | _, _, _ => []
def dZipK (x y z : D) (M : Mp) (Q : DK) : Prop := match x, y, z with
  | .dct l, .tup u, .tup v => (allS l && !l.isEmpty) = true ∧ l.length = u.length ∧ l.length = v.length ∧ l.length ≤ 1000 ∧ newL (zipRows l u v) M Q
  | _, _, _ => False
mutual
def wE (Ex : XQ) : E → DTE
  | .var i => dVar i
  | .lit d => fun _ M Q => Q d M
  | .glob _ d => fun _ M Q => Q d M
  | .bin op a b => fun σ M Q => wE Ex a σ M fun x M1 => wE Ex b σ M1 fun y M2 => dBin op x y M2 Q
  | .cmp op a b => fun σ M Q => wE Ex a σ M fun x M1 => wE Ex b σ M1 fun y M2 => fCmp op x y M2 Q
  | .chain o1 o2 a b c => fun σ M Q => wE Ex a σ M fun x M1 => wE Ex b σ M1 fun y M2 => fCmp o1 x y M2 fun r M3 => match r with
    | .bl k => if k = true then wE Ex c σ M3 fun z M4 => fCmp o2 y z M4 Q else Q (.bl false) M3
    | _ => False
  | .nott a => fun σ M Q => wE Ex a σ M fun d M1 => match d with
    | .bl b => Q (.bl (!b)) M1
    | _ => False
  | .andd l => wAnd Ex l
  | .orr l => wOr Ex l
  | .ife c a b => fun σ M Q => wT Ex c σ M fun k M1 => if k = true then wE Ex a σ M1 Q else wE Ex b σ M1 Q
  | .tup l => fun σ M Q => wEs Ex l σ M fun ds M1 => ds.length ≤ sizeLine ∧ Q (.tup ds) M1
  | .lst f l => fun σ M Q => wEs Ex l σ M fun ds M1 => ds.length ≤ sizeLine ∧ mkL f ds M1 Q
  | .idx a b => fun σ M Q => wE Ex a σ M fun x M1 => wE Ex b σ M1 fun y M2 => fIx x y M2 Q
  | .slc a lo hi => fun σ M Q => wE Ex a σ M fun x M1 => wPart Ex lo σ M1 fun l M2 => wPart Ex hi σ M2 fun h M3 => dSl x l h M3 Q
  | .bif b l => fun σ M Q => wEs Ex l σ M fun ds M1 => dBif b ds M1 Q
  | .call _ c l => fun σ M Q => wEs Ex l σ M fun ds M1 => c ds M1 Q Ex
  | .fz a => fun σ M Q => wE Ex a σ M (fzK Q)
  | .lc f own elt tg it ifs => fun σ M Q => wIt Ex it σ M fun src M1 =>
      ∀ D, M1 D = none → lcRun src D (fun d M2 K => wTg tg d (wipeD σ (own.map (·.2))) M2 fun σ2 M3 => wIfs (fun _ _ => False) ifs σ2 M3 fun k M4 => if k = true then wE (fun _ _ => False) elt σ2 M4 fun e M5 => K (some e) M5 else K none M4)
        (lcEnd f D Q) src.items [] (updM M1 D (.lst []))
  | .dnew => fun _ M Q => newD [] M Q
  | .bty _ T => fun _ M Q => Q (.ty T) M
  | .meth m o l => fun σ M Q => wE Ex o σ M fun x M1 => tyD M1 x = some m.T ∧ wEs Ex l σ M1 fun ds M2 => dMth m x ds M2 Q
  | .attr C o f => fun σ M Q => wE Ex o σ M fun d M1 => dAttr C f d M1 Q
  | .mk C c l => fun σ M Q => wEs Ex l σ M fun ds M1 => ∀ p, M1 p = none → c (.ref p :: ds) (updM M1 p (.ins C [])) (fun d M2 => d = .non ∧ Q (.ref p) M2) Ex
  | .ddisp tk l => fun σ M Q => ∀ p, M p = none → wPs Ex l σ (updM M p (.dct [])) (fDisp tk p Q)
  | .dc f own key val tg it ifs => fun σ M Q => wIt Ex it σ M fun src M1 =>
      ∀ D, M1 D = none → dcRun src D (fun d M2 K => wTg tg d (wipeD σ (own.map (·.2))) M2 fun σ2 M3 => wIfs (fun _ _ => False) ifs σ2 M3 fun k M4 => if k = true then wE (fun _ _ => False) key σ2 M4 fun e M5 => wE (fun _ _ => False) val σ2 M5 fun e' M6 => K (some (e, e')) M6 else K none M4)
        (dcEnd f D Q) src.items (updM M1 D (.dct []))
  | .fzk key a => fun σ M Q => wE Ex a σ M (fzKey key Q)
  | .zip3 a i j => fun σ M Q => wE Ex a σ M fun x M1 => dVar i σ M1 fun y M2 => dVar j σ M2 fun z M3 => dZipK x y z M3 Q
def wPs (Ex : XQ) : Es → Sd → Mp → (List (D × D) → Mp → Prop) → Prop
  | .nil => fun _ M Q => Q [] M
  | .cons k (.cons v l) => fun σ M Q => wE Ex k σ M fun d M1 => wE Ex v σ M1 fun e M2 => wPs Ex l σ M2 fun ds M3 => Q ((d, e) :: ds) M3
  | _ => fun _ _ _ => False
def wEs (Ex : XQ) : Es → DTA
  | .nil => fun _ M Q => Q [] M
  | .star e l => fun σ M Q => wE Ex e σ M fun d M1 => match seqOf M1 d with
    | some ys => wEs Ex l σ M1 fun ds M2 => Q (ys ++ ds) M2
    | none => False
  | .cons e l => fun σ M Q => wE Ex e σ M fun d M1 => wEs Ex l σ M1 fun ds M2 => Q (d :: ds) M2
def wAnd (Ex : XQ) : Es → DTE
  | .nil => fun _ _ _ => False
  | .star _ _ => fun _ _ _ => False
  | .cons e .nil => wE Ex e
  | .cons e l => fun σ M Q => wE Ex e σ M fun d M1 => match d with
    | .bl k => if k = true then wAnd Ex l σ M1 Q else Q (.bl false) M1
    | _ => False
def wOr (Ex : XQ) : Es → DTE
  | .nil => fun _ _ _ => False
  | .star _ _ => fun _ _ _ => False
  | .cons e .nil => wE Ex e
  | .cons e l => fun σ M Q => wE Ex e σ M fun d M1 => match d with
    | .bl k => if k = true then Q (.bl true) M1 else wOr Ex l σ M1 Q
    | _ => False
def wT (Ex : XQ) : E → DTT
  | .nott a => fun σ M Q => wT Ex a σ M fun k M1 => Q (!k) M1
  | .andd l => wAndT Ex l
  | .orr l => wOrT Ex l
  | .ife c a b => fun σ M Q => wT Ex c σ M fun k M1 => if k = true then wT Ex a σ M1 Q else wT Ex b σ M1 Q
  | .var i => dB (dVar i)
  | .lit d => dB fun _ M Q => Q d M
  | .glob _ d => dB fun _ M Q => Q d M
  | .bin op a b => dB fun σ M Q => wE Ex a σ M fun x M1 => wE Ex b σ M1 fun y M2 => dBin op x y M2 Q
  | .cmp op a b => dB fun σ M Q => wE Ex a σ M fun x M1 => wE Ex b σ M1 fun y M2 => fCmp op x y M2 Q
  | .chain o1 o2 a b c => dB fun σ M Q => wE Ex a σ M fun x M1 => wE Ex b σ M1 fun y M2 => fCmp o1 x y M2 fun r M3 => match r with
    | .bl k => if k = true then wE Ex c σ M3 fun z M4 => fCmp o2 y z M4 Q else Q (.bl false) M3
    | _ => False
  | .meth m o l => dB fun σ M Q => wE Ex o σ M fun x M1 => tyD M1 x = some m.T ∧ wEs Ex l σ M1 fun ds M2 => dMth m x ds M2 Q
  | .attr C o f => dB fun σ M Q => wE Ex o σ M fun d M1 => dAttr C f d M1 Q
  | .idx a b => dB fun σ M Q => wE Ex a σ M fun x M1 => wE Ex b σ M1 fun y M2 => fIx x y M2 Q
  | .bif b l => dB fun σ M Q => wEs Ex l σ M fun ds M1 => dBif b ds M1 Q
  | .call _ c l => dB fun σ M Q => wEs Ex l σ M fun ds M1 => c ds M1 Q Ex
  | _ => fun _ _ _ => False
def wAndT (Ex : XQ) : Es → DTT
  | .nil => fun _ M Q => Q true M
  | .star _ _ => fun _ _ _ => False
  | .cons e l => fun σ M Q => wT Ex e σ M fun k M1 => if k = true then wAndT Ex l σ M1 Q else Q false M1
def wOrT (Ex : XQ) : Es → DTT
  | .nil => fun _ M Q => Q false M
  | .star _ _ => fun _ _ _ => False
  | .cons e l => fun σ M Q => wT Ex e σ M fun k M1 => if k = true then Q true M1 else wOrT Ex l σ M1 Q
def wIfs (Ex : XQ) : Es → DTT
  | .nil => fun _ M Q => Q true M
  | .star _ _ => fun _ _ _ => False
  | .cons e _ => wT Ex e
def wPart (Ex : XQ) : Es → Sd → Mp → (Option Int → Mp → Prop) → Prop
  | .nil => fun _ M Q => Q none M
  | .star _ _ => fun _ _ _ => False
  | .cons e _ => fun σ M Q => wE Ex e σ M fun d M1 => match d with
    | .int i => Q (some i) M1
    | _ => False
def wIt (Ex : XQ) : It → Sd → Mp → (Src → Mp → Prop) → Prop
  | .vals e => fun σ M Q => wE Ex e σ M fun d M1 => match d with
    | .dct l => (allS l && !l.isEmpty) = true ∧ Q (.val (l.map (·.2))) M1
    | _ => False
  | .items e => fun σ M Q => wE Ex e σ M fun d M1 => match d with
    | .dct l => (allS l && !l.isEmpty) = true ∧ Q (.val (pairsD l)) M1
    | _ => False
  | .enum e => fun σ M Q => wE Ex e σ M fun d M1 => match d with
    | .dct l => Q (.val (enumOf (l.map (·.1)))) M1
    | _ => False
  | .seq e => fun σ M Q => wE Ex e σ M fun d M1 => match srcOf M1 d with
    | some src => Q src M1
    | none => False
  | .rng l => fun σ M Q => wEs Ex l σ M fun ds M1 => match ds with
    | [.int n] => -(2 ^ 62) ≤ n ∧ n < 2 ^ 62 ∧ Q (.val (rngD 0 n.toNat)) M1
    | [.int a, .int b] => (-(2 ^ 62) ≤ a ∧ a < 2 ^ 62 ∧ -(2 ^ 62) ≤ b ∧ b < 2 ^ 62) ∧ Q (.val (rngD a (b - a).toNat)) M1
    | _ => False
end
/-! ### statements -/
def whileN (c : DTT) (b : DTS) (J : DEnds) : Nat → Sd → Mp → Prop
  | 0, _, _ => False
  | n + 1, σ, M => c σ M fun k M1 => if k = true then b { nx := whileN c b J n, ct := whileN c b J n, bk := J.nx, rt := J.rt } σ M1 else J.nx σ M1
def forN (src : Src) (g : D → Sd → Mp → (Sd → Mp → Prop) → Prop) (b : DTS) (J : DEnds) : List D → Sd → Mp → Prop
  | [], σ, M => src.ok M ∧ J.nx σ M
  | d :: ds, σ, M => src.ok M ∧ g d σ M fun σ1 M1 => b { nx := forN src g b J ds, ct := forN src g b J ds, bk := J.nx, rt := J.rt } σ1 M1
mutual
def wS (Ex : XQ) : S → DTS
  | .asg (.tg t) e => fun J σ M => wE Ex e σ M fun d M1 => wTg t d σ M1 J.nx
  | .asg (.sub o i) e => fun J σ M => wE Ex e σ M fun d M1 => wE Ex o σ M1 fun x M2 => wE Ex i σ M2 fun y M3 => fSet x y d M3 fun M4 => J.nx σ M4
  | .asg (.fld C o f) e => fun J σ M => wE Ex e σ M fun d M1 => wE Ex o σ M1 fun x M2 => dFld C f x d M2 fun M3 => J.nx σ M3
  | .never => fun _ _ _ => False
  | .par2 i j a b => fun J σ M => wE Ex a σ M fun x M1 => wE Ex b σ M1 fun y M2 => J.nx ((σ.set i (some x)).set j (some y)) M2
  | .par3 i j k a b c => fun J σ M => wE Ex a σ M fun x M1 => wE Ex b σ M1 fun y M2 => wE Ex c σ M2 fun z M3 => J.nx (((σ.set i (some x)).set j (some y)).set k (some z)) M3
  | .aug i op e => fun J σ M => dVar i σ M fun x M0 => wE Ex e σ M0 fun y M1 => match op, x, y with
    | .Add, .int a, .int b => J.nx (σ.set i (some (.int (a + b)))) M1
    | _, _, _ => False
  | .ret e => fun J σ M => wE Ex e σ M J.rt
  | .retN => fun J _ M => J.rt .non M
  | .iff c a b => fun J σ M => wT Ex c σ M fun k M1 => if k = true then wB Ex a J σ M1 else wB Ex b J σ M1
  | .whl c b => fun J σ M => ∃ n, whileN (wT Ex c) (wB Ex b) J n σ M
  | .forr g it b => fun J σ M => wIt Ex it σ M fun src M1 => forN src (wTg g) (wB Ex b) J src.items σ M1
  | .expr e => fun J σ M => wE Ex e σ M fun _ M1 => J.nx σ M1
  | .pass => fun J σ M => J.nx σ M
def wB (Ex : XQ) : B → DTS
  | .nil => fun J σ M => J.nx σ M
  | .cons s b => fun J σ M => wS Ex s { J with nx := wB Ex b J } σ M
  | .frz i b => fun J σ M => dVar i σ M (fzK fun d M1 => wB Ex b J (σ.set i (some d)) M1)
  | .frzk i key b => fun J σ M => dVar i σ M (fzKey key fun d M1 => wB Ex b J (σ.set i (some d)) M1)
end
example (Ex : XQ) : wE Ex (.bin .Add (.var 0) (.var 1)) = fun σ M Q => dVar 0 σ M fun x M1 => dVar 1 σ M1 fun y M2 => dAdd x y M2 Q := rfl
example (Ex : XQ) : wB Ex (.cons (.ret (.var 0)) .nil) = fun J σ M => dVar 0 σ M J.rt := rfl
end Dy
end
section
set_option Elab.async false
set_option linter.all false
set_option maxRecDepth 100000
set_option maxHeartbeats 4000000
/-! The D layer, 6: the small language against the program's text. -/
namespace Dy
open PySem PySem.Spec L2
open PyProof.Rows hiding St

/-! ### the look -/
/-- heads that are expressions by themselves -/
def hd : Expr → Bool
  | .Name .. => true
  | .Constant .. => true
  | .BinOp .. => true
  | .UnaryOp .. => true
  | .BoolOp .. => true
  | .Compare .. => true
  | .Call .. => true
  | .IfExp .. => true
  | .Tuple .. => true
  | .List .. => true
  | .Subscript .. => true
  | .Attribute .. => true
  | .ListComp .. => true
  | .DictComp .. => true
  | .Dict .. => true
  | .JoinedStr .. => true
  | _ => false
def visB (sc : Scope) (x : Str) : Bool := match sc.names.lookup x with
  | some .local => true
  | some .cell => true
  | some .free => true
  | _ => false
def gloB (sc : Scope) (x : Str) : Bool := (match sc.names.lookup x with
  | some .globalImplicit => true
  | _ => false) && !(x == ("__debug__" : Str))
def locB (sc : Scope) (fa : Bool) (x : Str) : Bool := match sc.names.lookup x with
  | some .local => true
  | some .cell => fa
  | _ => false
def litB : D → Const → Bool
  | .non, .none => true
  | .bl b, .bool c => b == c
  | .int i, .int j => decide (i = j)
  | .str x, .str y => decide (x = y) && PyData.strOk x
  | _, _ => false
def Bif.name : Bif → Str
  | .len => "len"
  | .list => "list"
  | .tuple => "tuple"
  | .int => "int"
  | .all => "all"
  | .any => "any"
  | .min => "min"
  | .dict => "dict"
  | .sorted => "sorted"
  | .isi => "isinstance"
def Mth.name : Mth → Str
  | .append => "append"
  | .clear => "clear"
  | .get => "get"
def Es.plain : Es → Bool
  | .nil => true
  | .cons _ l => l.plain
  | .star _ _ => false
def tyB (x : Str) (T : String) : Bool := decide (x = Str.ofString T) && (decide (T = "int") || decide (T = "bool") || decide (T = "str") || decide (T = "tuple") || decide (T = "list") || decide (T = "dict"))
mutual
def chkTg (sc : Scope) (N : List Str) (fa : Bool) : Tg → Expr → Bool
  | .name i, .Name x _ => decide (N[i]? = some x) && locB sc fa x
  | .tup l, .Tuple es _ _ => chkTgs sc N fa l es
  | _, _ => false
def chkTgs (sc : Scope) (N : List Str) (fa : Bool) : Tgs → List Expr → Bool
  | .nil, [] => true
  | .cons t l, e :: es => (match e with | .Starred .. => false | _ => true) && chkTg sc N fa t e && chkTgs sc N fa l es
  | _, _ => false
end
mutual
def chkE : E → Scope → List Str → Expr → Bool
  | .var i, sc, N, e => match e with
    | .Name x _ => decide (N[i]? = some x) && visB sc x && !(x == ("__debug__" : Str)) && !(x == ("__classdict__" : Str))
    | _ => false
  | .lit d, _, _, e => match e with
    | .Constant c _ _ => litB d c
    | _ => false
  | .glob y _, sc, _, e => match e with
    | .Name x _ => decide (x = y) && gloB sc x
    | _ => false
  | .bin op a b, sc, N, e => match e with
    | .BinOp x op' y _ => decide (op = op') && chkE a sc N x && chkE b sc N y
    | _ => false
  | .cmp op a b, sc, N, e => match e with
    | .Compare x [op'] [y] _ => decide (op = op') && hd y && chkE a sc N x && chkE b sc N y
    | _ => false
  | .chain o1 o2 a b c, sc, N, e => match e with
    | .Compare x [p1, p2] [y, z] _ => decide (o1 = p1) && decide (o2 = p2) && hd y && hd z && chkE a sc N x && chkE b sc N y && chkE c sc N z
    | _ => false
  | .nott a, sc, N, e => match e with
    | .UnaryOp .Not x _ => chkE a sc N x
    | _ => false
  | .andd l, sc, N, e => match e with
    | .BoolOp .And xs _ => chkBs l sc N xs
    | _ => false
  | .orr l, sc, N, e => match e with
    | .BoolOp .Or xs _ => chkBs l sc N xs
    | _ => false
  | .ife c a b, sc, N, e => match e with
    | .IfExp z x y _ => chkE c sc N z && chkE a sc N x && chkE b sc N y
    | _ => false
  | .tup l, sc, N, e => match e with
    | .Tuple xs _ _ => chkEs l sc N xs
    | _ => false
  | .lst _ l, sc, N, e => match e with
    | .List xs _ => chkEs l sc N xs
    | _ => false
  | .idx a b, sc, N, e => match e with
    | .Subscript x y _ => hd y && chkE a sc N x && chkE b sc N y
    | _ => false
  | .slc a lo hi, sc, N, e => match e with
    | .Subscript x (.Slice l h none _) _ => chkE a sc N x && chkO lo sc N l && chkO hi sc N h
    | _ => false
  | .bif b l, sc, N, e => match e with
    | .Call (.Name x _) (y :: ys) [] _ => decide (x = b.name) && gloB sc x && l.plain && chkEs l sc N (y :: ys)
    | _ => false
  | .call f _ l, sc, N, e => match e with
    | .Call (.Name x _) (y :: ys) [] _ => decide (x = f) && gloB sc x && l.plain && chkEs l sc N (y :: ys)
    | _ => false
  | .fz a, sc, N, e => chkE a sc N e
  | .lc _ own elt tg it ifs, sc, N, e => match e with
    | .ListComp e [⟨t, i, cs, 0⟩] scope _ => blkC N sc scope own && hd i && chkIt it sc N t i && chkTg (relS scope sc) N false tg t && (tg.idx.all fun i => (own.map (·.2)).contains i) && chkIf ifs (relS scope sc) N cs && chkE elt (relS scope sc) N e
    | _ => false
  | .dnew, _, _, e => match e with
    | .Dict [] [] _ => true
    | _ => false
  | .bty x T, sc, _, e => match e with
    | .Name y _ => decide (y = x) && gloB sc y && tyB x T
    | _ => false
  | .meth m o l, sc, N, e => match e with
    | .Call (.Attribute x name apos) ys [] cpos => decide (name = m.name) && abOk x && (apos.endLine == cpos.line) && decide (ys.length < 29) && l.plain && chkE o sc N x && chkEs l sc N ys
    | _ => false
  | .attr _ o f, sc, N, e => match e with
    | .Attribute x g _ => decide (f = g) && abOk x && chkE o sc N x
    | _ => false
  | .mk C _ l, sc, N, e => match e with
    | .Call (.Name x _) (y :: ys) [] _ => decide (x = C) && gloB sc x && l.plain && chkEs l sc N (y :: ys)
    | _ => false
  | .ddisp _ l, sc, N, e => match e with
    | .Dict ks vs _ => !ks.isEmpty && decide (ks.length ≤ 15) && chkPs l sc N ks vs
    | _ => false
  | .dc _ own key val tg it ifs, sc, N, e => match e with
    | .DictComp e1 e2 [⟨t, i, cs, 0⟩] scope _ => blkC N sc scope own && hd i && chkIt it sc N t i && chkTg (relS scope sc) N false tg t && (tg.idx.all fun i => (own.map (·.2)).contains i) && chkIf ifs (relS scope sc) N cs && chkE key (relS scope sc) N e1 && chkE val (relS scope sc) N e2
    | _ => false
  | .fzk _ a, sc, N, e => chkE a sc N e
  | .zip3 a i j, sc, N, e => match e with
    | .Call (.Name l _) [.Call (.Name z _) [.Call (.Attribute x name apos) [] [] cpos, .Name u _, .Name v _] [] _] [] _ => decide (l = ("list" : Str)) && gloB sc l && (decide (z = ("zip" : Str)) && gloB sc z) && (decide (name = ("values" : Str)) && abOk x && (apos.endLine == cpos.line)) && chkE a sc N x &&
        (decide (N[i]? = some u) && visB sc u && !(u == ("__debug__" : Str)) && !(u == ("__classdict__" : Str))) && (decide (N[j]? = some v) && visB sc v && !(v == ("__debug__" : Str)) && !(v == ("__classdict__" : Str)))
    | _ => false
def chkPs : Es → Scope → List Str → List (Option Expr) → List Expr → Bool
  | .nil, _, _, ks, vs => ks.isEmpty && vs.isEmpty
  | .cons k (.cons v l), sc, N, ks, vs => match ks, vs with
    | some x :: ks, y :: vs => chkE k sc N x && chkE v sc N y && chkPs l sc N ks vs
    | _, _ => false
  | _, _, _, _, _ => false
def chkEs : Es → Scope → List Str → List Expr → Bool
  | .nil, _, _, xs => xs.isEmpty
  | .cons e l, sc, N, xs => match xs with
    | x :: xs => hd x && chkE e sc N x && chkEs l sc N xs
    | [] => false
  | .star e l, sc, N, xs => match xs with
    | .Starred x _ :: xs => chkE e sc N x && chkEs l sc N xs
    | _ => false
def chkBs : Es → Scope → List Str → List Expr → Bool
  | .nil, _, _, _ => false
  | .star _ _, _, _, _ => false
  | .cons e l, sc, N, xs => match xs with
    | [] => false
    | x :: xs => chkE e sc N x && (match l, xs with
      | .nil, [] => true
      | .cons _ _, _ :: _ => chkBs l sc N xs
      | _, _ => false)
def chkIf : Es → Scope → List Str → List Expr → Bool
  | .nil, _, _, xs => xs.isEmpty
  | .star _ _, _, _, _ => false
  | .cons e l, sc, N, xs => match l, xs with
    | .nil, [x] => chkE e sc N x
    | _, _ => false
def chkO : Es → Scope → List Str → Option Expr → Bool
  | .nil, _, _, o => o.isNone
  | .star _ _, _, _, _ => false
  | .cons e l, sc, N, o => match l, o with
    | .nil, some x => chkE e sc N x
    | _, _ => false
def chkIt : It → Scope → List Str → Expr → Expr → Bool
  | .seq e, sc, N, _, x => chkE e sc N x
  | .rng l, sc, N, _, e => match e with
    | .Call (.Name x _) ys [] _ => decide (x = ("range" : Str)) && gloB sc x && chkEs l sc N ys && (match l with | .cons _ .nil => true | .cons _ (.cons _ .nil) => true | _ => false)
    | _ => false
  | .vals a, sc, N, _, e => match e with
    | .Call (.Attribute x name apos) [] [] cpos => decide (name = ("values" : Str)) && abOk x && (apos.endLine == cpos.line) && chkE a sc N x
    | _ => false
  | .items a, sc, N, t, e => match e with
    | .Call (.Attribute x name apos) [] [] cpos => decide (name = ("items" : Str)) && abOk x && (apos.endLine == cpos.line) && chkE a sc N x && (match t with | .Tuple _ _ _ => true | _ => false)
    | _ => false
  | .enum a, sc, N, t, e => match e with
    | .Call (.Name x _) [y] [] _ => decide (x = ("enumerate" : Str)) && gloB sc x && hd y && chkE a sc N y && (match t with | .Tuple _ _ _ => true | _ => false)
    | _ => false
end

/-! ### what the text's names stand for -/
structure Gp where
  P : Program
  w : World
  K : PySem.W.Frag
  mg : Str → Option Value
  base : Heap
  k : Nat
abbrev Gp.gv (G : Gp) : Gv := ⟨G.P, G.w, G.K⟩
def XAbs (G : Gv) (H : Hp) (cls : Value) (d : Option Addr) (x : DX) : Prop := cls = .ref (He.ga G.K x.C) ∧ ((d = none ∧ x.fs = []) ∨ ∃ a fs, d = some a ∧ H a = some (.xd fs) ∧ AbsF G H fs x.fs)
def UpX (G : Gv) (H : Hp) (Ed : XQ) (E : XK) : Prop := ∀ x M' cls d H', Ed x M' → Ext H H' → XAbs G H' cls d x → HAbs G H' M' → E cls d H'
def lSp (G : Gv) (c : DSp) : Sp := fun vs H Q E => ∃ ds M Qd Ed, AbsL G H vs ds ∧ HAbs G H M ∧ c ds M Qd Ed ∧ Up G H Qd Q ∧ UpX G H Ed E
def CallOk (G : Gp) (f : Str) (c : DSp) : Prop := ∃ a fd ps, G.mg f = some (.ref a) ∧ PySem.W.keepIn G.K (.ref a) = true ∧ FnOk G.P G.w G.K G.mg G.base (L2.CX G.P G.w) G.k a fd ps (lSp G.gv c) ∧ Binds G.K fd ps []
def MkOk (G : Gp) (C : Str) (c : DSp) : Prop := ∃ j f fd ps, G.k = j + 1 ∧ G.mg C = some (.ref (He.ga G.K C)) ∧ Mk G.K (He.ga G.K C) f ∧ FnOk G.P G.w G.K G.mg G.base (L2.CX G.P G.w) j f fd ps (lSp G.gv c) ∧ Binds G.K fd ps []
def AtOk (G : Gp) (C f : Str) : Prop := Cls G.K (He.ga G.K C) ∧ NoAttr G.K (He.ga G.K C) f
def GlobOk (G : Gp) (x : Str) (d : D) : Prop := ∃ u v, G.mg x = some u ∧ RelV v u ∧ ∀ H, Abs G.gv H v d
mutual
def WfE (G : Gp) : E → Prop
  | .var _ => True
  | .lit _ => True
  | .glob x d => GlobOk G x d
  | .bin _ a b => WfE G a ∧ WfE G b
  | .cmp _ a b => WfE G a ∧ WfE G b
  | .chain _ _ a b c => WfE G a ∧ WfE G b ∧ WfE G c
  | .nott a => WfE G a
  | .andd l => WfEs G l
  | .orr l => WfEs G l
  | .ife c a b => WfE G c ∧ WfE G a ∧ WfE G b
  | .tup l => WfEs G l
  | .lst _ l => WfEs G l
  | .idx a b => WfE G a ∧ WfE G b
  | .slc a lo hi => WfE G a ∧ WfEs G lo ∧ WfEs G hi
  | .bif b l => G.mg b.name = none ∧ WfEs G l
  | .call f c l => CallOk G f c ∧ WfEs G l
  | .fz a => WfE G a
  | .lc _ _ elt _ it ifs => WfE G elt ∧ WfIt G it ∧ WfEs G ifs
  | .dnew => True
  | .bty x _ => G.mg x = none
  | .meth _ o l => WfE G o ∧ WfEs G l
  | .attr C o f => AtOk G C f ∧ WfE G o
  | .mk C c l => MkOk G C c ∧ WfEs G l
  | .ddisp _ l => WfEs G l
  | .dc _ _ key val _ it ifs => WfE G key ∧ WfE G val ∧ WfIt G it ∧ WfEs G ifs
  | .fzk _ a => WfE G a
  | .zip3 a _ _ => G.mg "list" = none ∧ G.mg "zip" = none ∧ WfE G a
def WfEs (G : Gp) : Es → Prop
  | .nil => True
  | .star e l => WfE G e ∧ WfEs G l
  | .cons e l => WfE G e ∧ WfEs G l
def WfIt (G : Gp) : It → Prop
  | .seq e => WfE G e
  | .rng l => G.mg "range" = none ∧ WfEs G l
  | .vals e => WfE G e
  | .items e => WfE G e
  | .enum e => G.mg "enumerate" = none ∧ WfE G e
end

/-! ### facts of the context -/
abbrev gpx (X : Cx) (k : Nat) : Gp := ⟨X.prog, X.w, X.K, X.mg, X.base, k⟩
structure Ok (X : Cx) (sc : Scope) (N : List Str) (fa : Bool) (k : Nat) : Prop where
  hN : X.N = N
  hsc : X.env.scope = sc
  calm : X.calm = true
  nd : X.N.Nodup
  room : Room k X.A
  fn : fa = true → ∀ x, X.fn x = true
def TkD (X : Cx) (Ex : XQ) : Prop := Takes X fun cls d _ H => ∃ x M', Ex x M' ∧ Ext X.H_0 H ∧ XAbs (Gx X) H cls d x ∧ HAbs (Gx X) H M'
theorem tk_none {X : Cx} : TkD X fun _ _ => False := Takes.imp takes0 fun _ _ _ _ ⟨_, _, h, _⟩ => h

section
variable {X : Cx} {sc : Scope} {N : List Str} {fa : Bool} {k : Nat}
theorem Ok.hu (o : Ok X sc N fa k) : X.A.units + 64 < cLine := o.room.units
theorem vis_of (o : Ok X sc N fa k) {x : Str} (h : visB sc x = true) : Vis X.env.scope x := by
  rw [o.hsc]
  unfold visB at h
  unfold Vis
  cases e : sc.names.lookup x with
  | none => rw [e] at h; cases h
  | some q => rw [e] at h; cases q <;> simp_all
theorem gl_of (o : Ok X sc N fa k) {x : Str} (h : gloB sc x = true) : Gl X x ∧ (x == ("__debug__" : Str)) = false := by
  unfold gloB at h
  rw [Bool.and_eq_true, Bool.not_eq_true'] at h
  refine ⟨?_, h.2⟩
  show X.env.scope.names.lookup x = _
  rw [o.hsc]
  have h1 := h.1
  cases e : sc.names.lookup x with
  | none => rw [e] at h1; cases h1
  | some q => rw [e] at h1; cases q <;> simp_all
theorem loc_of (o : Ok X sc N fa k) {x : Str} (h : locB sc fa x = true) : L2.Loc X.env.scope x ∧ (X.fn x = true ∨ X.env.scope.names.lookup x = some .local) := by
  rw [o.hsc]
  unfold locB at h
  unfold L2.Loc
  cases e : sc.names.lookup x with
  | none => rw [e] at h; cases h
  | some q =>
    rw [e] at h
    cases q with
    | «local» => exact ⟨.inl rfl, .inr rfl⟩
    | cell => exact ⟨.inr rfl, .inl (o.fn h x)⟩
    | _ => cases h
theorem star_of {e : Expr} (h : hd e = true) (es : List Expr) (env : Env) : starEach (e :: es) env = (false, eval e env) :: starEach es env := by
  cases e <;> first | rfl | (simp [hd] at h)
theorem mark_of {e : Expr} (h : hd e = true) (op : CmpOp) : behindInMarks op e = false := by
  cases e <;> first | rfl | (simp [hd] at h)
theorem plain_of {e : Expr} (h : hd e = true) : PlainIx e := by
  intro o i
  cases e <;> first | rfl | (simp [hd] at h)
theorem fold_of {e : Expr} (h : hd e = true) (env : Env) : ∀ x, foldedSetIterable e env x = pure x := by
  intro x
  cases e <;> first | rfl | (simp [hd] at h)
theorem any_of {l : Es} {es : List Expr} (pl : l.plain = true) (h : chkEs l sc N es = true) (pos : Pos) (env : Env) : (backTo pos (starEach es env)).any (·.1) = false := by
  induction es generalizing l with
  | nil => rfl
  | cons e es ih =>
    cases l with
    | nil => simp [chkEs] at h
    | star _ _ => cases pl
    | cons a l =>
      simp only [chkEs, Bool.and_eq_true] at h
      rw [star_of h.1.1]
      show (false || (backTo pos (starEach es env)).any (·.1)) = false
      rw [ih (l := l) pl h.2]; rfl
theorem tyB_of {x : Str} {T : String} (h : tyB x T = true) : bootBuiltins x = some (.type T) ∧ x ≠ "__name__" := by
  unfold tyB at h
  simp only [Bool.and_eq_true, Bool.or_eq_true, decide_eq_true_eq] at h
  obtain ⟨rfl, h⟩ := h
  rcases h with ((((h | h) | h) | h) | h) | h <;> subst h <;> exact ⟨by rfl, by decide⟩
theorem few_of {es : List Expr} {l : Es} (pl : l.plain = true) (h : chkEs l sc N es = true) (pos : Pos) (env : Env) : (backTo pos (starEach es env)).all (fun x => !x.1) = true := by
  have := any_of pl h pos env
  rw [List.all_eq_not_any_not]
  simpa using this
theorem ext_base {pins : List (Addr × Obj)} {σ : St} {H : Hp} {s : Shared} (I : Inv X pins σ H s) : Ext X.H_0 H := ⟨I.base.tups, I.base.frzs⟩
/-- a reading may lean on what stood at the entry -/
theorem PE.base {e : Expr} {t t' : TE} (h : PE X e t) (i : ∀ σ H Q, Ext X.H_0 H → t' σ H Q → t σ H Q) : PE X e t' := ⟨fun pins s σ H Q I q => h.run pins s σ H Q I (i σ H Q (ext_base I) q)⟩
theorem lit_abs {G : Gv} {H : Hp} {d : D} {c : Const} {j : Nat} {pos : Pos} (h : litB d c = true) : ∃ v, PE X (.Constant c j pos) (tC v) ∧ Abs G H v d := by
  cases d <;> cases c <;> simp only [litB, Bool.false_eq_true, Bool.and_eq_true, decide_eq_true_eq, beq_iff_eq] at h
  · exact ⟨_, pe_non, .non⟩
  · subst h; exact ⟨_, pe_bl, .bl _⟩
  · subst h; exact ⟨_, pe_int, .int _⟩
  · obtain ⟨rfl, h2⟩ := h; exact ⟨_, pe_str, .str _ h2⟩
end
end Dy
end
section
set_option Elab.async false
set_option linter.all false
set_option maxRecDepth 100000
set_option maxHeartbeats 4000000
/-! The D layer, 7: the small language is sound, expressions. -/
namespace Dy
open PySem PySem.Spec L2
open PyProof.Rows hiding St

/-! ### iterators over known items -/
structure ItD (G : Gv) (J : L2.It) (src : Src) (H0 : Hp) : Prop where
  go : ∀ i H M, Ext H0 H → HAbs G H M → src.ok M → i < src.items.length → J.go i H
  yld : ∀ i H M x H', Ext H0 H → HAbs G H M → src.ok M → J.yld i H x H' → ∀ d, src.items[i]? = some d → Ext H H' ∧ Abs G H' x d ∧ HAbs G H' M
  stop : ∀ i H M, Ext H0 H → HAbs G H M → src.ok M → src.items.length = i → J.stop i H
abbrev DTI := Sd → Mp → (Src → Mp → Prop) → Prop
def lI (G : Gv) (t : DTI) : TI := fun σ H R => ∃ σd M Qs, Sim G H σ σd M ∧ t σd M Qs ∧ ∀ src M1 J H1, Qs src M1 → Ext H H1 → HAbs G H1 M1 → ItD G J src H1 → R J H1
section
variable {X : Cx} {sc : Scope} {N : List Str} {fa : Bool} {k : Nat}
theorem itd_list {H0 : Hp} {a : Addr} {vs : List V} {l : List D} (r : FzL X.K H0 a vs) (q : AbsL (Gx X) H0 vs l) : ItD (Gx X) (Itl X.K a) (.val l) H0 where
  go := fun i H M e _ _ hi => by
    have hi : i < l.length := hi
    refine ⟨vs, vs[i]'(by rw [q.length]; exact hi), (e.fzL r).sq, by simp [q.length, hi]⟩
  yld := fun i H M x H' e hm _ y d hd => by
    obtain ⟨rfl, y⟩ := y
    obtain ⟨v, hv, av⟩ := q.get hd
    have := y vs (e.fzL r).sq
    rw [hv] at this; cases this
    exact ⟨Ext.refl _, av.ext e, hm⟩
  stop := fun i H M e _ _ hi => ⟨vs, (e.fzL r).sq, by rw [q.length]; exact Nat.le_of_eq hi⟩
theorem itd_ref {H0 : Hp} {p : Addr} {l : List D} : ItD (Gx X) (Itl X.K p) (.ref p l) H0 where
  go := fun i H M e hm ok hi => by
    have hi : i < l.length := hi
    have ok : M p = some (.lst l) := ok
    cases hm p _ ok with
    | lst r q => exact ⟨_, _, .inl (.inl r), by rw [List.getElem?_eq_getElem (by rw [q.length]; exact hi)]⟩
  yld := fun i H M x H' e hm ok y d hd => by
    have ok : M p = some (.lst l) := ok
    obtain ⟨rfl, y⟩ := y
    cases hm p _ ok with
    | lst r q =>
      obtain ⟨v, hv, av⟩ := q.get hd
      have := y _ (.inl (.inl r))
      rw [hv] at this; cases this
      exact ⟨Ext.refl _, av, hm⟩
  stop := fun i H M e hm ok hi => by
    have ok : M p = some (.lst l) := ok
    cases hm p _ ok with
    | lst r q => exact ⟨_, .inl (.inl r), by rw [q.length]; exact Nat.le_of_eq hi⟩
theorem itd_tup {H0 : Hp} {a : Addr} {vs : List V} {l : List D} (r : SqT X.K H0 a vs) (q : AbsL (Gx X) H0 vs l) : ItD (Gx X) (Itt X.K a) (.val l) H0 where
  go := fun i H M e _ _ hi => by
    have hi : i < l.length := hi
    refine ⟨vs, vs[i]'(by rw [q.length]; exact hi), e.sqT r, by simp [q.length, hi]⟩
  yld := fun i H M x H' e hm _ y d hd => by
    obtain ⟨rfl, y⟩ := y
    obtain ⟨v, hv, av⟩ := q.get hd
    have := y vs (e.sqT r)
    rw [hv] at this; cases this
    exact ⟨Ext.refl _, av.ext e, hm⟩
  stop := fun i H M e _ _ hi => ⟨vs, e.sqT r, by rw [q.length]; exact Nat.le_of_eq hi⟩
theorem itd_rng {H0 : Hp} {lo : Int} {n : Nat} : ItD (Gx X) (Itr lo n) (.val (rngD lo n)) H0 where
  go := fun i H M _ _ _ hi => by
    have hi : i < (rngD lo n).length := hi
    unfold rngD at hi
    simp only [List.length_map, List.length_range] at hi
    exact hi
  yld := fun i H M x H' e hm _ y d hd => by
    obtain ⟨rfl, rfl⟩ := y
    have hd : (rngD lo n)[i]? = some d := hd
    unfold rngD at hd
    rw [List.getElem?_map] at hd
    by_cases hi : i < n
    · rw [List.getElem?_range hi] at hd
      cases hd
      exact ⟨Ext.refl _, .int _, hm⟩
    · rw [List.getElem?_eq_none (by simpa using hi)] at hd; cases hd
  stop := fun i H M _ _ _ hi => by
    have hi : (rngD lo n).length ≤ i := Nat.le_of_eq hi
    unfold rngD at hi
    simp only [List.length_map, List.length_range] at hi
    exact hi
/-! ### the keys of a frozen dict; a text's signs -/
theorem absK_key {G : Gv} {H : Hp} : ∀ {kvs : List (Key × V)} {ds : List (D × D)}, AbsK G H kvs ds → ∀ {i : Nat} {k : Key} {v : V} {d : D}, kvs[i]? = some (k, v) → (ds.map (·.1))[i]? = some d → Abs G H (kV k) d
  | _, _, .nil, i, k, v, d, e, f => by simp at e
  | _, _, .int (i := j) a l, 0, k, v, d, e, f => by
    simp only [List.getElem?_cons_zero, Option.some.injEq, List.map_cons] at e f
    cases e; subst f; exact .int _
  | _, _, .str (x := j) h a l, 0, k, v, d, e, f => by
    simp only [List.getElem?_cons_zero, Option.some.injEq, List.map_cons] at e f
    cases e; subst f; exact .str _ h
  | _, _, .int a l, i + 1, k, v, d, e, f => absK_key l (by simpa using e) (by simpa using f)
  | _, _, .str h a l, i + 1, k, v, d, e, f => absK_key l (by simpa using e) (by simpa using f)
theorem AbsK.len {G : Gv} {H : Hp} {kvs : List (Key × V)} {ds : List (D × D)} (h : AbsK G H kvs ds) : kvs.length = ds.length := h.length
theorem itd_keysK {H0 : Hp} {d : Addr} {o : Obj} {kvs : List (Key × V)} {l : List (D × D)} (r : H0 d = some (.frz o (.dK kvs))) (q : AbsK (Gx X) H0 kvs l) : ItD (Gx X) (Itk d o kvs) (.val (l.map (·.1))) H0 where
  go := fun i H M e _ _ hi => ⟨e.2 _ _ _ r, by rw [q.len]; simpa [Src.items] using hi⟩
  yld := fun i H M x H' e hm _ y d' hd => by
    obtain ⟨rfl, k, v, h1, rfl⟩ := y
    exact ⟨Ext.refl _, (absK_key q h1 hd).ext e, hm⟩
  stop := fun i H M e _ _ hi => ⟨e.2 _ _ _ r, by rw [q.len]; simpa [Src.items] using Nat.le_of_eq hi⟩
/-- the keys of a frozen dict with tuple keys -/
def Itn (P : Program) (w : World) (d : Addr) (o : Obj) (xs : List (NestedKey × Addr × V)) : L2.It :=
  ⟨fun i H => H d = some (.frz o (ndO P w d xs)) ∧ i < xs.length, fun i H x H' => H' = H ∧ ∃ p, xs[i]? = some p ∧ x = .ref p.2.1, fun i H => H d = some (.frz o (ndO P w d xs)) ∧ xs.length ≤ i⟩
theorem frzN {pins : List (Addr × Obj)} {σ : St} {H : Hp} {s : Shared} {d : Addr} {o : Obj} {xs : List (NestedKey × Addr × V)} (I : Inv X pins σ H s) (h : H d = some (.frz o (ndO X.prog X.w d xs))) :
    (d == sysModules) = false ∧ s.heap.get? d = some o ∧ o.ExactDict ∧ ∃ (es : Array DictEntry) (ep : Nat), o.data = .dict es ep ∧ es.size = xs.length ∧ ∀ (i : Nat) (p : NestedKey × Addr × V), xs[i]? = some p → ∃ en, es[i]? = some en ∧ en.key = .ref p.2.1 := by
  obtain ⟨hd, n, _, _⟩ := I.hok d _ h
  obtain ⟨z, hs, vs, r, o', es, ep, ho, hx, hdt, he, _⟩ := n
  rw [hd] at ho
  cases ho
  refine ⟨hs, hd, hx, es, ep, hdt, ?_, fun i p e => ?_⟩
  · have l1 : es.size = vs.length := by rw [← Array.length_toList, he, List.length_map]
    have l2 : xs.length = vs.length := Paired.length r
    omega
  · obtain ⟨b, hb, e1, e2, _⟩ := L2.paired_get r e
    have q : es[i]? = some (entryOfKey (nestedKind X.prog X.w) b) := by
      rw [← Array.getElem?_toList, he, List.getElem?_map, hb]; rfl
    exact ⟨_, q, by rw [e2]; rfl⟩
theorem turn_keysN {P : Program} {w : World} {K : PySem.W.Frag} {tg : Expr} {d : Addr} {o : Obj} {es : Array DictEntry} {ep : Nat} {xs : List (NestedKey × Addr × V)} (it : Addr) (hod : o.data = .dict es ep) :
    Turn P w K tg (Itn P w d o xs) [it] it (fun i h => h.IsKeyIter it d i xs.length ep) where
  mem := by simp
  obj := fun i h st b hb => by
    rw [List.mem_singleton] at hb
    subst hb
    obtain ⟨oi, e, c, dd⟩ := st
    exact ⟨oi, e, fun v z => by rw [dd] at z; cases z⟩
  keep := fun i h h' st k => st.at fun oi e => k it (by simp) oi e
  item := fun X hP hw hK hc i pins s σ H E I hf st hg => by
    subst hP; subst hw; subst hK
    obtain ⟨f0, f1, f2, f3, f4, f5⟩ := hf it (by simp)
    obtain ⟨hs, hgd, hx, es', ep', hdt, hsz, ent⟩ := frzN I hg.1
    obtain ⟨rfl, rfl⟩ := dict_ep hod hdt
    obtain ⟨p, hp⟩ : ∃ p, xs[i]? = some p := ⟨_, List.getElem?_eq_getElem hg.2⟩
    obtain ⟨en, hen, hkey⟩ := ent i p hp
    refine next_key_item st hgd hdt hsz hen fun h' st' sb => ⟨en.key, rfl, ?_⟩
    have I1 := I.turned (t' := s.toks) (h' := h') (fun b ob hb e => (sb.2 b hb).trans e) f0 f1 f3 f4 f5
    have st2 := st'
    obtain ⟨oi, e, c, dd⟩ := st2
    exact go_of (s := { s with heap := h' }) e c dd (by decide) ⟨.ref p.2.1, H, I1, hkey, ⟨rfl, p, hp, rfl⟩, st', fun b hb => (hf b hb).1⟩
  done := fun X hP hw hK hc i pins s σ H E I hf st hg => by
    subst hP; subst hw; subst hK
    obtain ⟨f0, f1, f2, f3, f4, f5⟩ := hf it (by simp)
    obtain ⟨hs, hgd, hx, es', ep', hdt, hsz, ent⟩ := frzN I hg.1
    obtain ⟨rfl, rfl⟩ := dict_ep hod hdt
    exact next_key_end (I.ok.hd hc) st hgd hdt hsz hg.2 fun h' eb => ⟨rfl, I.turned (t' := s.toks) (h' := h') (fun b ob hb e => eb b ob hb e) f0 f1 f3 f4 f5⟩
  self := fun A i s Q E st h => (turn_keysT (P := P) (w := w) (K := K) (tg := tg) (o := o) (kvs := List.replicate xs.length ([], V.non)) it hod).self A i s Q E (by rw [List.length_replicate]; exact st) h
theorem absN_key {G : Gv} {H : Hp} : ∀ {xs : List (NestedKey × Addr × V)} {ds : List (D × D)}, AbsN G H xs ds → ∀ {i : Nat} {p : NestedKey × Addr × V} {d : D}, xs[i]? = some p → (ds.map (·.1))[i]? = some d → Abs G H (.ref p.2.1) d
  | _, _, .nil, i, p, d, e, f => by simp at e
  | _, _, .cons k z a b l, 0, p, d, e, f => by
    simp only [List.getElem?_cons_zero, Option.some.injEq, List.map_cons] at e f
    subst e; subst f; exact a
  | _, _, .cons k z a b l, i + 1, p, d, e, f => absN_key l (by simpa using e) (by simpa using f)
theorem itd_keysN {H0 : Hp} {d : Addr} {o : Obj} {xs : List (NestedKey × Addr × V)} {l : List (D × D)} (r : H0 d = some (.frz o (ndO X.prog X.w d xs))) (q : AbsN (Gx X) H0 xs l) : ItD (Gx X) (Itn X.prog X.w d o xs) (.val (l.map (·.1))) H0 where
  go := fun i H M e _ _ hi => ⟨e.2 _ _ _ r, by rw [q.length]; simpa [Src.items] using hi⟩
  yld := fun i H M x H' e hm _ y d' hd => by
    obtain ⟨rfl, p, h1, rfl⟩ := y
    exact ⟨Ext.refl _, (absN_key q h1 hd).ext e, hm⟩
  stop := fun i H M e _ _ hi => ⟨e.2 _ _ _ r, by rw [q.length]; simpa [Src.items] using Nat.le_of_eq hi⟩
theorem itd_str {H0 : Hp} {x : Str} (ok : PyData.strOk x = true) : ItD (Gx X) (Its x) (.val (signs x)) H0 where
  go := fun i H M e _ _ hi => by
    have hi : i < (signs x).length := hi
    show i < x.cps.size
    simpa [signs] using hi
  yld := fun i H M v H' e hm _ y d' hd => by
    obtain ⟨rfl, c, h1, rfl⟩ := y
    have hd : (signs x)[i]? = some d' := hd
    unfold signs at hd
    rw [List.getElem?_map, Array.getElem?_toList, h1] at hd
    cases hd
    refine ⟨Ext.refl _, .str _ ?_, hm⟩
    unfold PyData.strOk at ok ⊢
    have := Array.all_eq_true'.mp ok c (Array.mem_of_getElem? h1)
    simpa using this
  stop := fun i H M e _ _ hi => by
    have hi : (signs x).length ≤ i := Nat.le_of_eq hi
    show x.cps.size ≤ i
    simpa [signs] using hi
/-- what srcOf says is walked -/
theorem pi_src {tg e : Expr} {t : DTE} (he : PE X e (lE (Gx X) t)) : PI X tg e (lI (Gx X) fun σ M Q => t σ M fun d M1 => match srcOf M1 d with
    | some src => Q src M1
    | none => False) := by
  refine ⟨fun pins s σ H R I h => ?_⟩
  obtain ⟨σd, M, Qs, sim, ht, hR⟩ := h
  refine thn (he.run pins s σ H (fun v H1 => ∃ d M1, Ext H H1 ∧ Abs (Gx X) H1 v d ∧ HAbs (Gx X) H1 M1 ∧ (match srcOf M1 d with
    | some src => Qs src M1
    | none => False)) I ⟨σd, M, _, sim, ht, fun d M1 v H1 q x a hm => ⟨d, M1, x, a, hm, q⟩⟩) fun v s1 ⟨x, H1, I1, r1, d, M1, xt, ab, hm, q⟩ => ?_
  cases ab with
  | tup r l =>
    cases r1
    obtain ⟨its, rv, p, hz⟩ := I1.tuple r
    exact wpAny_pyIter_tuple (show s1.heap.IsTuple _ its.toArray from p) (pi_one (tk := s1.toks) I1 _ (turn_tuple _ _) ⟨_, Heap.get?_push_size _ rfl, rfl, rfl⟩ (hR _ _ _ _ q xt hm (itd_tup r l)))
  | lst r l =>
    cases r1
    obtain ⟨its, rv, p, hz⟩ := I1.list r.sq
    exact wpAny_pyIter_list p.isList (pi_one (tk := s1.toks) I1 _ (turn_list _ _) ⟨_, Heap.get?_push_size _ rfl, rfl, rfl⟩ (hR _ _ _ _ q xt hm (itd_list r l)))
  | ref p =>
    cases r1
    simp only [srcOf] at q
    cases z : M1 p with
    | none => rw [z] at q; exact q.elim
    | some o =>
      rw [z] at q
      cases o with
      | dct _ => exact q.elim
      | ins _ _ => exact q.elim
      | lst l =>
        have z' := z
        cases hm p _ z with
        | lst r l' =>
          obtain ⟨its, rv, pp, hz⟩ := I1.list (.inl (.inl r))
          exact wpAny_pyIter_list pp.isList (pi_one (tk := s1.toks) I1 _ (turn_list _ _) ⟨_, Heap.get?_push_size _ rfl, rfl, rfl⟩ (hR _ _ _ _ q xt hm itd_ref))
  | dK r l =>
    cases r1
    obtain ⟨hs, hgd, hx, es, ep, vs, hdt, hsz, kv, hm'⟩ := I1.frzK r
    refine iter_keys hs hgd hx hdt (pi_one (tk := s1.toks) I1 _ (turn_keys _ hdt) ⟨_, Heap.get?_push_size _ rfl, rfl, ?_⟩ (hR _ _ _ _ q xt hm (itd_keysK r l)))
    rw [hsz] <;> rfl
  | dN r l =>
    cases r1
    obtain ⟨hs, hgd, hx, es, ep, hdt, hsz, ent⟩ := frzN I1 r
    refine iter_keys hs hgd hx hdt (pi_one (tk := s1.toks) I1 _ (turn_keysN _ hdt) ⟨_, Heap.get?_push_size _ rfl, rfl, ?_⟩ (hR _ _ _ _ q xt hm (itd_keysN r l)))
    rw [hsz] <;> rfl
  | str x ok =>
    obtain ⟨t, rfl⟩ := r1
    cases ha : x.cps.all (· < 128)
    · exact wpAny_pyIter_wide ha (pi_one (tk := s1.toks) I1 _ (turn_str _ x t "str_iterator" (.inr rfl)) ⟨_, Heap.get?_push_size _ rfl, rfl, rfl⟩ (hR _ _ _ _ q xt hm (itd_str ok)))
    · exact wpAny_pyIter_ascii ha (pi_one (tk := s1.toks) I1 _ (turn_str _ x t "str_ascii_iterator" (.inl rfl)) ⟨_, Heap.get?_push_size _ rfl, rfl, rfl⟩ (hR _ _ _ _ q xt hm (itd_str ok)))
  | _ => exact q.elim

/-! ### pieces -/
theorem de_var (o : Ok X sc N fa k) {i : Nat} {x : Str} {pos : Pos} (h1 : N[i]? = some x) (h2 : visB sc x = true) (h3 : (x == ("__debug__" : Str)) = false) (h4 : (x == ("__classdict__" : Str)) = false) : PE X (.Name x pos) (lE (Gx X) (dVar i)) := by
  refine PE.imp (pe_var (i := i) (by rw [o.hN]; exact h1) (vis_of o h2) h3 h4) fun σ H Q ⟨σd, M, Qd, sim, q, up⟩ => ?_
  unfold dVar at q
  split at q
  · obtain ⟨v, e, a⟩ := sim.at_ i _ (by assumption)
    exact ⟨v, e, up _ _ _ _ q (Ext.refl H) a sim.heap⟩
  · exact q.elim
theorem de_bin {a b : Expr} {op : Operator} {pos : Pos} {ta tb : DTE} (ha : PE X a (lE (Gx X) ta)) (hb : PE X b (lE (Gx X) tb)) : PE X (.BinOp a op b pos) (lE (Gx X) fun σ M Q => ta σ M fun x M1 => tb σ M1 fun y M2 => dBin op x y M2 Q) := by
  refine PE.imp (pe_op (dop_bin op) ha hb) fun σ H Q ⟨σd, M, Qd, sim, q, up⟩ => ?_
  refine lE_then sim q fun d M1 v H1 q1 e1 a1 s1 => ?_
  refine lE_then s1 q1 fun d2 M2 v2 H2 q2 e2 a2 s2 => ?_
  exact ⟨d, d2, M2, Qd, a1.ext e2, a2, s2.heap, q2, (up.ext e1).ext e2⟩
theorem de_cmp (o : Ok X sc N fa k) {a b : Expr} {op : CmpOp} {pos : Pos} {ta tb : DTE} (ha : PE X a (lE (Gx X) ta)) (hb : PE X b (lE (Gx X) tb)) (h : hd b = true) : PE X (.Compare a [op] [b] pos) (lE (Gx X) fun σ M Q => ta σ M fun x M1 => tb σ M1 fun y M2 => fCmp op x y M2 Q) := by
  refine PE.imp (pe_cmpR (fop_cmp o.hu op) ha hb (mark_of h op)) fun σ H Q ⟨σd, M, Qd, sim, q, up⟩ => ?_
  refine lE_then sim q fun d M1 v H1 q1 e1 a1 s1 => ?_
  refine lE_then s1 q1 fun d2 M2 v2 H2 q2 e2 a2 s2 => ?_
  exact ⟨d, d2, M2, Qd, a1.ext e2, a2, s2.heap, q2, (up.ext e1).ext e2⟩
theorem bl_abs {G : Gv} {H : Hp} {v : V} {b : Bool} (a : Abs G H v (.bl b)) : v = .bl b := by cases a; rfl
theorem dt_cmp (o : Ok X sc N fa k) {a b : Expr} {op : CmpOp} {pos : Pos} {ta tb : DTE} (ha : PE X a (lE (Gx X) ta)) (hb : PE X b (lE (Gx X) tb)) (h : hd b = true) : PT X (.Compare a [op] [b] pos) (lT (Gx X) (dB fun σ M Q => ta σ M fun x M1 => tb σ M1 fun y M2 => fCmp op x y M2 Q)) := by
  refine PT.imp (pt_cmpR (fop_cmp o.hu op) ha hb (mark_of h op)) fun σ H Q ⟨σd, M, Qd, sim, q, up⟩ => ?_
  refine lE_then sim q fun d M1 v H1 q1 e1 a1 s1 => ?_
  refine lE_then s1 q1 fun d2 M2 v2 H2 q2 e2 a2 s2 => ?_
  refine ⟨d, d2, M2, _, a1.ext e2, a2, s2.heap, q2, fun r M3 v3 H3 q3 e3 a3 hm3 => ?_⟩
  cases r with
  | bl b => exact ⟨b, bl_abs a3, up _ _ _ q3 ((e1.trans e2).trans e3) hm3⟩
  | _ => exact q3.elim
theorem dt_val {e : Expr} {t : DTE} (h : PE X e (lE (Gx X) t)) (he : ∀ whole, isTrue e X.env whole = (do let v ← whole; standAt e.pos; holding [v] (truthy v))) : PT X e (lT (Gx X) (dB t)) := by
  refine PT.imp (pt_val h he) fun σ H Q ⟨σd, M, Qd, sim, q, up⟩ => ?_
  refine lE_then sim q fun d M1 v H1 q1 e1 a1 s1 => ?_
  cases d with
  | bl b => exact ⟨b, bl_abs a1, up _ _ _ q1 e1 s1.heap⟩
  | _ => exact q1.elim
def dChain (o1 o2 : CmpOp) (ta tb tc : DTE) : DTE := fun σ M Q => ta σ M fun x M1 => tb σ M1 fun y M2 => fCmp o1 x y M2 fun r M3 => match r with
  | .bl k => if k = true then tc σ M3 fun z M4 => fCmp o2 y z M4 Q else Q (.bl false) M3
  | _ => False
theorem chain_imp {o1 o2 : CmpOp} {ta tb tc : DTE} {σ : St} {H : Hp} {Q : VK} (h : lE (Gx X) (dChain o1 o2 ta tb tc) σ H Q) : tChain (lOp (Gx X) (fCmp o1)) (lOp (Gx X) (fCmp o2)) (lE (Gx X) ta) (lE (Gx X) tb) (lE (Gx X) tc) σ H Q := by
  obtain ⟨σd, M, Qd, sim, q, up⟩ := h
  refine lE_then sim q fun d M1 v H1 q1 e1 a1 s1 => ?_
  refine lE_then s1 q1 fun d2 M2 v2 H2 q2 e2 a2 s2 => ?_
  refine ⟨d, d2, M2, _, a1.ext e2, a2, s2.heap, q2, fun r M3 v3 H3 q3 e3 a3 hm3 => ?_⟩
  cases r with
  | bl b =>
    refine ⟨b, bl_abs a3, ?_⟩
    cases b with
    | true =>
      rw [if_pos rfl]
      simp only [if_true] at q3
      refine lE_then (s2.ext e3 hm3) q3 fun d4 M4 v4 H4 q4 e4 a4 s4 => ?_
      exact ⟨d2, d4, M4, Qd, (a2.ext e3).ext e4, a4, s4.heap, q4, (((up.ext e1).ext e2).ext e3).ext e4⟩
    | false =>
      rw [if_neg Bool.false_ne_true]
      simp only [Bool.false_eq_true, if_false] at q3
      exact up _ _ _ _ q3 ((e1.trans e2).trans e3) (.bl _) hm3
  | _ => exact q3.elim
theorem de_chain (o : Ok X sc N fa k) {a b c : Expr} {o1 o2 : CmpOp} {pos : Pos} {ta tb tc : DTE} (ha : PE X a (lE (Gx X) ta)) (hb : PE X b (lE (Gx X) tb)) (hc : PE X c (lE (Gx X) tc)) (h1 : hd b = true) (h2 : hd c = true) : PE X (.Compare a [o1, o2] [b, c] pos) (lE (Gx X) (dChain o1 o2 ta tb tc)) :=
  PE.imp (pe_chain (fop_cmp o.hu o1) (fop_cmp o.hu o2) ha hb hc (by show behindInMarks o2 c = false; exact mark_of h2 o2)) fun σ H Q h => chain_imp h
theorem dt_chain (o : Ok X sc N fa k) {a b c : Expr} {o1 o2 : CmpOp} {pos : Pos} {ta tb tc : DTE} (ha : PE X a (lE (Gx X) ta)) (hb : PE X b (lE (Gx X) tb)) (hc : PE X c (lE (Gx X) tc)) (h1 : hd b = true) (h2 : hd c = true) : PT X (.Compare a [o1, o2] [b, c] pos) (lT (Gx X) (dB (dChain o1 o2 ta tb tc))) :=
  PT.imp (pt_chain (fop_cmp o.hu o1) (fop_cmp o.hu o2) ha hb hc (by show behindInMarks o2 c = false; exact mark_of h2 o2)) fun σ H Q ⟨σd, M, Qd, sim, q, up⟩ => by
    refine chain_imp ⟨σd, M, _, sim, q, fun d M' v H' q' e a hm => ?_⟩
    cases d with
    | bl b => exact ⟨b, bl_abs a, up _ _ _ q' e hm⟩
    | _ => exact q'.elim
theorem de_not {a : Expr} {pos : Pos} {ta : DTE} (ha : PE X a (lE (Gx X) ta)) : PE X (.UnaryOp .Not a pos) (lE (Gx X) fun σ M Q => ta σ M fun d M1 => match d with
    | .bl b => Q (.bl (!b)) M1
    | _ => False) := by
  refine PE.imp (pe_not ha) fun σ H Q ⟨σd, M, Qd, sim, q, up⟩ => ?_
  refine lE_then sim q fun d M1 v H1 q1 e1 a1 s1 => ?_
  cases d with
  | bl b => exact ⟨b, bl_abs a1, up _ _ _ _ q1 e1 (.bl _) s1.heap⟩
  | _ => exact q1.elim
theorem de_ife {c a b : Expr} {pos : Pos} {tc : DTT} {ta tb : DTE} (hc : PT X c (lT (Gx X) tc)) (ha : PE X a (lE (Gx X) ta)) (hb : PE X b (lE (Gx X) tb)) : PE X (.IfExp c a b pos) (lE (Gx X) fun σ M Q => tc σ M fun k M1 => if k = true then ta σ M1 Q else tb σ M1 Q) := by
  refine PE.imp (pe_ifExp hc ha hb) fun σ H Q ⟨σd, M, Qd, sim, q, up⟩ => ?_
  refine lT_then sim q fun b M1 H1 q1 e1 s1 => ?_
  cases b with
  | true =>
    rw [if_pos rfl]
    simp only [if_true] at q1
    exact ⟨σd, M1, Qd, s1, q1, up.ext e1⟩
  | false =>
    rw [if_neg Bool.false_ne_true]
    simp only [Bool.false_eq_true, if_false] at q1
    exact ⟨σd, M1, Qd, s1, q1, up.ext e1⟩
theorem de_tup {es : List Expr} {j : Nat} {pos : Pos} {t : DTA} (h : PA X es (lA (Gx X) t)) : PE X (.Tuple es j pos) (lE (Gx X) fun σ M Q => t σ M fun ds M1 => ds.length ≤ sizeLine ∧ Q (.tup ds) M1) := by
  refine PE.imp (pe_tup h) fun σ H Q ⟨σd, M, Qd, sim, q, up⟩ => ?_
  refine lA_then sim q fun ds M1 vs H1 q1 e1 a1 s1 => ?_
  refine ⟨by rw [a1.length]; exact q1.1, fun p hp => ?_⟩
  exact up _ _ _ _ q1.2 (e1.trans (Ext.new hp)) (.tup (SqT.of upd_same) (a1.ext (Ext.new hp))) (s1.heap.newH hp)
/-- what has come may be frozen -/
theorem PE.post {e : Expr} {t : TE} (h : PE X e t) {t' : TE} (i : ∀ σ H Q, t' σ H Q → t σ H fun v H1 => Q v H1 ∨ ∃ p u, H1 p = some u ∧ Mut (some u) ∧ ∀ o, Q v (upd H1 p (.frz o u))) : PE X e t' := ⟨fun pins s σ H Q I q => by
  refine thn (h.run pins s σ H _ I (i σ H Q q)) fun u s1 ⟨v, H1, I1, r, q1⟩ => ?_
  rcases q1 with q1 | ⟨p, u', hp, mu, q1⟩
  · exact ⟨v, H1, I1, r, q1⟩
  · obtain ⟨od, I2⟩ := I1.lock hp mu
    exact ⟨v, _, I2, r, q1 od⟩⟩
theorem HAbs.del {G : Gv} {H : Hp} {M : Mp} (h : HAbs G H M) (p : Addr) (u : HO) {u0 : HO} (e0 : H p = some u0) (mu : Mut (some u0)) : HAbs G (upd H p u) (delM M p) := fun a q e => by
  unfold delM at e
  by_cases z : a = p
  · rw [if_pos z] at e; cases e
  · rw [if_neg z] at e
    exact (h a q e).ext (Ext.put e0 mu) (upd_ne z)
theorem fz_post {H H1 : Hp} {d : D} {M1 : Mp} {v : V} {Qd : DK} {Q : VK} (e1 : Ext H H1) (a1 : Abs (Gx X) H1 v d) (hm : HAbs (Gx X) H1 M1) (q : fzK Qd d M1) (up : Up (Gx X) H Qd Q) : Q v H1 ∨ ∃ p u, H1 p = some u ∧ Mut (some u) ∧ ∀ o, Q v (upd H1 p (.frz o u)) := by
  cases d with
  | ref p =>
    cases a1
    simp only [fzK] at q
    cases z : M1 p with
    | none => rw [z] at q; exact q.elim
    | some o =>
      rw [z] at q
      refine .inr ⟨p, ?_⟩
      cases o with
      | lst l =>
        have z' := hm p _ z
        cases z' with
        | @lst ws _ r t =>
          refine ⟨_, r, trivial, fun o => ?_⟩
          have x : Ext H1 (upd H1 p (.frz o (.lst ws))) := Ext.put r trivial
          exact up _ _ _ _ q (e1.trans x) (.lst (.inl ⟨o, upd_same⟩) (t.ext x)) (hm.del p _ r trivial)
      | dct l =>
        have z' := hm p _ z
        cases z' with
        | @dK ws _ r t =>
          refine ⟨_, r, trivial, fun o => ?_⟩
          have x : Ext H1 (upd H1 p (.frz o (.dK ws))) := Ext.put r trivial
          exact up _ _ _ _ q (e1.trans x) (.dK upd_same (t.ext x)) (hm.del p _ r trivial)
        | @dN ws _ r t =>
          refine ⟨_, r, trivial, fun o => ?_⟩
          have x : Ext H1 (upd H1 p (.frz o (ndO X.prog X.w p ws))) := Ext.put r trivial
          exact up _ _ _ _ q (e1.trans x) (.dN upd_same (t.ext x)) (hm.del p _ r trivial)
      | ins _ _ => exact q.elim
  | _ => exact .inl (up _ _ _ _ q e1 a1 hm)
theorem de_fz {e : Expr} {t : DTE} (h : PE X e (lE (Gx X) t)) : PE X e (lE (Gx X) fun σ M Q => t σ M (fzK Q)) := by
  refine PE.post h fun σ H Q ⟨σd, M, Qd, sim, q, up⟩ => ?_
  exact lE_then sim q fun d M1 v H1 q1 e1 a1 s1 => fz_post e1 a1 s1.heap q1 up
/-- a new list, to be written or not -/
theorem mkL_post {H1 : Hp} {ds : List D} {vs : List V} {M1 : Mp} {frz : Bool} {Qd : DK} {Q : VK} {p : Addr} (hp : H1 p = none) (a1 : AbsL (Gx X) H1 vs ds) (hm : HAbs (Gx X) H1 M1) (q : mkL frz ds M1 Qd) (up : Up (Gx X) H1 Qd Q) :
    (fun (v : V) (H2 : Hp) => Q v H2 ∨ ∃ p u, H2 p = some u ∧ Mut (some u) ∧ ∀ o, Q v (upd H2 p (.frz o u))) (.ref p) (upd H1 p (.lst vs)) := by
  have x : Ext H1 (upd H1 p (.lst vs)) := Ext.new hp
  cases frz with
  | false => exact .inl (up _ _ _ _ (q p (hm.none hp)) x (.ref _) (hm.new hp (.lst upd_same (a1.ext x))))
  | true =>
    refine .inr ⟨p, _, upd_same, trivial, fun o => ?_⟩
    rw [upd_upd]
    have x2 : Ext H1 (upd H1 p (.frz o (.lst vs))) := Ext.new hp
    exact up _ _ _ _ q x2 (.lst (.inl ⟨o, upd_same⟩) (a1.ext x2)) (hm.newH hp)
theorem de_lst {es : List Expr} {pos : Pos} {f : Bool} {t : DTA} (h : PA X es (lA (Gx X) t)) : PE X (.List es pos) (lE (Gx X) fun σ M Q => t σ M fun ds M1 => ds.length ≤ sizeLine ∧ mkL f ds M1 Q) := by
  refine PE.post (pe_lst h) fun σ H Q ⟨σd, M, Qd, sim, q, up⟩ => ?_
  refine lA_then sim q fun ds M1 vs H1 q1 e1 a1 s1 => ?_
  exact ⟨by rw [a1.length]; exact q1.1, fun p hp => mkL_post hp a1 s1.heap q1.2 (up.ext e1)⟩
theorem de_idx (o : Ok X sc N fa k) {a b : Expr} {pos : Pos} {ta tb : DTE} (ha : PE X a (lE (Gx X) ta)) (hb : PE X b (lE (Gx X) tb)) (h : hd b = true) : PE X (.Subscript a b pos) (lE (Gx X) fun σ M Q => ta σ M fun x M1 => tb σ M1 fun y M2 => fIx x y M2 Q) := by
  refine PE.imp (pe_ix (ix_d o.hu) ha hb (plain_of h)) fun σ H Q ⟨σd, M, Qd, sim, q, up⟩ => ?_
  refine lE_then sim q fun d M1 v H1 q1 e1 a1 s1 => ?_
  refine lE_then s1 q1 fun d2 M2 v2 H2 q2 e2 a2 s2 => ?_
  exact ⟨d, d2, M2, Qd, a1.ext e2, a2, s2.heap, fIx_d q2, (up.ext e1).ext e2⟩
/-- a slice's bound -/
abbrev DTO := Sd → Mp → (Option Int → Mp → Prop) → Prop
def lO (G : Gv) (t : DTO) : TO := fun σ H Q => ∃ σd M Qd, Sim G H σ σd M ∧ t σd M Qd ∧ ∀ i M' H', Qd i M' → Ext H H' → HAbs G H' M' → Q i H'
theorem PO.imp {e : Option Expr} {t t' : TO} (h : PO X e t) (i : ∀ σ H Q, t' σ H Q → t σ H Q) : PO X e t' := ⟨fun pins s σ H Q I q => h.run pins s σ H Q I (i σ H Q q)⟩
theorem do_none : PO X none (lO (Gx X) fun _ M Q => Q none M) := PO.imp po_none fun σ H Q ⟨σd, M, Qd, sim, q, up⟩ => up _ _ _ q (Ext.refl H) sim.heap
theorem do_some {e : Expr} {t : DTE} (h : PE X e (lE (Gx X) t)) : PO X (some e) (lO (Gx X) fun σ M Q => t σ M fun d M1 => match d with
    | .int i => Q (some i) M1
    | _ => False) := by
  refine PO.imp (po_some h) fun σ H Q ⟨σd, M, Qd, sim, q, up⟩ => ?_
  refine lE_then sim q fun d M1 v H1 q1 e1 a1 s1 => ?_
  cases d with
  | int i => cases a1; exact ⟨i, rfl, up _ _ _ q1 e1 s1.heap⟩
  | _ => exact q1.elim
theorem de_slc {e : Expr} {lo hi : Option Expr} {p2 pos : Pos} {t : DTE} {tl th : DTO} (he : PE X e (lE (Gx X) t)) (hl : PO X lo (lO (Gx X) tl)) (hh : PO X hi (lO (Gx X) th)) : PE X (.Subscript e (.Slice lo hi none p2) pos) (lE (Gx X) fun σ M Q => t σ M fun x M1 => tl σ M1 fun l M2 => th σ M2 fun h M3 => dSl x l h M3 Q) := by
  refine PE.imp (pe_slice sl_d he hl hh) fun σ H Q ⟨σd, M, Qd, sim, q, up⟩ => ?_
  refine lE_then sim q fun d M1 v H1 q1 e1 a1 s1 => ?_
  refine ⟨σd, M1, _, s1, q1, fun l M2 H2 q2 e2 hm2 => ⟨σd, M2, _, s1.ext e2 hm2, q2, fun h M3 H3 q3 e3 hm3 => ?_⟩⟩
  exact ⟨d, M3, Qd, (a1.ext e2).ext e3, hm3, q3, ((up.ext e1).ext e2).ext e3⟩
theorem da_nil : PA X [] (lA (Gx X) fun _ M Q => Q [] M) := PA.imp pa_nil fun σ H Q ⟨σd, M, Qd, sim, q, up⟩ => up _ _ _ _ q (Ext.refl H) .nil sim.heap
theorem da_cons {e : Expr} {es : List Expr} {t : DTE} {ts : DTA} (h : PE X e (lE (Gx X) t)) (hs : PA X es (lA (Gx X) ts)) (hh : hd e = true) : PA X (e :: es) (lA (Gx X) fun σ M Q => t σ M fun d M1 => ts σ M1 fun ds M2 => Q (d :: ds) M2) := by
  refine PA.imp (pa_cons h hs (star_of hh es X.env)) fun σ H Q ⟨σd, M, Qd, sim, q, up⟩ => ?_
  refine lE_then sim q fun d M1 v H1 q1 e1 a1 s1 => ?_
  refine lA_then s1 q1 fun ds M2 vs H2 q2 e2 a2 s2 => ?_
  exact up _ _ _ _ q2 (e1.trans e2) (.cons (a1.ext e2) a2) s2.heap
theorem de_callB {id : String} {x : Str} {e : Expr} {es : List Expr} {p pos : Pos} {r : DRn} {t : DTA} (hc : DCall X (.builtin id) r) (hg : Gl X x) (hdb : (x == ("__debug__" : Str)) = false) (hm : X.mg x = none) (hv : bootBuiltins x = some (.builtin id)) (hn : x ≠ "__name__") (ha : PA X (e :: es) (lA (Gx X) t)) (hh : hd e = true) (hpl : (backTo pos (starEach es X.env)).any (·.1) = false) :
    PE X (.Call (.Name x p) (e :: es) [] pos) (lE (Gx X) fun σ M Q => t σ M fun ds M1 => r ds M1 Q) := by
  refine PE.imp (pe_callB hc hg hm hv ha hn hdb (star_of hh es X.env) hpl) fun σ H Q ⟨σd, M, Qd, sim, q, up⟩ => ?_
  exact lA_then sim q fun ds M1 vs H1 q1 e1 a1 s1 => ⟨ds, M1, Qd, a1, s1.heap, q1, up.ext e1⟩
theorem de_callTy {T : String} {x : Str} {e : Expr} {es : List Expr} {p pos : Pos} {r : DRn} {t : DTA} (hc : DCall X (.type T) r) (hg : Gl X x) (hdb : (x == ("__debug__" : Str)) = false) (hm : X.mg x = none) (hv : bootBuiltins x = some (.type T)) (hn : x ≠ "__name__") (ha : PA X (e :: es) (lA (Gx X) t)) (hh : hd e = true) (hpl : (backTo pos (starEach es X.env)).any (·.1) = false) :
    PE X (.Call (.Name x p) (e :: es) [] pos) (lE (Gx X) fun σ M Q => t σ M fun ds M1 => r ds M1 Q) := by
  refine PE.imp (pe_callTy hc hg hm hv ha hn hdb (star_of hh es X.env) hpl) fun σ H Q ⟨σd, M, Qd, sim, q, up⟩ => ?_
  exact lA_then sim q fun ds M1 vs H1 q1 e1 a1 s1 => ⟨ds, M1, Qd, a1, s1.heap, q1, up.ext e1⟩
end
end Dy
end
section
set_option Elab.async false
set_option linter.all false
set_option maxRecDepth 100000
set_option maxHeartbeats 4000000
/-! The D layer, 7b: enumerate over the keys of a frozen dict; values and items of one. -/
namespace PySem
open Sem (wp)
set_option maxHeartbeats 1000000 in
theorem dy_meets_enum1 {v : Value} {o : Obj} {Hs : Heap → Prop} (B : Begins v o Hs) :
    Meets (Builtin.«enumerate.__new__» ⟨[.type "enumerate", v], []⟩) (fun _ R s => Hs s.heap ∧ R (.ok (.ret (.ref (s.heap.push o).objs.size))) { s with heap := (s.heap.push o).push { cls := .type "enumerate", data := .fields #[.none, .bool false, .ref s.heap.objs.size, rawInt 0, .none, .none] } }) :=
  .of_wp fun prog w A R s h => by
    obtain ⟨hp, g, d, tk, os⟩ := s; obtain ⟨h1, h⟩ := h
    have isE := sub_enumerate
    have q1 : ∀ {A' : Around} {E : Value → Shared → Prop} {Q : Value → Shared → Prop}, Q (.ref hp.objs.size) ⟨hp.push o, g, d, tk, os⟩ → wpAny (model prog w) A' (pyIter v) Q E ⟨hp, g, d, tk, os⟩ := fun q => B.iter prog w _ _ ⟨hp, g, d, tk, os⟩ _ h1 q
    wp_walk using q1
    refine wpAny_stack_any fun st => wpAny_pure ?_
    split
    · rename_i c _ _ _ _ _; cases (c == Value.type "enumerate") <;> (wp_walk using q1; exact ⟨_, rfl, h⟩)
    · wp_walk using q1; exact ⟨_, rfl, h⟩
theorem dy_enum1 {prog : Program} {w : World} {A : Around} {E : Value → Shared → Prop} {s : Shared} {v : Value} {o : Obj} {Hs : Heap → Prop} {Q : Value → Shared → Prop} (B : Begins v o Hs) (h1 : Hs s.heap)
    (h : ∀ h', IsEnum h' (s.heap.objs.size + 1) s.heap.objs.size 0 .none → h'.get? s.heap.objs.size = some o → h'.objs.size = s.heap.objs.size + 2 → (∀ b ob, s.heap.get? b = some ob → h'.get? b = some ob) → Q (.ref (s.heap.objs.size + 1)) { s with heap := h' }) :
    wpAny (model prog w) A (call (.type "enumerate") [v]) Q E s := by
  have z1 : (s.heap.push o).objs.size = s.heap.objs.size + 1 := Heap.size_push ..
  have e1 := Heap.get?_push_size (s.heap.push o) (o := { cls := .type "enumerate", data := .fields #[.none, .bool false, .ref s.heap.objs.size, rawInt 0, .none, .none] }) rfl
  rw [z1] at e1
  refine callType_new F.called_enumerate (by decide) (F.typeCall_enumerate_1 _) (F.newCall_enumerate_1 _) (fun obj => F.args_object_init_2 obj _) F.entry_enumerate_new (dy_meets_enum1 B) ⟨h1, ?_⟩
  show _ ∧ _
  rw [z1]
  exact ⟨⟨_, e1, rfl⟩, h _ e1 (Heap.get?_push_of_some _ (Heap.get?_push_size _ B.free)) (by rw [Heap.size_push, z1]) fun b ob x => Heap.get?_push_of_some _ (Heap.get?_push_of_some _ x)⟩
end PySem
namespace Dy
open PySem PySem.Spec L2
open PyProof.Rows hiding St

theorem begins_keys {d : Addr} {od : Obj} {es : Array DictEntry} {ep : Nat} (hs : (d == sysModules) = false) (hx : od.ExactDict) (hdd : od.data = .dict es ep) : Begins (.ref d) (keyOb d 0 es.size ep) fun h => h.get? d = some od where
  iter := fun prog w A E s Q hd h => iter_keys hs hd hx hdd h
  keeps := fun h h' x hk => hk d od x
  free := rfl
theorem pairs_val {P : Program} {w : World} : ∀ {es : List DictEntry} {kvs : List (Key × V)} {vs : List (Key × Value)}, Pairs (mixKind P w) es vs → KV kvs vs → ∀ (j : Nat) (p : Key × V) (en : DictEntry), kvs[j]? = some p → es[j]? = some en → RelV p.2 en.val
  | _, _, _, .nil, .nil, j, k, en, h1, h2 => by simp at h1
  | _, _, _, .cons a b l, .cons r t, 0, k, en, h1, h2 => by
    simp only [List.getElem?_cons_zero, Option.some.injEq] at h1 h2
    subst h1; subst h2
    rw [b]; exact r.2
  | _, _, _, .cons a b l, .cons r t, j + 1, k, en, h1, h2 => pairs_val l t j k en (by simpa using h1) (by simpa using h2)
theorem absK_val {G : Gv} {H : Hp} : ∀ {kvs : List (Key × V)} {ds : List (D × D)}, AbsK G H kvs ds → ∀ {i : Nat} {p : Key × V} {d : D}, kvs[i]? = some p → (ds.map (·.2))[i]? = some d → Abs G H p.2 d
  | _, _, .nil, i, p, d, e, f => by simp at e
  | _, _, .int a l, 0, p, d, e, f => by
    simp only [List.getElem?_cons_zero, Option.some.injEq, List.map_cons] at e f
    subst e; subst f; exact a
  | _, _, .str h a l, 0, p, d, e, f => by
    simp only [List.getElem?_cons_zero, Option.some.injEq, List.map_cons] at e f
    subst e; subst f; exact a
  | _, _, .int a l, i + 1, p, d, e, f => absK_val l (by simpa using e) (by simpa using f)
  | _, _, .str h a l, i + 1, p, d, e, f => absK_val l (by simpa using e) (by simpa using f)
theorem Rd.frz' {H : Hp} {a : Addr} {o : Obj} {u : HO} (h : H a = some (.frz o u)) : Rd H a u := .inr ⟨o, h⟩
section
variable {X : Cx}
/-- a dict's object, as it is frozen -/
structure FzD (G : Gv) (H : Hp) (d : Addr) (o : Obj) (ds : List (D × D)) : Prop where
  h : (∃ kvs, H d = some (.frz o (.dK kvs)) ∧ AbsK G H kvs ds) ∨ ∃ xs, H d = some (.frz o (ndO G.P G.w d xs)) ∧ AbsN G H xs ds
theorem FzD.ext {G : Gv} {H H' : Hp} {d : Addr} {o : Obj} {ds : List (D × D)} (f : FzD G H d o ds) (e : Ext H H') : FzD G H' d o ds := by
  rcases f.h with ⟨kvs, h1, h2⟩ | ⟨xs, h1, h2⟩
  · exact ⟨.inl ⟨kvs, e.2 _ _ _ h1, h2.ext e⟩⟩
  · exact ⟨.inr ⟨xs, e.2 _ _ _ h1, h2.ext e⟩⟩
theorem fz_dct {G : Gv} {H : Hp} {v : V} {l : List (D × D)} (a : Abs G H v (.dct l)) : ∃ d o, v = .ref d ∧ FzD G H d o l := by
  cases a with
  | dK r q => exact ⟨_, _, rfl, ⟨.inl ⟨_, r, q⟩⟩⟩
  | dN r q => exact ⟨_, _, rfl, ⟨.inr ⟨_, r, q⟩⟩⟩
/-- entries of a frozen dict: the object is the same at all times -/
theorem FzD.raw {pins : List (Addr × Obj)} {σ : St} {H : Hp} {s : Shared} {d : Addr} {o : Obj} {ds : List (D × D)} (I : Inv X pins σ H s) (f : FzD (Gx X) H d o ds) :
    (d == sysModules) = false ∧ s.heap.get? d = some o ∧ o.ExactDict ∧ ds.length ≤ sizeLine ∧ ∃ (es : Array DictEntry) (ep : Nat), o.data = .dict es ep ∧ es.size = ds.length ∧
      (∀ i en, i < ds.length → es[i]? = some en → ∃ k, RelV k en.key ∧ ∀ kd, (ds.map (·.1))[i]? = some kd → Abs (Gx X) H k kd) ∧ (AllS ds → ∀ i en, i < ds.length → es[i]? = some en → ∃ v, RelV v en.val ∧ ∀ vd, (ds.map (·.2))[i]? = some vd → Abs (Gx X) H v vd) := by
  have at_ : DAt (Gx X) H d ds := by
    rcases f.h with ⟨kvs, h1, h2⟩ | ⟨xs, h1, h2⟩
    · exact .k (.inr ⟨_, h1⟩) h2
    · exact .n (.inr ⟨_, h1⟩) h2
  obtain ⟨hs, hz, o', es, ep, ks, g1, g2, g3, g4, g5, g6⟩ := dat_raw I at_
  have go : s.heap.get? d = some o := by
    rcases f.h with ⟨kvs, h1, h2⟩ | ⟨xs, h1, h2⟩
    · exact (I.frzK h1).2.1
    · exact (frzN I h1).2.1
  rw [go] at g1
  cases g1
  refine ⟨hs, go, g2, hz, es, ep, g3, g4, fun i en hi he => ?_, fun hS i en hi he => ?_⟩
  · have lk : ks.length = ds.length := by have := g5.length; simpa using this
    obtain ⟨k, hk⟩ : ∃ k, ks[i]? = some k := ⟨_, List.getElem?_eq_getElem (by omega)⟩
    refine ⟨k, g6 i k en hk he, fun kd hkd => ?_⟩
    obtain ⟨v, hv, av⟩ := g5.get hkd
    rw [hk] at hv; cases hv
    exact av
  · rcases f.h with ⟨kvs, h1, h2⟩ | ⟨xs, h1, h2⟩
    · obtain ⟨z, hd, vs, rel, o2, es2, ep2, b1, b2, b3, b4, b5, b6⟩ := dk_rd I.hok (Rd.frz' h1)
      rw [go] at b1
      cases b1
      obtain ⟨rfl, rfl⟩ := dict_ep g3 b3
      have l1 : kvs.length = ds.length := h2.length
      obtain ⟨p, hp⟩ : ∃ p, kvs[i]? = some p := ⟨_, List.getElem?_eq_getElem (by omega)⟩
      refine ⟨p.2, pairs_val b5 rel i p en hp (by rw [Array.getElem?_toList]; exact he), fun vd hvd => absK_val h2 hp hvd⟩
    · have en0 := hS.T_nil (absN_T h2)
      subst en0
      exact absurd hi (by simp)
/-- enumerate(d): pairs of a count and a key -/
theorem turn_enumK {elts : List Expr} {kk : Nat} {tpos : Pos} {d e it : Addr} {od : Obj} {es : Array DictEntry} {ep : Nat} {l : List (D × D)} (hei : e ≠ it) (hdi : d ≠ it) (hde : d ≠ e) (hdd : od.data = .dict es ep) (hsz : es.size = l.length) :
    Turn X.prog X.w X.K (.Tuple elts kk tpos) (Itw (fun H => FzD (Gx X) H d od l) l.length (fun i H vs => ∃ k, vs = [.int (i : Nat), k] ∧ ∀ kd, (l.map (·.1))[i]? = some kd → Abs (Gx X) H k kd)) [e, it] e
      (fun i h => (∃ old, IsEnum h e it i old) ∧ h.get? it = some (keyOb d i es.size ep)) := by
  rw [← hsz]
  refine turn_W (C := Unit) (fp := e :: [it, d]) (wr := [e, it]) (Stat := fun _ h => h.get? d = some od) (St := fun _ i h => (∃ old, IsEnum h e it i old) ∧ h.get? it = some (keyOb d i es.size ep) ∧ h.get? d = some od) (by simp) (fun b hb => hb)
    (fun A hh _ => WalksT.enumerateD (drawsK (A := A.in1) hh hdi hdd) e hei (by simp [hei, Ne.symm hde]) (by simp)) (fun c i h => ⟨fun ⟨a, b, c⟩ => ⟨⟨a, b⟩, c⟩, fun ⟨⟨a, b⟩, c⟩ => ⟨a, b, c⟩⟩) ?_ ?_ ?_ ?_
  · rintro i h ⟨⟨old, h1⟩, h2⟩ b hb
    rcases List.mem_cons.mp hb with rfl | hb
    · exact ⟨_, h1, fun v z => nomatch z⟩
    · rw [List.mem_singleton] at hb; subst hb; exact ⟨_, h2, fun v z => nomatch z⟩
  · rintro i h h' ⟨⟨old, h1⟩, h2⟩ k
    exact ⟨⟨old, k e (by simp) _ h1⟩, k it (by simp) _ h2⟩
  · rintro A i s Q E ⟨⟨old, h1⟩, h2⟩ q
    exact wpAny_pyIter_enum h1 q
  · intro X' hP hw hK pins s σ H I f
    have f' : FzD (Gx X') H d od l := by
      have eG : Gx X' = Gx X := by show Gv.mk _ _ _ = Gv.mk _ _ _; rw [hP, hw, hK]
      rw [eG]; exact f
    obtain ⟨hs, go, gx, hz, es', ep', g3, g4, g5, _⟩ := f'.raw I
    obtain ⟨rfl, rfl⟩ := dict_ep hdd g3
    refine ⟨(), go, fun i vals hi ⟨t, x, ⟨en, hen, hx⟩, hv⟩ => ?_⟩
    obtain ⟨k, rk, ak⟩ := g5 i en (by omega) hen
    subst hx; subst hv
    refine ⟨[.int (i : Nat), k], .cons ⟨t, rfl⟩ (.cons rk .nil), ⟨k, rfl, fun kd hkd => ?_⟩, by show 2 ≤ sizeLine; decide⟩
    have eG : Gx X' = Gx X := by show Gv.mk _ _ _ = Gv.mk _ _ _; rw [hP, hw, hK]
    rw [← eG]; exact ak kd hkd
theorem itd_enumK {H0 : Hp} {d : Addr} {od : Obj} {l : List (D × D)} (f : FzD (Gx X) H0 d od l) : ItD (Gx X) (Itw (fun H => FzD (Gx X) H d od l) l.length (fun i H vs => ∃ k, vs = [.int (i : Nat), k] ∧ ∀ kd, (l.map (·.1))[i]? = some kd → Abs (Gx X) H k kd)) (.val (enumOf (l.map (·.1)))) H0 where
  go := fun i H M e _ _ hi => ⟨f.ext e, by simpa [Src.items, enumOf] using hi⟩
  yld := fun i H M x H' e hm _ y d' hd => by
    obtain ⟨T, vs, rfl, hT, rfl, k, rfl, hk⟩ := y
    have hd : (enumOf (l.map (·.1)))[i]? = some d' := hd
    unfold enumOf at hd
    rw [List.getElem?_map, List.getElem?_zipIdx] at hd
    cases z : (l.map (·.1))[i]? with
    | none => rw [z] at hd; cases hd
    | some kd =>
      rw [z] at hd
      simp only [Option.map_some, Option.some.injEq, Nat.zero_add] at hd
      subst hd
      have x1 : Ext H (upd H T (.tup [.int (i : Nat), k])) := Ext.new hT
      exact ⟨x1, .tup (SqT.of upd_same) (.cons (.int _) (.cons ((hk kd z).ext x1) .nil)), hm.newH hT⟩
  stop := fun i H M e _ _ hi => ⟨f.ext e, by have : (enumOf (l.map (·.1))).length = i := hi; rw [← this]; simp [enumOf]⟩
def dEnumT (t : DTE) : DTI := fun σ M Q => t σ M fun d M1 => match d with
  | .dct l => Q (.val (enumOf (l.map (·.1)))) M1
  | _ => False
theorem pi_enumD {elts : List Expr} {kk : Nat} {tpos p pos : Pos} {e : Expr} {t : DTE} (hg : Gl X "enumerate") (hm : X.mg "enumerate" = none) (he : PE X e (lE (Gx X) t)) (hh : hd e = true) : PI X (.Tuple elts kk tpos) (.Call (.Name "enumerate" p) [e] [] pos) (lI (Gx X) (dEnumT t)) := by
  refine ⟨fun pins s σ H R I ⟨σd, M, Qs, sim, ht, hR⟩ => ?_⟩
  have ha := (pa_cons he pa_nil (star_of hh [] X.env)).run pos pins s σ H (fun vs H1 => ∃ v d M1, vs = [v] ∧ Ext H H1 ∧ Abs (Gx X) H1 v d ∧ HAbs (Gx X) H1 M1 ∧ (match d with
      | .dct l => Qs (.val (enumOf (l.map (·.1)))) M1
      | _ => False)) I ⟨σd, M, _, sim, ht, fun d M1 v H1 q x a h1 => ⟨v, d, M1, rfl, x, a, h1, q⟩⟩
  refine Call_ (ld_blt I hg hm boot_enumerate (PyProof.Rows.callWith_type1 (thn ha fun us s1 ⟨vs, H1, I1, r1, q1⟩ => ?_) (star_of hh [] X.env) rfl))
  · obtain ⟨v, d, M1, rfl, xt, ab, hm1, q⟩ := q1
    split at q
    · rename_i l
      obtain ⟨a, o, rfl, f⟩ := fz_dct ab
      cases r1 with
      | cons r rr =>
        cases rr
        cases r
        obtain ⟨hs, go, gx, hz, es, ep, g3, g4, _, _⟩ := f.raw I1
        refine dy_enum1 (begins_keys hs gx g3) go fun h' he' hit hsz hk => wpAny_pyIter_enum he' ?_
        have I2 : Inv X pins σ H1 { s1 with heap := h' } := I1.kept (t' := s1.toks) hk
        have la : a < s1.heap.objs.size := Heap.lt_size go
        refine ⟨s1.heap.objs.size + 1, [s1.heap.objs.size + 1, s1.heap.objs.size], _, _, H1, rfl, I2, turn_enumK (Nat.succ_ne_self _) (Nat.ne_of_lt la) (Nat.ne_of_lt (Nat.lt_succ_of_lt la)) g3 g4, ⟨⟨.none, he'⟩, hit⟩, fun b hb => ?_, hR _ _ _ _ q xt hm1 (itd_enumK f)⟩
        have hle : s1.heap.objs.size ≤ b := by
          rcases List.mem_cons.mp hb with z | z
          · rw [z]; exact Nat.le_succ _
          · rw [List.mem_singleton] at z; rw [z]; exact Nat.le_refl _
        exact I1.fpOk hle (I1.hok.fresh hle)
    · exact q.elim
/-! ### values(), items() -/
theorem fz_K {H : Hp} {v : V} {l : List (D × D)} (a : Abs (Gx X) H v (.dct l)) (hs : AllS l) (ne : l ≠ []) : ∃ d o kvs, v = .ref d ∧ H d = some (.frz o (.dK kvs)) ∧ AbsK (Gx X) H kvs l := by
  cases a with
  | dK r q => exact ⟨_, _, _, rfl, r, q⟩
  | dN r q => exact absurd (hs.T_nil (absN_T q)) ne
theorem itd_vals {H0 : Hp} {d : Addr} {o : Obj} {kvs : List (Key × V)} {l : List (D × D)} (r : H0 d = some (.frz o (.dK kvs))) (q : AbsK (Gx X) H0 kvs l) : ItD (Gx X) (Itd d o kvs) (.val (l.map (·.2))) H0 where
  go := fun i H M e _ _ hi => ⟨e.2 _ _ _ r, by rw [q.len]; simpa [Src.items] using hi⟩
  yld := fun i H M x H' e hm _ y d' hd => by
    obtain ⟨rfl, k, h1⟩ := y
    exact ⟨Ext.refl _, (absK_val q h1 hd).ext e, hm⟩
  stop := fun i H M e _ _ hi => ⟨e.2 _ _ _ r, by rw [q.len]; simpa [Src.items] using Nat.le_of_eq hi⟩
theorem itd_items {H0 : Hp} {d : Addr} {o : Obj} {kvs : List (Key × V)} {l : List (D × D)} (r : H0 d = some (.frz o (.dK kvs))) (q : AbsK (Gx X) H0 kvs l) : ItD (Gx X) (Iti d o kvs) (.val (pairsD l)) H0 where
  go := fun i H M e _ _ hi => ⟨e.2 _ _ _ r, by rw [q.len]; simpa [Src.items, pairsD] using hi⟩
  yld := fun i H M x H' e hm _ y d' hd => by
    obtain ⟨T, k, v, h1, rfl, hT, rfl⟩ := y
    have hd : (pairsD l)[i]? = some d' := hd
    unfold pairsD at hd
    rw [List.getElem?_map] at hd
    cases z : l[i]? with
    | none => rw [z] at hd; cases hd
    | some kv =>
      rw [z] at hd
      cases hd
      have x1 : Ext H (upd H T (.tup [kV k, v])) := Ext.new hT
      have k1 : Abs (Gx X) H0 (kV k) kv.1 := absK_key q h1 (by rw [List.getElem?_map, z]; rfl)
      have v1 : Abs (Gx X) H0 v kv.2 := absK_val q h1 (by rw [List.getElem?_map, z]; rfl)
      exact ⟨x1, .tup (SqT.of upd_same) (.cons ((k1.ext e).ext x1) (.cons ((v1.ext e).ext x1) .nil)), hm.newH hT⟩
  stop := fun i H M e _ _ hi => ⟨e.2 _ _ _ r, by have : (pairsD l).length = i := hi; rw [← this, q.len]; simp [pairsD]⟩
def dValsT (t : DTE) : DTI := fun σ M Q => t σ M fun d M1 => match d with
  | .dct l => (allS l && !l.isEmpty) = true ∧ Q (.val (l.map (·.2))) M1
  | _ => False
theorem pi_valsD {tg e : Expr} {apos cpos : Pos} {t : DTE} (he : PE X e (lE (Gx X) t)) (hb : abOk e = true) (hl : (apos.endLine == cpos.line) = true) : PI X tg (.Call (.Attribute e "values" apos) [] [] cpos) (lI (Gx X) (dValsT t)) := by
  refine ⟨fun pins s σ H R I ⟨σd, M, Qs, sim, ht, hR⟩ => (pi_values he (ab_of hb _ _ _) hl).run pins s σ H R I ?_⟩
  refine lE_then sim ht fun d M1 v H1 q1 e1 a1 s1 => ?_
  split at q1
  · rename_i l
    obtain ⟨hs0, q1⟩ := q1
    rw [Bool.and_eq_true, Bool.not_eq_true'] at hs0
    have hs := allS_of hs0.1
    have ne : l ≠ [] := fun z => by have := hs0.2; rw [z] at this; cases this
    obtain ⟨d, o, kvs, rfl, r, q⟩ := fz_K a1 hs ne
    exact ⟨d, o, kvs, rfl, r, hR _ _ _ _ q1 e1 s1.heap (itd_vals r q)⟩
  · exact q1.elim
def dItemsT (t : DTE) : DTI := fun σ M Q => t σ M fun d M1 => match d with
  | .dct l => (allS l && !l.isEmpty) = true ∧ Q (.val (pairsD l)) M1
  | _ => False
theorem pi_itemsD {elts : List Expr} {kk : Nat} {tpos apos cpos : Pos} {e : Expr} {t : DTE} (he : PE X e (lE (Gx X) t)) (hb : abOk e = true) (hl : (apos.endLine == cpos.line) = true) : PI X (.Tuple elts kk tpos) (.Call (.Attribute e "items" apos) [] [] cpos) (lI (Gx X) (dItemsT t)) := by
  refine ⟨fun pins s σ H R I ⟨σd, M, Qs, sim, ht, hR⟩ => (pi_items he (ab_of hb _ _ _) hl).run pins s σ H R I ?_⟩
  refine lE_then sim ht fun d M1 v H1 q1 e1 a1 s1 => ?_
  split at q1
  · rename_i l
    obtain ⟨hs0, q1⟩ := q1
    rw [Bool.and_eq_true, Bool.not_eq_true'] at hs0
    have hs := allS_of hs0.1
    have ne : l ≠ [] := fun z => by have := hs0.2; rw [z] at this; cases this
    obtain ⟨d, o, kvs, rfl, r, q⟩ := fz_K a1 hs ne
    exact ⟨d, o, kvs, rfl, r, hR _ _ _ _ q1 e1 s1.heap (itd_items r q)⟩
  · exact q1.elim
end
end Dy
end
section
set_option Elab.async false
set_option linter.all false
set_option maxRecDepth 100000
set_option maxHeartbeats 4000000
/-! The D layer, 4k: list(zip(e.values(), x, y)) as an expression. -/
namespace Dy
open PySem PySem.Spec L2
open PyProof.Rows hiding St

def vwOb (d : Addr) : Obj := { cls := .type "dict_values", data := .fields #[.ref d] }
def vwO (p d : Addr) : HO := .ext fun h => h.get? p = some (vwOb d)
def tVw (te : TE) : TE := fun σ H Q => te σ H fun x H1 => ∃ d o kvs, x = .ref d ∧ H1 d = some (.frz o (.dK kvs)) ∧ ∀ p, H1 p = none → Q (.ref p) (upd H1 p (vwO p d))
section
variable {X : Cx}
theorem pe_vw {e : Expr} {te : TE} {apos cpos : Pos} (he : PE X e te) (hbase : attributeBase e "values" X.env (eval e X.env) = eval e X.env) (hline : (apos.endLine == cpos.line) = true) : PE X (.Call (.Attribute e "values" apos) [] [] cpos) (tVw te) := by
  refine ⟨fun pins s σ H Q I h => ?_⟩
  refine wpAny_Call_method (T := "dict") (id := "dict.values") hbase rfl hline F.plainAttrs_dict F.slot_dict_values F.type_dict_values (thn (he.run pins s σ H _ I h) fun u s1 ⟨x, H1, I1, rx, d, o, kvs, ex, hd, q⟩ => ?_)
  subst ex
  obtain rfl : u = Value.ref d := rx
  obtain ⟨hs, hgd, hx, es, ep, vs, hdt, hsz, kv, hm⟩ := I1.frzK hd
  refine ⟨hm.dictOf.typeIs, hm.dictOf.mapOf.noDict, ?_⟩
  have hN : (s1.heap.push (vwOb d)).get? s1.heap.objs.size = some (vwOb d) := Heap.get?_push_size _ rfl
  have I2 : Inv X pins σ (upd H1 s1.heap.objs.size (vwO s1.heap.objs.size d)) { s1 with heap := s1.heap.push (vwOb d) } :=
    I1.laid (t' := s1.toks) (fun b ob q => Heap.get?_push_of_some _ q) (Nat.le_refl _) (show ObjOk _ _ _ _ _ (.ext _) from ⟨hN, ⟨_, hN⟩, fun h1 h2 e k => k _ e⟩)
  have fin : EP X pins σ Q (.ref s1.heap.objs.size) { s1 with heap := s1.heap.push (vwOb d) } := ⟨.ref _, _, I2, rfl, q _ (I1.hok.fresh (Nat.le_refl _))⟩
  show wpAny _ _ (callWith cpos (.builtin "dict.values") [.ref d] [] []) _ X.xe s1
  exact method_meetsIn F.slot_dict_values F.entry_dict_values rfl (PySem.evalArgs_none ⟨rfl, hm.dictOf.typeIs, F.args_dict_values_1 _, _, meets_dict_values (mixKind X.prog X.w) d hs, ⟨vs, hm.dictOf⟩, fin⟩)
/-- the values' view begins with an iterator over the dict -/
theorem begins_vw {p d : Addr} {od : Obj} {es : Array DictEntry} {ep : Nat} (hdd : od.data = .dict es ep) : Begins (.ref p) (DVw.valOb d 0 es.size ep) fun h => h.get? p = some (vwOb d) ∧ h.get? d = some od where
  iter := fun prog w A E s Q hh hQ => DSub.iter_vals hh.1 hh.2 hdd hQ
  keeps := fun h h' x hk => ⟨hk _ _ x.1, hk _ _ x.2⟩
  free := rfl
def zipV : List (Key × V) → List V → List V → List (List V)
  | kv :: r, x :: xs, y :: ys => [kv.2, x, y] :: zipV r xs ys
  | _, _, _ => []
theorem zipV_get : ∀ {kvs : List (Key × V)} {xs ys : List V} {j : Nat} {kv : Key × V} {x y : V}, kvs[j]? = some kv → xs[j]? = some x → ys[j]? = some y → (zipV kvs xs ys)[j]? = some [kv.2, x, y]
  | [], _, _, j, _, _, _, h, _, _ => by simp at h
  | _ :: _, [], _, j, _, _, _, _, h, _ => by simp at h
  | _ :: _, _ :: _, [], j, _, _, _, _, _, h => by simp at h
  | a :: r, b :: s, c :: t, 0, _, _, _, h1, h2, h3 => by
    simp only [List.getElem?_cons_zero, Option.some.injEq] at h1 h2 h3
    subst h1; subst h2; subst h3; rfl
  | a :: r, b :: s, c :: t, j + 1, _, _, _, h1, h2, h3 => zipV_get (kvs := r) (xs := s) (ys := t) (by simpa using h1) (by simpa using h2) (by simpa using h3)
theorem zipV_len : ∀ {kvs : List (Key × V)} {xs ys : List V}, kvs.length = xs.length → kvs.length = ys.length → (zipV kvs xs ys).length = kvs.length
  | [], _, _, _, _ => rfl
  | _ :: r, [], _, h, _ => by simp at h
  | _ :: r, _ :: _, [], _, h => by simp at h
  | a :: r, b :: s, c :: t, h1, h2 => by
    show (zipV r s t).length + 1 = r.length + 1
    rw [zipV_len (by simpa using h1) (by simpa using h2)]
/-- what Q is told: the tuples at Ts, new ones; the list at L -/
def ZipPost (kvs : List (Key × V)) (xs ys : List V) (H1 : Hp) (Q : VK) : Prop :=
  ∀ (H2 : Hp) (L : Addr) (Ts : List Addr), Ext H1 H2 → (∀ G M, HAbs G H1 M → HAbs G H2 M) → H2 L = none → Ts.length = kvs.length → (∀ (j : Nat) (T : Addr) (row : List V), Ts[j]? = some T → (zipV kvs xs ys)[j]? = some row → H2 T = some (.tup row)) → Q (.ref L) (upd H2 L (.lst (Ts.map V.ref)))
def zipK (X : Cx) (Q : VK) : List V → Hp → Prop := fun vs H1 => ∃ p d o kvs a b xs ys H0, vs = [.ref p, .ref a, .ref b] ∧ H0 p = none ∧ H1 = upd H0 p (vwO p d) ∧ H0 d = some (.frz o (.dK kvs)) ∧ SqT X.K H0 a xs ∧ SqT X.K H0 b ys ∧ kvs.length = xs.length ∧ kvs.length = ys.length ∧ 0 < kvs.length ∧ kvs.length ≤ 1000 ∧ ZipPost kvs xs ys H0 Q
def tZipL (X : Cx) (te : TE) (i j : Nat) : TE := fun σ H Q => tCons (tVw te) (tCons (tVar i) (tCons (tVar j) tNil)) σ H (zipK X Q)
theorem habs_all {G : Gv} : ∀ {news : List (Addr × HO)} {H : Hp} {M : Mp}, HAbs G H M → (news.map (·.1)).Nodup → (∀ p ∈ news, H p.1 = none) → HAbs G (updAll H news) M
  | [], H, M, h, _, _ => h
  | p :: r, H, M, h, nd, n => by
    have nd' := List.nodup_cons.mp nd
    refine habs_all (news := r) (h.newH (n p List.mem_cons_self)) nd'.2 fun q hq => ?_
    rw [upd_ne (fun z => nd'.1 (List.mem_map.mpr ⟨q, hq, z⟩))]
    exact n q (List.mem_cons_of_mem _ hq)
theorem updAll_snoc {l : List (Addr × HO)} {a : Addr} {o : HO} : ∀ {H : Hp}, updAll H (l ++ [(a, o)]) = upd (updAll H l) a o := by
  induction l with
  | nil => exact fun {_} => rfl
  | cons p r ih => exact fun {H} => ih
theorem vals_refs : ∀ l : List Addr, Vals (l.map V.ref) (l.map Value.ref)
  | [] => .nil
  | a :: r => .cons rfl (vals_refs r)
theorem pe_zipL {e : Expr} {te : TE} {i j : Nat} {x y : Str} {p1 p2 q1 q2 apos cpos zpos lpos : Pos} (hc : X.calm = true) (hg1 : Gl X "list") (hm1 : X.mg "list" = none) (hg2 : Gl X "zip") (hm2 : X.mg "zip" = none) (he : PE X e te)
    (hbase : attributeBase e "values" X.env (eval e X.env) = eval e X.env) (hline : (apos.endLine == cpos.line) = true)
    (hx : PE X (.Name x q1) (tVar i)) (hy : PE X (.Name y q2) (tVar j)) :
    PE X (.Call (.Name "list" p1) [.Call (.Name "zip" p2) [.Call (.Attribute e "values" apos) [] [] cpos, .Name x q1, .Name y q2] [] zpos] [] lpos) (tZipL X te i j) := by
  refine ⟨fun pins s σ H Q I h => ?_⟩
  have ha : PA X [.Call (.Attribute e "values" apos) [] [] cpos, .Name x q1, .Name y q2] (tCons (tVw te) (tCons (tVar i) (tCons (tVar j) tNil))) := pa_cons (pe_vw he hbase hline) (pa_cons hx (pa_cons hy pa_nil))
  refine Call_ (ld_blt I hg1 hm1 PyProof.Rows.boot_list (PyProof.Rows.callWith_type1 (args_cons ?_)))
  refine Call_ (ld_blt I hg2 hm2 PyProof.Rows.boot_zip (PyProof.Rows.callWith_type1 ?_))
  refine thn (ha.run zpos pins s σ H _ I h) fun us s1 ⟨vs, H1, I1, r1, p, d, o, kvs, a, b, xs, ys, H0, ev, hp, eH, hd0, sa0, sb0, l1, l2, n0, n1, post⟩ => ?_
  subst ev
  have x01 : Ext H0 H1 := by rw [eH]; exact Ext.new hp
  have hd : H1 d = some (.frz o (.dK kvs)) := x01.2 _ _ _ hd0
  have sa := x01.sqT sa0
  have sb := x01.sqT sb0
  obtain ⟨hs, hgd, hxd, es, ep, vs, hdt, hsz, kv, hm⟩ := I1.frzK hd
  obtain ⟨ia, ra, pa, za⟩ := I1.tuple sa
  obtain ⟨ib, rb, pb, zb⟩ := I1.tuple sb
  have hpv : s1.heap.get? p = some (vwOb d) := (show ObjOk X.prog X.w H1 s1.heap p (.ext _) from I1.hok p _ (by rw [eH, upd_same]; rfl)).1
  obtain ⟨u1, u2, u3, eu, w1, w2, w3⟩ : ∃ u1 u2 u3, us = [u1, u2, u3] ∧ RelV (.ref p) u1 ∧ RelV (.ref a) u2 ∧ RelV (.ref b) u3 := by
    cases r1 with | cons r1 t => cases t with | cons r2 t => cases t with | cons r3 t => cases t; exact ⟨_, _, _, rfl, r1, r2, r3⟩
  subst eu
  cases w1; cases w2; cases w3
  have hh := I1.ok.hd hc
  have le : es.size = kvs.length := by
    obtain ⟨o', es', ho, _, hdat, _, hpp, _⟩ := id hm
    rw [hgd] at ho; cases ho
    rw [hdt] at hdat; cases hdat
    have e1 := pairs_len hpp
    have e2 := Paired.length kv
    rw [Array.length_toList] at e1
    omega
  have la := ra.length
  have lb := rb.length
  have ea : ia.toArray.size = es.size := by simp; omega
  have eb : ib.toArray.size = es.size := by simp; omega
  have ltd : d < s1.heap.objs.size := Heap.lt_size hgd
  have lta : a < s1.heap.objs.size := by obtain ⟨o, e, _⟩ := id pa; exact Heap.lt_size e
  have ltb : b < s1.heap.objs.size := by obtain ⟨o, e, _⟩ := id pb; exact Heap.lt_size e
  have one : ∀ {c : Addr}, c < s1.heap.objs.size → ∀ q ∈ [c], q < s1.heap.objs.size := fun h q hq => by rw [List.mem_singleton.mp hq]; exact h
  refine zip_begins3 (begins_vw (p := p) (d := d) hdt) (begins_tuple a ia.toArray) (begins_tuple b ib.toArray) ⟨hpv, hgd⟩ (show s1.heap.IsTuple a ia.toArray from pa) (show s1.heap.IsTuple b ib.toArray from pb) fun h' hz hTI hTO g1 g2 g3 hsz' hk => args_nil ?_
  have two : ∀ {c : Addr} {k : Nat}, c < s1.heap.objs.size → k < 6 → ∀ q ∈ [s1.heap.objs.size + k, c], q < h'.objs.size := fun {c k} h hk q hq => by
    rw [hsz']
    rcases List.mem_cons.mp hq with e | hq
    · rw [e]
      exact Nat.add_lt_add_left hk _
    · rw [List.mem_singleton.mp hq]
      exact Nat.lt_of_lt_of_le h (Nat.le_add_right _ _)
  have neN : ∀ {c : Addr} {k : Nat}, c < s1.heap.objs.size → c ≠ s1.heap.objs.size + k := fun {c k} h e => by
    rw [e] at h
    exact absurd h (Nat.not_lt.mpr (Nat.le_add_right _ _))
  refine z3_call (zip_sep3 (N := s1.heap.objs.size) (one ltd) (one lta) (one ltb)) hh (n := es.size) (fun A' h => drawsV h (neN (k := 0) ltd) hdt) (fun A' h => ea ▸ Draws.tuple h _ a (neN (k := 1) lta) ia.toArray) (fun A' h => eb ▸ Draws.tuple h _ b (neN (k := 2) ltb) ib.toArray) (by omega) (by omega) hz hTI hTO
    ⟨g1, hk _ _ hgd⟩ ⟨⟨_, g2, rfl, rfl⟩, Heap.IsTuple.at (show s1.heap.IsTuple a ia.toArray from pa) fun o e => hk _ _ e⟩ ⟨⟨_, g3, rfl, rfl⟩, Heap.IsTuple.at (show s1.heap.IsTuple b ib.toArray from pb) fun o e => hk _ _ e⟩ (two (k := 0) ltd (by omega)) (two (k := 1) lta (by omega)) (two (k := 2) ltb (by omega)) fun h2 tk Ts c e1 e2 e3 e4 e5 e6 => ?_
  have kept : ∀ q u, s1.heap.get? q = some u → h2.get? q = some u := fun q u e => by
    have l := Heap.lt_size e
    exact e6 q u (neN l) (neN l) (neN (k := 0) l) (neN l) (neN l) (hk _ _ e)
  have none_of : ∀ {q : Addr}, s1.heap.objs.size ≤ q → s1.heap.get? q = none := fun {q} h => by
    cases e : s1.heap.get? q with
    | none => rfl
    | some o => exact absurd (Nat.lt_of_lt_of_le (Heap.lt_size e) h) (Nat.lt_irrefl _)
  have geT : ∀ T ∈ Ts, s1.heap.objs.size ≤ T := fun T hT => Nat.le_of_lt (Nat.lt_of_le_of_lt (by rw [hsz']; exact Nat.le_add_right _ _) (e3 T hT))
  have geL : s1.heap.objs.size ≤ h'.objs.size := by rw [hsz']; exact Nat.le_add_right _ _
  have lz : (zipV kvs xs ys).length = kvs.length := zipV_len l1 l2
  have lT : Ts.length = kvs.length := by omega
  obtain ⟨tups, etups⟩ : ∃ t, t = (Ts.zip (zipV kvs xs ys)).map fun q => (q.1, HO.tup q.2) := ⟨_, rfl⟩
  have fst : tups.map (·.1) = Ts := by
    rw [etups, List.map_map]
    show (Ts.zip (zipV kvs xs ys)).map (fun q => q.1) = Ts
    rw [List.map_fst_zip]
    omega
  have nd1 : Ts.Nodup := e4.imp fun h => Nat.ne_of_lt h
  have memT : ∀ q ∈ tups, q.1 ∈ Ts := fun q hq => by rw [← fst]; exact List.mem_map_of_mem hq
  have nd2 : ((tups ++ [(h'.objs.size, HO.lst (Ts.map V.ref))]).map (·.1)).Nodup := by
    rw [List.map_append, fst, List.nodup_append]
    refine ⟨nd1, by simp, fun q hq r hr e => ?_⟩
    simp only [List.map_cons, List.map_nil, List.mem_singleton] at hr
    subst hr; subst e
    exact Nat.lt_irrefl _ (e3 _ hq)
  have rowOk : ∀ j T row, Ts[j]? = some T → (zipV kvs xs ys)[j]? = some row → row.length ≤ sizeLine ∧ ∃ its : List Value, Vals row its ∧ IsTup h2 T its.toArray := fun j T row hj hr => by
    obtain ⟨x1, x2, x3, ⟨en, hen, ev⟩, h22, h33, hT⟩ := e2 j T hj
    obtain ⟨kv1, hkv⟩ : ∃ kv1, kvs[j]? = some kv1 := ⟨_, List.getElem?_eq_getElem (by have := (List.getElem?_eq_some_iff.mp hj).1; omega)⟩
    obtain ⟨y1, hy1⟩ : ∃ y1, xs[j]? = some y1 := ⟨_, List.getElem?_eq_getElem (by have := (List.getElem?_eq_some_iff.mp hj).1; omega)⟩
    obtain ⟨z1, hz1⟩ : ∃ z1, ys[j]? = some z1 := ⟨_, List.getElem?_eq_getElem (by have := (List.getElem?_eq_some_iff.mp hj).1; omega)⟩
    rw [zipV_get hkv hy1 hz1] at hr
    cases hr
    obtain ⟨v2, hv2, rv2⟩ := ra.get hy1
    obtain ⟨v3, hv3, rv3⟩ := rb.get hz1
    have q2 : v2 = x2 := by
      have : ia.toArray[j]? = some v2 := by simpa using hv2
      rw [this] at h22; exact Option.some.inj h22
    have q3 : v3 = x3 := by
      have : ib.toArray[j]? = some v3 := by simpa using hv3
      rw [this] at h33; exact Option.some.inj h33
    subst q2; subst q3; subst ev
    obtain ⟨o', es', ho, _, hdat, _, hpp, _⟩ := id hm
    rw [hgd] at ho; cases ho
    rw [hdt] at hdat; cases hdat
    have rv1 : RelV kv1.2 en.val := pairs_val hpp kv j kv1 en hkv (by rw [Array.getElem?_toList]; exact hen)
    exact ⟨by show 3 ≤ sizeLine; decide, [en.val, v2, v3], .cons rv1 (.cons rv2 (.cons rv3 .nil)), ⟨_, hT, rfl, _, rfl⟩⟩
  have inZip : ∀ q ∈ tups, ∃ j row, Ts[j]? = some q.1 ∧ (zipV kvs xs ys)[j]? = some row ∧ q.2 = HO.tup row := fun q hq => by
    rw [etups] at hq
    obtain ⟨⟨T, row⟩, hm2, rfl⟩ := List.mem_map.mp hq
    obtain ⟨j, hj⟩ := List.getElem?_of_mem hm2
    rw [List.getElem?_zip_eq_some] at hj
    exact ⟨j, row, hj.1, hj.2, rfl⟩
  have I2 : Inv X pins σ (updAll H1 (tups ++ [(h'.objs.size, HO.lst (Ts.map V.ref))])) { s1 with heap := h2, toks := tk } := by
    refine lay_all I1 kept nd2 fun q hq => ?_
    rcases List.mem_append.mp hq with hq | hq
    · have g := geT _ (memT q hq)
      refine ⟨none_of g, I1.hok.fresh g, fun H3 h3 eq => ?_⟩
      obtain ⟨j, row, hj, hr, e⟩ := inZip q hq
      rw [e]
      obtain ⟨z, its, rv, ot, e, r⟩ := rowOk j q.1 row hj hr
      exact ⟨z, its, rv, ot, eq.trans e, r⟩
    · rw [List.mem_singleton] at hq
      subst hq
      refine ⟨none_of geL, I1.hok.fresh geL, fun H3 h3 eq => ?_⟩
      have hz2 : 1000 ≤ sizeLine := by decide
      refine ⟨by rw [List.length_map]; omega, Ts.map Value.ref, c, ?_, eq.trans e5⟩
      exact vals_refs Ts
  have nT : ∀ q ∈ tups, H1 q.1 = none := fun q hq => I1.hok.fresh (geT _ (memT q hq))
  have nd3 : (tups.map (·.1)).Nodup := by rw [fst]; exact nd1
  rw [updAll_snoc] at I2
  refine ⟨.ref _, _, I2, rfl, ?_⟩
  refine post _ _ Ts (x01.trans (updAll_ext nd3 nT)) (fun G M hM => habs_all (by rw [eH]; exact hM.newH hp) nd3 nT) ?_ lT fun j T row hj hr => ?_
  · rw [updAll_ne (by rw [fst]; exact fun hm => Nat.lt_irrefl _ (e3 _ hm))]
    exact I1.hok.fresh geL
  · refine updAll_at nd3 ?_
    rw [etups]
    exact List.mem_map.mpr ⟨(T, row), List.mem_of_getElem? (i := j) (by rw [List.getElem?_zip_eq_some]; exact ⟨hj, hr⟩), rfl⟩
theorem abs_zip {G : Gv} {H H3 : Hp} (x13 : Ext H H3) : ∀ {kvs : List (Key × V)} {l : List (D × D)} {xs ys : List V} {u v : List D} {Ts : List Addr}, AbsK G H kvs l → AbsL G H xs u → AbsL G H ys v → kvs.length = xs.length → kvs.length = ys.length → Ts.length = kvs.length →
    (∀ (j : Nat) (T : Addr) (row : List V), Ts[j]? = some T → (zipV kvs xs ys)[j]? = some row → H3 T = some (.tup row)) → AbsL G H3 (Ts.map V.ref) (zipRows l u v)
  | [], _, _, _, _, _, [], .nil, _, _, _, _, _, _ => .nil
  | [], _, _, _, _, _, _ :: _, _, _, _, _, _, h, _ => by simp at h
  | _ :: _, _, _, _, _, _, [], _, _, _, _, _, h, _ => by simp at h
  | kv :: r, _, [], _, _, _, _ :: _, _, _, _, h, _, _, _ => by simp at h
  | kv :: r, _, _ :: _, [], _, _, _ :: _, _, _, _, _, h, _, _ => by simp at h
  | kv :: r, kd :: l, x :: xs, y :: ys, _, _, T :: Ts, hk, .cons ax bx, .cons ay by', h1, h2, h3, rows => by
    have tl : AbsK G H r l := by cases hk <;> assumption
    have hv : Abs G H kv.2 kd.2 := by cases hk <;> assumption
    refine .cons (.tup (SqT.of (rows 0 T _ rfl rfl)) (.cons (hv.ext x13) (.cons (ax.ext x13) (.cons (ay.ext x13) .nil)))) ?_
    exact abs_zip x13 tl bx by' (by simpa using h1) (by simpa using h2) (by simpa using h3) fun j T row e1 e2 => rows (j + 1) T row (by simpa using e1) (by show (zipV r xs ys)[j]? = _; exact e2)
theorem de_zip {e : Expr} {t : DTE} {i j : Nat} {x y : Str} {p1 p2 q1 q2 apos cpos zpos lpos : Pos} (hc : X.calm = true) (hg1 : Gl X "list") (hm1 : X.mg "list" = none) (hg2 : Gl X "zip") (hm2 : X.mg "zip" = none) (he : PE X e (lE (Gx X) t))
    (hbase : attributeBase e "values" X.env (eval e X.env) = eval e X.env) (hline : (apos.endLine == cpos.line) = true)
    (hx : PE X (.Name x q1) (tVar i)) (hy : PE X (.Name y q2) (tVar j)) :
    PE X (.Call (.Name "list" p1) [.Call (.Name "zip" p2) [.Call (.Attribute e "values" apos) [] [] cpos, .Name x q1, .Name y q2] [] zpos] [] lpos) (lE (Gx X) fun σ M Q => t σ M fun x M1 => dVar i σ M1 fun y M2 => dVar j σ M2 fun z M3 => dZipK x y z M3 Q) := by
  refine PE.imp (pe_zipL hc hg1 hm1 hg2 hm2 he hbase hline hx hy) fun σ H Q ⟨σd, M, Qd, sim, q, up⟩ => ?_
  show lE (Gx X) t σ H _
  refine lE_then sim q fun d M1 v0 H1 r1 e1 a1 s1 => ?_
  unfold dVar at r1
  split at r1
  · rename_i dy hdy
    split at r1
    · rename_i dz hdz
      unfold dZipK at r1
      split at r1
      · rename_i l u v
        obtain ⟨c1, c2, c3, c4, c5⟩ := r1
        rw [Bool.and_eq_true, Bool.not_eq_true'] at c1
        have hs := allS_of c1.1
        have ne : l ≠ [] := fun z => by have := c1.2; rw [z] at this; cases this
        obtain ⟨dd, o, kvs, rfl, r, qk⟩ := fz_K a1 hs ne
        obtain ⟨v1, hv1, b1⟩ := s1.at_ i _ hdy
        obtain ⟨v2, hv2, b2⟩ := s1.at_ j _ hdz
        cases b1 with
        | tup ra la =>
          cases b2 with
          | tup rb lb =>
            have n1 := qk.length
            have n2 := la.length
            have n3 := lb.length
            have n0 : 0 < l.length := by cases l with | nil => exact absurd rfl ne | cons _ _ => simp
            refine ⟨dd, o, kvs, rfl, r, fun p hp => ⟨_, hv1, _, hv2, ?_⟩⟩
            refine ⟨p, dd, o, kvs, _, _, _, _, H1, rfl, hp, rfl, r, ra, rb, by omega, by omega, by omega, by omega, ?_⟩
            intro H2 L Ts x2 hm hL lT rows
            have hm2 := hm _ _ s1.heap
            have x3 : Ext H2 (upd H2 L (.lst (Ts.map V.ref))) := Ext.new hL
            refine up _ _ _ _ (c5 L (hm2.none hL)) ((e1.trans x2).trans x3) (.ref L) (hm2.new hL (.lst upd_same ?_))
            refine abs_zip (x2.trans x3) qk la lb (by omega) (by omega) lT fun j T row g1 g2 => ?_
            have := rows j T row g1 g2
            rw [upd_ne (fun z => by subst z; rw [hL] at this; cases this)]
            exact this
      · exact r1.elim
    · exact r1.elim
  · exact r1.elim
end
end Dy
end
section
set_option Elab.async false
set_option linter.all false
set_option maxRecDepth 100000
set_option maxHeartbeats 4000000
/-! The D layer, 8: targets, comprehensions, calls; the expressions as a whole. -/
namespace Dy
open PySem PySem.Spec L2
open PyProof.Rows hiding St

/-! ### targets -/
mutual
def gL (K : PySem.W.Frag) : Tg → TG
  | .name i => gName i
  | .tup l => fun v σ H Q => gTup K l.len (gLs K l) v σ H Q ∨ gUnl K l.len (gLs K l) v σ H Q
def gLs (K : PySem.W.Frag) : Tgs → TGs
  | .nil => gNil
  | .cons t l => gCons (gL K t) (gLs K l)
end
/-- slots stored one after another -/
def sets (σ : St) : List (Nat × V) → St
  | [] => σ
  | p :: r => sets (σ.set p.1 (some p.2)) r
theorem sets_append (σ : St) : ∀ (p q : List (Nat × V)), sets σ (p ++ q) = sets (sets σ p) q
  | [], q => rfl
  | a :: p, q => by
    show sets (σ.set a.1 (some a.2)) (p ++ q) = sets (sets (σ.set a.1 (some a.2)) p) q
    exact sets_append _ p q
section
variable {X : Cx} {sc : Scope} {N : List Str} {fa : Bool} {k : Nat}
mutual
theorem gL_run {G : Gv} {H : Hp} {M : Mp} {Q : St → Hp → Prop} : ∀ (t : Tg) (d : D) (v : V) (σ : St) (σd σd' : Sd), Abs G H v d → Sim G H σ σd M → tgSet t d σd = some σd' →
    ∃ ps : List (Nat × V), (∀ p ∈ ps, p.1 ∈ t.idx) ∧ Sim G H (sets σ ps) σd' M ∧ (Q (sets σ ps) H → gL G.K t v σ H Q)
  | .name i, d, v, σ, σd, σd', a, s, e => by
    simp only [tgSet, Option.some.injEq] at e
    subst e
    exact ⟨[(i, v)], by simp [Tg.idx], s.set i a, fun q => q⟩
  | .tup l, d, v, σ, σd, σd', a, s, e => by
    cases d with
    | tup ds =>
      obtain ⟨p, vs, rfl, r, q⟩ := tup_abs a
      simp only [tgSet] at e
      obtain ⟨ps, h1, h2, h3, h4⟩ := gLs_run l ds vs σ σd σd' q s e
      exact ⟨ps, h1, h2, fun q' => .inl ⟨p, vs, rfl, r, by rw [q.length]; exact h3, h4 q'⟩⟩
    | lst ds =>
      cases a with
      | lst r q =>
        simp only [tgSet] at e
        obtain ⟨ps, h1, h2, h3, h4⟩ := gLs_run l ds _ σ σd σd' q s e
        exact ⟨ps, h1, h2, fun q' => .inr ⟨_, _, rfl, r.sq, by rw [q.length]; exact h3, h4 q'⟩⟩
    | _ => simp [tgSet] at e
theorem gLs_run {G : Gv} {H : Hp} {M : Mp} {Q : St → Hp → Prop} : ∀ (l : Tgs) (ds : List D) (vs : List V) (σ : St) (σd σd' : Sd), AbsL G H vs ds → Sim G H σ σd M → tgSets l ds σd = some σd' →
    ∃ ps : List (Nat × V), (∀ p ∈ ps, p.1 ∈ l.idx) ∧ Sim G H (sets σ ps) σd' M ∧ ds.length = l.len ∧ (Q (sets σ ps) H → gLs G.K l vs σ H Q)
  | .nil, ds, vs, σ, σd, σd', a, s, e => by
    cases ds with
    | nil =>
      simp only [tgSets, Option.some.injEq] at e
      subst e
      cases a
      exact ⟨[], by simp, s, rfl, fun q => ⟨rfl, q⟩⟩
    | cons _ _ => simp [tgSets] at e
  | .cons t l, ds, vs, σ, σd, σd', a, s, e => by
    cases ds with
    | nil => simp [tgSets] at e
    | cons d ds =>
      cases a with
      | cons a1 a2 =>
        simp only [tgSets, Option.bind_eq_some_iff] at e
        obtain ⟨σ1, e1, e2⟩ := e
        obtain ⟨ps, h1, h2, h3⟩ := gL_run (Q := fun σ' H' => gLs G.K l _ σ' H' Q) t d _ σ σd σ1 a1 s e1
        obtain ⟨qs, k1, k2, k3, k4⟩ := gLs_run (Q := Q) l ds _ (sets σ ps) σ1 σd' a2 h2 e2
        refine ⟨ps ++ qs, fun p hp => ?_, by rw [sets_append]; exact k2, by simp [Tgs.len, k3], fun q => ⟨_, _, rfl, h3 (k4 (by rw [sets_append] at q; exact q))⟩⟩
        rcases List.mem_append.mp hp with z | z
        · exact List.mem_append_left _ (h1 p z)
        · exact List.mem_append_right _ (k1 p z)
end
theorem tgs_eq {es : List Expr} {l : Tgs} (h : chkTgs sc N fa l es = true) (env : Env) : (assignEach es env).length = l.len ∧ (assignEach es env).findIdx? (·.1) = none ∧ (assignEach es env).map (·.2) = es.map (fun e => assign e env) := by
  induction es generalizing l with
  | nil =>
    cases l with
    | nil => exact ⟨rfl, rfl, rfl⟩
    | cons _ _ => simp [chkTgs] at h
  | cons e es ih =>
    cases l with
    | nil => simp [chkTgs] at h
    | cons t l =>
      simp only [chkTgs, Bool.and_eq_true] at h
      obtain ⟨a, b, c⟩ := ih h.2
      have e1 : assignEach (e :: es) env = (false, assign e env) :: assignEach es env := by
        cases e <;> first | rfl | (simp at h)
      rw [e1]
      refine ⟨by simp [a, Tgs.len], by simp [List.findIdx?_cons, b], by simp [c]⟩
mutual
theorem snd_tg (o : Ok X sc N fa k) : ∀ (t : Tg) (e : Expr), chkTg sc N fa t e = true → PG X e (gL X.K t)
  | .name i, e, h => by
    cases e <;> simp only [chkTg, Bool.false_eq_true, Bool.and_eq_true, decide_eq_true_eq] at h
    obtain ⟨l1, l2⟩ := loc_of o h.2
    exact pg_name (i := i) o.nd (by rw [o.hN]; exact h.1) l1 l2
  | .tup l, e, h => by
    cases e <;> simp only [chkTg, Bool.false_eq_true] at h
    rename_i es j pos
    obtain ⟨e1, e2, e3⟩ := tgs_eq h X.env
    have p1 := pg_tup (pos := pos) (k := j) o.calm (snd_tgs o l es h) e1 e2
    have p2 := pg_unl (pos := pos) (k := j) o.calm (snd_tgs o l es h) e1 e2
    exact ⟨fun pins s σ H v u Q I r q => q.elim (fun q => p1.run pins s σ H v u Q I r q) fun q => p2.run pins s σ H v u Q I r q⟩
theorem snd_tgs (o : Ok X sc N fa k) : ∀ (l : Tgs) (es : List Expr), chkTgs sc N fa l es = true → PGs X es (gLs X.K l)
  | .nil, es, h => by
    cases es with
    | nil => exact pgs_nil
    | cons _ _ => simp [chkTgs] at h
  | .cons t l, es, h => by
    cases es with
    | nil => simp [chkTgs] at h
    | cons e es =>
      have h0 := h
      simp only [chkTgs, Bool.and_eq_true] at h
      exact pgs_cons (snd_tg o t e h.1.2) (snd_tgs o l es h.2) (by rw [(tgs_eq h0 X.env).2.2, (tgs_eq h.2 X.env).2.2]; rfl)
end

/-! ### comprehensions -/
abbrev blkE (scope : Scope) (cl : List (Str × Addr)) (C : Addr) (env : Env) : Env := compEnvC scope cl C env
theorem wipe_sim {G : Gv} {H : Hp} {M : Mp} : ∀ (vs : List Nat) {σ : St} {σd : Sd}, Sim G H σ σd M → Sim G H (wipe σ vs) (wipeD σd vs) M
  | [], _, _, s => s
  | v :: vs, σ, σd, s => by
    have t := wipe_sim vs s
    unfold wipe wipeD
    refine ⟨by simp [t.len], fun j d q => ?_, t.heap⟩
    by_cases z : v = j
    · subst z
      by_cases lt : v < (wipeD σd vs).length
      · rw [List.getElem?_set_self lt] at q; cases q
      · rw [List.getElem?_eq_none (by simpa using lt)] at q; cases q
    · rw [List.getElem?_set_ne z] at q
      rw [List.getElem?_set_ne z]
      exact t.at_ j d q
theorem wipe_set {σ : St} {i : Nat} {x : Option V} : ∀ {vs : List Nat}, i ∈ vs → wipe (σ.set i x) vs = wipe σ vs
  | [], h => nomatch h
  | v :: vs, h => by
    unfold wipe
    by_cases z : v = i
    · subst z
      by_cases m : v ∈ vs
      · rw [wipe_set m]
      · have e : ∀ (ws : List Nat) (σ : St), v ∉ ws → wipe (σ.set v x) ws = (wipe σ ws).set v x := by
          intro ws
          induction ws with
          | nil => intro σ _; rfl
          | cons w ws ih =>
            intro σ hn
            simp only [List.mem_cons, not_or] at hn
            unfold wipe
            rw [ih σ hn.2, List.set_comm _ _ hn.1]
        rw [e vs σ m, List.set_set]
    · have m : i ∈ vs := by
        rcases List.mem_cons.mp h with q | q
        · exact absurd q.symm z
        · exact q
      rw [wipe_set m]
theorem wipe_sets {vs : List Nat} : ∀ (ps : List (Nat × V)) {σ : St}, (∀ p ∈ ps, p.1 ∈ vs) → wipe (sets σ ps) vs = wipe σ vs
  | [], _, _ => rfl
  | p :: ps, σ, h => by
    show wipe (sets (σ.set p.1 (some p.2)) ps) vs = _
    rw [wipe_sets ps fun q hq => h q (List.mem_cons_of_mem _ hq), wipe_set (h p List.mem_cons_self)]
theorem wipe_wipe {vs : List Nat} : ∀ {σ : St}, wipe (wipe σ vs) vs = wipe σ vs := by
  have e : ∀ (us ws : List Nat) (σ : St), (∀ u ∈ us, u ∈ ws) → wipe (wipe σ us) ws = wipe σ ws := by
    intro us
    induction us with
    | nil => intro _ _ _; rfl
    | cons u us ih =>
      intro ws σ h
      show wipe ((wipe σ us).set u none) ws = _
      rw [wipe_set (h u List.mem_cons_self), ih ws σ fun v hv => h v (List.mem_cons_of_mem _ hv)]
  intro σ
  exact e vs vs σ fun _ h => h
theorem HAbs.lst_at {G : Gv} {H : Hp} {M : Mp} {D : Addr} {acc : List Dy.D} (h : HAbs G H M) (e : M D = some (.lst acc)) : ∃ vs, H D = some (.lst vs) ∧ AbsL G H vs acc := by
  cases h D _ e with | lst r q => exact ⟨_, r, q⟩
/-- what a turn is: the target, the test, the element -/
def lcOne (tg : Tg) (tt : DTT) (te : DTE) (vs : List Nat) (σ : Sd) : Dy.D → Mp → (Option Dy.D → Mp → Prop) → Prop := fun d M2 K => wTg tg d (wipeD σ vs) M2 fun σ2 M3 => tt σ2 M3 fun k M4 => if k = true then te σ2 M4 fun e M5 => K (some e) M5 else K none M4
def dLc (f : Bool) (ti : DTI) (tg : Tg) (tt : DTT) (te : DTE) (vs : List Nat) : DTE := fun σ M Q => ti σ M fun src M1 => ∀ D, M1 D = none → lcRun src D (lcOne tg tt te vs σ) (lcEnd f D Q) src.items [] (updM M1 D (.lst []))
theorem lc_imp {f : Bool} {ti : DTI} {tg : Tg} {tt : DTT} {te : DTE} {vs : List Nat} (hv : ∀ i ∈ tg.idx, i ∈ vs) {σ : St} {H : Hp} {Q : VK} (h : lE (Gx X) (dLc f ti tg tt te vs) σ H Q) :
    tLc (lI (Gx X) ti) (gL X.K tg) (lT (Gx X) tt) (lE (Gx X) te) vs σ H fun v H2 => Q v H2 ∨ ∃ p u, H2 p = some u ∧ Mut (some u) ∧ ∀ o, Q v (upd H2 p (.frz o u)) := by
  obtain ⟨σd, M, Qd, sim, q, up⟩ := h
  refine ⟨σd, M, _, sim, q, fun src M1 J H1 q1 e1 hm1 it => ?_⟩
  intro D hD
  have run0 := q1 D (hm1.none hD)
  refine ⟨fun i m H' => m = src.items.length - i ∧ i ≤ src.items.length ∧ ∃ M' acc, Ext H1 H' ∧ HAbs (Gx X) H' M' ∧ M' D = some (.lst acc) ∧ lcRun src D (lcOne tg tt te vs σd) (lcEnd f D Qd) (src.items.drop i) acc M', ?_, ?_⟩
  · exact ⟨_, rfl, Nat.zero_le _, _, [], Ext.new hD, hm1.new hD (.lst upd_same .nil), updM_same, run0⟩
  · rintro i m H' ⟨rfl, hi, M', acc, x1, hm', hacc, run⟩
    by_cases lt : i < src.items.length
    · refine .inr ?_
      obtain ⟨d, hd⟩ : ∃ d, src.items[i]? = some d := ⟨_, List.getElem?_eq_getElem lt⟩
      have ed : src.items.drop i = d :: src.items.drop (i + 1) := by
        rw [List.drop_eq_getElem_cons lt]
        rw [List.getElem?_eq_getElem lt] at hd
        cases hd; rfl
      rw [ed] at run
      obtain ⟨ok, one⟩ := run
      refine ⟨it.go i H' M' x1 hm' ok lt, fun H'' => ∃ M' acc, Ext H1 H'' ∧ HAbs (Gx X) H'' M' ∧ M' D = some (.lst acc) ∧ lcRun src D (lcOne tg tt te vs σd) (lcEnd f D Qd) (src.items.drop (i + 1)) acc M', fun H'' ⟨M2, acc2, y1, y2, y3, y4⟩ => ⟨_, by omega, rfl, lt, M2, acc2, y1, y2, y3, y4⟩, fun x H2 y => ?_⟩
      obtain ⟨x2, ax, hm2⟩ := it.yld i H' M' x H2 x1 hm' ok y d hd
      unfold lcOne wTg at one
      split at one
      · rename_i σ2 hset
        obtain ⟨ps, hps, sim2, hg⟩ := gL_run (G := Gx X) (Q := fun σ2 H2 => wipe σ2 vs = wipe σ vs ∧ lT (Gx X) tt σ2 H2 fun b H3 => if b = true then lE (Gx X) te σ2 H3 fun y H4 => ∃ acc, H4 D = some (.lst acc) ∧ acc.length < sizeLine ∧ ∃ M' acc', Ext H1 (upd H4 D (.lst (acc ++ [y]))) ∧ HAbs (Gx X) (upd H4 D (.lst (acc ++ [y]))) M' ∧ M' D = some (.lst acc') ∧ lcRun src D (lcOne tg tt te vs σd) (lcEnd f D Qd) (src.items.drop (i + 1)) acc' M'
            else ∃ M' acc', Ext H1 H3 ∧ HAbs (Gx X) H3 M' ∧ M' D = some (.lst acc') ∧ lcRun src D (lcOne tg tt te vs σd) (lcEnd f D Qd) (src.items.drop (i + 1)) acc' M')
          tg d x (wipe σ vs) (wipeD σd vs) σ2 ax ((wipe_sim vs sim).ext ((e1.trans x1).trans x2) hm2) hset
        refine hg ⟨by rw [wipe_sets ps fun p hp => hv _ (hps p hp), wipe_wipe], ?_⟩
        refine ⟨σ2, M', _, sim2, one, fun b M3 H3 q3 e3 hm3 => ?_⟩
        cases b with
        | false =>
          simp only [Bool.false_eq_true, if_false] at q3 ⊢
          exact ⟨M3, acc, (x1.trans x2).trans e3, hm3, q3.1, q3.2⟩
        | true =>
          simp only [if_true] at q3 ⊢
          refine ⟨σ2, M3, _, sim2.ext e3 hm3, q3, fun e M5 y H5 q5 e5 a5 hm5 => ?_⟩
          obtain ⟨h5, h6, h7⟩ := q5
          obtain ⟨vs5, hv5, av5⟩ := hm5.lst_at h5
          have x5 : Ext H5 (upd H5 D (.lst (vs5 ++ [y]))) := Ext.put hv5 trivial
          refine ⟨vs5, hv5, by rw [av5.length]; exact h6, _, acc ++ [e], ((((x1.trans x2).trans e3).trans e5).trans x5), hm5.put hv5 trivial (.lst upd_same ((av5.append (.cons a5 .nil)).ext x5)), updM_same, h7⟩
      · exact one.elim
    · have e : i = src.items.length := by omega
      subst e
      rw [List.drop_length] at run
      obtain ⟨ok, h1, h2⟩ := run
      refine .inl ⟨it.stop _ H' M' x1 hm' ok rfl, ?_⟩
      obtain ⟨ws, hw, aw⟩ := hm'.lst_at h1
      cases f with
      | false => exact .inl (up _ _ _ _ h2 (e1.trans x1) (.ref D) hm')
      | true =>
        refine .inr ⟨D, _, hw, trivial, fun o => ?_⟩
        have x2 : Ext H' (upd H' D (.frz o (.lst ws))) := Ext.put hw trivial
        exact up _ _ _ _ h2 ((e1.trans x1).trans x2) (.lst (.inl ⟨o, upd_same⟩) (aw.ext x2)) (hm'.del D _ hw trivial)
/-! ### comprehensions that make dicts -/
def dcOne (tg : Tg) (tt : DTT) (tk te : DTE) (vs : List Nat) (σ : Sd) : Dy.D → Mp → (Option (Dy.D × Dy.D) → Mp → Prop) → Prop := fun d M2 K => wTg tg d (wipeD σ vs) M2 fun σ2 M3 => tt σ2 M3 fun k M4 => if k = true then tk σ2 M4 fun e M5 => te σ2 M5 fun e' M6 => K (some (e, e')) M6 else K none M4
def dDc (f : Bool) (ti : DTI) (tg : Tg) (tt : DTT) (tk te : DTE) (vs : List Nat) : DTE := fun σ M Q => ti σ M fun src M1 => ∀ D, M1 D = none → dcRun src D (dcOne tg tt tk te vs σ) (dcEnd f D Q) src.items (updM M1 D (.dct []))
theorem dc_imp {f : Bool} {ti : DTI} {tg : Tg} {tt : DTT} {tk te : DTE} {vs : List Nat} (hv : ∀ i ∈ tg.idx, i ∈ vs) {σ : St} {H : Hp} {Q : VK} (h : lE (Gx X) (dDc f ti tg tt tk te vs) σ H Q) :
    tDg (lI (Gx X) ti) (gL X.K tg) (lT (Gx X) tt) (lE (Gx X) tk) (lE (Gx X) te) (lPut (Gx X)) vs σ H fun v H2 => Q v H2 ∨ ∃ p u, H2 p = some u ∧ Mut (some u) ∧ ∀ o, Q v (upd H2 p (.frz o u)) := by
  obtain ⟨σd, M, Qd, sim, q, up⟩ := h
  refine ⟨σd, M, _, sim, q, fun src M1 J H1 q1 e1 hm1 it D hD => ?_⟩
  have run0 := q1 D (hm1.none hD)
  refine ⟨fun i m H' => m = src.items.length - i ∧ i ≤ src.items.length ∧ ∃ M', Ext H1 H' ∧ HAbs (Gx X) H' M' ∧ dcRun src D (dcOne tg tt tk te vs σd) (dcEnd f D Qd) (src.items.drop i) M', ⟨_, rfl, Nat.zero_le _, _, Ext.new hD, hm1.new hD (.dK upd_same .nil), run0⟩, ?_⟩
  rintro i m H' ⟨rfl, hi, M', x1, hm', run⟩
  by_cases lt : i < src.items.length
  · refine .inr ?_
    obtain ⟨d, hd⟩ : ∃ d, src.items[i]? = some d := ⟨_, List.getElem?_eq_getElem lt⟩
    have ed : src.items.drop i = d :: src.items.drop (i + 1) := by
      rw [List.drop_eq_getElem_cons lt]
      rw [List.getElem?_eq_getElem lt] at hd
      cases hd; rfl
    rw [ed] at run
    obtain ⟨ok, one⟩ := run
    let Nx : Hp → Prop := fun H'' => ∃ M', Ext H1 H'' ∧ HAbs (Gx X) H'' M' ∧ dcRun src D (dcOne tg tt tk te vs σd) (dcEnd f D Qd) (src.items.drop (i + 1)) M'
    refine ⟨it.go i H' M' x1 hm' ok lt, Nx, fun H'' ⟨M2, y1, y3, y4⟩ => ⟨_, by omega, rfl, lt, M2, y1, y3, y4⟩, fun x H2 y => ?_⟩
    obtain ⟨x2, ax, hm2⟩ := it.yld i H' M' x H2 x1 hm' ok y d hd
    unfold dcOne wTg at one
    split at one
    · rename_i σ2 hset
      obtain ⟨ps, hps, sim2, hg⟩ := gL_run (G := Gx X) (Q := fun σ2 H2 => wipe σ2 vs = wipe σ vs ∧ lT (Gx X) tt σ2 H2 fun b H3 => if b = true then lE (Gx X) tk σ2 H3 fun y H4 => lE (Gx X) te σ2 H4 fun z H5 => lPut (Gx X) D y z H5 Nx else Nx H3)
        tg d x (wipe σ vs) (wipeD σd vs) σ2 ax ((wipe_sim vs sim).ext ((e1.trans x1).trans x2) hm2) hset
      refine hg ⟨by rw [wipe_sets ps fun p hp => hv _ (hps p hp), wipe_wipe], ?_⟩
      refine ⟨σ2, M', _, sim2, one, fun b M3 H3 q3 e3 hm3 => ?_⟩
      cases b with
      | false =>
        simp only [Bool.false_eq_true, if_false] at q3 ⊢
        exact ⟨M3, (x1.trans x2).trans e3, hm3, q3⟩
      | true =>
        simp only [if_true] at q3 ⊢
        refine ⟨σ2, M3, _, sim2.ext e3 hm3, q3, fun e M5 y H5 q5 e5 a5 hm5 => ?_⟩
        refine ⟨σ2, M5, _, (sim2.ext e3 hm3).ext e5 hm5, q5, fun e' M6 z H6 q6 e6 a6 hm6 => ?_⟩
        exact ⟨e, e', M6, _, a5.ext e6, a6, hm6, fDSet_d q6, fun M7 H7 q7 e7 hm7 => ⟨M7, ((((x1.trans x2).trans e3).trans e5).trans e6).trans e7, hm7, q7⟩⟩
    · exact one.elim
  · have e : i = src.items.length := by omega
    subst e
    rw [List.drop_length] at run
    obtain ⟨ok, h1⟩ := run
    refine .inl ⟨it.stop _ H' M' x1 hm' ok rfl, ?_⟩
    cases f with
    | false => exact .inl (up _ _ _ _ h1 (e1.trans x1) (.ref D) hm')
    | true => exact fz_post (e1.trans x1) (.ref D) hm' h1 up
end
end Dy
end
section
set_option Elab.async false
set_option linter.all false
set_option maxRecDepth 100000
set_option maxHeartbeats 4000000
/-! The D layer, 9: the small language is sound, expressions as a whole. -/
namespace Dy
open PySem PySem.Spec L2
open PyProof.Rows hiding St

section
variable {X : Cx} {sc : Scope} {N : List Str} {fa : Bool} {k : Nat}
theorem Ok.blk (o : Ok X sc N fa k) (s : Shared) (H : Hp) (scope : Scope) (cl : List (Str × Addr)) (C : Addr) (fp : List Addr) : Ok (X.blk s H scope (compEnvC scope cl C X.env) fp) (relS scope sc) N false k where
  hN := o.hN
  hsc := by rw [← o.hsc]; rfl
  calm := o.calm
  nd := o.nd
  room := o.room
  fn := fun h => nomatch h
theorem PTs.imp {ifs : List Expr} {t t' : TT} (h : PTs X ifs t) (i : ∀ σ H Q, t' σ H Q → t σ H Q) : PTs X ifs t' := ⟨fun pins s σ H Q I q => h.run pins s σ H Q I (i σ H Q q)⟩
theorem dts_nil : PTs X [] (lT (Gx X) fun _ M Q => Q true M) := PTs.imp pts_nil fun σ H Q ⟨σd, M, Qd, sim, q, up⟩ => up _ _ _ q (Ext.refl H) sim.heap
/-! ### and, or, not -/
theorem dt_and1 {a : Expr} {pos : Pos} {t : DTT} (h : PT X a (lT (Gx X) t)) : PW X (.BoolOp .And [a] pos) (lT (Gx X) fun σ M Q => t σ M fun k M1 => if k = true then Q true M1 else Q false M1) := by
  refine PW.imp (pw_and1 h) fun σ H Q ⟨σd, M, Qd, sim, q, up⟩ => ⟨σd, M, _, sim, q, fun b M' H' q' e hm => ?_⟩
  cases b with
  | true => exact up _ _ _ (by simpa using q') e hm
  | false => exact up _ _ _ (by simpa using q') e hm
theorem dt_or1 {a : Expr} {pos : Pos} {t : DTT} (h : PT X a (lT (Gx X) t)) : PW X (.BoolOp .Or [a] pos) (lT (Gx X) fun σ M Q => t σ M fun k M1 => if k = true then Q true M1 else Q false M1) := by
  refine PW.imp (pw_or1 h) fun σ H Q ⟨σd, M, Qd, sim, q, up⟩ => ⟨σd, M, _, sim, q, fun b M' H' q' e hm => ?_⟩
  cases b with
  | true => exact up _ _ _ (by simpa using q') e hm
  | false => exact up _ _ _ (by simpa using q') e hm
theorem dt_and {a b : Expr} {r : List Expr} {pos : Pos} {t u : DTT} (h : PT X a (lT (Gx X) t)) (h2 : PW X (.BoolOp .And (b :: r) pos) (lT (Gx X) u)) : PW X (.BoolOp .And (a :: b :: r) pos) (lT (Gx X) fun σ M Q => t σ M fun k M1 => if k = true then u σ M1 Q else Q false M1) := by
  refine PW.imp (pw_and h h2) fun σ H Q ⟨σd, M, Qd, sim, q, up⟩ => lT_then sim q fun b M1 H1 q1 e1 s1 => ?_
  cases b with
  | true => exact ⟨σd, M1, Qd, s1, by simpa using q1, up.ext e1⟩
  | false => exact up _ _ _ (by simpa using q1) e1 s1.heap
theorem dt_or {a b : Expr} {r : List Expr} {pos : Pos} {t u : DTT} (h : PT X a (lT (Gx X) t)) (h2 : PW X (.BoolOp .Or (b :: r) pos) (lT (Gx X) u)) : PW X (.BoolOp .Or (a :: b :: r) pos) (lT (Gx X) fun σ M Q => t σ M fun k M1 => if k = true then Q true M1 else u σ M1 Q) := by
  refine PW.imp (pw_or h h2) fun σ H Q ⟨σd, M, Qd, sim, q, up⟩ => lT_then sim q fun b M1 H1 q1 e1 s1 => ?_
  cases b with
  | true => exact up _ _ _ (by simpa using q1) e1 s1.heap
  | false => exact ⟨σd, M1, Qd, s1, by simpa using q1, up.ext e1⟩
theorem dt_not {a : Expr} {pos : Pos} {t : DTT} (h : PT X a (lT (Gx X) t)) : PT X (.UnaryOp .Not a pos) (lT (Gx X) fun σ M Q => t σ M fun k M1 => Q (!k) M1) :=
  PT.imp (pt_not h) fun σ H Q ⟨σd, M, Qd, sim, q, up⟩ => lT_then sim q fun b M1 H1 q1 e1 s1 => up _ _ _ q1 e1 s1.heap
theorem de_and {a b : Expr} {r : List Expr} {pos : Pos} {t u : DTE} (h : PE X a (lE (Gx X) t)) (h2 : PE X (.BoolOp .And (b :: r) pos) (lE (Gx X) u)) : PE X (.BoolOp .And (a :: b :: r) pos) (lE (Gx X) fun σ M Q => t σ M fun d M1 => match d with
    | .bl k => if k = true then u σ M1 Q else Q (.bl false) M1
    | _ => False) := by
  refine PE.imp (pe_and h h2) fun σ H Q ⟨σd, M, Qd, sim, q, up⟩ => lE_then sim q fun d M1 v H1 q1 e1 a1 s1 => ?_
  cases d with
  | bl c =>
    refine ⟨c, bl_abs a1, ?_⟩
    cases c with
    | true => rw [if_pos rfl]; exact ⟨σd, M1, Qd, s1, by simpa using q1, up.ext e1⟩
    | false => rw [if_neg Bool.false_ne_true]; exact up _ _ _ _ (by simpa using q1) e1 (.bl _) s1.heap
  | _ => exact q1.elim
theorem de_or {a b : Expr} {r : List Expr} {pos : Pos} {t u : DTE} (h : PE X a (lE (Gx X) t)) (h2 : PE X (.BoolOp .Or (b :: r) pos) (lE (Gx X) u)) : PE X (.BoolOp .Or (a :: b :: r) pos) (lE (Gx X) fun σ M Q => t σ M fun d M1 => match d with
    | .bl k => if k = true then Q (.bl true) M1 else u σ M1 Q
    | _ => False) := by
  refine PE.imp (pe_or h h2) fun σ H Q ⟨σd, M, Qd, sim, q, up⟩ => lE_then sim q fun d M1 v H1 q1 e1 a1 s1 => ?_
  cases d with
  | bl c =>
    refine ⟨c, bl_abs a1, ?_⟩
    cases c with
    | true => rw [if_pos rfl]; exact up _ _ _ _ (by simpa using q1) e1 (.bl _) s1.heap
    | false => rw [if_neg Bool.false_ne_true]; exact ⟨σd, M1, Qd, s1, by simpa using q1, up.ext e1⟩
  | _ => exact q1.elim
theorem de_dnew {pos : Pos} : PE X (.Dict [] [] pos) (lE (Gx X) fun _ M Q => newD [] M Q) :=
  PE.imp pe_dnewK fun σ H Q ⟨σd, M, Qd, sim, q, up⟩ => fun p hp => by
    exact up _ _ _ _ (q p (sim.heap.none hp)) (Ext.new hp) (.ref p) (sim.heap.new hp (.dK upd_same .nil))
/-! ### ranges -/
def dRng (t : DTA) : DTI := fun σ M Q => t σ M fun ds M1 => match ds with
  | [.int n] => -(2 ^ 62) ≤ n ∧ n < 2 ^ 62 ∧ Q (.val (rngD 0 n.toNat)) M1
  | [.int a, .int b] => (-(2 ^ 62) ≤ a ∧ a < 2 ^ 62 ∧ -(2 ^ 62) ≤ b ∧ b < 2 ^ 62) ∧ Q (.val (rngD a (b - a).toNat)) M1
  | _ => False
theorem PI.imp {tg e : Expr} {t t' : TI} (h : PI X tg e t) (i : ∀ σ H Q, t' σ H Q → t σ H Q) : PI X tg e t' := ⟨fun pins s σ H Q I q => h.run pins s σ H Q I (i σ H Q q)⟩
theorem int_abs {G : Gv} {H : Hp} {v : V} {i : Int} (a : Abs G H v (.int i)) : v = .int i := by cases a; rfl
theorem di_rng1 {tg a : Expr} {p pos : Pos} {t : DTE} (hg : Gl X "range") (hm : X.mg "range" = none) (ha : PE X a (lE (Gx X) t)) (hh : hd a = true) : PI X tg (.Call (.Name "range" p) [a] [] pos) (lI (Gx X) (dRng fun σ M Q => t σ M fun d M1 => Q [d] M1)) := by
  refine PI.imp (pi_range1 hg hm (pa_cons ha pa_nil (star_of hh [] X.env)) (star_of hh [] X.env)) fun σ H R ⟨σd, M, Qs, sim, ht, hR⟩ => ?_
  refine lE_then sim ht fun d M1 v H1 q1 e1 a1 s1 => ?_
  cases d with
  | int i => exact ⟨i, by rw [int_abs a1], q1.1, q1.2.1, hR _ _ _ _ q1.2.2 e1 s1.heap itd_rng⟩
  | _ => exact q1.elim
theorem di_rng2 {tg a b : Expr} {p pos : Pos} {t u : DTE} (hg : Gl X "range") (hm : X.mg "range" = none) (ha : PE X a (lE (Gx X) t)) (hh : hd a = true) (hb : PE X b (lE (Gx X) u)) (hh2 : hd b = true) : PI X tg (.Call (.Name "range" p) [a, b] [] pos) (lI (Gx X) (dRng fun σ M Q => t σ M fun d M1 => u σ M1 fun e M2 => Q [d, e] M2)) := by
  refine PI.imp (pi_range2 hg hm (pa_cons ha (pa_cons hb pa_nil (star_of hh2 [] X.env)) (star_of hh [b] X.env)) (by rw [star_of hh, star_of hh2]; rfl) (star_of hh2 [] X.env)) fun σ H R ⟨σd, M, Qs, sim, ht, hR⟩ => ?_
  refine lE_then sim ht fun d M1 v H1 q1 e1 a1 s1 => ?_
  refine lE_then s1 q1 fun d2 M2 v2 H2 q2 e2 a2 s2 => ?_
  cases d with
  | int i =>
    cases d2 with
    | int j => exact ⟨i, j, by rw [int_abs a1, int_abs a2], q2.1, hR _ _ _ _ q2.2 (e1.trans e2) s2.heap itd_rng⟩
    | _ => exact q2.elim
  | _ => cases d2 <;> exact q2.elim
/-! ### comprehensions -/
theorem de_lc (o : Ok X sc N fa k) {f : Bool} {elt tg iter : Expr} {ifs : List Expr} {scope : Scope} {own : List (Str × Nat)} {pos : Pos} {ti : DTI} {g : Tg} {tt : DTT} {te : DTE} (hi : PI X tg iter (lI (Gx X) ti)) (hb : blkC N sc scope own = true)
    (hg : ∀ (s : Shared) (H : Hp) (C : Addr) (cl : List (Str × Addr)) (fp : List Addr), PG (X.blk s H scope (compEnvC scope cl C X.env) fp) tg (gL X.K g))
    (ht : ∀ (s : Shared) (H : Hp) (C : Addr) (cl : List (Str × Addr)) (fp : List Addr), PTs (X.blk s H scope (compEnvC scope cl C X.env) fp) ifs (lT (Gx X) tt))
    (he : ∀ (s : Shared) (H : Hp) (C : Addr) (cl : List (Str × Addr)) (fp : List Addr), PE (X.blk s H scope (compEnvC scope cl C X.env) fp) elt (lE (Gx X) te))
    (hh : hd iter = true) (hv : ∀ i ∈ g.idx, i ∈ own.map (·.2)) :
    PE X (.ListComp elt [⟨tg, iter, ifs, 0⟩] scope pos) (lE (Gx X) (dLc f ti g tt te (own.map (·.2)))) := by
  refine PE.post (pe_lc o.calm o.nd hi (blkOk_by (by rw [o.hN, o.hsc]; exact hb)) hg ht he (fold_of hh _)) fun σ H Q q => ?_
  exact lc_imp hv q
/-! ### calls -/
theorem UpX.base {G : Gv} {H0 H : Hp} {Ed : XQ} {E : XK} (e : Ext H0 H) (h : UpX G H0 Ed E) : UpX G H Ed E := fun x M' cls d H' q e2 a hm => h x M' cls d H' q (e.trans e2) a hm
theorem de_call (o : Ok X sc N fa k) {Ex : XQ} (tk : TkD X Ex) {f : Str} {c : DSp} {e : Expr} {es : List Expr} {p pos : Pos} {t : DTA} (hg : Gl X f) (hdb : (f == ("__debug__" : Str)) = false) (hc : CallOk (gpx X k) f c) (ha : PA X (e :: es) (lA (Gx X) t)) (hh : hd e = true) (hpl : (backTo pos (starEach es X.env)).any (·.1) = false) :
    PE X (.Call (.Name f p) (e :: es) [] pos) (lE (Gx X) fun σ M Q => t σ M fun ds M1 => c ds M1 Q Ex) := by
  obtain ⟨a, fd, ps, h1, h2, h3, h4⟩ := hc
  have z := pe_call (E := fun cls d H => ∃ x M', Ex x M' ∧ Ext X.H_0 H ∧ XAbs (Gx X) H cls d x ∧ HAbs (Gx X) H M') h3 o.room hg h1 h2 h4 (.nil) (passes_call tk fun _ _ _ _ q => q) ha hdb (star_of hh es X.env) hpl (p := p)
  refine PE.base z fun σ H Q b ⟨σd, M, Qd, sim, q, up⟩ => ?_
  refine lA_then sim q fun ds M1 vs H1 q1 e1 a1 s1 => ?_
  refine ⟨ds, M1, Qd, Ex, by rw [List.append_nil]; exact a1, s1.heap, q1, up.ext e1, fun x M' cls d H' q' e' a' hm' => ⟨x, M', q', b.trans (e1.trans e'), a', hm'⟩⟩
theorem de_dc (o : Ok X sc N fa k) {f : Bool} {kx vx tg iter : Expr} {ifs : List Expr} {scope : Scope} {own : List (Str × Nat)} {pos : Pos} {ti : DTI} {g : Tg} {tt : DTT} {tk te : DTE} (hi : PI X tg iter (lI (Gx X) ti)) (hb : blkC N sc scope own = true)
    (hg : ∀ (s : Shared) (H : Hp) (C : Addr) (cl : List (Str × Addr)) (fp : List Addr), PG (X.blk s H scope (compEnvC scope cl C X.env) fp) tg (gL X.K g))
    (ht : ∀ (s : Shared) (H : Hp) (C : Addr) (cl : List (Str × Addr)) (fp : List Addr), PTs (X.blk s H scope (compEnvC scope cl C X.env) fp) ifs (lT (Gx X) tt))
    (hk : ∀ (s : Shared) (H : Hp) (C : Addr) (cl : List (Str × Addr)) (fp : List Addr), PE (X.blk s H scope (compEnvC scope cl C X.env) fp) kx (lE (Gx X) tk))
    (he : ∀ (s : Shared) (H : Hp) (C : Addr) (cl : List (Str × Addr)) (fp : List Addr), PE (X.blk s H scope (compEnvC scope cl C X.env) fp) vx (lE (Gx X) te))
    (hh : hd iter = true) (hv : ∀ i ∈ g.idx, i ∈ own.map (·.2)) :
    PE X (.DictComp kx vx [⟨tg, iter, ifs, 0⟩] scope pos) (lE (Gx X) (dDc f ti g tt tk te (own.map (·.2)))) := by
  refine PE.post (pe_dg (t := lPut (Gx X)) o.calm o.nd hi (blkOk_by (by rw [o.hN, o.hsc]; exact hb)) (fun s H C cl fp => ⟨hg s H C cl fp, ht s H C cl fp, hk s H C cl fp, he s H C cl fp, pput_d (X := X.blk s H scope (compEnvC scope cl C X.env) fp) (o.blk s H scope cl C fp).hu⟩) (fold_of hh _)) fun σ H Q q => ?_
  exact dc_imp hv q
/-! ### attributes, instances -/
theorem absF_get {G : Gv} {H : Hp} {f : Str} {d : D} : ∀ {fs : List (Str × V)} {ds : List (Str × D)}, AbsF G H fs ds → ds.lookup f = some d → ∃ v, fs.lookup f = some v ∧ Abs G H v d
  | _, _, .nil, h => by simp at h
  | _, _, .cons (x := x) a l, h => by
    rw [List.lookup_cons] at h ⊢
    cases z : f == x with
    | true => rw [z] at h; cases h; exact ⟨_, rfl, a⟩
    | false => rw [z] at h; exact absF_get l h
theorem absF_put {G : Gv} {H : Hp} {f : Str} {v : V} {d : D} (a : Abs G H v d) : ∀ {fs : List (Str × V)} {ds : List (Str × D)}, AbsF G H fs ds → AbsF G H (putF f v fs) (putFD f d ds)
  | _, _, .nil => .cons a .nil
  | _, _, .cons (x := x) b l => by
    unfold putF putFD
    by_cases z : x = f
    · rw [if_pos z, if_pos z]; exact .cons a l
    · rw [if_neg z, if_neg z]; exact .cons b (absF_put a l)
theorem absF_len {G : Gv} {H : Hp} : ∀ {fs : List (Str × V)} {ds : List (Str × D)}, AbsF G H fs ds → fs.length = ds.length
  | _, _, .nil => rfl
  | _, _, .cons _ l => by simp [absF_len l]
theorem de_attr {C f : Str} {e : Expr} {pos : Pos} {t : DTE} (he : PE X e (lE (Gx X) t)) (hb : abOk e = true) (w : AtOk (gpx X k) C f) : PE X (.Attribute e f pos) (lE (Gx X) fun σ M Q => t σ M fun d M1 => dAttr C f d M1 Q) := by
  refine PE.imp (pe_fld he (ab_of hb _ _ _)) fun σ H Q ⟨σd, M, Qd, sim, q, up⟩ => lE_then sim q fun d M1 v H1 q1 e1 a1 s1 => ?_
  unfold dAttr at q1
  split at q1
  · rename_i p
    split at q1
    · rename_i C' fs hM
      obtain ⟨rfl, q1⟩ := q1
      split at q1
      · rename_i x hx
        cases a1
        cases s1.heap p _ hM with
        | ins r l =>
          obtain ⟨v, hv, av⟩ := absF_get l hx
          exact ⟨p, _, _, _, v, rfl, r, w.1, w.2, hv, up _ _ _ _ q1 e1 av s1.heap⟩
      · exact q1.elim
    · exact q1.elim
  · exact q1.elim
theorem de_bty (o : Ok X sc N fa k) {x : Str} {T : String} {pos : Pos} (hg : gloB sc x = true) (hT : tyB x T = true) (hm : X.mg x = none) : PE X (.Name x pos) (lE (Gx X) fun _ M Q => Q (.ty T) M) := by
  obtain ⟨g, db⟩ := gl_of o hg
  obtain ⟨hv, hn⟩ := tyB_of hT
  exact PE.imp (pe_bltn (v := .ty T) g hm hv rfl hn db) fun σ H Q ⟨σd, M, Qd, sim, q, up⟩ => up _ _ _ _ q (Ext.refl H) (.ty T) sim.heap
theorem de_mk (o : Ok X sc N fa k) {Ex : XQ} (tk : TkD X Ex) {C : Str} {c : DSp} {e : Expr} {es : List Expr} {p pos : Pos} {t : DTA} (hg : Gl X C) (hdb : (C == ("__debug__" : Str)) = false) (hc : MkOk (gpx X k) C c) (ha : PA X (e :: es) (lA (Gx X) t)) (hh : hd e = true) (hpl : (backTo pos (starEach es X.env)).any (·.1) = false) :
    PE X (.Call (.Name C p) (e :: es) [] pos) (lE (Gx X) fun σ M Q => t σ M fun ds M1 => ∀ p, M1 p = none → c (.ref p :: ds) (updM M1 p (.ins C [])) (fun d M2 => d = .non ∧ Q (.ref p) M2) Ex) := by
  obtain ⟨j, f, fd, ps, hk, h1, h2, h3, h4⟩ := hc
  have hk : k = j + 1 := hk
  have z := pe_make (E := fun cls d H => ∃ x M', Ex x M' ∧ Ext X.H_0 H ∧ XAbs (Gx X) H cls d x ∧ HAbs (Gx X) H M') h2 h3 (hk ▸ o.room) hg h1 h4 (.nil) (passes_call tk fun _ _ _ _ q => q) ha hdb (star_of hh es X.env) hpl (p := p)
  refine PE.base z fun σ H Q b ⟨σd, M, Qd, sim, q, up⟩ => ?_
  refine lA_then sim q fun ds M1 vs H1 q1 e1 a1 s1 => ?_
  intro x dx hx hdx hne
  have x1 : Ext H1 (upd H1 dx (.own x)) := Ext.new hdx
  have hx' : (upd H1 dx (.own x)) x = none := by rw [upd_ne (Ne.symm hne)]; exact hx
  have x2 : Ext (upd H1 dx (.own x)) (upd (upd H1 dx (.own x)) x (.ins (He.ga X.K C) dx [])) := Ext.new hx'
  have hm1 := s1.heap.newH (u := .own x) hdx
  have hm2 := hm1.new (u := .ins (He.ga X.K C) dx []) (o := .ins C []) hx' (.ins upd_same .nil)
  refine ⟨.ref x :: ds, _, _, Ex, ?_, hm2, q1 x (hm1.none hx'), fun d M2 v H2 ⟨hd, q2⟩ e2 a2 h2 => ?_, fun x' M' cls d H' q' e' a' hm' => ⟨x', M', q', b.trans (e1.trans ((x1.trans x2).trans e')), a', hm'⟩⟩
  · rw [List.append_nil]; exact .cons (.ref x) ((a1.ext x1).ext x2)
  · subst hd
    cases a2
    exact ⟨rfl, up _ _ _ _ q2 (e1.trans ((x1.trans x2).trans e2)) (.ref x) h2⟩
/-! ### stars, displays, freezing -/
theorem da_star {e : Expr} {p : Pos} {es : List Expr} {t : DTE} {ts : DTA} (h : PE X e (lE (Gx X) t)) (hs : PA X es (lA (Gx X) ts)) : PA X (.Starred e p :: es) (lA (Gx X) fun σ M Q => t σ M fun d M1 => match seqOf M1 d with
    | some ys => ts σ M1 fun ds M2 => Q (ys ++ ds) M2
    | none => False) := by
  refine PA.imp (StX.pa_star h hs rfl) fun σ H Q ⟨σd, M, Qd, sim, q, up⟩ => lE_then sim q fun d M1 v H1 q1 e1 a1 s1 => ?_
  split at q1
  · rename_i ys hys
    obtain ⟨p, vs, rfl, hq, al⟩ := seq_abs hys a1 s1.heap
    refine ⟨p, vs, rfl, (seqOrSq hq).symm, lA_then s1 q1 fun ds M2 ws H2 q2 e2 a2 s2 => ?_⟩
    exact up _ _ _ _ q2 (e1.trans e2) ((al.ext e2).append a2) s2.heap
  · exact q1.elim
theorem sub_absK {G : Gv} {H : Hp} {q : Addr} {d' : D} (a : Abs G H (.ref q) d') : ∀ {kvs : List (Key × V)} {ds : List (D × D)}, AbsK G H kvs ds → AbsK G H kvs (ds.map fun kv => (kv.1, subR q d' kv.2)) := by
  have one : ∀ {v : V} {d : D}, Abs G H v d → Abs G H v (subR q d' d) := fun {v d} h => by
    unfold subR
    split
    · rename_i b
      cases h
      by_cases z : b = q
      · rw [if_pos z, z]; exact a
      · rw [if_neg z]; exact .ref b
    · exact h
  intro kvs ds h
  induction ds generalizing kvs with
  | nil => cases h; exact .nil
  | cons kv ds ih =>
    cases h with
    | int x l => exact .int (one x) (ih l)
    | str hx x l => exact .str hx (one x) (ih l)
theorem sub_absN {G : Gv} {H : Hp} {q : Addr} {d' : D} (a : Abs G H (.ref q) d') : ∀ {kvs : List (NestedKey × Addr × V)} {ds : List (D × D)}, AbsN G H kvs ds → AbsN G H kvs (ds.map fun kv => (kv.1, subR q d' kv.2)) := by
  have one : ∀ {v : V} {d : D}, Abs G H v d → Abs G H v (subR q d' d) := fun {v d} h => by
    unfold subR
    split
    · rename_i b
      cases h
      by_cases z : b = q
      · rw [if_pos z, z]; exact a
      · rw [if_neg z]; exact .ref b
    · exact h
  intro kvs ds h
  induction ds generalizing kvs with
  | nil => cases h; exact .nil
  | cons kv ds ih =>
    cases h with
    | cons k z x y l => exact .cons k z x (one y) (ih l)
theorem fzk_post {H H1 : Hp} {key d : D} {M1 : Mp} {v : V} {Qd : DK} {Q : VK} (e1 : Ext H H1) (a1 : Abs (Gx X) H1 v d) (hm : HAbs (Gx X) H1 M1) (q : fzKey key Qd d M1) (up : Up (Gx X) H Qd Q) : Q v H1 ∨ ∃ p u, H1 p = some u ∧ Mut (some u) ∧ ∀ o, Q v (upd H1 p (.frz o u)) := by
  unfold fzKey at q
  split at q
  · rename_i p
    split at q
    · rename_i l hp
      split at q
      · rename_i b hg
        have fin : ∀ (o : Obj) (u : HO) (d' : D), H1 b = some u → Mut (some u) → p ≠ b → Abs (Gx X) (upd H1 b (.frz o u)) (.ref b) d' → Qd (.ref p) (updM (delM M1 b) p (.dct (l.map fun kv => (kv.1, subR b d' kv.2)))) → Q v (upd H1 b (.frz o u)) := by
          intro o u d' hb mu ne ab q
          have x : Ext H1 (upd H1 b (.frz o u)) := Ext.put hb mu
          have hm2 := hm.del b (.frz o u) hb mu
          cases a1
          refine up _ _ _ _ q (e1.trans x) (.ref p) fun c w hc => ?_
          by_cases z : c = p
          · subst z
            rw [updM_same] at hc
            cases hc
            have hp2 : delM M1 b c = some (.dct l) := by unfold delM; rw [if_neg ne]; exact hp
            cases hm2 c _ hp2 with
            | dK r t => exact .dK r (sub_absK ab t)
            | dN r t => exact .dN r (sub_absN ab t)
          · rw [updM_ne z] at hc
            exact hm2 c w hc
        split at q
        · rename_i u hb
          cases hm b _ hb with
          | dK r t => exact .inr ⟨b, _, r, trivial, fun o => fin o _ _ r trivial q.1 (.dK upd_same (t.ext (Ext.put r trivial))) q.2⟩
          | dN r t => exact .inr ⟨b, _, r, trivial, fun o => fin o _ _ r trivial q.1 (.dN upd_same (t.ext (Ext.put r trivial))) q.2⟩
        · rename_i u hb
          cases hm b _ hb with
          | lst r t => exact .inr ⟨b, _, r, trivial, fun o => fin o _ _ r trivial q.1 (.lst (.inl ⟨o, upd_same⟩) (t.ext (Ext.put r trivial))) q.2⟩
        · exact q.elim
      · exact q.elim
    · exact q.elim
  · exact q.elim
theorem de_fzk {key : D} {e : Expr} {t : DTE} (h : PE X e (lE (Gx X) t)) : PE X e (lE (Gx X) fun σ M Q => t σ M (fzKey key Q)) := by
  refine PE.post h fun σ H Q ⟨σd, M, Qd, sim, q, up⟩ => ?_
  exact lE_then sim q fun d M1 v H1 q1 e1 a1 s1 => fzk_post e1 a1 s1.heap q1 up
/-! ### methods -/
theorem de_meth (o : Ok X sc N fa k) {m : Mth} {e a : Expr} {es : List Expr} {apos cpos : Pos} {to : DTE} {t : DTA} (ho : PE X e (lE (Gx X) to)) (ha : PA X (a :: es) (lA (Gx X) t)) (hb : abOk e = true) (hl : (apos.endLine == cpos.line) = true) (hlen : (a :: es).length < 29) (hh : hd a = true)
    (hpl : (backTo cpos (starEach (a :: es) X.env)).all (fun x => !x.1) = true) (hpl2 : (backTo cpos (starEach es X.env)).any (·.1) = false) :
    PE X (.Call (.Attribute e m.name apos) (a :: es) [] cpos) (lE (Gx X) fun σ M Q => to σ M fun d M1 => tyD M1 d = some m.T ∧ t σ M1 fun ds M2 => dMth m d ds M2 Q) := by
  have few : ((backTo cpos (starEach (a :: es) X.env)).all (fun x => !x.1) && (backToKw cpos (keywordEach [] X.env)).all (fun x => x.1.isSome) && decide ((a :: es).length + ([] : List Keyword).length + (if ([] : List Keyword).isEmpty then 0 else 1) < 30)) = true := by
    rw [hpl]
    have : (a :: es).length + ([] : List Keyword).length + (if ([] : List Keyword).isEmpty then 0 else 1) < 30 := by
      show (a :: es).length + 0 + 0 < 30
      omega
    rw [decide_eq_true this]; rfl
  cases m with
  | append => exact de_bm (.inr (.inl rfl)) PySem.F.plainAttrs_list PySem.F.slot_list_append PySem.F.type_list_append dm_append ho ha (ab_of hb _ _ _) few hl (star_of hh es X.env) hpl2
  | clear => exact de_bm (.inr (.inl rfl)) PySem.F.plainAttrs_list PySem.F.slot_list_clear PySem.F.type_list_clear dm_clear ho ha (ab_of hb _ _ _) few hl (star_of hh es X.env) hpl2
  | get => exact de_bm (.inr (.inr rfl)) PySem.F.plainAttrs_dict PySem.F.slot_dict_get PySem.F.type_dict_get ((dm_get o.hu).weak fun _ _ _ _ h => fGet_d h) ho ha (ab_of hb _ _ _) few hl (star_of hh es X.env) hpl2
theorem de_meth0 (o : Ok X sc N fa k) {m : Mth} {e : Expr} {apos cpos : Pos} {to : DTE} (ho : PE X e (lE (Gx X) to)) (hb : abOk e = true) (hl : (apos.endLine == cpos.line) = true) :
    PE X (.Call (.Attribute e m.name apos) [] [] cpos) (lE (Gx X) fun σ M Q => to σ M fun d M1 => tyD M1 d = some m.T ∧ dMth m d [] M1 Q) := by
  cases m with
  | append => exact de_bm0 (.inr (.inl rfl)) PySem.F.plainAttrs_list PySem.F.slot_list_append PySem.F.type_list_append dm_append ho (ab_of hb _ _ _) hl
  | clear => exact de_bm0 (.inr (.inl rfl)) PySem.F.plainAttrs_list PySem.F.slot_list_clear PySem.F.type_list_clear dm_clear ho (ab_of hb _ _ _) hl
  | get => exact de_bm0 (.inr (.inr rfl)) PySem.F.plainAttrs_dict PySem.F.slot_dict_get PySem.F.type_dict_get ((dm_get o.hu).weak fun _ _ _ _ h => fGet_d h) ho (ab_of hb _ _ _) hl
end
end Dy
end
section
set_option Elab.async false
set_option linter.all false
set_option maxRecDepth 100000
set_option maxHeartbeats 4000000
/-! The D layer, 10: soundness of the expressions. -/
namespace Dy
open PySem PySem.Spec L2
open PyProof.Rows hiding St

section
variable {k : Nat}
theorem pe_no {X : Cx} {e : Expr} : PE X e (lE (Gx X) fun _ _ _ => False) := ⟨fun _ _ _ _ _ _ ⟨_, _, _, _, h, _⟩ => h.elim⟩
theorem pt_no {X : Cx} {e : Expr} : PT X e (lT (Gx X) fun _ _ _ => False) := ⟨fun _ _ _ _ _ _ ⟨_, _, _, _, h, _⟩ => h.elim⟩
theorem pi_no {X : Cx} {tg e : Expr} : PI X tg e (lI (Gx X) fun _ _ _ => False) := ⟨fun _ _ _ _ _ _ ⟨_, _, _, _, h, _⟩ => h.elim⟩
theorem lE_imp {G : Gv} {t t' : DTE} (h : ∀ σ M Q, t' σ M Q → t σ M Q) {σ : St} {H : Hp} {Q : VK} (q : lE G t' σ H Q) : lE G t σ H Q := let ⟨a, b, c, d, e, f⟩ := q; ⟨a, b, c, d, h _ _ _ e, f⟩
theorem lT_imp {G : Gv} {t t' : DTT} (h : ∀ σ M Q, t' σ M Q → t σ M Q) {σ : St} {H : Hp} {Q : Bool → Hp → Prop} (q : lT G t' σ H Q) : lT G t σ H Q := let ⟨a, b, c, d, e, f⟩ := q; ⟨a, b, c, d, h _ _ _ e, f⟩
theorem lI_imp {G : Gv} {t t' : DTI} (h : ∀ σ M Q, t' σ M Q → t σ M Q) {σ : St} {H : Hp} {R : L2.It → Hp → Prop} (q : lI G t' σ H R) : lI G t σ H R := let ⟨a, b, c, d, e, f⟩ := q; ⟨a, b, c, d, h _ _ _ e, f⟩
theorem inv_nil {sc : Scope} {N : List Str} {es : List Expr} (h : chkEs .nil sc N es = true) : es = [] := by
  unfold chkEs at h
  cases es with
  | nil => rfl
  | cons _ _ => cases h
theorem inv_cons {sc : Scope} {N : List Str} {a : E} {l : Es} {es : List Expr} (h : chkEs (.cons a l) sc N es = true) : ∃ e r, es = e :: r ∧ hd e = true ∧ chkE a sc N e = true ∧ chkEs l sc N r = true := by
  unfold chkEs at h
  cases es with
  | nil => cases h
  | cons e r => simp only [Bool.and_eq_true] at h; exact ⟨e, r, rfl, h.1.1, h.1.2, h.2⟩
theorem first_hd {sc : Scope} {N : List Str} {l : Es} {e : Expr} {es : List Expr} (pl : l.plain = true) (h : chkEs l sc N (e :: es) = true) : hd e = true := by
  cases l with
  | nil => simp [chkEs] at h
  | star _ _ => cases pl
  | cons a l => simp only [chkEs, Bool.and_eq_true] at h; exact h.1.1
theorem rest_plain {sc : Scope} {N : List Str} {l : Es} {e : Expr} {es : List Expr} (pl : l.plain = true) (h : chkEs l sc N (e :: es) = true) (pos : Pos) (env : Env) : (backTo pos (starEach es env)).any (·.1) = false := by
  cases l with
  | nil => simp [chkEs] at h
  | star _ _ => cases pl
  | cons a l => simp only [chkEs, Bool.and_eq_true] at h; exact any_of (l := l) pl h.2 pos env
/-- built-ins -/
theorem snd_bif {X : Cx} {sc : Scope} {N : List Str} {fa : Bool} (o : Ok X sc N fa k) {b : Bif} {x : Str} {e : Expr} {es : List Expr} {p pos : Pos} {t : DTA} (hx : x = b.name) (hg : gloB sc x = true) (hm : X.mg b.name = none) (ha : PA X (e :: es) (lA (Gx X) t)) (hh : hd e = true) (hpl : (backTo pos (starEach es X.env)).any (·.1) = false) :
    PE X (.Call (.Name x p) (e :: es) [] pos) (lE (Gx X) fun σ M Q => t σ M fun ds M1 => dBif b ds M1 Q) := by
  obtain ⟨g, db⟩ := gl_of o hg
  subst hx
  cases b with
  | len => exact de_callB (call_len_d.weak fun _ _ _ h => fLen_d h) g db hm (by rfl) (by decide) ha hh hpl
  | list => exact de_callTy (call_list_d o.calm) g db hm (by rfl) (by decide) ha hh hpl
  | tuple => exact de_callTy (call_tup_d.weak fun _ _ _ h => fTup_d h) g db hm (by rfl) (by decide) ha hh hpl
  | int => exact de_callTy call_int_d g db hm (by rfl) (by decide) ha hh hpl
  | all => exact de_callB ((call_all_d o.calm).weak fun _ _ _ h => fAll_d h) g db hm (by rfl) (by decide) ha hh hpl
  | any => exact de_callB ((call_any_d o.calm).weak fun _ _ _ h => fAll_d h) g db hm (by rfl) (by decide) ha hh hpl
  | min => exact de_callB (call_min_d o.calm) g db hm (by rfl) (by decide) ha hh hpl
  | dict => exact de_callTy (call_dict_d.weak fun _ _ _ h => fDict_d h) g db hm (by rfl) (by decide) ha hh hpl
  | sorted => exact de_callB (call_sorted_d o.calm) g db hm (by rfl) (by decide) ha hh hpl
  | isi => exact de_callB call_isi_d g db hm (by rfl) (by decide) ha hh hpl
theorem dt_ife {X : Cx} {c a b : Expr} {pos : Pos} {tc ta tb : DTT} (hc : PT X c (lT (Gx X) tc)) (ha : PT X a (lT (Gx X) ta)) (hb : PT X b (lT (Gx X) tb)) : PT X (.IfExp c a b pos) (lT (Gx X) fun σ M Q => tc σ M fun k M1 => if k = true then ta σ M1 Q else tb σ M1 Q) := by
  refine ⟨fun pins s σ H Q I ⟨σd, M, Qd, sim, q, up⟩ => ?_⟩
  refine isTrue_IfExp (thn (hc.run pins s σ H (fun b H1 => ∃ M1, (if b = true then ta σd M1 Qd else tb σd M1 Qd) ∧ Ext H H1 ∧ HAbs (Gx X) H1 M1) I ⟨σd, M, _, sim, q, fun b M1 H1 q1 e1 hm => ⟨M1, q1, e1, hm⟩⟩) fun d s1 ⟨H1, I1, M1, q1, e1, hm⟩ => ?_)
  cases d with
  | true => exact ha.run pins s1 σ H1 Q I1 ⟨σd, M1, Qd, sim.ext e1 hm, by simpa using q1, up.ext e1⟩
  | false => exact hb.run pins s1 σ H1 Q I1 ⟨σd, M1, Qd, sim.ext e1 hm, by simpa using q1, up.ext e1⟩
mutual
theorem snd_ET : ∀ (ir : E) {X : Cx} {sc : Scope} {N : List Str} {fa : Bool} {Ex : XQ} {e : Expr}, Ok X sc N fa k → TkD X Ex → WfE (gpx X k) ir → chkE ir sc N e = true → PE X e (lE (Gx X) (wE Ex ir)) ∧ PT X e (lT (Gx X) (wT Ex ir))
  | .var i, X, sc, N, fa, Ex, e, o, tk, w, h => by
    unfold chkE at h
    split at h
    · simp only [Bool.and_eq_true, decide_eq_true_eq, Bool.not_eq_true'] at h
      exact (fun z => ⟨z, dt_val z fun _ => by rfl⟩) (de_var o h.1.1.1 h.1.1.2 h.1.2 h.2)
    · cases h
  | .lit d, X, sc, N, fa, Ex, e, o, tk, w, h => by
    unfold chkE at h
    split at h
    · rename_i c j p
      have z : PE X (.Constant c j p) (lE (Gx X) (wE Ex (.lit d))) := by
        refine ⟨fun pins s σ H Q I q => ?_⟩
        obtain ⟨σd, M, Qd, sim, q, up⟩ := q
        obtain ⟨v, hv, ha⟩ := lit_abs (X := X) (G := Gx X) (H := H) (j := j) (pos := p) h
        exact hv.run pins s σ H Q I (up _ _ _ _ q (Ext.refl H) ha sim.heap)
      exact ⟨z, dt_val z fun _ => by rfl⟩
    · cases h
  | .glob y d, X, sc, N, fa, Ex, e, o, tk, w, h => by
    unfold chkE at h
    split at h
    · simp only [Bool.and_eq_true, decide_eq_true_eq] at h
      obtain ⟨rfl, h⟩ := h
      obtain ⟨g, db⟩ := gl_of o h
      obtain ⟨u, v, w1, w2, w3⟩ := w
      refine (fun z => ⟨z, dt_val z fun _ => by rfl⟩) (show PE X _ (lE (Gx X) fun _ M Q => Q d M) from ?_)
      exact PE.imp (pe_glob g w1 w2 db) fun σ H Q ⟨σd, M, Qd, sim, q, up⟩ => up _ _ _ _ q (Ext.refl H) (w3 H) sim.heap
    · cases h
  | .bin op a b, X, sc, N, fa, Ex, e, o, tk, w, h => by
    unfold chkE at h
    split at h
    · simp only [Bool.and_eq_true, decide_eq_true_eq] at h
      obtain ⟨⟨rfl, h1⟩, h2⟩ := h
      exact (fun z => ⟨z, dt_val z fun _ => by rfl⟩) (de_bin (snd_ET a o tk w.1 h1).1 (snd_ET b o tk w.2 h2).1)
    · cases h
  | .cmp op a b, X, sc, N, fa, Ex, e, o, tk, w, h => by
    unfold chkE at h
    split at h
    · simp only [Bool.and_eq_true, decide_eq_true_eq] at h
      obtain ⟨⟨⟨rfl, h1⟩, h2⟩, h3⟩ := h
      exact ⟨de_cmp o (snd_ET a o tk w.1 h2).1 (snd_ET b o tk w.2 h3).1 h1, dt_cmp o (snd_ET a o tk w.1 h2).1 (snd_ET b o tk w.2 h3).1 h1⟩
    · cases h
  | .chain o1 o2 a b c, X, sc, N, fa, Ex, e, o, tk, w, h => by
    unfold chkE at h
    split at h
    · simp only [Bool.and_eq_true, decide_eq_true_eq] at h
      obtain ⟨⟨⟨⟨⟨⟨rfl, rfl⟩, h1⟩, h2⟩, h3⟩, h4⟩, h5⟩ := h
      exact ⟨de_chain o (snd_ET a o tk w.1 h3).1 (snd_ET b o tk w.2.1 h4).1 (snd_ET c o tk w.2.2 h5).1 h1 h2, dt_chain o (snd_ET a o tk w.1 h3).1 (snd_ET b o tk w.2.1 h4).1 (snd_ET c o tk w.2.2 h5).1 h1 h2⟩
    · cases h
  | .nott a, X, sc, N, fa, Ex, e, o, tk, w, h => by
    unfold chkE at h
    split at h
    · exact ⟨de_not (snd_ET a o tk w h).1, dt_not (snd_ET a o tk w h).2⟩
    · cases h
  | .andd l, X, sc, N, fa, Ex, e, o, tk, w, h => by
    unfold chkE at h
    split at h
    · exact ⟨snd_And l o tk w h, (snd_AndT l o tk w h).pt⟩
    · cases h
  | .orr l, X, sc, N, fa, Ex, e, o, tk, w, h => by
    unfold chkE at h
    split at h
    · exact ⟨snd_Or l o tk w h, (snd_OrT l o tk w h).pt⟩
    · cases h
  | .ife c a b, X, sc, N, fa, Ex, e, o, tk, w, h => by
    unfold chkE at h
    split at h
    · simp only [Bool.and_eq_true] at h
      exact ⟨de_ife (snd_ET c o tk w.1 h.1.1).2 (snd_ET a o tk w.2.1 h.1.2).1 (snd_ET b o tk w.2.2 h.2).1, dt_ife (snd_ET c o tk w.1 h.1.1).2 (snd_ET a o tk w.2.1 h.1.2).2 (snd_ET b o tk w.2.2 h.2).2⟩
    · cases h
  | .tup l, X, sc, N, fa, Ex, e, o, tk, w, h => by
    unfold chkE at h
    split at h
    · exact ⟨de_tup (snd_Es l o tk w h), pt_no⟩
    · cases h
  | .lst f l, X, sc, N, fa, Ex, e, o, tk, w, h => by
    unfold chkE at h
    split at h
    · exact ⟨de_lst (snd_Es l o tk w h), pt_no⟩
    · cases h
  | .idx a b, X, sc, N, fa, Ex, e, o, tk, w, h => by
    unfold chkE at h
    split at h
    · simp only [Bool.and_eq_true] at h
      exact (fun z => ⟨z, dt_val z fun _ => by rfl⟩) (de_idx o (snd_ET a o tk w.1 h.1.2).1 (snd_ET b o tk w.2 h.2).1 h.1.1)
    · cases h
  | .slc a lo hi, X, sc, N, fa, Ex, e, o, tk, w, h => by
    unfold chkE at h
    split at h
    · simp only [Bool.and_eq_true] at h
      exact ⟨de_slc (snd_ET a o tk w.1 h.1.1).1 (snd_O lo o tk w.2.1 h.1.2) (snd_O hi o tk w.2.2 h.2), pt_no⟩
    · cases h
  | .bif b l, X, sc, N, fa, Ex, e, o, tk, w, h => by
    unfold chkE at h
    split at h
    · simp only [Bool.and_eq_true, decide_eq_true_eq] at h
      obtain ⟨⟨⟨h1, h2⟩, h3⟩, h4⟩ := h
      refine (fun z => ⟨z, dt_val z fun _ => by rfl⟩) (snd_bif o h1 h2 w.1 (snd_Es l o tk w.2 h4) (first_hd h3 h4) (rest_plain h3 h4 _ _))
    · cases h
  | .call f c l, X, sc, N, fa, Ex, e, o, tk, w, h => by
    unfold chkE at h
    split at h
    · simp only [Bool.and_eq_true, decide_eq_true_eq] at h
      obtain ⟨⟨⟨rfl, h1⟩, h2⟩, h3⟩ := h
      obtain ⟨g, db⟩ := gl_of o h1
      refine (fun z => ⟨z, dt_val z fun _ => by rfl⟩) (de_call o tk g db w.1 (snd_Es l o tk w.2 h3) (first_hd h2 h3) (rest_plain h2 h3 _ _))
    · cases h
  | .fz a, X, sc, N, fa, Ex, e, o, tk, w, h => ⟨de_fz (snd_ET a o tk w (by unfold chkE at h; exact h)).1, pt_no⟩
  | .bty x T, X, sc, N, fa, Ex, e, o, tk, w, h => by
    unfold chkE at h
    split at h
    · simp only [Bool.and_eq_true, decide_eq_true_eq] at h
      obtain ⟨⟨rfl, h1⟩, h2⟩ := h
      exact ⟨de_bty o h1 h2 w, pt_no⟩
    · cases h
  | .meth m a l, X, sc, N, fa, Ex, e, o, tk, w, h => by
    unfold chkE at h
    split at h
    · rename_i x name apos ys cpos
      simp only [Bool.and_eq_true, decide_eq_true_eq] at h
      obtain ⟨⟨⟨⟨⟨⟨rfl, h1⟩, h2⟩, h3⟩, h4⟩, h5⟩, h6⟩ := h
      refine (fun z => ⟨z, dt_val z fun _ => by rfl⟩) (?_ : PE X _ (lE (Gx X) fun σ M Q => wE Ex a σ M fun x M1 => tyD M1 x = some m.T ∧ wEs Ex l σ M1 fun ds M2 => dMth m x ds M2 Q))
      cases ys with
      | nil =>
        cases l with
        | nil => exact de_meth0 o (snd_ET a o tk w.1 h5).1 h1 h2
        | cons _ _ => simp [chkEs] at h6
        | star _ _ => cases h4
      | cons y ys => exact de_meth o (snd_ET a o tk w.1 h5).1 (snd_Es l o tk w.2 h6) h1 h2 h3 (first_hd h4 h6) (few_of h4 h6 _ _) (rest_plain h4 h6 _ _)
    · cases h
  | .attr C a f, X, sc, N, fa, Ex, e, o, tk, w, h => by
    unfold chkE at h
    split at h
    · simp only [Bool.and_eq_true, decide_eq_true_eq] at h
      obtain ⟨⟨rfl, h1⟩, h2⟩ := h
      exact (fun z => ⟨z, dt_val z fun _ => by rfl⟩) (de_attr (k := k) (snd_ET a o tk w.2 h2).1 h1 w.1)
    · cases h
  | .mk C c l, X, sc, N, fa, Ex, e, o, tk, w, h => by
    unfold chkE at h
    split at h
    · simp only [Bool.and_eq_true, decide_eq_true_eq] at h
      obtain ⟨⟨⟨rfl, h1⟩, h2⟩, h3⟩ := h
      obtain ⟨g, db⟩ := gl_of o h1
      exact ⟨de_mk o tk g db w.1 (snd_Es l o tk w.2 h3) (first_hd h2 h3) (rest_plain h2 h3 _ _), pt_no⟩
    · cases h
  | .ddisp t l, X, sc, N, fa, Ex, e, o, tk, w, h => by
    unfold chkE at h
    split at h
    · rename_i ks vs pos
      simp only [Bool.and_eq_true, decide_eq_true_eq, Bool.not_eq_true'] at h
      obtain ⟨⟨h1, h2⟩, h3⟩ := h
      have h0 : ks ≠ [] := by intro z; subst z; cases h1
      obtain ⟨p1, p2, p3⟩ := snd_Ps l (pos := pos) o tk w h3
      refine ⟨?_, pt_no⟩
      cases t with
      | false => exact de_ddispS p1 p2 p3 h0 h2 (fun _ _ _ _ q => fDisp_d q)
      | true => exact de_ddispT o.hu p1 p2 p3 h0 h2 (fun _ _ _ _ q => fDisp_d q)
    · cases h
  | .dc f own key val tg it ifs, X, sc, N, fa, Ex, e, o, tk, w, h => by
    unfold chkE at h
    split at h
    · simp only [Bool.and_eq_true] at h
      obtain ⟨⟨⟨⟨⟨⟨⟨h1, h2⟩, h3⟩, h4⟩, h5⟩, h6⟩, h7⟩, h8⟩ := h
      refine ⟨?_, pt_no⟩
      exact de_dc o (snd_It it o tk w.2.2.1 h3) h1 (fun s H C cl fp => snd_tg (o.blk s H _ cl C fp) tg _ h4) (fun s H C cl fp => snd_Ifs ifs (o.blk s H _ cl C fp) tk_none w.2.2.2 h6) (fun s H C cl fp => (snd_ET key (o.blk s H _ cl C fp) tk_none w.1 h7).1) (fun s H C cl fp => (snd_ET val (o.blk s H _ cl C fp) tk_none w.2.1 h8).1) h2 (fun i hi => by
        have := List.all_eq_true.mp h5 i hi
        simpa using this)
    · cases h
  | .zip3 a i j, X, sc, N, fa, Ex, e, o, tk, w, h => by
    unfold chkE at h
    split at h
    · simp only [Bool.and_eq_true, decide_eq_true_eq, Bool.not_eq_true'] at h
      obtain ⟨⟨⟨⟨⟨⟨rfl, h2⟩, rfl, h3⟩, ⟨rfl, h4⟩, h5⟩, h6⟩, ⟨⟨⟨h7, h8⟩, h9⟩, h10⟩⟩, ⟨⟨h11, h12⟩, h13⟩, h14⟩ := h
      obtain ⟨w1, w2, w3⟩ := w
      exact ⟨de_zip o.calm (gl_of o h2).1 w1 (gl_of o h3).1 w2 (snd_ET a o tk w3 h6).1 (ab_of h4 _ _ _) h5 (pe_var (by rw [o.hN]; exact h7) (vis_of o h8) h9 h10) (pe_var (by rw [o.hN]; exact h11) (vis_of o h12) h13 h14), pt_no⟩
    · cases h
  | .fzk key a, X, sc, N, fa, Ex, e, o, tk, w, h => ⟨de_fzk (snd_ET a o tk w (by unfold chkE at h; exact h)).1, pt_no⟩
  | .lc f own elt tg it ifs, X, sc, N, fa, Ex, e, o, tk, w, h => by
    unfold chkE at h
    split at h
    · simp only [Bool.and_eq_true] at h
      obtain ⟨⟨⟨⟨⟨⟨h1, h2⟩, h3⟩, h4⟩, h5⟩, h6⟩, h7⟩ := h
      refine ⟨?_, pt_no⟩
      exact de_lc o (snd_It it o tk w.2.1 h3) h1 (fun s H C cl fp => snd_tg (o.blk s H _ cl C fp) tg _ h4) (fun s H C cl fp => snd_Ifs ifs (o.blk s H _ cl C fp) tk_none w.2.2 h6) (fun s H C cl fp => (snd_ET elt (o.blk s H _ cl C fp) tk_none w.1 h7).1) h2 (fun i hi => by
        have := List.all_eq_true.mp h5 i hi
        simpa using this)
    · cases h
  | .dnew, X, sc, N, fa, Ex, e, o, tk, w, h => by
    unfold chkE at h
    split at h
    · exact ⟨de_dnew, pt_no⟩
    · cases h
theorem snd_Es : ∀ (l : Es) {X : Cx} {sc : Scope} {N : List Str} {fa : Bool} {Ex : XQ} {es : List Expr}, Ok X sc N fa k → TkD X Ex → WfEs (gpx X k) l → chkEs l sc N es = true → PA X es (lA (Gx X) (wEs Ex l))
  | .nil, X, sc, N, fa, Ex, es, o, tk, w, h => by
    unfold chkEs at h
    cases es with
    | nil => exact da_nil
    | cons _ _ => cases h
  | .star a l, X, sc, N, fa, Ex, es, o, tk, w, h => by
    unfold chkEs at h
    split at h
    · simp only [Bool.and_eq_true] at h
      exact da_star (snd_ET a o tk w.1 h.1).1 (snd_Es l o tk w.2 h.2)
    · cases h
  | .cons a l, X, sc, N, fa, Ex, es, o, tk, w, h => by
    unfold chkEs at h
    cases es with
    | nil => cases h
    | cons e es =>
      simp only [Bool.and_eq_true] at h
      exact da_cons (snd_ET a o tk w.1 h.1.2).1 (snd_Es l o tk w.2 h.2) h.1.1
theorem snd_Ps : ∀ (l : Es) {X : Cx} {sc : Scope} {N : List Str} {fa : Bool} {Ex : XQ} {ks : List (Option Expr)} {vs : List Expr} {pos : Pos}, Ok X sc N fa k → TkD X Ex → WfEs (gpx X k) l → chkPs l sc N ks vs = true → PPd X pos ks vs (wPs Ex l) ∧ ks.all (·.isSome) = true ∧ ks.length = vs.length
  | .nil, X, sc, N, fa, Ex, ks, vs, pos, o, tk, w, h => by
    unfold chkPs at h
    simp only [Bool.and_eq_true, List.isEmpty_iff] at h
    obtain ⟨rfl, rfl⟩ := h
    exact ⟨ppd_nil, rfl, rfl⟩
  | .star _ _, X, sc, N, fa, Ex, ks, vs, pos, o, tk, w, h => by unfold chkPs at h; cases h
  | .cons a .nil, X, sc, N, fa, Ex, ks, vs, pos, o, tk, w, h => by unfold chkPs at h; cases h
  | .cons a (.star _ _), X, sc, N, fa, Ex, ks, vs, pos, o, tk, w, h => by unfold chkPs at h; cases h
  | .cons a (.cons b l), X, sc, N, fa, Ex, ks, vs, pos, o, tk, w, h => by
    unfold chkPs at h
    split at h
    · simp only [Bool.and_eq_true] at h
      obtain ⟨p1, p2, p3⟩ := snd_Ps l (pos := pos) o tk w.2.2 h.2
      exact ⟨ppd_cons (snd_ET a o tk w.1 h.1.1).1 (snd_ET b o tk w.2.1 h.1.2).1 p1, by simp [p2], by simp [p3]⟩
    · cases h
theorem snd_And : ∀ (l : Es) {X : Cx} {sc : Scope} {N : List Str} {fa : Bool} {Ex : XQ} {es : List Expr} {pos : Pos}, Ok X sc N fa k → TkD X Ex → WfEs (gpx X k) l → chkBs l sc N es = true → PE X (.BoolOp .And es pos) (lE (Gx X) (wAnd Ex l))
  | .nil, X, sc, N, fa, Ex, es, pos, o, tk, w, h => by unfold chkBs at h; cases h
  | .star _ _, X, sc, N, fa, Ex, es, pos, o, tk, w, h => by unfold chkBs at h; cases h
  | .cons a .nil, X, sc, N, fa, Ex, es, pos, o, tk, w, h => by
    unfold chkBs at h
    match es, h with
    | [e], h => simp only [Bool.and_true] at h; exact pe_one (snd_ET a o tk w.1 h).1
    | e :: b :: r, h => simp at h
  | .cons a (.star b l), X, sc, N, fa, Ex, es, pos, o, tk, w, h => by
    unfold chkBs at h
    match es, h with
    | [e], h => simp at h
    | e :: c :: r, h => simp at h
  | .cons a (.cons b l), X, sc, N, fa, Ex, es, pos, o, tk, w, h => by
    unfold chkBs at h
    match es, h with
    | [e], h => simp at h
    | e :: c :: r, h =>
      simp only [Bool.and_eq_true] at h
      exact de_and (snd_ET a o tk w.1 h.1).1 (snd_And (.cons b l) o tk w.2 h.2)
theorem snd_Or : ∀ (l : Es) {X : Cx} {sc : Scope} {N : List Str} {fa : Bool} {Ex : XQ} {es : List Expr} {pos : Pos}, Ok X sc N fa k → TkD X Ex → WfEs (gpx X k) l → chkBs l sc N es = true → PE X (.BoolOp .Or es pos) (lE (Gx X) (wOr Ex l))
  | .nil, X, sc, N, fa, Ex, es, pos, o, tk, w, h => by unfold chkBs at h; cases h
  | .star _ _, X, sc, N, fa, Ex, es, pos, o, tk, w, h => by unfold chkBs at h; cases h
  | .cons a .nil, X, sc, N, fa, Ex, es, pos, o, tk, w, h => by
    unfold chkBs at h
    match es, h with
    | [e], h => simp only [Bool.and_true] at h; exact pe_one (snd_ET a o tk w.1 h).1
    | e :: b :: r, h => simp at h
  | .cons a (.star b l), X, sc, N, fa, Ex, es, pos, o, tk, w, h => by
    unfold chkBs at h
    match es, h with
    | [e], h => simp at h
    | e :: c :: r, h => simp at h
  | .cons a (.cons b l), X, sc, N, fa, Ex, es, pos, o, tk, w, h => by
    unfold chkBs at h
    match es, h with
    | [e], h => simp at h
    | e :: c :: r, h =>
      simp only [Bool.and_eq_true] at h
      exact de_or (snd_ET a o tk w.1 h.1).1 (snd_Or (.cons b l) o tk w.2 h.2)
theorem snd_O : ∀ (l : Es) {X : Cx} {sc : Scope} {N : List Str} {fa : Bool} {Ex : XQ} {e : Option Expr}, Ok X sc N fa k → TkD X Ex → WfEs (gpx X k) l → chkO l sc N e = true → PO X e (lO (Gx X) (wPart Ex l))
  | .nil, X, sc, N, fa, Ex, e, o, tk, w, h => by
    unfold chkO at h
    cases e with
    | none => exact do_none
    | some _ => cases h
  | .star _ _, X, sc, N, fa, Ex, e, o, tk, w, h => by unfold chkO at h; cases h
  | .cons a l, X, sc, N, fa, Ex, e, o, tk, w, h => by
    unfold chkO at h
    split at h
    · exact do_some (snd_ET a o tk w.1 h).1
    · cases h
theorem snd_Ifs : ∀ (l : Es) {X : Cx} {sc : Scope} {N : List Str} {fa : Bool} {Ex : XQ} {es : List Expr}, Ok X sc N fa k → TkD X Ex → WfEs (gpx X k) l → chkIf l sc N es = true → PTs X es (lT (Gx X) (wIfs Ex l))
  | .nil, X, sc, N, fa, Ex, es, o, tk, w, h => by
    unfold chkIf at h
    cases es with
    | nil => exact dts_nil
    | cons _ _ => cases h
  | .star _ _, X, sc, N, fa, Ex, es, o, tk, w, h => by unfold chkIf at h; cases h
  | .cons a l, X, sc, N, fa, Ex, es, o, tk, w, h => by
    unfold chkIf at h
    split at h
    · exact pts_one (snd_ET a o tk w.1 h).2
    · cases h
theorem snd_It : ∀ (it : It) {X : Cx} {sc : Scope} {N : List Str} {fa : Bool} {Ex : XQ} {tg e : Expr}, Ok X sc N fa k → TkD X Ex → WfIt (gpx X k) it → chkIt it sc N tg e = true → PI X tg e (lI (Gx X) (wIt Ex it))
  | .seq a, X, sc, N, fa, Ex, tg, e, o, tk, w, h => by
    unfold chkIt at h
    exact pi_src (snd_ET a o tk w h).1
  | .vals a, X, sc, N, fa, Ex, tg, e, o, tk, w, h => by
    unfold chkIt at h
    split at h
    · simp only [Bool.and_eq_true, decide_eq_true_eq] at h
      obtain ⟨⟨⟨rfl, h1⟩, h2⟩, h3⟩ := h
      exact pi_valsD (snd_ET a o tk w h3).1 h1 h2
    · cases h
  | .items a, X, sc, N, fa, Ex, tg, e, o, tk, w, h => by
    unfold chkIt at h
    split at h
    · simp only [Bool.and_eq_true, decide_eq_true_eq] at h
      obtain ⟨⟨⟨⟨rfl, h1⟩, h2⟩, h3⟩, h4⟩ := h
      split at h4
      · exact pi_itemsD (snd_ET a o tk w h3).1 h1 h2
      · cases h4
    · cases h
  | .enum a, X, sc, N, fa, Ex, tg, e, o, tk, w, h => by
    unfold chkIt at h
    split at h
    · simp only [Bool.and_eq_true, decide_eq_true_eq] at h
      obtain ⟨⟨⟨⟨rfl, h1⟩, h2⟩, h3⟩, h4⟩ := h
      obtain ⟨g, db⟩ := gl_of o h1
      split at h4
      · exact pi_enumD g w.1 (snd_ET a o tk w.2 h3).1 h2
      · cases h4
    · cases h
  | .rng l, X, sc, N, fa, Ex, tg, e, o, tk, w, h => by
    unfold chkIt at h
    split at h
    · simp only [Bool.and_eq_true, decide_eq_true_eq] at h
      obtain ⟨⟨⟨rfl, h1⟩, h2⟩, h3⟩ := h
      obtain ⟨g, db⟩ := gl_of o h1
      match l, w, h2, h3 with
      | .cons a .nil, w, h2, h3 =>
        obtain ⟨x, r, rfl, k1, k2, k3⟩ := inv_cons h2
        cases inv_nil k3
        exact di_rng1 g w.1 (snd_ET a o tk w.2.1 k2).1 k1
      | .cons a (.cons b .nil), w, h2, h3 =>
        obtain ⟨x, r, rfl, k1, k2, k3⟩ := inv_cons h2
        obtain ⟨y, r, rfl, k4, k5, k6⟩ := inv_cons k3
        cases inv_nil k6
        exact di_rng2 g w.1 (snd_ET a o tk w.2.1 k2).1 k1 (snd_ET b o tk w.2.2.1 k5).1 k4
    · cases h
theorem snd_AndT : ∀ (l : Es) {X : Cx} {sc : Scope} {N : List Str} {fa : Bool} {Ex : XQ} {es : List Expr} {pos : Pos}, Ok X sc N fa k → TkD X Ex → WfEs (gpx X k) l → chkBs l sc N es = true → PW X (.BoolOp .And es pos) (lT (Gx X) (wAndT Ex l))
  | .nil, X, sc, N, fa, Ex, es, pos, o, tk, w, h => by unfold chkBs at h; cases h
  | .star _ _, X, sc, N, fa, Ex, es, pos, o, tk, w, h => by unfold chkBs at h; cases h
  | .cons a .nil, X, sc, N, fa, Ex, es, pos, o, tk, w, h => by
    unfold chkBs at h
    match es, h with
    | [e], h => simp only [Bool.and_true] at h; exact dt_and1 (snd_ET a o tk w.1 h).2
    | e :: b :: r, h => simp at h
  | .cons a (.star b l), X, sc, N, fa, Ex, es, pos, o, tk, w, h => by
    unfold chkBs at h
    match es, h with
    | [e], h => simp at h
    | e :: c :: r, h => simp at h
  | .cons a (.cons b l), X, sc, N, fa, Ex, es, pos, o, tk, w, h => by
    unfold chkBs at h
    match es, h with
    | [e], h => simp at h
    | e :: c :: r, h =>
      simp only [Bool.and_eq_true] at h
      exact dt_and (snd_ET a o tk w.1 h.1).2 (snd_AndT (.cons b l) o tk w.2 h.2)
theorem snd_OrT : ∀ (l : Es) {X : Cx} {sc : Scope} {N : List Str} {fa : Bool} {Ex : XQ} {es : List Expr} {pos : Pos}, Ok X sc N fa k → TkD X Ex → WfEs (gpx X k) l → chkBs l sc N es = true → PW X (.BoolOp .Or es pos) (lT (Gx X) (wOrT Ex l))
  | .nil, X, sc, N, fa, Ex, es, pos, o, tk, w, h => by unfold chkBs at h; cases h
  | .star _ _, X, sc, N, fa, Ex, es, pos, o, tk, w, h => by unfold chkBs at h; cases h
  | .cons a .nil, X, sc, N, fa, Ex, es, pos, o, tk, w, h => by
    unfold chkBs at h
    match es, h with
    | [e], h => simp only [Bool.and_true] at h; exact dt_or1 (snd_ET a o tk w.1 h).2
    | e :: b :: r, h => simp at h
  | .cons a (.star b l), X, sc, N, fa, Ex, es, pos, o, tk, w, h => by
    unfold chkBs at h
    match es, h with
    | [e], h => simp at h
    | e :: c :: r, h => simp at h
  | .cons a (.cons b l), X, sc, N, fa, Ex, es, pos, o, tk, w, h => by
    unfold chkBs at h
    match es, h with
    | [e], h => simp at h
    | e :: c :: r, h =>
      simp only [Bool.and_eq_true] at h
      exact dt_or (snd_ET a o tk w.1 h.1).2 (snd_OrT (.cons b l) o tk w.2 h.2)
end
end
end Dy
end
section
set_option Elab.async false
set_option linter.all false
set_option maxRecDepth 100000
set_option maxHeartbeats 4000000
/-! The D layer, 11: statements, the look and its soundness. -/
namespace Dy
open PySem PySem.Spec L2
open PyProof.Rows hiding St

def isComp : Expr → Bool
  | .ListComp .. => true
  | .SetComp .. => true
  | .DictComp .. => true
  | _ => false
def isLcE : E → Bool
  | .lc .. => true
  | _ => false
def isTupE : Expr → Bool
  | .Tuple .. => true
  | _ => false
def starE : Expr → Bool
  | .Starred .. => true
  | _ => false
def locL (sc : Scope) (x : Str) : Bool := match sc.names.lookup x with
  | some .local => true
  | _ => false
def funB (sc : Scope) : Bool := match sc.kind with
  | .function => true
  | _ => false
/-- a comprehension whose value goes to the name ahead of its variables -/
def swapB (sc : Scope) (x : Str) (p : Pos) : Expr → Bool
  | .ListComp _ _ scope pos => funB sc && locL sc x && (p.line == pos.line) && !(scope.names.any fun (n, k) => n == x && (k == .local || k == .cell))
  | _ => false
def sw2 (sc : Scope) (x y : Str) (px py : Pos) (a b : Expr) : Bool :=
  funB sc && locL sc x && locL sc y && !(x == y) && (py.line == px.line) && !(starE a || starE b) && !(foldedForSure 8 a && foldedForSure 8 b) && !(constantsAlone 8 a && constantsAlone 8 b)
def sw3 (sc : Scope) (x y z : Str) (px py pz : Pos) (a b c : Expr) : Bool :=
  funB sc && locL sc x && locL sc y && locL sc z && !(x == y) && !(x == z) && !(y == z) && (py.line == px.line) && (pz.line == px.line) && !(starE a || starE b || starE c) && !(foldedForSure 8 a && (foldedForSure 8 b && foldedForSure 8 c)) && !(constantsAlone 8 a && (constantsAlone 8 b && constantsAlone 8 c))
mutual
def chkS : S → Scope → List Str → Stmt → Bool
  | .asg (.tg (.name i)) e, sc, N, s => match s with
    | .Assign [.Name x p] v pos => decide (N[i]? = some x) && locB sc true x && chkE e sc N v && (!(isComp v) || !(locL sc x) || swapB sc x p v && isLcE e)
    | _ => false
  | .asg (.tg (.tup l)) e, sc, N, s => match s with
    | .Assign [.Tuple ts k p] v pos => chkTgs sc N true l ts && chkE e sc N v && !(isTupE v)
    | _ => false
  | .asg (.sub o i) e, sc, N, s => match s with
    | .Assign [.Subscript x y p] v pos => hd y && chkE o sc N x && chkE i sc N y && chkE e sc N v
    | _ => false
  | .asg (.fld _ o f) e, sc, N, s => match s with
    | .Assign [.Attribute x g p] v pos => decide (f = g) && chkE o sc N x && chkE e sc N v
    | _ => false
  | .never, _, _, _ => true
  | .par2 i j a b, sc, N, s => match s with
    | .Assign [.Tuple [.Name x px, .Name y py] kt pt] (.Tuple [u, v] k2 p2) pos => decide (N[i]? = some x) && decide (N[j]? = some y) && decide (i ≠ j) && hd u && hd v && chkE a sc N u && chkE b sc N v && sw2 sc x y px py u v
    | _ => false
  | .par3 i j l a b c, sc, N, s => match s with
    | .Assign [.Tuple [.Name x px, .Name y py, .Name z pz] kt pt] (.Tuple [u, v, w] k2 p2) pos => decide (N[i]? = some x) && decide (N[j]? = some y) && decide (N[l]? = some z) && decide (i ≠ j) && decide (i ≠ l) && decide (j ≠ l) && hd u && hd v && hd w && chkE a sc N u && chkE b sc N v && chkE c sc N w && sw3 sc x y z px py pz u v w
    | _ => false
  | .aug i op e, sc, N, s => match s with
    | .AugAssign (.Name x p) .Add v pos => decide (N[i]? = some x) && locB sc true x && chkE e sc N v && decide (op = .Add)
    | _ => false
  | .ret e, sc, N, s => match s with
    | .Return (some v) _ => chkE e sc N v
    | _ => false
  | .retN, sc, N, s => match s with
    | .Return none _ => true
    | _ => false
  | .iff c a b, sc, N, s => match s with
    | .If t x y _ => chkE c sc N t && chkB a sc N x && chkB b sc N y
    | _ => false
  | .whl c b, sc, N, s => match s with
    | .While t x [] _ => chkE c sc N t && chkB b sc N x
    | _ => false
  | .forr g it b, sc, N, s => match s with
    | .For t i x [] _ => hd i && chkIt it sc N t i && chkTg sc N true g t && chkB b sc N x
    | _ => false
  | .expr e, sc, N, s => match s with
    | .Expr v _ => chkE e sc N v && !(isComp v)
    | _ => false
  | .pass, _, _, s => match s with
    | .Pass _ => true
    | _ => false
def chkB : B → Scope → List Str → List Stmt → Bool
  | .nil, _, _, l => l.isEmpty
  | .cons s b, sc, N, l => match l with
    | x :: xs => chkS s sc N x && chkB b sc N xs
    | [] => false
  | .frz _ b, sc, N, l => chkB b sc N l
  | .frzk _ _ b, sc, N, l => chkB b sc N l
end
mutual
def WfS (G : Gp) : S → Prop
  | .asg (.tg _) e => WfE G e
  | .asg (.sub o i) e => WfE G o ∧ WfE G i ∧ WfE G e
  | .asg (.fld C o f) e => AtOk G C f ∧ WfE G o ∧ WfE G e
  | .never => True
  | .par2 _ _ a b => WfE G a ∧ WfE G b
  | .par3 _ _ _ a b c => WfE G a ∧ WfE G b ∧ WfE G c
  | .aug _ _ e => WfE G e
  | .ret e => WfE G e
  | .retN => True
  | .iff c a b => WfE G c ∧ WfB G a ∧ WfB G b
  | .whl c b => WfE G c ∧ WfB G b
  | .forr _ it b => WfIt G it ∧ WfB G b
  | .expr e => WfE G e
  | .pass => True
def WfB (G : Gp) : B → Prop
  | .nil => True
  | .cons s b => WfS G s ∧ WfB G b
  | .frz _ b => WfB G b
  | .frzk _ _ b => WfB G b
end
section
variable {X : Cx} {sc : Scope} {N : List Str} {k : Nat}
theorem PS.post {st : Stmt} {t t' : TS} (h : PS X st t) (i : ∀ D σ H, t' D σ H → t { D with nx := fun σ1 H1 => D.nx σ1 H1 ∨ ∃ p u, H1 p = some u ∧ Mut (some u) ∧ ∀ o, D.nx σ1 (upd H1 p (.frz o u)) } σ H) : PS X st t' := ⟨fun pins s σ H D I q => by
  refine thn (h.run pins s σ H _ I (i D σ H q)) fun f s1 q1 => ?_
  cases f with
  | next =>
    obtain ⟨σ1, H1, I1, q1⟩ := q1
    rcases q1 with q1 | ⟨p, u', hp, mu, q1⟩
    · exact ⟨σ1, H1, I1, q1⟩
    · obtain ⟨od, I2⟩ := I1.lock hp mu
      exact ⟨σ1, _, I2, q1 od⟩
  | ret v => exact q1
  | brk => exact q1
  | cont => exact q1⟩
theorem loc_lookup {x : Str} (h : locL sc x = true) : sc.names.lookup x = some .local := by
  unfold locL at h
  split at h
  · assumption
  · cases h
theorem fun_kind (h : funB sc = true) : sc.kind = .function := by
  unfold funB at h
  split at h
  · assumption
  · cases h
theorem sw_no {v : Expr} (h : isComp v = false) (t : Option Expr) (l : Nat) (env : Env) : swapsWith v t l env = pure false := by
  cases v <;> first | rfl | (simp [isComp] at h)
theorem sw_cell {v : Expr} {x : Str} {p : Pos} {l : Nat} {env : Env} (hs : env.scope = sc) (h : locL sc x = false) : swapsWith v (some (.Name x p)) l env = pure false := by
  have k : (env.kindOf x == some .local) = false := by
    unfold Env.kindOf
    rw [hs]
    unfold locL at h
    cases e : sc.names.lookup x with
    | none => rfl
    | some q => rw [e] at h; cases q <;> first | rfl | cases h
  unfold swapsWith
  cases v <;> first | rfl | (simp only [k, Bool.and_false, Bool.false_and, Bool.false_eq_true]; done) | (simp only [k, Bool.and_false, Bool.false_and, Bool.false_eq_true]; rfl)
theorem sw_tup {ts : List Expr} {kt : Nat} {p : Pos} (v : Expr) (l : Nat) (env : Env) : swapsWithSole [.Tuple ts kt p] v l env = pure false := by
  cases v <;> rfl
theorem sw_sub {o i : Expr} {p : Pos} (v : Expr) (l : Nat) (env : Env) : swapsWithSole [.Subscript o i p] v l env = pure false := by
  cases v <;> rfl
theorem st_tup {ts : List Expr} {kt : Nat} {p : Pos} {v : Expr} (h : isTupE v = false) (env : Env) : swappedStores [.Tuple ts kt p] v env = pure none := by
  cases v <;> first | rfl | (simp [isTupE] at h)
theorem st_sub {o i : Expr} {p : Pos} {v : Expr} (env : Env) : swappedStores [.Subscript o i p] v env = pure none := by
  cases v <;> rfl
theorem er2 {x y : Str} (h : (x == y) = false) : ([x, y] : List Str).eraseDups = [x, y] := by
  have h' : (y == x) = false := by rw [beq_eq_false_iff_ne] at h ⊢; exact fun e => h e.symm
  simp [List.eraseDups_cons, h']
theorem er3 {x y z : Str} (h : (x == y) = false) (h2 : (x == z) = false) (h3 : (y == z) = false) : ([x, y, z] : List Str).eraseDups = [x, y, z] := by
  have h' : (y == x) = false := by rw [beq_eq_false_iff_ne] at h ⊢; exact fun e => h e.symm
  have h2' : (z == x) = false := by rw [beq_eq_false_iff_ne] at h2 ⊢; exact fun e => h2 e.symm
  have h3' : (z == y) = false := by rw [beq_eq_false_iff_ne] at h3 ⊢; exact fun e => h3 e.symm
  simp [List.eraseDups_cons, h', h2', h3']
theorem sw2_ok {env : Env} {x y : Str} {px py pt : Pos} {kt k2 : Nat} {p2 : Pos} {a b : Expr} (hs : env.scope = sc) (h : sw2 sc x y px py a b = true) : swappedStores [.Tuple [.Name x px, .Name y py] kt pt] (.Tuple [a, b] k2 p2) env = pure (some [x, y]) ∧ sc.names.lookup x = some .local ∧ sc.names.lookup y = some .local := by
  unfold sw2 at h
  simp only [Bool.and_eq_true, Bool.not_eq_true'] at h
  obtain ⟨⟨⟨⟨⟨⟨⟨h1, h2⟩, h3⟩, h4⟩, h5⟩, h6⟩, h7⟩, h8⟩ := h
  have l1 := loc_lookup h2
  have l2 := loc_lookup h3
  refine ⟨?_, l1, l2⟩
  have hb : env.blockKind = .function := by unfold Env.blockKind; rw [hs, fun_kind h1]; rfl
  have k1 : env.kindOf x = some .local := by unfold Env.kindOf; rw [hs]; exact l1
  have k2 : env.kindOf y = some .local := by unfold Env.kindOf; rw [hs]; exact l2
  have h6' : ([a, b].any fun | .Starred .. => true | _ => false) = false := by
    cases a <;> cases b <;> first | rfl | (simp [starE] at h6)
  unfold swappedStores
  simp only [hb, k1, k2, Expr.pos, h5, List.filterMap, h6', List.length, er2 h4, List.all]
  simp [h7, h8, er2 h4, h5]
  intro q
  exfalso
  rw [Bool.or_eq_false_iff] at h6
  rcases q with q | q
  · have := h6.1
    cases a <;> first | (cases q; done) | (cases this; done)
  · have := h6.2
    cases b <;> first | (cases q; done) | (cases this; done)
theorem sw3_ok {env : Env} {x y z : Str} {px py pz pt : Pos} {kt k2 : Nat} {p2 : Pos} {a b c : Expr} (hs : env.scope = sc) (h : sw3 sc x y z px py pz a b c = true) : swappedStores [.Tuple [.Name x px, .Name y py, .Name z pz] kt pt] (.Tuple [a, b, c] k2 p2) env = pure (some [x, y, z]) ∧ sc.names.lookup x = some .local ∧ sc.names.lookup y = some .local ∧ sc.names.lookup z = some .local := by
  unfold sw3 at h
  simp only [Bool.and_eq_true, Bool.not_eq_true'] at h
  obtain ⟨⟨⟨⟨⟨⟨⟨⟨⟨⟨⟨h1, h2⟩, h3⟩, h31⟩, h4⟩, h41⟩, h42⟩, h5⟩, h51⟩, h6⟩, h7⟩, h8⟩ := h
  have l1 := loc_lookup h2
  have l2 := loc_lookup h3
  have l3 := loc_lookup h31
  refine ⟨?_, l1, l2, l3⟩
  have hb : env.blockKind = .function := by unfold Env.blockKind; rw [hs, fun_kind h1]; rfl
  have k1 : env.kindOf x = some .local := by unfold Env.kindOf; rw [hs]; exact l1
  have k2 : env.kindOf y = some .local := by unfold Env.kindOf; rw [hs]; exact l2
  have k3 : env.kindOf z = some .local := by unfold Env.kindOf; rw [hs]; exact l3
  unfold swappedStores
  simp only [hb, k1, k2, k3, Expr.pos, h5, h51, List.filterMap, List.length, er3 h4 h41 h42, List.all]
  have h7' : foldedForSure 8 a = true → foldedForSure 8 b = true → foldedForSure 8 c = false := by
    intro q1 q2; rw [q1, q2] at h7; simpa using h7
  have h8' : constantsAlone 8 a = true → constantsAlone 8 b = true → constantsAlone 8 c = false := by
    intro q1 q2; rw [q1, q2] at h8; simpa using h8
  simp [er3 h4 h41 h42, h5, h51]
  rw [Bool.or_eq_false_iff, Bool.or_eq_false_iff] at h6
  rw [if_neg, if_neg, if_neg]
  · exact fun q => by have := h8' q.1 q.2.1; rw [q.2.2] at this; cases this
  · exact fun q => by have := h7' q.1 q.2.1; rw [q.2.2] at this; cases this
  · intro q
    rcases q with q | q | q
    · have := h6.1.1
      cases a <;> first | (cases q; done) | (cases this; done)
    · have := h6.1.2
      cases b <;> first | (cases q; done) | (cases this; done)
    · have := h6.2
      cases c <;> first | (cases q; done) | (cases this; done)

/-! ### pieces -/
theorem PG.imp {e : Expr} {t t' : TG} (h : PG X e t) (i : ∀ v σ H Q, t' v σ H Q → t v σ H Q) : PG X e t' := ⟨fun pins s σ H v u Q I r q => h.run pins s σ H v u Q I r (i v σ H Q q)⟩
theorem lS_set {G : Gv} {t : DTE} {i : Nat} {D : Ends} {σ : St} {H : Hp} (h : lS G (fun J σ M => t σ M fun d M1 => J.nx (σ.set i (some d)) M1) D σ H) : lE G t σ H fun v H1 => D.nx (σ.set i (some v)) H1 := by
  obtain ⟨σd, M, Dd, sim, q, up⟩ := h
  exact ⟨σd, M, _, sim, q, fun d M' v H' q' e a hm => up.nx _ _ _ _ q' e ((sim.ext e hm).set i a)⟩
theorem ds_set (o : Ok X sc N true k) {i : Nat} {x : Str} {p pos : Pos} {v : Expr} {t : DTE} (hi : N[i]? = some x) (hx : locB sc true x = true) (he : PE X v (lE (Gx X) t)) (hc : isComp v = false ∨ locL sc x = false) : PS X (.Assign [.Name x p] v pos) (lS (Gx X) fun J σ M => t σ M fun d M1 => J.nx (σ.set i (some d)) M1) := by
  obtain ⟨l1, l2⟩ := loc_of o hx
  exact PS.imp (ps_set o.nd (by rw [o.hN]; exact hi) l1 he (hc.elim (fun hc => sw_no hc _ _ _) (fun hc => sw_cell o.hsc hc)) l2) fun D σ H h => lS_set h
theorem ds_swap (o : Ok X sc N true k) {i : Nat} {x : Str} {p pos : Pos} {v : Expr} (hi : N[i]? = some x) {Ex : XQ} (tk : TkD X Ex) (hs : swapB sc x p v = true) : ∀ (ir : E), isLcE ir = true → WfE (gpx X k) ir → chkE ir sc N v = true →
    PS X (.Assign [.Name x p] v pos) (lS (Gx X) fun J σ M => wE Ex ir σ M fun d M1 => J.nx (σ.set i (some d)) M1)
  | .lc f own elt tg it ifs, _, w, h => by
    unfold chkE at h
    split at h
    · simp only [Bool.and_eq_true] at h
      obtain ⟨⟨⟨⟨⟨⟨h1, h2⟩, h3⟩, h4⟩, h5⟩, h6⟩, h7⟩ := h
      simp only [swapB, Bool.and_eq_true, Bool.not_eq_true'] at hs
      obtain ⟨⟨⟨s1, s2⟩, s3⟩, s4⟩ := hs
      have l := loc_lookup s2
      refine PS.post (ps_setLc (g := gL X.K tg) (tt := lT (Gx X) (wIfs (fun _ _ => False) ifs)) (te := lE (Gx X) (wE (fun _ _ => False) elt)) o.calm o.nd (by rw [o.hN]; exact hi) (by rw [o.hsc]; exact l) (sw_true (by rw [o.hsc]; exact fun_kind s1) (by rw [o.hsc]; exact l) s3 s4) (snd_It it o tk w.2.1 h3) (blkOk_by (by rw [o.hN, o.hsc]; exact h1)) (fun s H C cl fp => snd_tg (o.blk s H _ cl C fp) tg _ h4) (fun s H C cl fp => snd_Ifs ifs (o.blk s H _ cl C fp) tk_none w.2.2 h6) (fun s H C cl fp => (snd_ET elt (o.blk s H _ cl C fp) tk_none w.1 h7).1) (fold_of h2 _)) fun D σ H q => ?_
      refine lc_imp (fun i hi => ?_) (lS_set q)
      have := List.all_eq_true.mp h5 i hi
      simpa using this
    · cases h
theorem ds_asgT (o : Ok X sc N true k) {g : Tg} {tg v : Expr} {ts : List Expr} {kt : Nat} {p pos : Pos} {t : DTE} (ht : tg = .Tuple ts kt p) (hg : PG X tg (gL X.K g)) (he : PE X v (lE (Gx X) t)) (hc : isTupE v = false) : PS X (.Assign [tg] v pos) (lS (Gx X) fun J σ M => t σ M fun d M1 => wTg g d σ M1 J.nx) := by
  subst ht
  refine PS.imp (ps_asg he hg (sw_tup _ _ _) (st_tup hc _)) fun D σ H ⟨σd, M, Dd, sim, q, up⟩ => ?_
  refine lE_then sim q fun d M1 v H1 q1 e1 a1 s1 => ?_
  unfold wTg at q1
  split at q1
  · rename_i σ2 hset
    obtain ⟨ps, hps, sim2, hg⟩ := gL_run (G := Gx X) (Q := D.nx) g d v σ σd σ2 a1 s1 hset
    exact hg (up.nx _ _ _ _ q1 e1 sim2)
  · exact q1.elim
theorem as_plain {i : Expr} (h : hd i = true) (o : Expr) (pos : Pos) (env : Env) : ∀ v, assign (.Subscript o i pos) env v = (do
      let ov ← holding [v] (eval o env)
      let iv ← holding [v, ov] (eval i env)
      standAt pos
      holding [v, ov, iv] (setItem ov iv v)
      release [v, ov, iv] []) := by
  intro v
  cases i <;> first | rfl | (simp [hd] at h)
theorem ds_asgS (o : Ok X sc N true k) {a b v : Expr} {p pos : Pos} {t ta tb : DTE} (hb : hd b = true) (ha : PE X a (lE (Gx X) ta)) (hb' : PE X b (lE (Gx X) tb)) (he : PE X v (lE (Gx X) t)) : PS X (.Assign [.Subscript a b p] v pos) (lS (Gx X) fun J σ M => t σ M fun d M1 => ta σ M1 fun x M2 => tb σ M2 fun y M3 => fSet x y d M3 fun M4 => J.nx σ M4) := by
  refine PS.imp (ps_asg he (pg_sub ha hb' (set_d o.hu) (as_plain hb _ _ _)) (sw_sub _ _ _) (st_sub _)) fun D σ H ⟨σd, M, Dd, sim, q, up⟩ => ?_
  refine lE_then sim q fun d M1 v H1 q1 e1 a1 s1 => ?_
  refine lE_then s1 q1 fun d2 M2 v2 H2 q2 e2 a2 s2 => ?_
  refine lE_then s2 q2 fun d3 M3 v3 H3 q3 e3 a3 s3 => ?_
  refine ⟨d2, d3, d, M3, _, a2.ext e3, a3, (a1.ext e2).ext e3, s3.heap, fSet_d q3, fun M4 H4 q4 e4 hm4 => ?_⟩
  exact up.nx _ _ _ _ q4 (((e1.trans e2).trans e3).trans e4) (s3.ext e4 hm4)
theorem sw_att {o : Expr} {f : Str} {p : Pos} (v : Expr) (l : Nat) (env : Env) : swapsWith v (some (.Attribute o f p)) l env = pure false := by
  cases v <;> rfl
theorem ds_fld {C f : Str} {a v : Expr} {p pos : Pos} {t ta : DTE} (ha : PE X a (lE (Gx X) ta)) (he : PE X v (lE (Gx X) t)) (w : AtOk (gpx X k) C f) : PS X (.Assign [.Attribute a f p] v pos) (lS (Gx X) fun J σ M => t σ M fun d M1 => ta σ M1 fun x M2 => dFld C f x d M2 fun M3 => J.nx σ M3) := by
  refine PS.imp (ps_fld ha he (sw_att _ _ _)) fun D σ H ⟨σd, M, Dd, sim, q, up⟩ => ?_
  refine lE_then sim q fun d M1 v H1 q1 e1 a1 s1 => ?_
  refine lE_then s1 q1 fun d2 M2 v2 H2 q2 e2 a2 s2 => ?_
  unfold dFld at q2
  split at q2
  · rename_i b
    split at q2
    · rename_i C' fs hM
      obtain ⟨rfl, q3, q4⟩ := q2
      cases a2
      cases s2.heap b _ hM with
      | @ins dx _ fs' _ r l =>
        have x1 : Ext H2 (upd H2 b (.ins (He.ga X.K C') dx (putF f v fs'))) := Ext.put r trivial
        refine ⟨b, _, dx, fs', rfl, r, w.1, w.2, by rw [absF_len l]; exact q3, ?_⟩
        have hm3 := s2.heap.put (u := .ins (He.ga X.K C') dx (putF f v fs')) r trivial (.ins upd_same ((absF_put (a1.ext e2) l).ext x1))
        exact up.nx _ _ _ _ q4 ((e1.trans e2).trans x1) (s2.ext x1 hm3)
    · exact q2.elim
  · exact q2.elim
theorem ds_par2 (o : Ok X sc N true k) {i j : Nat} {x y : Str} {px py pt p2 pos : Pos} {kt k2 : Nat} {a b : Expr} {ta tb : DTE} (hi : N[i]? = some x) (hj : N[j]? = some y) (hij : i ≠ j) (ha : PE X a (lE (Gx X) ta)) (hb : PE X b (lE (Gx X) tb)) (h1 : hd a = true) (h2 : hd b = true) (hs : sw2 sc x y px py a b = true) :
    PS X (.Assign [.Tuple [.Name x px, .Name y py] kt pt] (.Tuple [a, b] k2 p2) pos) (lS (Gx X) fun J σ M => ta σ M fun x M1 => tb σ M1 fun y M2 => J.nx ((σ.set i (some x)).set j (some y)) M2) := by
  obtain ⟨s1, s2, s3⟩ := sw2_ok (kt := kt) (pt := pt) (k2 := k2) (p2 := p2) o.hsc hs
  refine PS.imp (ps_par o.calm o.nd (by rw [o.hN]; exact hi) (by rw [o.hN]; exact hj) hij (by rw [o.hsc]; exact s2) (by rw [o.hsc]; exact s3) (da_cons ha (da_cons hb da_nil h2) h1) s1 (sw_tup _ _ _)) fun D σ H ⟨σd, M, Dd, sim, q, up⟩ => ?_
  refine lA_then (k := fun ds M2 => match ds with
    | [d, e] => Dd.nx ((σd.set i (some d)).set j (some e)) M2
    | _ => False) sim q fun ds M1 vs H1 q1 e1 a1 s1 => ?_
  split at q1
  · cases a1 with
    | cons a a1 =>
      cases a1 with
      | cons b a1 =>
        cases a1
        exact ⟨_, _, rfl, up.nx _ _ _ _ q1 e1 ((s1.set i a).set j b)⟩
  · exact q1.elim
theorem ds_par3 (o : Ok X sc N true k) {i j l : Nat} {x y z : Str} {px py pz pt p2 pos : Pos} {kt k2 : Nat} {a b c : Expr} {ta tb tc : DTE} (hi : N[i]? = some x) (hj : N[j]? = some y) (hl : N[l]? = some z) (hij : i ≠ j) (hil : i ≠ l) (hjl : j ≠ l) (ha : PE X a (lE (Gx X) ta)) (hb : PE X b (lE (Gx X) tb)) (hc : PE X c (lE (Gx X) tc)) (h1 : hd a = true) (h2 : hd b = true) (h3 : hd c = true) (hs : sw3 sc x y z px py pz a b c = true) :
    PS X (.Assign [.Tuple [.Name x px, .Name y py, .Name z pz] kt pt] (.Tuple [a, b, c] k2 p2) pos) (lS (Gx X) fun J σ M => ta σ M fun x M1 => tb σ M1 fun y M2 => tc σ M2 fun z M3 => J.nx (((σ.set i (some x)).set j (some y)).set l (some z)) M3) := by
  obtain ⟨s1, s2, s3, s4⟩ := sw3_ok (kt := kt) (pt := pt) (k2 := k2) (p2 := p2) o.hsc hs
  refine PS.imp (ps_par3 o.calm o.nd (by rw [o.hN]; exact hi) (by rw [o.hN]; exact hj) (by rw [o.hN]; exact hl) hij hil hjl (by rw [o.hsc]; exact s2) (by rw [o.hsc]; exact s3) (by rw [o.hsc]; exact s4) (da_cons ha (da_cons hb (da_cons hc da_nil h3) h2) h1) s1 (sw_tup _ _ _)) fun D σ H ⟨σd, M, Dd, sim, q, up⟩ => ?_
  refine lA_then (k := fun ds M2 => match ds with
    | [d, e, f] => Dd.nx (((σd.set i (some d)).set j (some e)).set l (some f)) M2
    | _ => False) sim q fun ds M1 vs H1 q1 e1 a1 s1 => ?_
  split at q1
  · cases a1 with
    | cons a a1 =>
      cases a1 with
      | cons b a1 =>
        cases a1 with
        | cons c a1 =>
          cases a1
          exact ⟨_, _, _, rfl, up.nx _ _ _ _ q1 e1 (((s1.set i a).set j b).set l c)⟩
  · exact q1.elim
theorem dVar_some {i : Nat} {σ : Sd} {M : Mp} {Q : DK} (h : dVar i σ M Q) : ∃ d, σ[i]? = some (some d) ∧ Q d M := by
  unfold dVar at h
  split at h
  · exact ⟨_, by assumption, h⟩
  · exact h.elim
theorem ds_aug (o : Ok X sc N true k) {i : Nat} {x : Str} {p pos : Pos} {v : Expr} {t : DTE} (hi : N[i]? = some x) (hx : locB sc true x = true) (he : PE X v (lE (Gx X) t)) : PS X (.AugAssign (.Name x p) .Add v pos) (lS (Gx X) fun J σ M => dVar i σ M fun x M0 => t σ M0 fun y M1 => match Operator.Add, x, y with
    | .Add, .int a, .int b => J.nx (σ.set i (some (.int (a + b)))) M1
    | _, _, _ => False) := by
  obtain ⟨l1, l2⟩ := loc_of o hx
  refine PS.imp (ps_aug o.nd (by rw [o.hN]; exact hi) l1 he ip_add l2) fun D σ H ⟨σd, M, Dd, sim, q, up⟩ => ?_
  obtain ⟨d, hd, q⟩ := dVar_some q
  obtain ⟨v, e, a⟩ := sim.at_ i _ hd
  refine ⟨v, e, lE_then sim q fun d1 M1 v1 H1 q1 e1 a1 s1 => ?_⟩
  split at q1
  · exact ⟨_, _, int_abs a, int_abs a1, up.nx _ _ _ _ q1 e1 (s1.set i (.int _))⟩
  · exact q1.elim
theorem ds_ret {v : Expr} {pos : Pos} {t : DTE} (he : PE X v (lE (Gx X) t)) : PS X (.Return (some v) pos) (lS (Gx X) fun J σ M => t σ M J.rt) :=
  PS.imp (ps_ret he) fun D σ H ⟨σd, M, Dd, sim, q, up⟩ => ⟨σd, M, _, sim, q, up.rt⟩
theorem ds_retN {pos : Pos} : PS X (.Return none pos) (lS (Gx X) fun J _ M => J.rt .non M) :=
  PS.imp ps_retN fun D σ H ⟨σd, M, Dd, sim, q, up⟩ => up.rt _ _ _ _ q (Ext.refl H) .non sim.heap
theorem ds_if {c : Expr} {a b : List Stmt} {pos : Pos} {tc : DTT} {ta tb : DTS} (hc : PT X c (lT (Gx X) tc)) (ha : PSs X a (lS (Gx X) ta)) (hb : PSs X b (lS (Gx X) tb)) : PS X (.If c a b pos) (lS (Gx X) fun J σ M => tc σ M fun k M1 => if k = true then ta J σ M1 else tb J σ M1) := by
  refine PS.imp (ps_if hc ha hb) fun D σ H ⟨σd, M, Dd, sim, q, up⟩ => lT_then sim q fun b M1 H1 q1 e1 s1 => ?_
  cases b with
  | true => exact ⟨σd, M1, Dd, s1, by simpa using q1, up.ext e1⟩
  | false => exact ⟨σd, M1, Dd, s1, by simpa using q1, up.ext e1⟩
theorem ds_expr {v : Expr} {pos : Pos} {t : DTE} (he : PE X v (lE (Gx X) t)) (hc : isComp v = false) : PS X (.Expr v pos) (lS (Gx X) fun J σ M => t σ M fun _ M1 => J.nx σ M1) :=
  PS.imp (ps_expr he (sw_no hc _ _ _)) fun D σ H ⟨σd, M, Dd, sim, q, up⟩ => lE_then sim q fun d M1 v H1 q1 e1 a1 s1 => up.nx _ _ _ _ q1 e1 s1
theorem ds_pass {pos : Pos} : PS X (.Pass pos) (lS (Gx X) fun J σ M => J.nx σ M) :=
  PS.imp ps_pass fun D σ H ⟨σd, M, Dd, sim, q, up⟩ => up.nx _ _ _ _ q (Ext.refl H) sim
theorem dss_nil : PSs X [] (lS (Gx X) fun J σ M => J.nx σ M) :=
  PSs.imp pss_nil fun D σ H ⟨σd, M, Dd, sim, q, up⟩ => up.nx _ _ _ _ q (Ext.refl H) sim
theorem dss_cons {s : Stmt} {r : List Stmt} {t u : DTS} (h1 : PS X s (lS (Gx X) t)) (h2 : PSs X r (lS (Gx X) u)) : PSs X (s :: r) (lS (Gx X) fun J σ M => t { J with nx := u J } σ M) :=
  PSs.imp (pss_cons h1 h2) fun D σ H ⟨σd, M, Dd, sim, q, up⟩ => ⟨σd, M, _, sim, q, ⟨fun σ1 M1 σ' H1 q1 e1 s1 => ⟨σ1, M1, Dd, s1, q1, up.ext e1⟩, up.rt, up.bk, up.ct⟩⟩
theorem ds_while (hp : PassesOwn (model X.prog X.w) X.A X.env X.xe) {c : Expr} {b : List Stmt} {pos : Pos} {tc : DTT} {tb : DTS} (hc : PT X c (lT (Gx X) tc)) (hb : PSs X b (lS (Gx X) tb)) : PS X (.While c b [] pos) (lS (Gx X) fun J σ M => ∃ n, whileN tc tb J n σ M) := by
  refine PS.imp (ps_while hp hc hb) fun D σ H ⟨σd, M, Dd, sim, ⟨n, q⟩, up⟩ => ?_
  refine ⟨fun m σ' H' => ∃ σd' M', Ext H H' ∧ Sim (Gx X) H' σ' σd' M' ∧ whileN tc tb Dd m σd' M', ⟨n, σd, M, Ext.refl H, sim, q⟩, ?_⟩
  rintro m σ1 H1 ⟨σd1, M1, e1, s1, q1⟩
  cases m with
  | zero => exact q1.elim
  | succ m =>
    refine lT_then s1 q1 fun b M2 H2 q2 e2 s2 => ?_
    cases b with
    | true =>
      rw [if_pos rfl]
      simp only [if_true] at q2
      refine ⟨_, fun σ' H' h => ⟨m, Nat.lt_succ_self m, h⟩, σd1, M2, _, s2, q2, ?_⟩
      have x := e1.trans e2
      exact ⟨fun σ3 M3 σ4 H3 q3 e3 s3 => ⟨σ3, M3, x.trans e3, s3, q3⟩, up.rt.ext x, up.nx.ext x, fun σ3 M3 σ4 H3 q3 e3 s3 => ⟨σ3, M3, x.trans e3, s3, q3⟩⟩
    | false =>
      rw [if_neg Bool.false_ne_true]
      simp only [Bool.false_eq_true, if_false] at q2
      exact up.nx _ _ _ _ q2 (e1.trans e2) s2
theorem ds_for (o : Ok X sc N true k) (hp : PassesOwn (model X.prog X.w) X.A X.env X.xe) {tg iter : Expr} {b : List Stmt} {pos : Pos} {g : Tg} {ti : DTI} {tb : DTS} (hi : PI X tg iter (lI (Gx X) ti)) (hg : PG X tg (gL X.K g)) (hb : PSs X b (lS (Gx X) tb)) (hh : hd iter = true) :
    PS X (.For tg iter b [] pos) (lS (Gx X) fun J σ M => ti σ M fun src M1 => forN src (wTg g) tb J src.items σ M1) := by
  refine PS.imp (ps_for hp o.calm hi hg hb (fold_of hh _)) fun D σ H ⟨σd, M, Dd, sim, q, up⟩ => ?_
  refine ⟨σd, M, _, sim, q, fun src M1 J H1 q1 e1 hm1 it => ?_⟩
  refine ⟨fun i m σ' H' => m = src.items.length - i ∧ i ≤ src.items.length ∧ ∃ σd' M', Ext H1 H' ∧ Sim (Gx X) H' σ' σd' M' ∧ forN src (wTg g) tb Dd (src.items.drop i) σd' M', ⟨_, rfl, Nat.zero_le _, σd, M1, Ext.refl _, sim.ext e1 hm1, q1⟩, ?_⟩
  rintro i m σ2 H2 ⟨rfl, hi, σd2, M2, e2, s2, q2⟩
  by_cases lt : i < src.items.length
  · refine .inr ?_
    obtain ⟨d, hd⟩ : ∃ d, src.items[i]? = some d := ⟨_, List.getElem?_eq_getElem lt⟩
    have ed : src.items.drop i = d :: src.items.drop (i + 1) := by
      rw [List.drop_eq_getElem_cons lt]
      rw [List.getElem?_eq_getElem lt] at hd
      cases hd; rfl
    rw [ed] at q2
    obtain ⟨ok, q2⟩ := q2
    refine ⟨it.go i H2 M2 e2 s2.heap ok lt, fun σ' H' => ∃ σd' M', Ext H1 H' ∧ Sim (Gx X) H' σ' σd' M' ∧ forN src (wTg g) tb Dd (src.items.drop (i + 1)) σd' M', fun σ' H' h => ⟨src.items.length - (i + 1), by omega, rfl, lt, h⟩, fun x H3 y => ?_⟩
    obtain ⟨e3, ax, hm3⟩ := it.yld i H2 M2 x H3 e2 s2.heap ok y d hd
    unfold wTg at q2
    split at q2
    · rename_i σ3 hset
      obtain ⟨ps, hps, sim3, hg⟩ := gL_run (G := Gx X) (Q := fun σ2 H2 => lS (Gx X) tb _ σ2 H2) g d x σ2 σd2 σ3 ax (s2.ext e3 hm3) hset
      refine hg ⟨σ3, M2, _, sim3, q2, ?_⟩
      have x3 := e2.trans e3
      have y3 := e1.trans x3
      exact ⟨fun σ4 M4 σ5 H4 q4 e4 s4 => ⟨σ4, M4, x3.trans e4, s4, q4⟩, up.rt.ext y3, up.nx.ext y3, fun σ4 M4 σ5 H4 q4 e4 s4 => ⟨σ4, M4, x3.trans e4, s4, q4⟩⟩
    · exact q2.elim
  · have e : i = src.items.length := by omega
    subst e
    rw [List.drop_length] at q2
    exact .inl ⟨it.stop _ H2 M2 e2 s2.heap q2.1 rfl, up.nx _ _ _ _ q2.2 (e1.trans e2) s2⟩
/-- what a variable holds is frozen, ahead of the rest -/
theorem PSs.pre {l : List Stmt} {t t' : TS} (h : PSs X l t) (i : ∀ D σ H, t' D σ H → t D σ H ∨ ∃ p u, H p = some u ∧ Mut (some u) ∧ ∀ o, t D σ (upd H p (.frz o u))) : PSs X l t' := ⟨fun pins s σ H D I q => by
  rcases i D σ H q with q | ⟨p, u, hp, mu, q⟩
  · exact h.run pins s σ H D I q
  · obtain ⟨od, I2⟩ := I.lock hp mu
    exact h.run pins s σ _ D I2 (q od)⟩
theorem set_same {σ : St} {i : Nat} {v : V} (h : σ[i]? = some (some v)) : σ.set i (some v) = σ := by
  apply List.ext_getElem?
  intro j
  rw [List.getElem?_set]
  split
  · rename_i e; subst e
    rw [h]
    split
    · rfl
    · rename_i n; rw [List.getElem?_eq_none (by omega)] at h; cases h
  · rfl
theorem dss_frz {l : List Stmt} {i : Nat} {t : DTS} {g : DK → DK} (hg : ∀ {H H1 : Hp} {d : D} {M1 : Mp} {v : V} {Qd : DK} {Q : VK}, Ext H H1 → Abs (Gx X) H1 v d → HAbs (Gx X) H1 M1 → g Qd d M1 → Up (Gx X) H Qd Q → Q v H1 ∨ ∃ p u, H1 p = some u ∧ Mut (some u) ∧ ∀ o, Q v (upd H1 p (.frz o u))) (h : PSs X l (lS (Gx X) t)) :
    PSs X l (lS (Gx X) fun J σ M => dVar i σ M (g fun d M1 => t J (σ.set i (some d)) M1)) := by
  refine PSs.pre h fun D σ H ⟨σd, M, Dd, sim, q, up⟩ => ?_
  obtain ⟨d, hd, q⟩ := dVar_some q
  obtain ⟨v, hv, a⟩ := sim.at_ i _ hd
  have z := hg (Q := fun v H1 => v = (match σ[i]? with | some (some w) => w | _ => .non) → Ext H H1 → lS (Gx X) t D σ H1) (Ext.refl H) a sim.heap q (fun d' M' v' H' q' e a' h' ev _ => by
    rw [hv] at ev
    simp only at ev
    subst ev
    refine ⟨σd.set i (some d'), M', Dd, ?_, q', up.ext e⟩
    have := (sim.ext e h').set i a'
    rw [set_same hv] at this
    exact this)
  rw [hv] at z
  rcases z with z | ⟨p, u, hp, mu, z⟩
  · exact .inl (z rfl (Ext.refl H))
  · exact .inr ⟨p, u, hp, mu, fun o => z o rfl (Ext.put hp mu)⟩
end
end Dy
end
section
set_option Elab.async false
set_option linter.all false
set_option maxRecDepth 100000
set_option maxHeartbeats 4000000
/-! The D layer, 12: soundness of the statements; what a def promises. -/
namespace Dy
open PySem PySem.Spec L2
open PyProof.Rows hiding St

section
variable {X : Cx} {sc : Scope} {N : List Str} {k : Nat}
mutual
theorem snd_S (o : Ok X sc N true k) (hp : PassesOwn (model X.prog X.w) X.A X.env X.xe) {Ex : XQ} (tk : TkD X Ex) : ∀ (ir : S) (s : Stmt), WfS (gpx X k) ir → chkS ir sc N s = true → PS X s (lS (Gx X) (wS Ex ir))
  | .asg (.tg (.name i)) e, s, w, h => by
    unfold chkS at h
    split at h
    · simp only [Bool.and_eq_true, decide_eq_true_eq, Bool.or_eq_true, Bool.not_eq_true'] at h
      obtain ⟨⟨⟨h1, h2⟩, h3⟩, h4⟩ := h
      have im : ∀ D σ H, lS (Gx X) (wS Ex (.asg (.tg (.name i)) e)) D σ H → lS (Gx X) (fun J σ M => wE Ex e σ M fun d M1 => J.nx (σ.set i (some d)) M1) D σ H := fun D σ H q => q
      rcases h4 with (h4 | h4) | ⟨h4, h5⟩
      · exact PS.imp (ds_set o h1 h2 (snd_ET e o tk w h3).1 (.inl h4)) im
      · exact PS.imp (ds_set o h1 h2 (snd_ET e o tk w h3).1 (.inr h4)) im
      · exact PS.imp (ds_swap o h1 tk h4 e h5 w h3) im
    · cases h
  | .asg (.tg (.tup l)) e, s, w, h => by
    unfold chkS at h
    split at h
    · simp only [Bool.and_eq_true, Bool.not_eq_true'] at h
      obtain ⟨⟨h1, h2⟩, h3⟩ := h
      exact ds_asgT o rfl (snd_tg o (.tup l) _ (by unfold chkTg; exact h1)) (snd_ET e o tk w h2).1 h3
    · cases h
  | .asg (.sub a b) e, s, w, h => by
    unfold chkS at h
    split at h
    · simp only [Bool.and_eq_true] at h
      obtain ⟨⟨⟨h1, h2⟩, h3⟩, h4⟩ := h
      exact ds_asgS o h1 (snd_ET a o tk w.1 h2).1 (snd_ET b o tk w.2.1 h3).1 (snd_ET e o tk w.2.2 h4).1
    · cases h
  | .asg (.fld C a f) e, s, w, h => by
    unfold chkS at h
    split at h
    · simp only [Bool.and_eq_true, decide_eq_true_eq] at h
      obtain ⟨⟨rfl, h1⟩, h2⟩ := h
      exact ds_fld (k := k) (snd_ET a o tk w.2.1 h1).1 (snd_ET e o tk w.2.2 h2).1 w.1
    · cases h
  | .never, s, w, h => ⟨fun _ _ _ _ _ _ ⟨_, _, _, _, q, _⟩ => q.elim⟩
  | .par2 i j a b, s, w, h => by
    unfold chkS at h
    split at h
    · simp only [Bool.and_eq_true, decide_eq_true_eq] at h
      obtain ⟨⟨⟨⟨⟨⟨⟨h1, h2⟩, h3⟩, h4⟩, h5⟩, h6⟩, h7⟩, h8⟩ := h
      exact ds_par2 o h1 h2 h3 (snd_ET a o tk w.1 h6).1 (snd_ET b o tk w.2 h7).1 h4 h5 h8
    · cases h
  | .par3 i j l a b c, s, w, h => by
    unfold chkS at h
    split at h
    · simp only [Bool.and_eq_true, decide_eq_true_eq] at h
      obtain ⟨⟨⟨⟨⟨⟨⟨⟨⟨⟨⟨⟨h1, h2⟩, h3⟩, h4⟩, h5⟩, h6⟩, h7⟩, h8⟩, h9⟩, h10⟩, h11⟩, h12⟩, h13⟩ := h
      exact ds_par3 o h1 h2 h3 h4 h5 h6 (snd_ET a o tk w.1 h10).1 (snd_ET b o tk w.2.1 h11).1 (snd_ET c o tk w.2.2 h12).1 h7 h8 h9 h13
    · cases h
  | .aug i op e, s, w, h => by
    unfold chkS at h
    split at h
    · simp only [Bool.and_eq_true, decide_eq_true_eq] at h
      obtain ⟨⟨⟨h1, h2⟩, h3⟩, rfl⟩ := h
      exact ds_aug o h1 h2 (snd_ET e o tk w h3).1
    · cases h
  | .ret e, s, w, h => by
    unfold chkS at h
    split at h
    · exact ds_ret (snd_ET e o tk w h).1
    · cases h
  | .retN, s, w, h => by
    unfold chkS at h
    split at h
    · exact ds_retN
    · cases h
  | .iff c a b, s, w, h => by
    unfold chkS at h
    split at h
    · simp only [Bool.and_eq_true] at h
      exact ds_if (snd_ET c o tk w.1 h.1.1).2 (snd_B o hp tk a _ w.2.1 h.1.2) (snd_B o hp tk b _ w.2.2 h.2)
    · cases h
  | .whl c b, s, w, h => by
    unfold chkS at h
    split at h
    · simp only [Bool.and_eq_true] at h
      exact ds_while hp (snd_ET c o tk w.1 h.1).2 (snd_B o hp tk b _ w.2 h.2)
    · cases h
  | .forr g it b, s, w, h => by
    unfold chkS at h
    split at h
    · simp only [Bool.and_eq_true] at h
      exact ds_for o hp (snd_It it o tk w.1 h.1.1.2) (snd_tg o g _ h.1.2) (snd_B o hp tk b _ w.2 h.2) h.1.1.1
    · cases h
  | .expr e, s, w, h => by
    unfold chkS at h
    split at h
    · simp only [Bool.and_eq_true, Bool.not_eq_true'] at h
      exact ds_expr (snd_ET e o tk w h.1).1 h.2
    · cases h
  | .pass, s, w, h => by
    unfold chkS at h
    split at h
    · exact ds_pass
    · cases h
theorem snd_B (o : Ok X sc N true k) (hp : PassesOwn (model X.prog X.w) X.A X.env X.xe) {Ex : XQ} (tk : TkD X Ex) : ∀ (ir : B) (l : List Stmt), WfB (gpx X k) ir → chkB ir sc N l = true → PSs X l (lS (Gx X) (wB Ex ir))
  | .nil, l, w, h => by
    unfold chkB at h
    cases l with
    | nil => exact dss_nil
    | cons _ _ => cases h
  | .frz i b, l, w, h => dss_frz (g := fzK) (fun e a hm q up => fz_post e a hm q up) (snd_B o hp tk b l w (by unfold chkB at h; exact h))
  | .frzk i key b, l, w, h => dss_frz (g := fzKey key) (fun e a hm q up => fzk_post e a hm q up) (snd_B o hp tk b l w (by unfold chkB at h; exact h))
  | .cons s b, l, w, h => by
    unfold chkB at h
    cases l with
    | nil => cases h
    | cons x xs =>
      simp only [Bool.and_eq_true] at h
      show PSs X (x :: xs) (lS (Gx X) fun J σ M => wS Ex s { J with nx := wB Ex b J } σ M)
      exact dss_cons (snd_S o hp tk s x w.1 h.1) (snd_B o hp tk b xs w.2 h.2)
end
end

/-! ### defs -/
def startD (N : List Str) (ds : List D) : Sd := ds.map some ++ List.replicate (N.length - ds.length) none
theorem start_sim {G : Gv} {H : Hp} {M : Mp} {N : List Str} {vs : List V} {ds : List D} (a : AbsL G H vs ds) (h : HAbs G H M) : Sim G H (L2.start N vs) (startD N ds) M := by
  have len := a.length
  refine ⟨by unfold L2.start startD; simp [len], fun i d q => ?_, h⟩
  unfold startD at q
  unfold L2.start
  by_cases lt : i < ds.length
  · rw [List.getElem?_append_left (by simpa using lt), List.getElem?_map] at q
    rw [List.getElem?_append_left (by simpa [len] using lt), List.getElem?_map]
    cases z : ds[i]? with
    | none => rw [z] at q; cases q
    | some d' =>
      rw [z] at q
      cases q
      obtain ⟨v, hv, av⟩ := a.get z
      exact ⟨v, by rw [hv]; rfl, av⟩
  · rw [List.getElem?_append_right (by simpa using lt), List.getElem?_replicate] at q
    split at q <;> cases q
/-- what a body is to reach -/
def endsOf (Q : DK) : DEnds := { nx := fun _ M => Q .non M, rt := Q }
theorem def_ok {P : Program} {w : World} {K : PySem.W.Frag} {mg : Str → Option Value} {base : Heap} {x qual : Str} {params : Arguments} {body : List Stmt} {scope : Scope} {dvs : List V} {kws : List (Str × V)} {f : Addr} {fd : FuncData} {N ps : List Str} {k : Nat} {c : DSp} {ir : B}
    (F : FunD K x qual params body scope dvs kws f fd) (S : FnScope N ps scope) (len : ∀ ds M Q E, c ds M Q E → ds.length = ps.length) (hc : chkB ir scope N body = true) (hw : WfB ⟨P, w, K, mg, base, k⟩ ir)
    (hb : ∀ ds M Q E, c ds M Q E → wB E ir (endsOf Q) (startD N ds) M) : FnOk P w K mg base (L2.CX P w) (k + 1) f fd ps (lSp ⟨P, w, K⟩ c) := by
  refine F.ok S (fun vs H Q E ⟨ds, M, Qd, Ed, a, _, q, _⟩ => by rw [a.length]; exact len _ _ _ _ q) fun cdv A outer s H vs Q E hr ⟨ds, M, Qd, Ed, a, hm, q, up, ux⟩ => ?_
  let X : Cx := cxOf (L2.CX P w) P w K mg base N qual scope f cdv A outer s H E
  have o : Ok X scope N true k := ⟨rfl, rfl, rfl, S.nd, hr, fun _ x => rfl⟩
  have tk : TkD X Ed := Takes.imp (takes_of rfl rfl rfl rfl) fun cls d σ H' ⟨x, M', e1, e2, e3, e4⟩ => ux x M' cls d H' e1 e2 e3 e4
  have hp : PassesOwn (model X.prog X.w) X.A X.env X.xe := passes_of rfl
  refine ⟨_, snd_B o hp tk ir body hw hc, ?_⟩
  refine ⟨startD N ds, M, endsOf Qd, start_sim a hm, hb _ _ _ _ q, ?_, up, fun _ _ _ _ z => z.elim, fun _ _ _ _ z => z.elim⟩
  exact fun σd M' σ H' q' e s' => up _ _ _ _ q' e .non s'.heap
theorem CallOk.mono {P : Program} {w : World} {K : PySem.W.Frag} {mg : Str → Option Value} {base : Heap} {j k : Nat} {f : Str} {c : DSp} (h : CallOk ⟨P, w, K, mg, base, j⟩ f c) (l : j ≤ k) : CallOk ⟨P, w, K, mg, base, k⟩ f c := by
  obtain ⟨a, fd, ps, h1, h2, h3, h4⟩ := h
  exact ⟨a, fd, ps, h1, h2, h3.mono l, h4⟩
theorem CallOk.imp {G : Gp} {f : Str} {c c' : DSp} (h : CallOk G f c) (l : ∀ ds M Q E, c' ds M Q E → c ds M Q E) : CallOk G f c' := by
  obtain ⟨a, fd, ps, h1, h2, h3, h4⟩ := h
  exact ⟨a, fd, ps, h1, h2, h3.imp fun vs H Q E ⟨ds, M, Qd, Ed, x1, x2, x3, x4⟩ => ⟨ds, M, Qd, Ed, x1, x2, l _ _ _ _ x3, x4⟩, h4⟩
end Dy
end
section
set_option Elab.async false
set_option linter.all false
set_option maxRecDepth 100000
set_option maxHeartbeats 4000000
/-! The D layer, 13: lemmas for reading bodies. -/
namespace Dy
open PySem PySem.Spec L2
open PyProof.Rows hiding St

theorem LeM.up {M M' : Mp} {p : Addr} {o : MO} (h : LeM M M') (e : M p = some o) : M' p = some o := h p o e
theorem delM_updM {M : Mp} {p : Addr} {o : MO} (n : M p = none) : delM (updM M p o) p = M := by
  funext b
  unfold delM updM
  by_cases e : b = p
  · subst e; rw [if_pos rfl, n]
  · rw [if_neg e, if_neg e]
theorem LeM.new {M : Mp} {p : Addr} {o : MO} (n : M p = Option.none) : LeM M (updM M p o) := LeM.upd (LeM.refl M) n
/-- a comprehension over known items, each turn a function of its item -/
theorem lc_pure {M : Mp} {D : Addr} {one : Dy.D → Mp → (Option Dy.D → Mp → Prop) → Prop} {Q : DK} {f : Dy.D → Option Dy.D} (hD : M D = none) : ∀ (items acc : List Dy.D), acc.length + items.length ≤ sizeLine →
    (∀ d ∈ items, ∀ M', LeM M M' → ∀ K : Option Dy.D → Mp → Prop, K (f d) M' → one d M' K) → Q (.lst (acc ++ items.filterMap f)) M → ∀ (all : List Dy.D), lcRun (.val all) D one (lcEnd true D Q) items acc (updM M D (.lst acc))
  | [], acc, _, _, q, all => by
    refine ⟨trivial, updM_same, ?_⟩
    show Q (.lst acc) (delM _ D)
    rw [delM_updM hD]
    simpa using q
  | d :: ds, acc, hl, h, q, all => by
    refine ⟨trivial, h d List.mem_cons_self _ (LeM.new hD) _ ?_⟩
    simp only [List.length_cons] at hl
    cases e : f d with
    | none =>
      refine ⟨updM_same, lc_pure hD ds acc (by omega) (fun d' hd => h d' (List.mem_cons_of_mem _ hd)) ?_ all⟩
      rw [List.filterMap_cons, e] at q
      exact q
    | some r =>
      refine ⟨updM_same, by omega, ?_⟩
      rw [updM_updM]
      refine lc_pure hD ds (acc ++ [r]) (by simp; omega) (fun d' hd => h d' (List.mem_cons_of_mem _ hd)) ?_ all
      rw [List.filterMap_cons, e] at q
      simpa using q
/-! ### places, as simp wants them -/
theorem atI_nat {α : Type} (l : List α) (n : Nat) : L2.atI l (n : Int) = l[n]? := by
  unfold L2.atI L2.ixN
  rw [if_pos (Int.natCast_nonneg n)]
  by_cases h : n < l.length
  · rw [if_pos (by omega)]; simp
  · rw [if_neg (by omega), List.getElem?_eq_none (by omega)]; rfl
theorem atI_0 {α : Type} (l : List α) : L2.atI l 0 = l[0]? := atI_nat l 0
theorem atI_1 {α : Type} (l : List α) : L2.atI l 1 = l[1]? := atI_nat l 1
theorem atI_2 {α : Type} (l : List α) : L2.atI l 2 = l[2]? := atI_nat l 2
theorem atI_3 {α : Type} (l : List α) : L2.atI l 3 = l[3]? := atI_nat l 3
theorem ixN_nat {n i : Nat} (h : i < n) : L2.ixN n (i : Int) = some i := by
  unfold L2.ixN
  rw [if_pos (Int.natCast_nonneg i), if_pos (by omega)]; simp
theorem ixN_1 {n : Nat} (h : 1 < n) : L2.ixN n 1 = some 1 := ixN_nat h
theorem ixN_2 {n : Nat} (h : 2 < n) : L2.ixN n 2 = some 2 := ixN_nat h
theorem ixN_3 {n : Nat} (h : 3 < n) : L2.ixN n 3 = some 3 := ixN_nat h
theorem dEq_int {neg : Bool} {i j : Int} {M : Mp} {Q : DK} (h : Q (.bl (if neg then !(i == j) else i == j)) M) : dEq neg (.int i) (.int j) M Q := ⟨rfl, rfl, .inl (by simp [top, dep]), h⟩
theorem dEq_str {neg : Bool} {i j : Str} {M : Mp} {Q : DK} (h : Q (.bl (if neg then !(i == j) else i == j)) M) : dEq neg (.str i) (.str j) M Q := ⟨rfl, rfl, .inl (by simp [top, dep]), h⟩
/-- a call of a def by its promise -/
theorem hn_new {M : Mp} {p q : Addr} {o : MO} {r : MO} (h : M p = some o) (n : M q = Option.none) : updM M q r p = some o := by
  rw [updM_ne (ne_of_M h n)]; exact h
/-- a new list that is frozen at once -/
theorem fz_newL {l : List D} {M : Mp} {Q : DK} (h : Q (.lst l) M) : newL l M (fzK Q) := fun p hp => by
  unfold fzK
  simp only [updM_same]
  rw [delM_updM hp]
  exact h
theorem fz_newD {l : List (D × D)} {M : Mp} {Q : DK} (h : Q (.dct l) M) : newD l M (fzK Q) := fun p hp => by
  unfold fzK
  simp only [updM_same]
  rw [delM_updM hp]
  exact h
theorem atI_of {α : Type} {l : List α} {i : Int} (h0 : 0 ≤ i) (h1 : i < l.length) : ∃ x, L2.atI l i = some x ∧ x ∈ l := by
  obtain ⟨n, rfl⟩ : ∃ n : Nat, i = (n : Int) := ⟨i.toNat, by omega⟩
  rw [atI_nat]
  have : n < l.length := by omega
  exact ⟨l[n], List.getElem?_eq_getElem this, List.getElem_mem this⟩
theorem atI_str {xs : List Str} {i : Int} (h0 : 0 ≤ i) (h1 : i < xs.length) : ∃ x, L2.atI (xs.map D.str) i = some (.str x) ∧ x ∈ xs := by
  obtain ⟨x, h, m⟩ := atI_of (l := xs.map D.str) h0 (by simpa using h1)
  obtain ⟨z, hz, rfl⟩ := List.mem_map.mp m
  exact ⟨z, h, hz⟩
theorem srt_len (l : List Str) : (srt l).length = l.length := (srt_perm l).length_eq
theorem plains_str : ∀ xs : List Str, plains (xs.map D.str) = true
  | [] => rfl
  | x :: r => by rw [List.map_cons, plains, plains_str r]; rfl
theorem deps_str : ∀ xs : List Str, deps (xs.map D.str) = 0
  | [] => rfl
  | x :: r => by rw [List.map_cons, deps, deps_str r]; rfl
theorem dEq_strs_nil {neg : Bool} {xs : List Str} {M : Mp} {Q : DK} (h : Q (.bl (if neg then !xs.isEmpty else xs.isEmpty)) M) : dEq neg (.lst (xs.map D.str)) (.lst []) M Q := by
  refine ⟨plains_str xs, rfl, .inr (by simp [top, dep, deps]), ?_⟩
  have e : eqD (top M (.lst (xs.map D.str))) (top M (.lst [])) = xs.isEmpty := by
    cases xs <;> rfl
  rw [e]; exact h
theorem forN_inv {all : List D} {g : D → Sd → Mp → (Sd → Mp → Prop) → Prop} {b : DTS} {J : DEnds} (Inv : List D → Sd → Mp → Prop)
    (step : ∀ d ds σ M (K : Sd → Mp → Prop), Inv (d :: ds) σ M → (∀ σ' M', Inv ds σ' M' → K σ' M') → g d σ M fun σ1 M1 => b { nx := K, ct := K, bk := J.nx, rt := J.rt } σ1 M1) (done : ∀ σ M, Inv [] σ M → J.nx σ M) :
    ∀ items σ M, Inv items σ M → forN (.val all) g b J items σ M
  | [], σ, M, h => ⟨trivial, done σ M h⟩
  | d :: ds, σ, M, h => ⟨trivial, step d ds σ M _ h fun σ' M' h' => forN_inv Inv step done ds σ' M' h'⟩
theorem rngD_len (lo : Int) (n : Nat) : (rngD lo n).length = n := by simp [rngD]
end Dy
end
section
set_option Elab.async false
set_option linter.all false
set_option maxRecDepth 100000
set_option maxHeartbeats 0
namespace Dg
open PySem PySem.Spec PyProof.Rows L2
open Dy (E Es B S It Tg Tgs Lhs D DSp)
def top (i : Nat) : Stmt := PySem.Challenge.pw_marksheld_k13_whole_wrong_touches.main.body.getD i (.Pass ⟨0, 0, 0, 0⟩)

def st_is_integer : Stmt := top 21
def N_is_integer : List Str := ["value"]
def P_is_integer : List Str := ["value"]
theorem sc_is_integer : FnScope N_is_integer P_is_integer (defScope st_is_integer) := ⟨rfl, rfl, rfl, by decide +kernel, rfl, by decide +kernel, by decide +kernel⟩
def b_is_integer (c : Str → DSp) : B := .cons (.ret (.andd (.cons (.bif .isi (.cons (.var 0) (.cons (.bty "int" "int") (.nil)))) (.cons (.nott (.bif .isi (.cons (.var 0) (.cons (.bty "bool" "bool") (.nil))))) (.nil))))) (.nil)
theorem ck_is_integer (c : Str → DSp) : Dy.chkB (b_is_integer c) (defScope st_is_integer) N_is_integer (defBody st_is_integer) = true := by kernel_rfl
def st_is_name : Stmt := top 22
def N_is_name : List Str := ["value", "letter"]
def P_is_name : List Str := ["value"]
theorem sc_is_name : FnScope N_is_name P_is_name (defScope st_is_name) := ⟨rfl, rfl, rfl, by decide +kernel, rfl, by decide +kernel, by decide +kernel⟩
def b_is_name_1 (c : Str → DSp) : B := .cons (.ret (.bif .all (.cons (.lc true [("letter", 1)] (.cmp .In (.var 1) (.glob "LETTERS" (.str "abcdefghijklmnopqrstuvwxyz"))) (.name 1) (.seq (.var 0)) (.nil)) (.nil)))) (.nil)
def b_is_name_2 (c : Str → DSp) : B := .cons (.ret (.lit (.bl false))) (.nil)
def b_is_name (c : Str → DSp) : B := .cons (.iff (.orr (.cons (.nott (.bif .isi (.cons (.var 0) (.cons (.bty "str" "str") (.nil))))) (.cons (.nott (.chain .LtE .LtE (.lit (.int 1)) (.bif .len (.cons (.var 0) (.nil))) (.glob "LONGEST" (.int 8)))) (.nil)))) (b_is_name_2 c) (.nil)) (b_is_name_1 c)
theorem ck_is_name (c : Str → DSp) : Dy.chkB (b_is_name c) (defScope st_is_name) N_is_name (defBody st_is_name) = true := by kernel_rfl
def st_is_one_of : Stmt := top 23
def N_is_one_of : List Str := ["value", "some"]
def P_is_one_of : List Str := ["value", "some"]
theorem sc_is_one_of : FnScope N_is_one_of P_is_one_of (defScope st_is_one_of) := ⟨rfl, rfl, rfl, by decide +kernel, rfl, by decide +kernel, by decide +kernel⟩
def b_is_one_of (c : Str → DSp) : B := .cons (.ret (.andd (.cons (.bif .isi (.cons (.var 0) (.cons (.bty "str" "str") (.nil)))) (.cons (.cmp .In (.var 0) (.var 1)) (.nil))))) (.nil)
theorem ck_is_one_of (c : Str → DSp) : Dy.chkB (b_is_one_of c) (defScope st_is_one_of) N_is_one_of (defBody st_is_one_of) = true := by kernel_rfl
def st_check_deeds : Stmt := top 24
def N_check_deeds : List Str := ["deeds", "name"]
def P_check_deeds : List Str := ["deeds"]
theorem sc_check_deeds : FnScope N_check_deeds P_check_deeds (defScope st_check_deeds) := ⟨rfl, rfl, rfl, by decide +kernel, rfl, by decide +kernel, by decide +kernel⟩
def b_check_deeds_1 (c : Str → DSp) : B := .cons .never (.nil)
def b_check_deeds_2 (c : Str → DSp) : B := .cons (.iff (.nott (.call "is_one_of" (c "is_one_of") (.cons (.idx (.var 0) (.var 1)) (.cons (.glob "SORTS" (.tup [(.str "sum"), (.str "run")])) (.nil))))) (b_check_deeds_1 c) (.nil)) (.nil)
def b_check_deeds_3 (c : Str → DSp) : B := .cons (.forr (.name 1) (.seq (.fz (.bif .sorted (.cons (.var 0) (.nil))))) (b_check_deeds_2 c)) (.nil)
def b_check_deeds_4 (c : Str → DSp) : B := .cons .never (.nil)
def b_check_deeds (c : Str → DSp) : B := .cons (.iff (.orr (.cons (.nott (.bif .isi (.cons (.var 0) (.cons (.bty "dict" "dict") (.nil))))) (.cons (.nott (.chain .LtE .LtE (.lit (.int 1)) (.bif .len (.cons (.var 0) (.nil))) (.glob "MOST" (.int 3)))) (.cons (.nott (.bif .all (.cons (.lc true [("name", 1)] (.call "is_name" (c "is_name") (.cons (.var 1) (.nil))) (.name 1) (.seq (.var 0)) (.nil)) (.nil)))) (.nil))))) (b_check_deeds_4 c) (.nil)) (b_check_deeds_3 c)
theorem ck_check_deeds (c : Str → DSp) : Dy.chkB (b_check_deeds c) (defScope st_check_deeds) N_check_deeds (defBody st_check_deeds) = true := by kernel_rfl
def st_is_part : Stmt := top 25
def N_is_part : List Str := ["deeds", "most", "names", "own", "value"]
def P_is_part : List Str := ["deeds", "most", "names", "own", "value"]
theorem sc_is_part : FnScope N_is_part P_is_part (defScope st_is_part) := ⟨rfl, rfl, rfl, by decide +kernel, rfl, by decide +kernel, by decide +kernel⟩
def b_is_part_1 (c : Str → DSp) : B := .cons (.ret (.andd (.cons (.call "is_one_of" (c "is_one_of") (.cons (.idx (.var 4) (.lit (.int 1))) (.cons (.var 2) (.nil)))) (.cons (.cmp .NotEq (.idx (.var 4) (.lit (.int 1))) (.var 3)) (.nil))))) (.nil)
def b_is_part_2 (c : Str → DSp) : B := .cons (.ret (.lit (.bl false))) (.nil)
def b_is_part_3 (c : Str → DSp) : B := .cons (.iff (.orr (.cons (.cmp .NotIn (.idx (.var 4) (.lit (.int 0))) (.tup (.cons (.glob "HAS" (.str "has")) (.cons (.glob "LACKS" (.str "lacks")) (.nil))))) (.cons (.cmp .NotEq (.bif .len (.cons (.var 4) (.nil))) (.lit (.int 2))) (.nil)))) (b_is_part_2 c) (.nil)) (b_is_part_1 c)
def b_is_part_4 (c : Str → DSp) : B := .cons (.ret (.andd (.cons (.cmp .Eq (.bif .len (.cons (.var 4) (.nil))) (.lit (.int 3))) (.cons (.call "is_one_of" (c "is_one_of") (.cons (.idx (.var 4) (.lit (.int 1))) (.cons (.var 0) (.nil)))) (.cons (.call "is_integer" (c "is_integer") (.cons (.idx (.var 4) (.lit (.int 2))) (.nil))) (.cons (.chain .LtE .LtE (.lit (.int 1)) (.idx (.var 4) (.lit (.int 2))) (.var 1)) (.nil))))))) (.nil)
def b_is_part_5 (c : Str → DSp) : B := .cons (.iff (.cmp .In (.idx (.var 4) (.lit (.int 0))) (.tup (.cons (.glob "LEAST" (.str "least")) (.cons (.glob "BELOW" (.str "below")) (.nil))))) (b_is_part_4 c) (.nil)) (b_is_part_3 c)
def b_is_part_6 (c : Str → DSp) : B := .cons (.ret (.lit (.bl false))) (.nil)
def b_is_part (c : Str → DSp) : B := .cons (.iff (.orr (.cons (.nott (.bif .isi (.cons (.var 4) (.cons (.bty "tuple" "tuple") (.nil))))) (.cons (.cmp .Lt (.bif .len (.cons (.var 4) (.nil))) (.lit (.int 2))) (.cons (.nott (.bif .isi (.cons (.idx (.var 4) (.lit (.int 0))) (.cons (.bty "str" "str") (.nil))))) (.nil))))) (b_is_part_6 c) (.nil)) (b_is_part_5 c)
theorem ck_is_part (c : Str → DSp) : Dy.chkB (b_is_part c) (defScope st_is_part) N_is_part (defBody st_is_part) = true := by kernel_rfl
def st_is_stay : Stmt := top 26
def N_is_stay : List Str := ["deeds", "value"]
def P_is_stay : List Str := ["deeds", "value"]
theorem sc_is_stay : FnScope N_is_stay P_is_stay (defScope st_is_stay) := ⟨rfl, rfl, rfl, by decide +kernel, rfl, by decide +kernel, by decide +kernel⟩
def b_is_stay_1 (c : Str → DSp) : B := .cons (.ret (.andd (.cons (.cmp .Eq (.idx (.var 1) (.lit (.int 0))) (.glob "TILL" (.str "till"))) (.cons (.cmp .Eq (.bif .len (.cons (.var 1) (.nil))) (.lit (.int 2))) (.cons (.call "is_one_of" (c "is_one_of") (.cons (.idx (.var 1) (.lit (.int 1))) (.cons (.var 0) (.nil)))) (.nil)))))) (.nil)
def b_is_stay_2 (c : Str → DSp) : B := .cons (.ret (.cmp .Eq (.bif .len (.cons (.var 1) (.nil))) (.lit (.int 1)))) (.nil)
def b_is_stay_3 (c : Str → DSp) : B := .cons (.iff (.cmp .In (.idx (.var 1) (.lit (.int 0))) (.tup (.cons (.glob "ALWAYS" (.str "always")) (.cons (.glob "GROUND" (.str "ground")) (.nil))))) (b_is_stay_2 c) (.nil)) (b_is_stay_1 c)
def b_is_stay_4 (c : Str → DSp) : B := .cons (.ret (.lit (.bl false))) (.nil)
def b_is_stay (c : Str → DSp) : B := .cons (.iff (.orr (.cons (.nott (.bif .isi (.cons (.var 1) (.cons (.bty "tuple" "tuple") (.nil))))) (.cons (.cmp .Eq (.var 1) (.tup (.nil))) (.cons (.nott (.bif .isi (.cons (.idx (.var 1) (.lit (.int 0))) (.cons (.bty "str" "str") (.nil))))) (.nil))))) (b_is_stay_4 c) (.nil)) (b_is_stay_3 c)
theorem ck_is_stay (c : Str → DSp) : Dy.chkB (b_is_stay c) (defScope st_is_stay) N_is_stay (defBody st_is_stay) = true := by kernel_rfl
def st_is_mark : Stmt := top 27
def N_is_mark : List Str := ["deeds", "most", "names", "own", "value", "ground", "part"]
def P_is_mark : List Str := ["deeds", "most", "names", "own", "value"]
theorem sc_is_mark : FnScope N_is_mark P_is_mark (defScope st_is_mark) := ⟨rfl, rfl, rfl, by decide +kernel, rfl, by decide +kernel, by decide +kernel⟩
def b_is_mark_1 (c : Str → DSp) : B := .cons (.ret (.andd (.cons (.cmp .Eq (.bif .len (.cons (.dc true [("part", 6)] (.var 6) (.lit (.bl true)) (.name 6) (.seq (.var 5)) (.nil)) (.nil))) (.bif .len (.cons (.var 5) (.nil)))) (.cons (.call "is_stay" (c "is_stay") (.cons (.var 0) (.cons (.idx (.var 4) (.lit (.int 1))) (.nil)))) (.nil))))) (.nil)
def b_is_mark_2 (c : Str → DSp) : B := .cons (.ret (.lit (.bl false))) (.nil)
def b_is_mark_3 (c : Str → DSp) : B := .cons (.iff (.orr (.cons (.nott (.chain .LtE .LtE (.lit (.int 1)) (.bif .len (.cons (.var 5) (.nil))) (.glob "MOST_PARTS" (.int 3)))) (.cons (.nott (.bif .all (.cons (.lc true [("part", 6)] (.call "is_part" (c "is_part") (.cons (.var 0) (.cons (.var 1) (.cons (.var 2) (.cons (.var 3) (.cons (.var 6) (.nil))))))) (.name 6) (.seq (.var 5)) (.nil)) (.nil)))) (.nil)))) (b_is_mark_2 c) (.nil)) (b_is_mark_1 c)
def b_is_mark_4 (c : Str → DSp) : B := .cons (.asg (.tg (.name 5)) (.idx (.var 4) (.lit (.int 0)))) (b_is_mark_3 c)
def b_is_mark_5 (c : Str → DSp) : B := .cons (.ret (.lit (.bl false))) (.nil)
def b_is_mark (c : Str → DSp) : B := .cons (.iff (.orr (.cons (.nott (.bif .isi (.cons (.var 4) (.cons (.bty "tuple" "tuple") (.nil))))) (.cons (.cmp .NotEq (.bif .len (.cons (.var 4) (.nil))) (.lit (.int 2))) (.cons (.nott (.bif .isi (.cons (.idx (.var 4) (.lit (.int 0))) (.cons (.bty "tuple" "tuple") (.nil))))) (.nil))))) (b_is_mark_5 c) (.nil)) (b_is_mark_4 c)
theorem ck_is_mark (c : Str → DSp) : Dy.chkB (b_is_mark c) (defScope st_is_mark) N_is_mark (defBody st_is_mark) = true := by kernel_rfl
def st_check_marks : Stmt := top 28
def N_check_marks : List Str := ["deeds", "most", "marks", "name"]
def P_check_marks : List Str := ["deeds", "most", "marks"]
theorem sc_check_marks : FnScope N_check_marks P_check_marks (defScope st_check_marks) := ⟨rfl, rfl, rfl, by decide +kernel, rfl, by decide +kernel, by decide +kernel⟩
def b_check_marks_1 (c : Str → DSp) : B := .cons .never (.nil)
def b_check_marks_2 (c : Str → DSp) : B := .cons (.iff (.nott (.call "is_mark" (c "is_mark") (.cons (.var 0) (.cons (.var 1) (.cons (.var 2) (.cons (.var 3) (.cons (.idx (.var 2) (.var 3)) (.nil)))))))) (b_check_marks_1 c) (.nil)) (.nil)
def b_check_marks_3 (c : Str → DSp) : B := .cons (.forr (.name 3) (.seq (.fz (.bif .sorted (.cons (.var 2) (.nil))))) (b_check_marks_2 c)) (.nil)
def b_check_marks_4 (c : Str → DSp) : B := .cons .never (.nil)
def b_check_marks (c : Str → DSp) : B := .cons (.iff (.orr (.cons (.nott (.bif .isi (.cons (.var 2) (.cons (.bty "dict" "dict") (.nil))))) (.cons (.nott (.chain .LtE .LtE (.lit (.int 1)) (.bif .len (.cons (.var 2) (.nil))) (.glob "MOST_MARKS" (.int 4)))) (.cons (.nott (.bif .all (.cons (.lc true [("name", 3)] (.call "is_name" (c "is_name") (.cons (.var 3) (.nil))) (.name 3) (.seq (.var 2)) (.nil)) (.nil)))) (.nil))))) (b_check_marks_4 c) (.nil)) (b_check_marks_3 c)
theorem ck_check_marks (c : Str → DSp) : Dy.chkB (b_check_marks c) (defScope st_check_marks) N_check_marks (defBody st_check_marks) = true := by kernel_rfl
def st_Book__init : Stmt := inClass (top 29) 0
def N_Book__init : List Str := ["self", "deeds", "marks", "most", "name", "index"]
def P_Book__init : List Str := ["self", "deeds", "marks", "most"]
theorem sc_Book__init : FnScope N_Book__init P_Book__init (defScope st_Book__init) := ⟨rfl, rfl, rfl, by decide +kernel, rfl, by decide +kernel, by decide +kernel⟩
def b_Book__init_1 (c : Str → DSp) : B := .cons (.asg (.fld "Book" (.var 0) "places") (.dc true [("index", 5), ("name", 4)] (.var 4) (.var 5) (.tup (.cons (.name 5) (.cons (.name 4) (.nil)))) (.enum (.attr "Book" (.var 0) "sorts")) (.nil))) (.nil)
def b_Book__init_2 (c : Str → DSp) : B := .cons (.asg (.fld "Book" (.var 0) "cap") (.var 3)) (b_Book__init_1 c)
def b_Book__init_3 (c : Str → DSp) : B := .cons (.asg (.fld "Book" (.var 0) "cards") (.dc true [("name", 4)] (.var 4) (.idx (.var 2) (.var 4)) (.name 4) (.seq (.fz (.bif .sorted (.cons (.var 2) (.nil))))) (.nil))) (b_Book__init_2 c)
def b_Book__init_4 (c : Str → DSp) : B := .cons (.asg (.fld "Book" (.var 0) "sorts") (.dc true [("name", 4)] (.var 4) (.idx (.var 1) (.var 4)) (.name 4) (.seq (.fz (.bif .sorted (.cons (.var 1) (.nil))))) (.nil))) (b_Book__init_3 c)
def b_Book__init_5 (c : Str → DSp) : B := .cons (.expr (.call "check_marks" (c "check_marks") (.cons (.var 1) (.cons (.var 3) (.cons (.var 2) (.nil)))))) (b_Book__init_4 c)
def b_Book__init_6 (c : Str → DSp) : B := .cons (.expr (.call "check_deeds" (c "check_deeds") (.cons (.var 1) (.nil)))) (b_Book__init_5 c)
def b_Book__init_7 (c : Str → DSp) : B := .cons .never (.nil)
def b_Book__init (c : Str → DSp) : B := .cons (.iff (.orr (.cons (.nott (.call "is_integer" (c "is_integer") (.cons (.var 3) (.nil)))) (.cons (.nott (.chain .LtE .LtE (.lit (.int 1)) (.var 3) (.glob "MOST" (.int 3)))) (.nil)))) (b_Book__init_7 c) (.nil)) (b_Book__init_6 c)
theorem ck_Book__init (c : Str → DSp) : Dy.chkB (b_Book__init c) (defScope st_Book__init) N_Book__init (defBody st_Book__init) = true := by kernel_rfl
def st_Book_deeds : Stmt := inClass (top 29) 1
def N_Book_deeds : List Str := ["self"]
def P_Book_deeds : List Str := ["self"]
theorem sc_Book_deeds : FnScope N_Book_deeds P_Book_deeds (defScope st_Book_deeds) := ⟨rfl, rfl, rfl, by decide +kernel, rfl, by decide +kernel, by decide +kernel⟩
def b_Book_deeds (c : Str → DSp) : B := .cons (.ret (.fz (.bif .dict (.cons (.attr "Book" (.var 0) "sorts") (.nil))))) (.nil)
theorem ck_Book_deeds (c : Str → DSp) : Dy.chkB (b_Book_deeds c) (defScope st_Book_deeds) N_Book_deeds (defBody st_Book_deeds) = true := by kernel_rfl
def st_Book_marks : Stmt := inClass (top 29) 2
def N_Book_marks : List Str := ["self"]
def P_Book_marks : List Str := ["self"]
theorem sc_Book_marks : FnScope N_Book_marks P_Book_marks (defScope st_Book_marks) := ⟨rfl, rfl, rfl, by decide +kernel, rfl, by decide +kernel, by decide +kernel⟩
def b_Book_marks (c : Str → DSp) : B := .cons (.ret (.fz (.bif .dict (.cons (.attr "Book" (.var 0) "cards") (.nil))))) (.nil)
theorem ck_Book_marks (c : Str → DSp) : Dy.chkB (b_Book_marks c) (defScope st_Book_marks) N_Book_marks (defBody st_Book_marks) = true := by kernel_rfl
def st_Book_most : Stmt := inClass (top 29) 3
def N_Book_most : List Str := ["self"]
def P_Book_most : List Str := ["self"]
theorem sc_Book_most : FnScope N_Book_most P_Book_most (defScope st_Book_most) := ⟨rfl, rfl, rfl, by decide +kernel, rfl, by decide +kernel, by decide +kernel⟩
def b_Book_most (c : Str → DSp) : B := .cons (.ret (.attr "Book" (.var 0) "cap")) (.nil)
theorem ck_Book_most (c : Str → DSp) : Dy.chkB (b_Book_most c) (defScope st_Book_most) N_Book_most (defBody st_Book_most) = true := by kernel_rfl
def st_Book__len : Stmt := inClass (top 29) 4
def N_Book__len : List Str := ["self"]
def P_Book__len : List Str := ["self"]
theorem sc_Book__len : FnScope N_Book__len P_Book__len (defScope st_Book__len) := ⟨rfl, rfl, rfl, by decide +kernel, rfl, by decide +kernel, by decide +kernel⟩
def b_Book__len (c : Str → DSp) : B := .cons (.ret (.bif .len (.cons (.attr "Book" (.var 0) "cards") (.nil)))) (.nil)
theorem ck_Book__len (c : Str → DSp) : Dy.chkB (b_Book__len c) (defScope st_Book__len) N_Book__len (defBody st_Book__len) = true := by kernel_rfl
def st_steps_of : Stmt := top 34
def N_steps_of : List Str := ["book", "deed"]
def P_steps_of : List Str := ["book"]
theorem sc_steps_of : FnScope N_steps_of P_steps_of (defScope st_steps_of) := ⟨rfl, rfl, rfl, by decide +kernel, rfl, by decide +kernel, by decide +kernel⟩
def b_steps_of (c : Str → DSp) : B := .cons (.ret (.fz (.bin .Add (.fz (.bin .Add (.lc true [("deed", 1)] (.tup (.cons (.glob "DO" (.str "do")) (.cons (.var 1) (.nil)))) (.name 1) (.seq (.attr "Book" (.var 0) "sorts")) (.nil)) (.lc true [("deed", 1)] (.tup (.cons (.glob "BACK" (.str "back")) (.cons (.var 1) (.nil)))) (.name 1) (.seq (.attr "Book" (.var 0) "sorts")) (.nil)))) (.lst true (.cons (.tup (.cons (.glob "NIGHT" (.str "night")) (.nil))) (.nil)))))) (.nil)
theorem ck_steps_of (c : Str → DSp) : Dy.chkB (b_steps_of c) (defScope st_steps_of) N_steps_of (defBody st_steps_of) = true := by kernel_rfl
def st_first_standing : Stmt := top 35
def N_first_standing : List Str := ["book"]
def P_first_standing : List Str := ["book"]
theorem sc_first_standing : FnScope N_first_standing P_first_standing (defScope st_first_standing) := ⟨rfl, rfl, rfl, by decide +kernel, rfl, by decide +kernel, by decide +kernel⟩
def b_first_standing (c : Str → DSp) : B := .cons (.ret (.tup (.cons (.bin .Mult (.tup (.cons (.lit (.int 0)) (.nil))) (.bif .len (.cons (.attr "Book" (.var 0) "sorts") (.nil)))) (.cons (.bin .Mult (.tup (.cons (.lit (.bl false)) (.nil))) (.bif .len (.cons (.attr "Book" (.var 0) "sorts") (.nil)))) (.cons (.tup (.nil)) (.nil)))))) (.nil)
theorem ck_first_standing (c : Str → DSp) : Dy.chkB (b_first_standing c) (defScope st_first_standing) N_first_standing (defBody st_first_standing) = true := by kernel_rfl
def st_put : Stmt := top 36
def N_put : List Str := ["things", "index", "thing"]
def P_put : List Str := ["things", "index", "thing"]
theorem sc_put : FnScope N_put P_put (defScope st_put) := ⟨rfl, rfl, rfl, by decide +kernel, rfl, by decide +kernel, by decide +kernel⟩
def b_put (c : Str → DSp) : B := .cons (.ret (.bin .Add (.bin .Add (.fz (.slc (.var 0) .nil (.cons (.var 1) .nil))) (.tup (.cons (.var 2) (.nil)))) (.fz (.slc (.var 0) (.cons (.bin .Add (.var 1) (.lit (.int 1))) .nil) .nil)))) (.nil)
theorem ck_put (c : Str → DSp) : Dy.chkB (b_put c) (defScope st_put) N_put (defBody st_put) = true := by kernel_rfl
def st_is_so : Stmt := top 37
def N_is_so : List Str := ["book", "part", "counts", "held"]
def P_is_so : List Str := ["book", "part", "counts", "held"]
theorem sc_is_so : FnScope N_is_so P_is_so (defScope st_is_so) := ⟨rfl, rfl, rfl, by decide +kernel, rfl, by decide +kernel, by decide +kernel⟩
def b_is_so_1 (c : Str → DSp) : B := .cons (.ret (.cmp .Eq (.cmp .In (.idx (.var 1) (.lit (.int 1))) (.var 3)) (.cmp .Eq (.idx (.var 1) (.lit (.int 0))) (.glob "HAS" (.str "has"))))) (.nil)
def b_is_so_2 (c : Str → DSp) : B := .cons (.ret (.cmp .Eq (.cmp .GtE (.idx (.var 2) (.idx (.attr "Book" (.var 0) "places") (.idx (.var 1) (.lit (.int 1))))) (.idx (.var 1) (.lit (.int 2)))) (.cmp .Eq (.idx (.var 1) (.lit (.int 0))) (.glob "LEAST" (.str "least"))))) (.nil)
def b_is_so (c : Str → DSp) : B := .cons (.iff (.cmp .In (.idx (.var 1) (.lit (.int 0))) (.tup (.cons (.glob "LEAST" (.str "least")) (.cons (.glob "BELOW" (.str "below")) (.nil))))) (b_is_so_2 c) (.nil)) (b_is_so_1 c)
theorem ck_is_so (c : Str → DSp) : Dy.chkB (b_is_so c) (defScope st_is_so) N_is_so (defBody st_is_so) = true := by kernel_rfl
def st_does_ground : Stmt := top 38
def N_does_ground : List Str := ["book", "name", "counts", "held", "part"]
def P_does_ground : List Str := ["book", "name", "counts", "held"]
theorem sc_does_ground : FnScope N_does_ground P_does_ground (defScope st_does_ground) := ⟨rfl, rfl, rfl, by decide +kernel, rfl, by decide +kernel, by decide +kernel⟩
def b_does_ground (c : Str → DSp) : B := .cons (.ret (.bif .all (.cons (.lc true [("part", 4)] (.call "is_so" (c "is_so") (.cons (.var 0) (.cons (.var 4) (.cons (.var 2) (.cons (.var 3) (.nil)))))) (.name 4) (.seq (.idx (.idx (.attr "Book" (.var 0) "cards") (.var 1)) (.lit (.int 0)))) (.nil)) (.nil)))) (.nil)
theorem ck_does_ground (c : Str → DSp) : Dy.chkB (b_does_ground c) (defScope st_does_ground) N_does_ground (defBody st_does_ground) = true := by kernel_rfl
def st_first_lost : Stmt := top 39
def N_first_lost : List Str := ["book", "some", "counts", "held", "name"]
def P_first_lost : List Str := ["book", "some", "counts", "held"]
theorem sc_first_lost : FnScope N_first_lost P_first_lost (defScope st_first_lost) := ⟨rfl, rfl, rfl, by decide +kernel, rfl, by decide +kernel, by decide +kernel⟩
def b_first_lost_1 (c : Str → DSp) : B := .cons (.ret (.lit .non)) (.nil)
def b_first_lost_2 (c : Str → DSp) : B := .cons (.ret (.var 4)) (.nil)
def b_first_lost_3 (c : Str → DSp) : B := .cons (.iff (.andd (.cons (.cmp .In (.var 4) (.var 3)) (.cons (.cmp .Eq (.idx (.idx (.attr "Book" (.var 0) "cards") (.var 4)) (.lit (.int 1))) (.tup (.cons (.glob "GROUND" (.str "ground")) (.nil)))) (.cons (.nott (.call "does_ground" (c "does_ground") (.cons (.var 0) (.cons (.var 4) (.cons (.var 2) (.cons (.var 3) (.nil))))))) (.nil))))) (b_first_lost_2 c) (.nil)) (.nil)
def b_first_lost (c : Str → DSp) : B := .cons (.forr (.name 4) (.seq (.var 1)) (b_first_lost_3 c)) (b_first_lost_1 c)
theorem ck_first_lost (c : Str → DSp) : Dy.chkB (b_first_lost c) (defScope st_first_lost) N_first_lost (defBody st_first_lost) = true := by kernel_rfl
def st_first_earned : Stmt := top 40
def N_first_earned : List Str := ["book", "some", "counts", "held", "name"]
def P_first_earned : List Str := ["book", "some", "counts", "held"]
theorem sc_first_earned : FnScope N_first_earned P_first_earned (defScope st_first_earned) := ⟨rfl, rfl, rfl, by decide +kernel, rfl, by decide +kernel, by decide +kernel⟩
def b_first_earned_1 (c : Str → DSp) : B := .cons (.ret (.lit .non)) (.nil)
def b_first_earned_2 (c : Str → DSp) : B := .cons (.ret (.var 4)) (.nil)
def b_first_earned_3 (c : Str → DSp) : B := .cons (.iff (.andd (.cons (.cmp .NotIn (.var 4) (.var 3)) (.cons (.call "does_ground" (c "does_ground") (.cons (.var 0) (.cons (.var 4) (.cons (.var 2) (.cons (.var 3) (.nil)))))) (.nil)))) (b_first_earned_2 c) (.nil)) (.nil)
def b_first_earned (c : Str → DSp) : B := .cons (.forr (.name 4) (.seq (.var 1)) (b_first_earned_3 c)) (b_first_earned_1 c)
theorem ck_first_earned (c : Str → DSp) : Dy.chkB (b_first_earned c) (defScope st_first_earned) N_first_earned (defBody st_first_earned) = true := by kernel_rfl
def st_looked_at : Stmt := top 41
def N_looked_at : List Str := ["book", "some", "counts", "held", "lost", "name", "one"]
def P_looked_at : List Str := ["book", "some", "counts", "held"]
theorem sc_looked_at : FnScope N_looked_at P_looked_at (defScope st_looked_at) := ⟨rfl, rfl, rfl, by decide +kernel, rfl, by decide +kernel, by decide +kernel⟩
def b_looked_at_1 (c : Str → DSp) : B := .frz 4 (.cons (.ret (.tup (.cons (.var 3) (.cons (.var 4) (.nil))))) (.nil))
def b_looked_at_2 (c : Str → DSp) : B := .cons (.asg (.tg (.name 5)) (.call "first_earned" (c "first_earned") (.cons (.var 0) (.cons (.var 1) (.cons (.var 2) (.cons (.var 3) (.nil))))))) (.nil)
def b_looked_at_3 (c : Str → DSp) : B := .cons (.asg (.tg (.name 3)) (.bif .tuple (.cons (.fz (.bif .sorted (.cons (.lst true (.star (.var 3) (.cons (.var 5) (.nil)))) (.nil)))) (.nil)))) (b_looked_at_2 c)
def b_looked_at_4 (c : Str → DSp) : B := .cons (.whl (.cmp .IsNot (.var 5) (.lit .non)) (b_looked_at_3 c)) (b_looked_at_1 c)
def b_looked_at_5 (c : Str → DSp) : B := .cons (.asg (.tg (.name 5)) (.call "first_earned" (c "first_earned") (.cons (.var 0) (.cons (.var 1) (.cons (.var 2) (.cons (.var 3) (.nil))))))) (b_looked_at_4 c)
def b_looked_at_6 (c : Str → DSp) : B := .cons (.asg (.tg (.name 5)) (.call "first_lost" (c "first_lost") (.cons (.var 0) (.cons (.var 1) (.cons (.var 2) (.cons (.var 3) (.nil))))))) (.nil)
def b_looked_at_7 (c : Str → DSp) : B := .cons (.asg (.tg (.name 3)) (.bif .tuple (.cons (.lc true [("one", 6)] (.var 6) (.name 6) (.seq (.var 3)) (.cons (.cmp .NotEq (.var 6) (.var 5)) (.nil))) (.nil)))) (b_looked_at_6 c)
def b_looked_at_8 (c : Str → DSp) : B := .cons (.expr (.meth .append (.var 4) (.cons (.var 5) (.nil)))) (b_looked_at_7 c)
def b_looked_at_9 (c : Str → DSp) : B := .cons (.whl (.cmp .IsNot (.var 5) (.lit .non)) (b_looked_at_8 c)) (b_looked_at_5 c)
def b_looked_at_10 (c : Str → DSp) : B := .cons (.asg (.tg (.name 5)) (.call "first_lost" (c "first_lost") (.cons (.var 0) (.cons (.var 1) (.cons (.var 2) (.cons (.var 3) (.nil))))))) (b_looked_at_9 c)
def b_looked_at (c : Str → DSp) : B := .cons (.asg (.tg (.name 4)) (.lst false (.nil))) (b_looked_at_10 c)
theorem ck_looked_at (c : Str → DSp) : Dy.chkB (b_looked_at c) (defScope st_looked_at) N_looked_at (defBody st_looked_at) = true := by kernel_rfl
def st_counted : Stmt := top 42
def N_counted : List Str := ["book", "standing", "step", "counts", "fresh", "held", "rows", "later", "sort", "count", "is_fresh", "index", "is_run"]
def P_counted : List Str := ["book", "standing", "step"]
theorem sc_counted : FnScope N_counted P_counted (defScope st_counted) := ⟨rfl, rfl, rfl, by decide +kernel, rfl, by decide +kernel, by decide +kernel⟩
def b_counted_1 (c : Str → DSp) : B := .cons (.ret (.tup (.cons (.call "put" (c "put") (.cons (.var 3) (.cons (.var 11) (.cons (.var 7) (.nil))))) (.cons (.call "put" (c "put") (.cons (.var 4) (.cons (.var 11) (.cons (.var 12) (.nil))))) (.nil))))) (.nil)
def b_counted_2 (c : Str → DSp) : B := .cons (.asg (.tg (.name 7)) (.ife (.andd (.cons (.var 12) (.cons (.var 10) (.nil)))) (.var 9) (.bif .min (.cons (.attr "Book" (.var 0) "cap") (.cons (.bin .Add (.var 9) (.lit (.int 1))) (.nil)))))) (b_counted_1 c)
def b_counted_3 (c : Str → DSp) : B := .cons (.ret (.tup (.cons (.call "put" (c "put") (.cons (.var 3) (.cons (.var 11) (.cons (.bin .Sub (.var 9) (.lit (.int 1))) (.nil))))) (.cons (.call "put" (c "put") (.cons (.var 4) (.cons (.var 11) (.cons (.lit (.bl false)) (.nil))))) (.nil))))) (.nil)
def b_counted_4 (c : Str → DSp) : B := .cons (.ret (.lit .non)) (.nil)
def b_counted_5 (c : Str → DSp) : B := .cons (.iff (.orr (.cons (.cmp .Eq (.var 9) (.lit (.int 0))) (.cons (.andd (.cons (.var 12) (.cons (.nott (.var 10)) (.nil)))) (.nil)))) (b_counted_4 c) (.nil)) (b_counted_3 c)
def b_counted_6 (c : Str → DSp) : B := .cons (.iff (.cmp .Eq (.idx (.var 2) (.lit (.int 0))) (.glob "BACK" (.str "back"))) (b_counted_5 c) (.nil)) (b_counted_2 c)
def b_counted_7 (c : Str → DSp) : B := .cons (.par2 9 10 (.idx (.var 3) (.var 11)) (.idx (.var 4) (.var 11))) (b_counted_6 c)
def b_counted_8 (c : Str → DSp) : B := .cons (.par2 11 12 (.idx (.attr "Book" (.var 0) "places") (.idx (.var 2) (.lit (.int 1)))) (.cmp .Eq (.idx (.attr "Book" (.var 0) "sorts") (.idx (.var 2) (.lit (.int 1)))) (.glob "RUN" (.str "run")))) (b_counted_7 c)
def b_counted_9 (c : Str → DSp) : B := .cons (.ret (.tup (.cons (.bif .tuple (.cons (.var 7) (.nil))) (.cons (.bin .Mult (.tup (.cons (.lit (.bl false)) (.nil))) (.bif .len (.cons (.var 4) (.nil)))) (.nil))))) (.nil)
def b_counted_10 (c : Str → DSp) : B := .cons (.asg (.tg (.name 7)) (.lc true [("sort", 8), ("count", 9), ("is_fresh", 10)] (.ife (.andd (.cons (.cmp .Eq (.var 8) (.glob "RUN" (.str "run"))) (.cons (.nott (.var 10)) (.nil)))) (.lit (.int 0)) (.var 9)) (.tup (.cons (.name 8) (.cons (.name 9) (.cons (.name 10) (.nil))))) (.seq (.var 6)) (.nil))) (b_counted_9 c)
def b_counted_11 (c : Str → DSp) : B := .cons (.asg (.tg (.name 6)) (.fz (.zip3 (.attr "Book" (.var 0) "sorts") 3 4))) (b_counted_10 c)
def b_counted_12 (c : Str → DSp) : B := .cons (.iff (.cmp .Eq (.idx (.var 2) (.lit (.int 0))) (.glob "NIGHT" (.str "night"))) (b_counted_11 c) (.nil)) (b_counted_8 c)
def b_counted (c : Str → DSp) : B := .cons (.asg (.tg (.tup (.cons (.name 3) (.cons (.name 4) (.cons (.name 5) (.nil)))))) (.var 1)) (b_counted_12 c)
theorem ck_counted (c : Str → DSp) : Dy.chkB (b_counted c) (defScope st_counted) N_counted (defBody st_counted) = true := by kernel_rfl
def st_led_by : Stmt := top 43
def N_led_by : List Str := ["book", "standing", "step", "some", "found", "out", "name", "held", "lost"]
def P_led_by : List Str := ["book", "standing", "step", "some"]
theorem sc_led_by : FnScope N_led_by P_led_by (defScope st_led_by) := ⟨rfl, rfl, rfl, by decide +kernel, rfl, by decide +kernel, by decide +kernel⟩
def b_led_by_1 (c : Str → DSp) : B := .cons (.ret (.tup (.cons (.tup (.cons (.idx (.var 4) (.lit (.int 0))) (.cons (.idx (.var 4) (.lit (.int 1))) (.cons (.var 7) (.nil))))) (.cons (.fz (.bin .Add (.var 5) (.var 8))) (.nil))))) (.nil)
def b_led_by_2 (c : Str → DSp) : B := .cons (.asg (.tg (.tup (.cons (.name 7) (.cons (.name 8) (.nil))))) (.call "looked_at" (c "looked_at") (.cons (.var 0) (.cons (.var 3) (.cons (.idx (.var 4) (.lit (.int 0))) (.cons (.bif .tuple (.cons (.lc true [("name", 6)] (.var 6) (.name 6) (.seq (.idx (.var 1) (.lit (.int 2)))) (.cons (.cmp .NotIn (.var 6) (.var 5)) (.nil))) (.nil))) (.nil))))))) (b_led_by_1 c)
def b_led_by_3 (c : Str → DSp) : B := .cons (.asg (.tg (.name 5)) (.lc true [("name", 6)] (.var 6) (.name 6) (.seq (.var 3)) (.cons (.andd (.cons (.cmp .Eq (.idx (.var 2) (.lit (.int 0))) (.glob "DO" (.str "do"))) (.cons (.cmp .In (.var 6) (.idx (.var 1) (.lit (.int 2)))) (.cons (.cmp .Eq (.idx (.idx (.attr "Book" (.var 0) "cards") (.var 6)) (.lit (.int 1))) (.tup (.cons (.glob "TILL" (.str "till")) (.cons (.idx (.var 2) (.lit (.int 1))) (.nil))))) (.nil))))) (.nil)))) (b_led_by_2 c)
def b_led_by_4 (c : Str → DSp) : B := .cons (.ret (.lit .non)) (.nil)
def b_led_by_5 (c : Str → DSp) : B := .cons (.iff (.cmp .Is (.var 4) (.lit .non)) (b_led_by_4 c) (.nil)) (b_led_by_3 c)
def b_led_by (c : Str → DSp) : B := .cons (.asg (.tg (.name 4)) (.call "counted" (c "counted") (.cons (.var 0) (.cons (.var 1) (.cons (.var 2) (.nil)))))) (b_led_by_5 c)
theorem ck_led_by (c : Str → DSp) : Dy.chkB (b_led_by c) (defScope st_led_by) N_led_by (defBody st_led_by) = true := by kernel_rfl
def st_led_to : Stmt := top 44
def N_led_to : List Str := ["book", "standing", "step", "found"]
def P_led_to : List Str := ["book", "standing", "step"]
theorem sc_led_to : FnScope N_led_to P_led_to (defScope st_led_to) := ⟨rfl, rfl, rfl, by decide +kernel, rfl, by decide +kernel, by decide +kernel⟩
def b_led_to_1 (c : Str → DSp) : B := .cons (.ret (.ife (.cmp .Is (.var 3) (.lit .non)) (.lit .non) (.idx (.var 3) (.lit (.int 0))))) (.nil)
def b_led_to (c : Str → DSp) : B := .cons (.asg (.tg (.name 3)) (.call "led_by" (c "led_by") (.cons (.var 0) (.cons (.var 1) (.cons (.var 2) (.cons (.fz (.bif .list (.cons (.attr "Book" (.var 0) "cards") (.nil)))) (.nil))))))) (b_led_to_1 c)
theorem ck_led_to (c : Str → DSp) : Dy.chkB (b_led_to c) (defScope st_led_to) N_led_to (defBody st_led_to) = true := by kernel_rfl
def st_led_with : Stmt := top 46
def N_led_with : List Str := ["book", "touched", "standing", "step", "some", "name", "told"]
def P_led_with : List Str := ["book", "touched", "standing", "step"]
theorem sc_led_with : FnScope N_led_with P_led_with (defScope st_led_with) := ⟨rfl, rfl, rfl, by decide +kernel, rfl, by decide +kernel, by decide +kernel⟩
def b_led_with_1 (c : Str → DSp) : B := .cons (.ret (.ife (.cmp .Is (.var 6) (.lit .non)) (.lit .non) (.idx (.var 6) (.lit (.int 0))))) (.nil)
def b_led_with_2 (c : Str → DSp) : B := .cons (.asg (.tg (.name 6)) (.call "led_by" (c "led_by") (.cons (.var 0) (.cons (.var 2) (.cons (.var 3) (.cons (.var 4) (.nil))))))) (b_led_with_1 c)
def b_led_with (c : Str → DSp) : B := .cons (.asg (.tg (.name 4)) (.lc true [("name", 5)] (.var 5) (.name 5) (.seq (.attr "Book" (.var 0) "cards")) (.cons (.cmp .In (.var 5) (.meth .get (.var 1) (.cons (.var 3) (.cons (.tup (.nil)) (.nil))))) (.nil)))) (b_led_with_2 c)
theorem ck_led_with (c : Str → DSp) : Dy.chkB (b_led_with c) (defScope st_led_with) N_led_with (defBody st_led_with) = true := by kernel_rfl
def st_wrong : Stmt := top 47
def N_wrong : List Str := ["book", "touched", "start", "rows", "waiting", "at", "pair", "step", "whole", "kept"]
def P_wrong : List Str := ["book", "touched"]
theorem sc_wrong : FnScope N_wrong P_wrong (defScope st_wrong) := ⟨rfl, rfl, rfl, by decide +kernel, rfl, by decide +kernel, by decide +kernel⟩
def b_wrong_1 (c : Str → DSp) : B := .frz 3 (.frz 4 (.cons (.ret (.lit .non)) (.nil)))
def b_wrong_2 (c : Str → DSp) : B := .cons (.expr (.meth .append (.var 4) (.cons (.tup (.cons (.var 8) (.cons (.var 9) (.nil)))) (.nil)))) (.nil)
def b_wrong_3 (c : Str → DSp) : B := .cons (.asg (.sub (.var 3) (.tup (.cons (.var 8) (.cons (.var 9) (.nil))))) (.tup (.star (.idx (.var 3) (.var 6)) (.cons (.var 7) (.nil))))) (b_wrong_2 c)
def b_wrong_4 (c : Str → DSp) : B := .cons (.iff (.andd (.cons (.cmp .IsNot (.var 8) (.lit .non)) (.cons (.cmp .IsNot (.var 9) (.lit .non)) (.cons (.cmp .NotIn (.tup (.cons (.var 8) (.cons (.var 9) (.nil)))) (.var 3)) (.nil))))) (b_wrong_3 c) (.nil)) (.nil)
def b_wrong_5 (c : Str → DSp) : B := .cons (.par2 8 9 (.call "led_to" (c "led_to") (.cons (.var 0) (.cons (.idx (.var 6) (.lit (.int 0))) (.cons (.var 7) (.nil))))) (.call "led_with" (c "led_with") (.cons (.var 0) (.cons (.var 1) (.cons (.idx (.var 6) (.lit (.int 1))) (.cons (.var 7) (.nil))))))) (b_wrong_4 c)
def b_wrong_6 (c : Str → DSp) : B := .cons (.forr (.name 7) (.seq (.call "steps_of" (c "steps_of") (.cons (.var 0) (.nil)))) (b_wrong_5 c)) (.nil)
def b_wrong_7 (c : Str → DSp) : B := .frz 3 (.frz 4 (.cons (.ret (.idx (.var 3) (.var 6))) (.nil)))
def b_wrong_8 (c : Str → DSp) : B := .cons (.iff (.cmp .NotEq (.idx (.idx (.var 6) (.lit (.int 0))) (.lit (.int 2))) (.idx (.idx (.var 6) (.lit (.int 1))) (.lit (.int 2)))) (b_wrong_7 c) (.nil)) (b_wrong_6 c)
def b_wrong_9 (c : Str → DSp) : B := .cons (.aug 5 .Add (.lit (.int 1))) (b_wrong_8 c)
def b_wrong_10 (c : Str → DSp) : B := .cons (.asg (.tg (.name 6)) (.idx (.var 4) (.var 5))) (b_wrong_9 c)
def b_wrong_11 (c : Str → DSp) : B := .cons (.whl (.cmp .Lt (.var 5) (.bif .len (.cons (.var 4) (.nil)))) (b_wrong_10 c)) (b_wrong_1 c)
def b_wrong_12 (c : Str → DSp) : B := .cons (.par3 3 4 5 (.ddisp true (.cons (.var 2) (.cons (.tup (.nil)) (.nil)))) (.lst false (.cons (.var 2) (.nil))) (.lit (.int 0))) (b_wrong_11 c)
def b_wrong (c : Str → DSp) : B := .cons (.asg (.tg (.name 2)) (.tup (.cons (.call "first_standing" (c "first_standing") (.cons (.var 0) (.nil))) (.cons (.call "first_standing" (c "first_standing") (.cons (.var 0) (.nil))) (.nil))))) (b_wrong_12 c)
theorem ck_wrong (c : Str → DSp) : Dy.chkB (b_wrong c) (defScope st_wrong) N_wrong (defBody st_wrong) = true := by kernel_rfl
def st_law_draws : Stmt := top 49
def N_law_draws : List Str := ["_law_script"]
def P_law_draws : List Str := ["_law_script"]
theorem sc_law_draws : FnScope N_law_draws P_law_draws (defScope st_law_draws) := ⟨rfl, rfl, rfl, by decide +kernel, rfl, by decide +kernel, by decide +kernel⟩
def b_law_draws (c : Str → DSp) : B := .cons (.ret (.lst false (.cons (.fz (.bif .list (.cons (.var 0) (.nil)))) (.cons (.lit (.int 0)) (.cons (.lit (.int 0)) (.cons (.lit (.int 7)) (.nil))))))) (.nil)
theorem ck_law_draws (c : Str → DSp) : Dy.chkB (b_law_draws c) (defScope st_law_draws) N_law_draws (defBody st_law_draws) = true := by kernel_rfl
def st_law_pick : Stmt := top 50
def N_law_pick : List Str := ["_law_row", "_law_many", "_law_cell", "_law_found"]
def P_law_pick : List Str := ["_law_row", "_law_many"]
theorem sc_law_pick : FnScope N_law_pick P_law_pick (defScope st_law_pick) := ⟨rfl, rfl, rfl, by decide +kernel, rfl, by decide +kernel, by decide +kernel⟩
def b_law_pick_1 (c : Str → DSp) : B := .cons (.ret (.bin .Mod (.bin .Mod (.bif .int (.cons (.bin .Mult (.idx (.var 0) (.lit (.int 3))) (.lit (.int 16807))) (.nil))) (.lit (.int 2147483629))) (.var 1))) (.nil)
def b_law_pick_2 (c : Str → DSp) : B := .cons (.ret (.var 3)) (.nil)
def b_law_pick_3 (c : Str → DSp) : B := .cons (.asg (.sub (.var 0) (.lit (.int 2))) (.bin .FloorDiv (.idx (.var 0) (.lit (.int 2))) (.var 1))) (b_law_pick_2 c)
def b_law_pick_4 (c : Str → DSp) : B := .cons (.asg (.tg (.name 3)) (.bin .Mod (.bif .int (.cons (.idx (.var 0) (.lit (.int 2))) (.nil))) (.var 1))) (b_law_pick_3 c)
def b_law_pick_5 (c : Str → DSp) : B := .cons (.iff (.cmp .Gt (.idx (.var 0) (.lit (.int 2))) (.lit (.int 0))) (b_law_pick_4 c) (.nil)) (b_law_pick_1 c)
def b_law_pick_6 (c : Str → DSp) : B := .cons (.asg (.sub (.var 0) (.lit (.int 2))) (.var 2)) (.nil)
def b_law_pick_7 (c : Str → DSp) : B := .cons (.asg (.sub (.var 0) (.lit (.int 3))) (.bin .Mod (.bif .int (.cons (.bin .Add (.bin .Add (.bin .Mult (.idx (.var 0) (.lit (.int 3))) (.lit (.int 48271))) (.bin .Mult (.var 2) (.lit (.int 69621)))) (.lit (.int 11))) (.nil))) (.lit (.int 2147483647)))) (.nil)
def b_law_pick_8 (c : Str → DSp) : B := .cons (.iff (.cmp .GtE (.var 2) (.bin .Pow (.lit (.int 10)) (.lit (.int 18)))) (b_law_pick_6 c) (b_law_pick_7 c)) (.nil)
def b_law_pick_9 (c : Str → DSp) : B := .cons (.asg (.sub (.var 0) (.lit (.int 1))) (.bin .Add (.idx (.var 0) (.lit (.int 1))) (.lit (.int 1)))) (b_law_pick_8 c)
def b_law_pick_10 (c : Str → DSp) : B := .cons (.asg (.tg (.name 2)) (.idx (.idx (.var 0) (.lit (.int 0))) (.idx (.var 0) (.lit (.int 1))))) (b_law_pick_9 c)
def b_law_pick_11 (c : Str → DSp) : B := .cons (.asg (.sub (.var 0) (.lit (.int 3))) (.bin .Mod (.bif .int (.cons (.bin .Add (.bin .Mult (.idx (.var 0) (.lit (.int 3))) (.lit (.int 48271))) (.lit (.int 7))) (.nil))) (.lit (.int 2147483647)))) (.nil)
def b_law_pick_12 (c : Str → DSp) : B := .cons (.iff (.cmp .Lt (.idx (.var 0) (.lit (.int 1))) (.bif .len (.cons (.idx (.var 0) (.lit (.int 0))) (.nil)))) (b_law_pick_10 c) (b_law_pick_11 c)) (.nil)
def b_law_pick (c : Str → DSp) : B := .cons (.iff (.cmp .Eq (.idx (.var 0) (.lit (.int 2))) (.lit (.int 0))) (b_law_pick_12 c) (.nil)) (b_law_pick_5 c)
theorem ck_law_pick (c : Str → DSp) : Dy.chkB (b_law_pick c) (defScope st_law_pick) N_law_pick (defBody st_law_pick) = true := by kernel_rfl
def st_law_part : Stmt := top 51
def N_law_part : List Str := ["_law_row", "_law_t", "_law_names_here", "_law_own", "_law_others", "_law_name", "_law_turn_of", "_law_deed"]
def P_law_part : List Str := ["_law_row", "_law_t", "_law_names_here", "_law_own"]
theorem sc_law_part : FnScope N_law_part P_law_part (defScope st_law_part) := ⟨rfl, rfl, rfl, by decide +kernel, rfl, by decide +kernel, by decide +kernel⟩
def b_law_part_1 (c : Str → DSp) : B := .cons (.ret (.tup (.cons (.idx (.lst true (.cons (.lit (.str "has")) (.cons (.lit (.str "lacks")) (.nil)))) (.bin .Sub (.var 6) (.lit (.int 4)))) (.cons (.idx (.var 4) (.call "_law_pick" (c "_law_pick") (.cons (.var 0) (.cons (.bif .len (.cons (.var 4) (.nil))) (.nil))))) (.nil))))) (.nil)
def b_law_part_2 (c : Str → DSp) : B := .cons (.ret (.tup (.cons (.idx (.lst true (.cons (.lit (.str "least")) (.cons (.lit (.str "least")) (.cons (.lit (.str "below")) (.nil))))) (.call "_law_pick" (c "_law_pick") (.cons (.var 0) (.cons (.lit (.int 3)) (.nil))))) (.cons (.var 7) (.cons (.bin .Add (.lit (.int 1)) (.call "_law_pick" (c "_law_pick") (.cons (.var 0) (.cons (.idx (.var 1) (.lit (.str "most"))) (.nil))))) (.nil)))))) (.nil)
def b_law_part_3 (c : Str → DSp) : B := .cons (.asg (.tg (.name 7)) (.idx (.fz (.bif .sorted (.cons (.fz (.bif .list (.cons (.idx (.var 1) (.lit (.str "deeds"))) (.nil)))) (.nil)))) (.call "_law_pick" (c "_law_pick") (.cons (.var 0) (.cons (.bif .len (.cons (.idx (.var 1) (.lit (.str "deeds"))) (.nil))) (.nil)))))) (b_law_part_2 c)
def b_law_part_4 (c : Str → DSp) : B := .cons (.iff (.orr (.cons (.cmp .Lt (.var 6) (.lit (.int 4))) (.cons (.cmp .Eq (.var 4) (.lst true (.nil))) (.nil)))) (b_law_part_3 c) (.nil)) (b_law_part_1 c)
def b_law_part_5 (c : Str → DSp) : B := .cons (.asg (.tg (.name 6)) (.call "_law_pick" (c "_law_pick") (.cons (.var 0) (.cons (.lit (.int 6)) (.nil))))) (b_law_part_4 c)
def b_law_part (c : Str → DSp) : B := .cons (.asg (.tg (.name 4)) (.lc true [("_law_name", 5)] (.var 5) (.name 5) (.seq (.var 2)) (.cons (.cmp .NotEq (.var 5) (.var 3)) (.nil)))) (b_law_part_5 c)
theorem ck_law_part (c : Str → DSp) : Dy.chkB (b_law_part c) (defScope st_law_part) N_law_part (defBody st_law_part) = true := by kernel_rfl
def st_law_ground : Stmt := top 52
def N_law_ground : List Str := ["_law_row", "_law_t", "_law_names_here", "_law_own", "_law_found", "_law_k", "_law_part_here"]
def P_law_ground : List Str := ["_law_row", "_law_t", "_law_names_here", "_law_own"]
theorem sc_law_ground : FnScope N_law_ground P_law_ground (defScope st_law_ground) := ⟨rfl, rfl, rfl, by decide +kernel, rfl, by decide +kernel, by decide +kernel⟩
def b_law_ground_1 (c : Str → DSp) : B := .cons (.ret (.var 4)) (.nil)
def b_law_ground_2 (c : Str → DSp) : B := .cons (.asg (.tg (.name 4)) (.bin .Add (.var 4) (.tup (.cons (.var 6) (.nil))))) (.nil)
def b_law_ground_3 (c : Str → DSp) : B := .cons (.iff (.cmp .NotIn (.var 6) (.var 4)) (b_law_ground_2 c) (.nil)) (.nil)
def b_law_ground_4 (c : Str → DSp) : B := .cons (.asg (.tg (.name 6)) (.call "_law_part" (c "_law_part") (.cons (.var 0) (.cons (.var 1) (.cons (.var 2) (.cons (.var 3) (.nil))))))) (b_law_ground_3 c)
def b_law_ground_5 (c : Str → DSp) : B := .cons (.forr (.name 5) (.rng (.cons (.bin .Add (.lit (.int 1)) (.call "_law_pick" (c "_law_pick") (.cons (.var 0) (.cons (.lit (.int 3)) (.nil))))) (.nil))) (b_law_ground_4 c)) (b_law_ground_1 c)
def b_law_ground (c : Str → DSp) : B := .cons (.asg (.tg (.name 4)) (.tup (.nil))) (b_law_ground_5 c)
theorem ck_law_ground (c : Str → DSp) : Dy.chkB (b_law_ground c) (defScope st_law_ground) N_law_ground (defBody st_law_ground) = true := by kernel_rfl
def st_law_stay : Stmt := top 53
def N_law_stay : List Str := ["_law_row", "_law_t", "_law_turn_of"]
def P_law_stay : List Str := ["_law_row", "_law_t"]
theorem sc_law_stay : FnScope N_law_stay P_law_stay (defScope st_law_stay) := ⟨rfl, rfl, rfl, by decide +kernel, rfl, by decide +kernel, by decide +kernel⟩
def b_law_stay_1 (c : Str → DSp) : B := .cons (.ret (.tup (.cons (.lit (.str "till")) (.cons (.idx (.fz (.bif .sorted (.cons (.fz (.bif .list (.cons (.idx (.var 1) (.lit (.str "deeds"))) (.nil)))) (.nil)))) (.call "_law_pick" (c "_law_pick") (.cons (.var 0) (.cons (.bif .len (.cons (.idx (.var 1) (.lit (.str "deeds"))) (.nil))) (.nil))))) (.nil))))) (.nil)
def b_law_stay_2 (c : Str → DSp) : B := .cons (.ret (.tup (.cons (.lit (.str "ground")) (.nil)))) (.nil)
def b_law_stay_3 (c : Str → DSp) : B := .cons (.iff (.cmp .Lt (.var 2) (.lit (.int 3))) (b_law_stay_2 c) (.nil)) (b_law_stay_1 c)
def b_law_stay_4 (c : Str → DSp) : B := .cons (.ret (.tup (.cons (.lit (.str "always")) (.nil)))) (.nil)
def b_law_stay_5 (c : Str → DSp) : B := .cons (.iff (.cmp .Eq (.var 2) (.lit (.int 0))) (b_law_stay_4 c) (.nil)) (b_law_stay_3 c)
def b_law_stay (c : Str → DSp) : B := .cons (.asg (.tg (.name 2)) (.call "_law_pick" (c "_law_pick") (.cons (.var 0) (.cons (.lit (.int 4)) (.nil))))) (b_law_stay_5 c)
theorem ck_law_stay (c : Str → DSp) : Dy.chkB (b_law_stay c) (defScope st_law_stay) N_law_stay (defBody st_law_stay) = true := by kernel_rfl
def st_law_drawn : Stmt := top 54
def N_law_drawn : List Str := ["_law_row", "_law_deeds_here", "_law_marks", "_law_most", "_law_t", "_law_name", "_law_names_here"]
def P_law_drawn : List Str := ["_law_row", "_law_deeds_here", "_law_marks", "_law_most"]
theorem sc_law_drawn : FnScope N_law_drawn P_law_drawn (defScope st_law_drawn) := ⟨rfl, rfl, rfl, by decide +kernel, rfl, by decide +kernel, by decide +kernel⟩
def b_law_drawn_1 (c : Str → DSp) : B := .frzk 4 (.str "marks") (.frz 4 (.cons (.ret (.var 4)) (.nil)))
def b_law_drawn_2 (c : Str → DSp) : B := .cons (.asg (.sub (.idx (.var 4) (.lit (.str "marks"))) (.var 5)) (.tup (.cons (.call "_law_ground" (c "_law_ground") (.cons (.var 0) (.cons (.var 4) (.cons (.var 6) (.cons (.var 5) (.nil)))))) (.cons (.call "_law_stay" (c "_law_stay") (.cons (.var 0) (.cons (.var 4) (.nil)))) (.nil))))) (.nil)
def b_law_drawn_3 (c : Str → DSp) : B := .cons (.forr (.name 5) (.seq (.var 6)) (b_law_drawn_2 c)) (b_law_drawn_1 c)
def b_law_drawn_4 (c : Str → DSp) : B := .frzk 4 (.str "deeds") (.cons (.asg (.tg (.name 6)) (.fz (.slc (.lst true (.cons (.lit (.str "fan")) (.cons (.lit (.str "b")) (.cons (.lit (.str "new")) (.cons (.lit (.str "a")) (.nil)))))) .nil (.cons (.bin .Add (.lit (.int 1)) (.call "_law_pick" (c "_law_pick") (.cons (.var 0) (.cons (.var 2) (.nil))))) .nil)))) (b_law_drawn_3 c))
def b_law_drawn_5 (c : Str → DSp) : B := .cons (.asg (.sub (.idx (.var 4) (.lit (.str "deeds"))) (.var 5)) (.idx (.lst true (.cons (.lit (.str "sum")) (.cons (.lit (.str "run")) (.nil)))) (.call "_law_pick" (c "_law_pick") (.cons (.var 0) (.cons (.lit (.int 2)) (.nil)))))) (.nil)
def b_law_drawn_6 (c : Str → DSp) : B := .cons (.forr (.name 5) (.seq (.fz (.slc (.lst true (.cons (.lit (.str "buy")) (.cons (.lit (.str "a")) (.cons (.lit (.str "go")) (.nil))))) .nil (.cons (.bin .Add (.lit (.int 1)) (.call "_law_pick" (c "_law_pick") (.cons (.var 0) (.cons (.var 1) (.nil))))) .nil)))) (b_law_drawn_5 c)) (b_law_drawn_4 c)
def b_law_drawn (c : Str → DSp) : B := .cons (.asg (.tg (.name 4)) (.ddisp false (.cons (.lit (.str "deeds")) (.cons .dnew (.cons (.lit (.str "marks")) (.cons .dnew (.cons (.lit (.str "most")) (.cons (.bin .Add (.lit (.int 1)) (.call "_law_pick" (c "_law_pick") (.cons (.var 0) (.cons (.var 3) (.nil))))) (.nil))))))))) (b_law_drawn_6 c)
theorem ck_law_drawn (c : Str → DSp) : Dy.chkB (b_law_drawn c) (defScope st_law_drawn) N_law_drawn (defBody st_law_drawn) = true := by kernel_rfl
def st_law_made : Stmt := top 55
def N_law_made : List Str := ["_law_t"]
def P_law_made : List Str := ["_law_t"]
theorem sc_law_made : FnScope N_law_made P_law_made (defScope st_law_made) := ⟨rfl, rfl, rfl, by decide +kernel, rfl, by decide +kernel, by decide +kernel⟩
def b_law_made (c : Str → DSp) : B := .cons (.ret (.mk "Book" (c "Book.__init__") (.cons (.idx (.var 0) (.lit (.str "deeds"))) (.cons (.idx (.var 0) (.lit (.str "marks"))) (.cons (.idx (.var 0) (.lit (.str "most"))) (.nil)))))) (.nil)
theorem ck_law_made (c : Str → DSp) : Dy.chkB (b_law_made c) (defScope st_law_made) N_law_made (defBody st_law_made) = true := by kernel_rfl
def st_law_deeds : Stmt := top 56
def N_law_deeds : List Str := ["_law_t"]
def P_law_deeds : List Str := ["_law_t"]
theorem sc_law_deeds : FnScope N_law_deeds P_law_deeds (defScope st_law_deeds) := ⟨rfl, rfl, rfl, by decide +kernel, rfl, by decide +kernel, by decide +kernel⟩
def b_law_deeds (c : Str → DSp) : B := .cons (.ret (.fz (.bif .sorted (.cons (.fz (.bif .list (.cons (.idx (.var 0) (.lit (.str "deeds"))) (.nil)))) (.nil))))) (.nil)
theorem ck_law_deeds (c : Str → DSp) : Dy.chkB (b_law_deeds c) (defScope st_law_deeds) N_law_deeds (defBody st_law_deeds) = true := by kernel_rfl
def st_law_names : Stmt := top 57
def N_law_names : List Str := ["_law_t"]
def P_law_names : List Str := ["_law_t"]
theorem sc_law_names : FnScope N_law_names P_law_names (defScope st_law_names) := ⟨rfl, rfl, rfl, by decide +kernel, rfl, by decide +kernel, by decide +kernel⟩
def b_law_names (c : Str → DSp) : B := .cons (.ret (.fz (.bif .sorted (.cons (.fz (.bif .list (.cons (.idx (.var 0) (.lit (.str "marks"))) (.nil)))) (.nil))))) (.nil)
theorem ck_law_names (c : Str → DSp) : Dy.chkB (b_law_names c) (defScope st_law_names) N_law_names (defBody st_law_names) = true := by kernel_rfl
def st_law_every : Stmt := top 58
def N_law_every : List Str := ["_law_t", "_law_found", "_law_deed"]
def P_law_every : List Str := ["_law_t"]
theorem sc_law_every : FnScope N_law_every P_law_every (defScope st_law_every) := ⟨rfl, rfl, rfl, by decide +kernel, rfl, by decide +kernel, by decide +kernel⟩
def b_law_every_1 (c : Str → DSp) : B := .cons (.ret (.fz (.bin .Add (.var 1) (.lst true (.cons (.tup (.cons (.lit (.str "night")) (.nil))) (.nil)))))) (.nil)
def b_law_every (c : Str → DSp) : B := .cons (.asg (.tg (.name 1)) (.fz (.bin .Add (.lc true [("_law_deed", 2)] (.tup (.cons (.lit (.str "do")) (.cons (.var 2) (.nil)))) (.name 2) (.seq (.call "_law_deeds" (c "_law_deeds") (.cons (.var 0) (.nil)))) (.nil)) (.lc true [("_law_deed", 2)] (.tup (.cons (.lit (.str "back")) (.cons (.var 2) (.nil)))) (.name 2) (.seq (.call "_law_deeds" (c "_law_deeds") (.cons (.var 0) (.nil)))) (.nil))))) (b_law_every_1 c)
theorem ck_law_every (c : Str → DSp) : Dy.chkB (b_law_every c) (defScope st_law_every) N_law_every (defBody st_law_every) = true := by kernel_rfl
def st_law_begin : Stmt := top 59
def N_law_begin : List Str := ["_law_t", "_law_s", "_law_deed"]
def P_law_begin : List Str := ["_law_t"]
theorem sc_law_begin : FnScope N_law_begin P_law_begin (defScope st_law_begin) := ⟨rfl, rfl, rfl, by decide +kernel, rfl, by decide +kernel, by decide +kernel⟩
def b_law_begin_1 (c : Str → DSp) : B := .frz 1 (.cons (.ret (.var 1)) (.nil))
def b_law_begin_2 (c : Str → DSp) : B := .cons (.asg (.sub (.var 1) (.var 2)) (.lit (.int 0))) (.nil)
def b_law_begin_3 (c : Str → DSp) : B := .cons (.forr (.name 2) (.seq (.call "_law_deeds" (c "_law_deeds") (.cons (.var 0) (.nil)))) (b_law_begin_2 c)) (b_law_begin_1 c)
def b_law_begin (c : Str → DSp) : B := .cons (.asg (.tg (.name 1)) (.ddisp false (.cons (.lit (.str "fresh")) (.cons (.lst true (.nil)) (.cons (.lit (.str "held")) (.cons (.lst true (.nil)) (.nil))))))) (b_law_begin_3 c)
theorem ck_law_begin (c : Str → DSp) : Dy.chkB (b_law_begin c) (defScope st_law_begin) N_law_begin (defBody st_law_begin) = true := by kernel_rfl
def st_law_is : Stmt := top 60
def N_law_is : List Str := ["_law_s", "_law_part_here"]
def P_law_is : List Str := ["_law_s", "_law_part_here"]
theorem sc_law_is : FnScope N_law_is P_law_is (defScope st_law_is) := ⟨rfl, rfl, rfl, by decide +kernel, rfl, by decide +kernel, by decide +kernel⟩
def b_law_is_1 (c : Str → DSp) : B := .cons (.ret (.cmp .Eq (.cmp .In (.idx (.var 1) (.lit (.int 1))) (.idx (.var 0) (.lit (.str "held")))) (.cmp .Eq (.idx (.var 1) (.lit (.int 0))) (.lit (.str "has"))))) (.nil)
def b_law_is_2 (c : Str → DSp) : B := .cons (.ret (.cmp .Lt (.idx (.var 0) (.idx (.var 1) (.lit (.int 1)))) (.idx (.var 1) (.lit (.int 2))))) (.nil)
def b_law_is_3 (c : Str → DSp) : B := .cons (.iff (.cmp .Eq (.idx (.var 1) (.lit (.int 0))) (.lit (.str "below"))) (b_law_is_2 c) (.nil)) (b_law_is_1 c)
def b_law_is_4 (c : Str → DSp) : B := .cons (.ret (.cmp .GtE (.idx (.var 0) (.idx (.var 1) (.lit (.int 1)))) (.idx (.var 1) (.lit (.int 2))))) (.nil)
def b_law_is (c : Str → DSp) : B := .cons (.iff (.cmp .Eq (.idx (.var 1) (.lit (.int 0))) (.lit (.str "least"))) (b_law_is_4 c) (.nil)) (b_law_is_3 c)
theorem ck_law_is (c : Str → DSp) : Dy.chkB (b_law_is c) (defScope st_law_is) N_law_is (defBody st_law_is) = true := by kernel_rfl
def st_law_grounded : Stmt := top 61
def N_law_grounded : List Str := ["_law_t", "_law_s", "_law_name", "_law_part_here"]
def P_law_grounded : List Str := ["_law_t", "_law_s", "_law_name"]
theorem sc_law_grounded : FnScope N_law_grounded P_law_grounded (defScope st_law_grounded) := ⟨rfl, rfl, rfl, by decide +kernel, rfl, by decide +kernel, by decide +kernel⟩
def b_law_grounded (c : Str → DSp) : B := .cons (.ret (.cmp .Eq (.lc true [("_law_part_here", 3)] (.var 3) (.name 3) (.seq (.idx (.idx (.idx (.var 0) (.lit (.str "marks"))) (.var 2)) (.lit (.int 0)))) (.cons (.nott (.call "_law_is" (c "_law_is") (.cons (.var 1) (.cons (.var 3) (.nil))))) (.nil))) (.lst true (.nil)))) (.nil)
theorem ck_law_grounded (c : Str → DSp) : Dy.chkB (b_law_grounded c) (defScope st_law_grounded) N_law_grounded (defBody st_law_grounded) = true := by kernel_rfl
def st_law_look : Stmt := top 62
def N_law_look : List Str := ["_law_t", "_law_s", "_law_some", "_law_marks", "_law_going", "_law_name", "_law_one"]
def P_law_look : List Str := ["_law_t", "_law_s", "_law_some"]
theorem sc_law_look : FnScope N_law_look P_law_look (defScope st_law_look) := ⟨rfl, rfl, rfl, by decide +kernel, rfl, by decide +kernel, by decide +kernel⟩
def b_law_look_1 (c : Str → DSp) : B := .frz 3 (.cons (.ret (.var 3)) (.nil))
def b_law_look_2 (c : Str → DSp) : B := .cons (.asg (.tg (.name 4)) (.lit (.bl true))) (.nil)
def b_law_look_3 (c : Str → DSp) : B := .cons (.asg (.sub (.var 1) (.lit (.str "held"))) (.fz (.bif .sorted (.cons (.fz (.bin .Add (.idx (.var 1) (.lit (.str "held"))) (.lst true (.cons (.var 5) (.nil))))) (.nil))))) (b_law_look_2 c)
def b_law_look_4 (c : Str → DSp) : B := .cons (.iff (.andd (.cons (.nott (.var 4)) (.cons (.cmp .NotIn (.var 5) (.idx (.var 1) (.lit (.str "held")))) (.cons (.call "_law_grounded" (c "_law_grounded") (.cons (.var 0) (.cons (.var 1) (.cons (.var 5) (.nil))))) (.nil))))) (b_law_look_3 c) (.nil)) (.nil)
def b_law_look_5 (c : Str → DSp) : B := .cons (.forr (.name 5) (.seq (.fz (.bif .sorted (.cons (.var 2) (.nil))))) (b_law_look_4 c)) (.nil)
def b_law_look_6 (c : Str → DSp) : B := .cons (.asg (.tg (.name 4)) (.lit (.bl false))) (b_law_look_5 c)
def b_law_look_7 (c : Str → DSp) : B := .cons (.whl (.var 4) (b_law_look_6 c)) (b_law_look_1 c)
def b_law_look_8 (c : Str → DSp) : B := .cons (.asg (.tg (.name 4)) (.lit (.bl true))) (b_law_look_7 c)
def b_law_look_9 (c : Str → DSp) : B := .cons (.asg (.tg (.name 4)) (.lit (.bl true))) (.nil)
def b_law_look_10 (c : Str → DSp) : B := .cons (.expr (.meth .append (.var 3) (.cons (.var 5) (.nil)))) (b_law_look_9 c)
def b_law_look_11 (c : Str → DSp) : B := .cons (.asg (.sub (.var 1) (.lit (.str "held"))) (.lc true [("_law_one", 6)] (.var 6) (.name 6) (.seq (.idx (.var 1) (.lit (.str "held")))) (.cons (.cmp .NotEq (.var 6) (.var 5)) (.nil)))) (b_law_look_10 c)
def b_law_look_12 (c : Str → DSp) : B := .cons (.iff (.andd (.cons (.nott (.var 4)) (.cons (.cmp .In (.var 5) (.idx (.var 1) (.lit (.str "held")))) (.cons (.cmp .Eq (.idx (.idx (.idx (.idx (.var 0) (.lit (.str "marks"))) (.var 5)) (.lit (.int 1))) (.lit (.int 0))) (.lit (.str "ground"))) (.cons (.nott (.call "_law_grounded" (c "_law_grounded") (.cons (.var 0) (.cons (.var 1) (.cons (.var 5) (.nil)))))) (.nil)))))) (b_law_look_11 c) (.nil)) (.nil)
def b_law_look_13 (c : Str → DSp) : B := .cons (.forr (.name 5) (.seq (.fz (.bif .sorted (.cons (.var 2) (.nil))))) (b_law_look_12 c)) (.nil)
def b_law_look_14 (c : Str → DSp) : B := .cons (.asg (.tg (.name 4)) (.lit (.bl false))) (b_law_look_13 c)
def b_law_look_15 (c : Str → DSp) : B := .cons (.whl (.var 4) (b_law_look_14 c)) (b_law_look_8 c)
def b_law_look_16 (c : Str → DSp) : B := .cons (.asg (.tg (.name 4)) (.lit (.bl true))) (b_law_look_15 c)
def b_law_look (c : Str → DSp) : B := .cons (.asg (.tg (.name 3)) (.lst false (.nil))) (b_law_look_16 c)
theorem ck_law_look (c : Str → DSp) : Dy.chkB (b_law_look c) (defScope st_law_look) N_law_look (defBody st_law_look) = true := by kernel_rfl
def st_law_count : Stmt := top 63
def N_law_count : List Str := ["_law_t", "_law_s", "_law_step", "_law_deed", "_law_is_run", "_law_is_fresh", "_law_one"]
def P_law_count : List Str := ["_law_t", "_law_s", "_law_step"]
theorem sc_law_count : FnScope N_law_count P_law_count (defScope st_law_count) := ⟨rfl, rfl, rfl, by decide +kernel, rfl, by decide +kernel, by decide +kernel⟩
def b_law_count_1 (c : Str → DSp) : B := .cons (.ret (.lit (.bl true))) (.nil)
def b_law_count_2 (c : Str → DSp) : B := .cons (.asg (.sub (.var 1) (.lit (.str "fresh"))) (.fz (.bif .sorted (.cons (.fz (.bin .Add (.idx (.var 1) (.lit (.str "fresh"))) (.lst true (.cons (.var 3) (.nil))))) (.nil))))) (.nil)
def b_law_count_3 (c : Str → DSp) : B := .cons (.iff (.andd (.cons (.var 4) (.cons (.nott (.var 5)) (.nil)))) (b_law_count_2 c) (.nil)) (b_law_count_1 c)
def b_law_count_4 (c : Str → DSp) : B := .cons (.asg (.sub (.var 1) (.var 3)) (.bin .Add (.idx (.var 1) (.var 3)) (.lit (.int 1)))) (.nil)
def b_law_count_5 (c : Str → DSp) : B := .cons (.iff (.andd (.cons (.nott (.var 5)) (.cons (.cmp .Lt (.idx (.var 1) (.var 3)) (.idx (.var 0) (.lit (.str "most")))) (.nil)))) (b_law_count_4 c) (.nil)) (b_law_count_3 c)
def b_law_count_6 (c : Str → DSp) : B := .cons (.ret (.lit (.bl true))) (.nil)
def b_law_count_7 (c : Str → DSp) : B := .cons (.asg (.sub (.var 1) (.lit (.str "fresh"))) (.lc true [("_law_one", 6)] (.var 6) (.name 6) (.seq (.idx (.var 1) (.lit (.str "fresh")))) (.cons (.cmp .NotEq (.var 6) (.var 3)) (.nil)))) (b_law_count_6 c)
def b_law_count_8 (c : Str → DSp) : B := .cons (.asg (.sub (.var 1) (.var 3)) (.bin .Sub (.idx (.var 1) (.var 3)) (.lit (.int 1)))) (b_law_count_7 c)
def b_law_count_9 (c : Str → DSp) : B := .cons (.ret (.lit (.bl false))) (.nil)
def b_law_count_10 (c : Str → DSp) : B := .cons (.iff (.orr (.cons (.cmp .Eq (.idx (.var 1) (.var 3)) (.lit (.int 0))) (.cons (.andd (.cons (.var 4) (.cons (.nott (.var 5)) (.nil)))) (.nil)))) (b_law_count_9 c) (.nil)) (b_law_count_8 c)
def b_law_count_11 (c : Str → DSp) : B := .cons (.iff (.cmp .Eq (.idx (.var 2) (.lit (.int 0))) (.lit (.str "back"))) (b_law_count_10 c) (.nil)) (b_law_count_5 c)
def b_law_count_12 (c : Str → DSp) : B := .cons (.par2 4 5 (.cmp .Eq (.idx (.idx (.var 0) (.lit (.str "deeds"))) (.var 3)) (.lit (.str "run"))) (.cmp .In (.var 3) (.idx (.var 1) (.lit (.str "fresh"))))) (b_law_count_11 c)
def b_law_count_13 (c : Str → DSp) : B := .cons (.asg (.tg (.name 3)) (.idx (.var 2) (.lit (.int 1)))) (b_law_count_12 c)
def b_law_count_14 (c : Str → DSp) : B := .cons (.ret (.lit (.bl true))) (.nil)
def b_law_count_15 (c : Str → DSp) : B := .cons (.asg (.sub (.var 1) (.lit (.str "fresh"))) (.lst true (.nil))) (b_law_count_14 c)
def b_law_count_16 (c : Str → DSp) : B := .cons (.asg (.sub (.var 1) (.var 3)) (.lit (.int 0))) (.nil)
def b_law_count_17 (c : Str → DSp) : B := .cons (.iff (.andd (.cons (.cmp .Eq (.idx (.idx (.var 0) (.lit (.str "deeds"))) (.var 3)) (.lit (.str "run"))) (.cons (.cmp .NotIn (.var 3) (.idx (.var 1) (.lit (.str "fresh")))) (.nil)))) (b_law_count_16 c) (.nil)) (.nil)
def b_law_count_18 (c : Str → DSp) : B := .cons (.forr (.name 3) (.seq (.call "_law_deeds" (c "_law_deeds") (.cons (.var 0) (.nil)))) (b_law_count_17 c)) (b_law_count_15 c)
def b_law_count (c : Str → DSp) : B := .cons (.iff (.cmp .Eq (.idx (.var 2) (.lit (.int 0))) (.lit (.str "night"))) (b_law_count_18 c) (.nil)) (b_law_count_13 c)
theorem ck_law_count (c : Str → DSp) : Dy.chkB (b_law_count c) (defScope st_law_count) N_law_count (defBody st_law_count) = true := by kernel_rfl
def st_law_after : Stmt := top 64
def N_law_after : List Str := ["_law_t", "_law_old", "_law_step", "_law_some", "_law_s", "_law_lost", "_law_name"]
def P_law_after : List Str := ["_law_t", "_law_old", "_law_step", "_law_some"]
theorem sc_law_after : FnScope N_law_after P_law_after (defScope st_law_after) := ⟨rfl, rfl, rfl, by decide +kernel, rfl, by decide +kernel, by decide +kernel⟩
def b_law_after_1 (c : Str → DSp) : B := .frz 5 (.cons (.ret (.lst true (.cons (.var 4) (.cons (.fz (.bin .Add (.var 5) (.call "_law_look" (c "_law_look") (.cons (.var 0) (.cons (.var 4) (.cons (.var 3) (.nil))))))) (.nil))))) (.nil))
def b_law_after_2 (c : Str → DSp) : B := .cons (.asg (.sub (.var 4) (.lit (.str "held"))) (.lc true [("_law_name", 6)] (.var 6) (.name 6) (.seq (.idx (.var 4) (.lit (.str "held")))) (.cons (.cmp .NotIn (.var 6) (.var 5)) (.nil)))) (b_law_after_1 c)
def b_law_after_3 (c : Str → DSp) : B := .cons (.expr (.meth .append (.var 5) (.cons (.var 6) (.nil)))) (.nil)
def b_law_after_4 (c : Str → DSp) : B := .cons (.iff (.andd (.cons (.cmp .Eq (.idx (.var 2) (.lit (.int 0))) (.lit (.str "do"))) (.cons (.cmp .In (.var 6) (.idx (.var 4) (.lit (.str "held")))) (.cons (.cmp .Eq (.idx (.idx (.idx (.var 0) (.lit (.str "marks"))) (.var 6)) (.lit (.int 1))) (.tup (.cons (.lit (.str "till")) (.cons (.idx (.var 2) (.lit (.int 1))) (.nil))))) (.nil))))) (b_law_after_3 c) (.nil)) (.nil)
def b_law_after_5 (c : Str → DSp) : B := .cons (.forr (.name 6) (.seq (.fz (.bif .sorted (.cons (.var 3) (.nil))))) (b_law_after_4 c)) (b_law_after_2 c)
def b_law_after_6 (c : Str → DSp) : B := .cons (.asg (.tg (.name 5)) (.lst false (.nil))) (b_law_after_5 c)
def b_law_after_7 (c : Str → DSp) : B := .frz 4 (.cons (.ret (.lst true (.cons (.lit .non) (.cons (.lst true (.nil)) (.nil))))) (.nil))
def b_law_after_8 (c : Str → DSp) : B := .cons (.iff (.nott (.call "_law_count" (c "_law_count") (.cons (.var 0) (.cons (.var 4) (.cons (.var 2) (.nil)))))) (b_law_after_7 c) (.nil)) (b_law_after_6 c)
def b_law_after (c : Str → DSp) : B := .cons (.asg (.tg (.name 4)) (.bif .dict (.cons (.var 1) (.nil)))) (b_law_after_8 c)
theorem ck_law_after (c : Str → DSp) : Dy.chkB (b_law_after c) (defScope st_law_after) N_law_after (defBody st_law_after) = true := by kernel_rfl
def st_law_led : Stmt := top 65
def N_law_led : List Str := ["_law_t", "_law_s", "_law_step"]
def P_law_led : List Str := ["_law_t", "_law_s", "_law_step"]
theorem sc_law_led : FnScope N_law_led P_law_led (defScope st_law_led) := ⟨rfl, rfl, rfl, by decide +kernel, rfl, by decide +kernel, by decide +kernel⟩
def b_law_led (c : Str → DSp) : B := .cons (.ret (.fz (.idx (.call "_law_after" (c "_law_after") (.cons (.var 0) (.cons (.var 1) (.cons (.var 2) (.cons (.call "_law_names" (c "_law_names") (.cons (.var 0) (.nil))) (.nil)))))) (.lit (.int 0))))) (.nil)
theorem ck_law_led (c : Str → DSp) : Dy.chkB (b_law_led c) (defScope st_law_led) N_law_led (defBody st_law_led) = true := by kernel_rfl
def st_law_tuple : Stmt := top 66
def N_law_tuple : List Str := ["_law_t", "_law_s", "_law_counts", "_law_deed"]
def P_law_tuple : List Str := ["_law_t", "_law_s"]
theorem sc_law_tuple : FnScope N_law_tuple P_law_tuple (defScope st_law_tuple) := ⟨rfl, rfl, rfl, by decide +kernel, rfl, by decide +kernel, by decide +kernel⟩
def b_law_tuple_1 (c : Str → DSp) : B := .cons (.ret (.tup (.cons (.var 2) (.cons (.bif .tuple (.cons (.lc true [("_law_deed", 3)] (.cmp .In (.var 3) (.idx (.var 1) (.lit (.str "fresh")))) (.name 3) (.seq (.call "_law_deeds" (c "_law_deeds") (.cons (.var 0) (.nil)))) (.nil)) (.nil))) (.cons (.bif .tuple (.cons (.idx (.var 1) (.lit (.str "held"))) (.nil))) (.nil)))))) (.nil)
def b_law_tuple (c : Str → DSp) : B := .cons (.asg (.tg (.name 2)) (.bif .tuple (.cons (.lc true [("_law_deed", 3)] (.idx (.var 1) (.var 3)) (.name 3) (.seq (.call "_law_deeds" (c "_law_deeds") (.cons (.var 0) (.nil)))) (.nil)) (.nil)))) (b_law_tuple_1 c)
theorem ck_law_tuple (c : Str → DSp) : Dy.chkB (b_law_tuple c) (defScope st_law_tuple) N_law_tuple (defBody st_law_tuple) = true := by kernel_rfl
def st_law_small : Stmt := top 67
def N_law_small : List Str := ["_law_row"]
def P_law_small : List Str := ["_law_row"]
theorem sc_law_small : FnScope N_law_small P_law_small (defScope st_law_small) := ⟨rfl, rfl, rfl, by decide +kernel, rfl, by decide +kernel, by decide +kernel⟩
def b_law_small_1 (c : Str → DSp) : B := .cons (.ret (.call "_law_drawn" (c "_law_drawn") (.cons (.var 0) (.cons (.lit (.int 2)) (.cons (.lit (.int 2)) (.cons (.lit (.int 2)) (.nil))))))) (.nil)
def b_law_small_2 (c : Str → DSp) : B := .cons (.ret (.call "_law_drawn" (c "_law_drawn") (.cons (.var 0) (.cons (.lit (.int 1)) (.cons (.lit (.int 3)) (.cons (.lit (.int 3)) (.nil))))))) (.nil)
def b_law_small (c : Str → DSp) : B := .cons (.iff (.cmp .Eq (.call "_law_pick" (c "_law_pick") (.cons (.var 0) (.cons (.lit (.int 2)) (.nil)))) (.lit (.int 0))) (b_law_small_2 c) (.nil)) (b_law_small_1 c)
theorem ck_law_small (c : Str → DSp) : Dy.chkB (b_law_small c) (defScope st_law_small) N_law_small (defBody st_law_small) = true := by kernel_rfl
def st_law_least : Stmt := top 68
def N_law_least : List Str := ["_law_t", "_law_table", "_law_start", "_law_found", "_law_layer", "_law_later", "_law_done", "_law_pair", "_law_step", "_law_some", "_law_after_here", "_law_spot", "_law_name"]
def P_law_least : List Str := ["_law_t", "_law_table"]
theorem sc_law_least : FnScope N_law_least P_law_least (defScope st_law_least) := ⟨rfl, rfl, rfl, by decide +kernel, rfl, by decide +kernel, by decide +kernel⟩
def b_law_least_1 (c : Str → DSp) : B := .frz 3 (.cons (.ret (.lit .non)) (.nil))
def b_law_least_2 (c : Str → DSp) : B := .frz 5 (.cons (.asg (.tg (.name 4)) (.var 5)) (.nil))
def b_law_least_3 (c : Str → DSp) : B := .cons (.expr (.meth .append (.var 5) (.cons (.lst true (.cons (.bin .Add (.var 6) (.tup (.cons (.var 8) (.nil)))) (.cons (.var 10) (.nil)))) (.nil)))) (.nil)
def b_law_least_4 (c : Str → DSp) : B := .cons (.asg (.sub (.var 3) (.var 11)) (.lit (.bl true))) (b_law_least_3 c)
def b_law_least_5 (c : Str → DSp) : B := .cons (.iff (.cmp .NotIn (.var 11) (.var 3)) (b_law_least_4 c) (.nil)) (.nil)
def b_law_least_6 (c : Str → DSp) : B := .cons (.asg (.tg (.name 11)) (.tup (.cons (.call "_law_tuple" (c "_law_tuple") (.cons (.var 0) (.cons (.idx (.var 10) (.lit (.int 0))) (.nil)))) (.cons (.call "_law_tuple" (c "_law_tuple") (.cons (.var 0) (.cons (.idx (.var 10) (.lit (.int 1))) (.nil)))) (.nil))))) (b_law_least_5 c)
def b_law_least_7 (c : Str → DSp) : B := .cons (.iff (.andd (.cons (.cmp .IsNot (.idx (.var 10) (.lit (.int 0))) (.lit .non)) (.cons (.cmp .IsNot (.idx (.var 10) (.lit (.int 1))) (.lit .non)) (.nil)))) (b_law_least_6 c) (.nil)) (.nil)
def b_law_least_8 (c : Str → DSp) : B := .cons (.asg (.tg (.name 10)) (.tup (.cons (.call "_law_led" (c "_law_led") (.cons (.var 0) (.cons (.idx (.var 7) (.lit (.int 0))) (.cons (.var 8) (.nil))))) (.cons (.fz (.idx (.call "_law_after" (c "_law_after") (.cons (.var 0) (.cons (.idx (.var 7) (.lit (.int 1))) (.cons (.var 8) (.cons (.var 9) (.nil)))))) (.lit (.int 0)))) (.nil))))) (b_law_least_7 c)
def b_law_least_9 (c : Str → DSp) : B := .cons (.asg (.tg (.name 9)) (.lc true [("_law_name", 12)] (.var 12) (.name 12) (.seq (.call "_law_names" (c "_law_names") (.cons (.var 0) (.nil)))) (.cons (.cmp .In (.var 12) (.meth .get (.var 1) (.cons (.var 8) (.cons (.tup (.nil)) (.nil))))) (.nil)))) (b_law_least_8 c)
def b_law_least_10 (c : Str → DSp) : B := .cons (.forr (.name 8) (.seq (.call "_law_every" (c "_law_every") (.cons (.var 0) (.nil)))) (b_law_least_9 c)) (.nil)
def b_law_least_11 (c : Str → DSp) : B := .frz 3 (.frz 5 (.cons (.ret (.var 6)) (.nil)))
def b_law_least_12 (c : Str → DSp) : B := .cons (.iff (.cmp .NotEq (.idx (.idx (.var 7) (.lit (.int 0))) (.lit (.str "held"))) (.idx (.idx (.var 7) (.lit (.int 1))) (.lit (.str "held")))) (b_law_least_11 c) (.nil)) (b_law_least_10 c)
def b_law_least_13 (c : Str → DSp) : B := .cons (.forr (.tup (.cons (.name 6) (.cons (.name 7) (.nil)))) (.seq (.var 4)) (b_law_least_12 c)) (b_law_least_2 c)
def b_law_least_14 (c : Str → DSp) : B := .cons (.asg (.tg (.name 5)) (.lst false (.nil))) (b_law_least_13 c)
def b_law_least_15 (c : Str → DSp) : B := .cons (.whl (.cmp .NotEq (.var 4) (.lst true (.nil))) (b_law_least_14 c)) (b_law_least_1 c)
def b_law_least_16 (c : Str → DSp) : B := .cons (.par2 3 4 (.ddisp true (.cons (.tup (.cons (.call "_law_tuple" (c "_law_tuple") (.cons (.var 0) (.cons (.idx (.var 2) (.lit (.int 0))) (.nil)))) (.cons (.call "_law_tuple" (c "_law_tuple") (.cons (.var 0) (.cons (.idx (.var 2) (.lit (.int 1))) (.nil)))) (.nil)))) (.cons (.lit (.bl true)) (.nil)))) (.lst true (.cons (.lst true (.cons (.tup (.nil)) (.cons (.var 2) (.nil)))) (.nil)))) (b_law_least_15 c)
def b_law_least (c : Str → DSp) : B := .cons (.asg (.tg (.name 2)) (.tup (.cons (.call "_law_begin" (c "_law_begin") (.cons (.var 0) (.nil))) (.cons (.call "_law_begin" (c "_law_begin") (.cons (.var 0) (.nil))) (.nil))))) (b_law_least_16 c)
theorem ck_law_least (c : Str → DSp) : Dy.chkB (b_law_least c) (defScope st_law_least) N_law_least (defBody st_law_least) = true := by kernel_rfl
def st_law : Stmt := top 69
def N_law : List Str := ["_law_script", "_law_row", "_law_t", "_law_book", "_law_names_here", "_law_turn", "_law_table", "_law_step", "_law_name", "_law_whole"]
def P_law : List Str := ["_law_script"]
theorem sc_law : FnScope N_law P_law (defScope st_law) := ⟨rfl, rfl, rfl, by decide +kernel, rfl, by decide +kernel, by decide +kernel⟩
def b_law_1 (c : Str → DSp) : B := .frz 9 (.cons (.ret (.cmp .Is (.call "wrong" (c "wrong") (.cons (.var 3) (.cons (.var 9) (.nil)))) (.lit .non))) (.nil))
def b_law_2 (c : Str → DSp) : B := .cons (.asg (.sub (.var 9) (.var 7)) (.bif .tuple (.cons (.var 4) (.nil)))) (.nil)
def b_law_3 (c : Str → DSp) : B := .cons (.forr (.name 7) (.seq (.call "_law_every" (c "_law_every") (.cons (.var 2) (.nil)))) (b_law_2 c)) (b_law_1 c)
def b_law_4 (c : Str → DSp) : B := .cons (.asg (.tg (.name 9)) .dnew) (b_law_3 c)
def b_law_5 (c : Str → DSp) : B := .cons (.ret (.lit (.bl false))) (.nil)
def b_law_6 (c : Str → DSp) : B := .cons (.iff (.cmp .NotEq (.call "wrong" (c "wrong") (.cons (.var 3) (.cons (.var 6) (.nil)))) (.call "_law_least" (c "_law_least") (.cons (.var 2) (.cons (.var 6) (.nil))))) (b_law_5 c) (.nil)) (.nil)
def b_law_7 (c : Str → DSp) : B := .cons (.asg (.sub (.var 6) (.var 7)) (.bif .tuple (.cons (.lc true [("_law_name", 8)] (.var 8) (.name 8) (.seq (.var 4)) (.cons (.cmp .Gt (.call "_law_pick" (c "_law_pick") (.cons (.var 1) (.cons (.lit (.int 4)) (.nil)))) (.lit (.int 0))) (.nil))) (.nil)))) (.nil)
def b_law_8 (c : Str → DSp) : B := .cons (.iff (.cmp .Gt (.call "_law_pick" (c "_law_pick") (.cons (.var 1) (.cons (.lit (.int 5)) (.nil)))) (.lit (.int 0))) (b_law_7 c) (.nil)) (.nil)
def b_law_9 (c : Str → DSp) : B := .cons (.forr (.name 7) (.seq (.call "_law_every" (c "_law_every") (.cons (.var 2) (.nil)))) (b_law_8 c)) (b_law_6 c)
def b_law_10 (c : Str → DSp) : B := .cons (.asg (.tg (.name 6)) .dnew) (b_law_9 c)
def b_law_11 (c : Str → DSp) : B := .cons (.forr (.name 5) (.rng (.cons (.lit (.int 3)) (.nil))) (b_law_10 c)) (b_law_4 c)
def b_law_12 (c : Str → DSp) : B := .cons (.par2 3 4 (.call "_law_made" (c "_law_made") (.cons (.var 2) (.nil))) (.call "_law_names" (c "_law_names") (.cons (.var 2) (.nil)))) (b_law_11 c)
def b_law_13 (c : Str → DSp) : B := .cons (.asg (.tg (.name 2)) (.call "_law_small" (c "_law_small") (.cons (.var 1) (.nil)))) (b_law_12 c)
def b_law (c : Str → DSp) : B := .cons (.asg (.tg (.name 1)) (.call "_law_draws" (c "_law_draws") (.cons (.var 0) (.nil)))) (b_law_13 c)
theorem ck_law (c : Str → DSp) : Dy.chkB (b_law c) (defScope st_law) N_law (defBody st_law) = true := by kernel_rfl
end Dg
end
section
set_option Elab.async false
set_option linter.all false
set_option maxRecDepth 100000
set_option maxHeartbeats 4000000
/-! Marksheld, k13: what the defs do. -/
namespace Dg
open PySem
open Dy (E Es B S It Tg Tgs Lhs D DSp DK XQ Mp MO DEnds Sd)
open Dy

/-- the row of draws: cells, the place, the great number, the seed -/
def rowD (l : List Int) (i : Nat) (b s : Int) : List D := [.lst (l.map .int), .int (i : Nat), .int b, .int s]
def IsRow (o : MO) : Prop := ∃ l i b s, 0 ≤ b ∧ o = .lst (rowD l i b s)
/-- what a def may be asked with a row at p: the row is another one afterwards -/
def spPick : DSp := fun ds M Q _ => ∃ p o m, ds = [.ref p, .int m] ∧ M p = some o ∧ IsRow o ∧ 0 < m ∧ m < 1000 ∧ ∀ v o', 0 ≤ v → v < m → IsRow o' → Q (.int v) (updM M p o')
theorem w_pick (c : Str → DSp) (ds : List D) (M : Mp) (Q : DK) (E : XQ) (h : spPick ds M Q E) : wB E (b_law_pick c) (endsOf Q) (startD N_law_pick ds) M := by
  obtain ⟨p, o, m, rfl, hM, ⟨l, i, b, s, hb, rfl⟩, hm, hm2, hQ⟩ := h
  have e0 : ∀ (l : List Int) (i : Nat) (b s : Int), (rowD l i b s)[0]? = some (.lst (l.map .int)) := fun _ _ _ _ => rfl
  have e1 : ∀ (l : List Int) (i : Nat) (b s : Int), (rowD l i b s)[1]? = some (.int (i : Nat)) := fun _ _ _ _ => rfl
  have e2 : ∀ (l : List Int) (i : Nat) (b s : Int), (rowD l i b s)[2]? = some (.int b) := fun _ _ _ _ => rfl
  have e3 : ∀ (l : List Int) (i : Nat) (b s : Int), (rowD l i b s)[3]? = some (.int s) := fun _ _ _ _ => rfl
  have n1 : ∀ (l : List Int) (i : Nat) (b s : Int), (rowD l i b s).length = 4 := fun _ _ _ _ => rfl
  have s1 : ∀ (l : List Int) (i : Nat) (b s : Int) (j : Nat), (rowD l i b s).set 1 (.int (j : Nat)) = rowD l j b s := fun _ _ _ _ _ => rfl
  have s2 : ∀ (l : List Int) (i : Nat) (b s b' : Int), (rowD l i b s).set 2 (.int b') = rowD l i b' s := fun _ _ _ _ _ => rfl
  have s3 : ∀ (l : List Int) (i : Nat) (b s s' : Int), (rowD l i b s).set 3 (.int s') = rowD l i b s' := fun _ _ _ _ _ => rfl
  -- behind the first if
  have rest : ∀ (M' : Mp) (l : List Int) (i : Nat) (b s : Int) (x y : Option D), 0 ≤ b → M' p = some (.lst (rowD l i b s)) → (∀ o, updM M' p o = updM M p o) → (∀ v o', 0 ≤ v → v < m → IsRow o' → M' p = some o' → Q (.int v) M') → wB E (b_law_pick_5 c) (endsOf Q) [some (.ref p), some (.int m), x, y] M' := by
    intro M' l i b s x y hb hM' hu hq
    simp only [b_law_pick_5, wB, wS, wE, wEs, wT, dB, dVar, List.getElem?_cons_zero, fIx, ixD, seqOf, hM', atI_2, e2, fCmp, dOrd]
    by_cases c1 : 0 < b
    · simp only [c1, decide_true, if_true]
      simp only [b_law_pick_4, wB, wS, wE, wEs, dVar, wTg, tgSet, List.getElem?_cons_zero, List.getElem?_cons_succ, fIx, ixD, seqOf, hM', atI_2, e2, dBif, cInt, dBin, dMod]
      refine ⟨hm, ?_⟩
      simp only [b_law_pick_3, wB, wS, wE, wEs, dVar, wTg, tgSet, List.set_cons_succ, List.set_cons_zero, List.getElem?_cons_zero, List.getElem?_cons_succ, fIx, ixD, seqOf, hM', atI_2, e2, dBin, dFdiv]
      refine ⟨⟨hm, by omega⟩, ?_⟩
      simp only [fSet, hM', n1, ixN_2, s2, show (2 : Nat) < 4 from by omega, hu]
      simp only [b_law_pick_2, wB, wS, wE, dVar, List.getElem?_cons_zero, List.getElem?_cons_succ, endsOf]
      exact hQ _ _ (Int.emod_nonneg _ (by omega)) (Int.emod_lt_of_pos _ hm) ⟨l, i, _, s, Int.ediv_nonneg hb (by omega), rfl⟩
    · simp only [c1, decide_false, Bool.false_eq_true, if_false]
      simp only [b_law_pick_1, wB, wS, wE, wEs, dVar, List.getElem?_cons_zero, List.getElem?_cons_succ, fIx, ixD, seqOf, hM', atI_3, e3, dBif, cInt, dBin, dMul, dMod, endsOf]
      refine ⟨.inr (by omega), by omega, hm, ?_⟩
      exact hq _ _ (Int.emod_nonneg _ (by omega)) (Int.emod_lt_of_pos _ hm) ⟨l, i, b, s, hb, rfl⟩ hM'
  have upd1 : ∀ o o', updM (updM M p o) p o' = updM M p o' := fun o o' => updM_updM
  simp only [b_law_pick, wB, wS, wE, wT, dB, dVar, startD, N_law_pick, List.map, List.length, List.replicate, List.cons_append, List.nil_append, List.getElem?_cons_zero, fIx, ixD, seqOf, hM, atI_2, e2, fCmp]
  refine dEq_int ?_
  by_cases c0 : b = 0
  · subst c0
    simp only [Bool.false_eq_true, if_false, beq_self_eq_true, if_true]
    simp only [b_law_pick_12, wB, wS, wE, wEs, wT, dB, dVar, List.getElem?_cons_zero, fIx, ixD, seqOf, hM, atI_1, atI_0, e1, e0, fCmp, dBif, fLen, lenD, dOrd]
    by_cases c1 : i < l.length
    · have c1' : (i : Int) < ((l.map D.int).length : Nat) := by simpa using c1
      simp only [c1', decide_true, if_true]
      obtain ⟨x, hx⟩ : ∃ x, l[i]? = some x := ⟨_, List.getElem?_eq_getElem c1⟩
      have hx' : (l.map D.int)[i]? = some (.int x) := by simp [hx]
      simp only [b_law_pick_10, wB, wS, wE, dVar, wTg, tgSet, List.getElem?_cons_zero, List.set_cons_succ, List.set_cons_zero, fIx, ixD, seqOf, hM, atI_1, atI_0, e1, e0, atI_nat, hx']
      have ei : ((i : Int) + 1) = ((i + 1 : Nat) : Int) := by omega
      simp only [b_law_pick_9, wB, wS, wE, dVar, List.getElem?_cons_zero, fIx, ixD, seqOf, hM, atI_1, e1, dBin, dAdd, fSet, n1, ixN_1, show (1 : Nat) < 4 from by omega, ei, s1]
      simp only [b_law_pick_8, wB, wS, wE, wT, dB, dVar, List.getElem?_cons_zero, List.getElem?_cons_succ, dBin, dPow, fCmp, dOrd]
      refine ⟨⟨by omega, by omega, by decide⟩, ?_⟩
      by_cases c2 : (10 : Int) ^ (18 : Int).toNat ≤ x
      · simp only [c2, decide_true, if_true]
        simp only [b_law_pick_6, wB, wS, wE, dVar, List.getElem?_cons_zero, List.getElem?_cons_succ, fSet, updM_same, n1, ixN_2, show (2 : Nat) < 4 from by omega, s2, updM_updM]
        have hx0 : 0 ≤ x := by have : (0 : Int) ≤ 10 ^ (18 : Int).toNat := by decide
                               omega
        exact rest _ l (i + 1) x s _ _ hx0 updM_same (fun o => updM_updM) fun v o' h1 h2 h3 h4 => by
          rw [updM_same] at h4; cases h4; exact hQ v _ h1 h2 h3
      · simp only [c2, decide_false, Bool.false_eq_true, if_false]
        simp only [b_law_pick_7, wB, wS, wE, wEs, dVar, List.getElem?_cons_zero, List.getElem?_cons_succ, fIx, ixD, seqOf, updM_same, atI_3, e3, dBin, dMul, dAdd, dBif, cInt, dMod]
        refine ⟨.inr (by omega), .inr (by omega), by omega, ?_⟩
        simp only [fSet, updM_same, n1, ixN_3, show (3 : Nat) < 4 from by omega, s3, updM_updM]
        exact rest _ l (i + 1) 0 _ _ _ (Int.le_refl _) updM_same (fun o => updM_updM) fun v o' h1 h2 h3 h4 => by
          rw [updM_same] at h4; cases h4; exact hQ v _ h1 h2 h3
    · have c1' : ¬ (i : Int) < ((l.map D.int).length : Nat) := by simpa using c1
      simp only [c1', decide_false, Bool.false_eq_true, if_false]
      simp only [b_law_pick_11, wB, wS, wE, wEs, dVar, List.getElem?_cons_zero, fIx, ixD, seqOf, hM, atI_3, e3, dBin, dMul, dAdd, dBif, cInt, dMod]
      refine ⟨.inr (by omega), by omega, ?_⟩
      simp only [fSet, hM, n1, ixN_3, show (3 : Nat) < 4 from by omega, s3]
      exact rest _ l i 0 _ _ _ (Int.le_refl _) updM_same (fun o => updM_updM) fun v o' h1 h2 h3 h4 => by
        rw [updM_same] at h4; cases h4; exact hQ v _ h1 h2 h3
  · have c0' : (b == 0) = false := by simpa using c0
    simp only [c0', Bool.false_eq_true, if_false]
    exact rest M l i b s _ _ hb hM (fun o => rfl) fun v o' h1 h2 h3 h4 => by
      have := hQ v o' h1 h2 h3
      have e : updM M p o' = M := by
        funext a; by_cases z : a = p
        · subst z; rw [updM_same, h4]
        · rw [updM_ne z]
      rw [e] at this; exact this
end Dg
end
section
set_option Elab.async false
set_option linter.all false
set_option maxRecDepth 100000
set_option maxHeartbeats 4000000
/-! Marksheld: drawn books. -/
namespace Dg
open PySem
open Dy (E Es B S It Tg Tgs Lhs D DSp DK XQ Mp MO DEnds Sd)
open Dy

inductive Prt where
  | cnt (least : Bool) (d : Str) (n : Int)
  | mk (has : Bool) (m : Str)
  deriving DecidableEq
inductive Sty where
  | always | ground | till (d : Str)
  deriving DecidableEq
def prtD : Prt → D
  | .cnt l d n => .tup [.str (if l then "least" else "below"), .str d, .int n]
  | .mk h m => .tup [.str (if h then "has" else "lacks"), .str m]
def styD : Sty → D
  | .always => .tup [.str "always"]
  | .ground => .tup [.str "ground"]
  | .till d => .tup [.str "till", .str d]
abbrev Mrk := List Prt × Sty
def mrkD (m : Mrk) : D := .tup [.tup (m.1.map prtD), styD m.2]
def deedsD (l : List (Str × Bool)) : List (D × D) := l.map fun p => (.str p.1, .str (if p.2 then "run" else "sum"))
def marksD (l : List (Str × Mrk)) : List (D × D) := l.map fun p => (.str p.1, mrkD p.2)
structure Bk where
  deeds : List (Str × Bool)
  marks : List (Str × Mrk)
  most : Int
def tL (dl : List (Str × Bool)) (x : D) (k : Int) : List (D × D) := [(.str "deeds", .dct (deedsD dl)), (.str "marks", x), (.str "most", .int k)]
def tD (b : Bk) : D := .dct (tL b.deeds (.dct (marksD b.marks)) b.most)
def OkPrt (dl : List Str) (nm : List Str) (own : Str) (k : Int) : Prt → Prop
  | .cnt _ d n => d ∈ dl ∧ 1 ≤ n ∧ n ≤ k
  | .mk _ m => m ∈ nm ∧ m ≠ own
def OkSty (dl : List Str) : Sty → Prop
  | .till d => d ∈ dl
  | _ => True
theorem t_deeds (dl : List (Str × Bool)) (x : D) (k : Int) : keyOk (.str "deeds") (tL dl x k) = true ∧ getD (tL dl x k) (.str "deeds") = some (.dct (deedsD dl)) := ⟨by rfl, by rfl⟩
theorem t_marks (dl : List (Str × Bool)) (x : D) (k : Int) : keyOk (.str "marks") (tL dl x k) = true ∧ getD (tL dl x k) (.str "marks") = some x := ⟨by rfl, by rfl⟩
theorem t_most (dl : List (Str × Bool)) (x : D) (k : Int) : keyOk (.str "most") (tL dl x k) = true ∧ getD (tL dl x k) (.str "most") = some (.int k) := ⟨by rfl, by rfl⟩
theorem deeds_keys (dl : List (Str × Bool)) : (deedsD dl).map (·.1) = (dl.map (·.1)).map D.str := by
  unfold deedsD
  rw [List.map_map, List.map_map]; rfl
def spPart : DSp := fun ds M Q _ => ∃ p o pt dl x k nm own, ds = [.ref p, .ref pt, .lst (nm.map .str), .str own] ∧ M p = some o ∧ IsRow o ∧ p ≠ pt ∧ M pt = some (.dct (tL dl x k)) ∧ dl ≠ [] ∧ dl.length ≤ 3 ∧ 1 ≤ k ∧ k ≤ 3 ∧ nm.length ≤ 4 ∧
  ∀ r o', OkPrt (dl.map (·.1)) nm own k r → IsRow o' → Q (prtD r) (updM M p o')
theorem others_eq (own : Str) (nm : List Str) : (nm.map D.str).filterMap (fun d => if eqD d (.str own) = true then none else some d) = (nm.filter fun x => x ≠ own).map D.str := by
  induction nm with
  | nil => rfl
  | cons x r ih =>
    have e : eqD (.str x) (.str own) = (x == own) := rfl
    rw [List.map_cons, List.filterMap_cons, e, ih, List.filter_cons]
    by_cases z : x = own
    · subst z; simp
    · have : (x == own) = false := by simpa using z
      simp [this, z]
theorem w_part (c : Str → DSp) (hc : c "_law_pick" = spPick) (ds : List D) (M : Mp) (Q : DK) (E : XQ) (h : spPart ds M Q E) : wB E (b_law_part c) (endsOf Q) (startD N_law_part ds) M := by
  obtain ⟨p, o, pt, dl, x, k, nm, own, rfl, hM, hr, hne, hT, hd0, hd3, hk1, hk3, hnm, hQ⟩ := h
  have eN : N_law_part.length = 8 := by rfl
  have hz : 1000 ≤ sizeLine := by decide
  simp only [b_law_part, wB, wS, wE, wEs, wPs, wT, wAnd, wOr, wAndT, wOrT, wIfs, wPart, wIt, dB, dVar, wTg, tgSet, tgSets, Tg.idx, Tgs.idx, List.getElem?_cons_zero, List.getElem?_cons_succ, List.set_cons_zero, List.set_cons_succ, fIx, ixD, seqOf, dctOf, lstOf, fCmp, fNe, dOrd, dBif, dBin, dAdd, dSub, dMul, dMod, cInt, fLen, lenD, fTup, endsOf, startD, mkL, dSl, cList, cSorted, itemsOf, strsOf_map, Bool.false_eq_true, if_true, if_false, List.map, List.length, List.replicate, List.cons_append, List.nil_append, eN]
  intro Dl hDl
  refine lc_pure (f := fun d => if eqD d (.str own) = true then none else some d) hDl (nm.map .str) [] (by simp; omega) (fun d hd M' _ K hK => ?_) ?_ _
  · obtain ⟨z, hz, rfl⟩ := List.mem_map.mp hd
    simp only [wipeD, wB, wS, wE, wEs, wPs, wT, wAnd, wOr, wAndT, wOrT, wIfs, wPart, wIt, dB, dVar, wTg, tgSet, tgSets, Tg.idx, Tgs.idx, List.getElem?_cons_zero, List.getElem?_cons_succ, List.set_cons_zero, List.set_cons_succ, fIx, ixD, seqOf, dctOf, lstOf, fCmp, fNe, dOrd, dBif, dBin, dAdd, dSub, dMul, dMod, cInt, fLen, lenD, fTup, endsOf, startD, mkL, dSl, cList, cSorted, itemsOf, strsOf_map, Bool.false_eq_true, if_true, if_false, List.map, List.length, List.replicate, List.cons_append, List.nil_append]
    refine dEq_str ?_
    have e : eqD (.str z) (.str own) = (z == own) := rfl
    rw [e] at hK
    cases q : (z == own) with
    | true => simpa [q] using hK
    | false => simpa [q] using hK
  rw [List.nil_append, others_eq]
  generalize hot : nm.filter (fun x => x ≠ own) = ot
  -- the turn
  simp only [b_law_part_5, wB, wS, wE, wEs, wPs, wT, wAnd, wOr, wAndT, wOrT, wIfs, wPart, wIt, dB, dVar, wTg, tgSet, tgSets, Tg.idx, Tgs.idx, List.getElem?_cons_zero, List.getElem?_cons_succ, List.set_cons_zero, List.set_cons_succ, fIx, ixD, seqOf, dctOf, lstOf, fCmp, fNe, dOrd, dBif, dBin, dAdd, dSub, dMul, dMod, cInt, fLen, lenD, fTup, endsOf, startD, mkL, dSl, cList, cSorted, itemsOf, strsOf_map, Bool.false_eq_true, if_true, if_false, List.map, List.length, List.replicate, List.cons_append, List.nil_append, hc]
  refine ⟨p, o, 6, rfl, hM, hr, by omega, by omega, fun v o1 v0 v6 r1 => ?_⟩
  have T1 : (updM M p o1) pt = some (.dct (tL dl x k)) := by rw [updM_ne (Ne.symm hne)]; exact hT
  have key0 : keyOk (.str "deeds") (tL dl x k) = true := (t_deeds dl x k).1
  have key1 : getD (tL dl x k) (.str "deeds") = some (.dct (deedsD dl)) := (t_deeds dl x k).2
  have key2 : keyOk (.str "most") (tL dl x k) = true := (t_most dl x k).1
  have key3 : getD (tL dl x k) (.str "most") = some (.int k) := (t_most dl x k).2
  simp only [b_law_part_4, wB, wS, wE, wEs, wPs, wT, wAnd, wOr, wAndT, wOrT, wIfs, wPart, wIt, dB, dVar, wTg, tgSet, tgSets, Tg.idx, Tgs.idx, List.getElem?_cons_zero, List.getElem?_cons_succ, List.set_cons_zero, List.set_cons_succ, fIx, ixD, seqOf, dctOf, lstOf, fCmp, fNe, dOrd, dBif, dBin, dAdd, dSub, dMul, dMod, cInt, fLen, lenD, fTup, endsOf, startD, mkL, dSl, cList, cSorted, itemsOf, strsOf_map, Bool.false_eq_true, if_true, if_false, List.map, List.length, List.replicate, List.cons_append, List.nil_append]
  have A : wB E (b_law_part_3 c) { nx := wB E (b_law_part_1 c) { nx := fun x M => Q .non M, rt := Q }, rt := Q } [some (.ref p), some (.ref pt), some (.lst (nm.map .str)), some (.str own), some (.lst (ot.map .str)), none, some (.int v), none] (updM M p o1) := by
    simp only [b_law_part_3, wB, wS, wE, wEs, wPs, wT, wAnd, wOr, wAndT, wOrT, wIfs, wPart, wIt, dB, dVar, wTg, tgSet, tgSets, Tg.idx, Tgs.idx, List.getElem?_cons_zero, List.getElem?_cons_succ, List.set_cons_zero, List.set_cons_succ, fIx, ixD, seqOf, dctOf, lstOf, fCmp, fNe, dOrd, dBif, dBin, dAdd, dSub, dMul, dMod, cInt, fLen, lenD, fTup, endsOf, startD, mkL, dSl, cList, cSorted, itemsOf, strsOf_map, Bool.false_eq_true, if_true, if_false, List.map, List.length, List.replicate, List.cons_append, List.nil_append, T1, key0, key1]
    refine fz_newL ?_
    simp only [wB, wS, wE, wEs, wPs, wT, wAnd, wOr, wAndT, wOrT, wIfs, wPart, wIt, dB, dVar, wTg, tgSet, tgSets, Tg.idx, Tgs.idx, List.getElem?_cons_zero, List.getElem?_cons_succ, List.set_cons_zero, List.set_cons_succ, fIx, ixD, seqOf, dctOf, lstOf, fCmp, fNe, dOrd, dBif, dBin, dAdd, dSub, dMul, dMod, cInt, fLen, lenD, fTup, endsOf, startD, mkL, dSl, cList, cSorted, itemsOf, strsOf_map, Bool.false_eq_true, if_true, if_false, List.map, List.length, List.replicate, List.cons_append, List.nil_append, deeds_keys]
    refine ⟨.inl (by simpa using hd0), by simp; omega, fz_newL ?_⟩
    simp only [wB, wS, wE, wEs, wPs, wT, wAnd, wOr, wAndT, wOrT, wIfs, wPart, wIt, dB, dVar, wTg, tgSet, tgSets, Tg.idx, Tgs.idx, List.getElem?_cons_zero, List.getElem?_cons_succ, List.set_cons_zero, List.set_cons_succ, fIx, ixD, seqOf, dctOf, lstOf, fCmp, fNe, dOrd, dBif, dBin, dAdd, dSub, dMul, dMod, cInt, fLen, lenD, fTup, endsOf, startD, mkL, dSl, cList, cSorted, itemsOf, strsOf_map, Bool.false_eq_true, if_true, if_false, List.map, List.length, List.replicate, List.cons_append, List.nil_append, T1, key0, key1, hc]
    refine ⟨p, o1, _, rfl, updM_same, r1, by unfold deedsD; cases dl with | nil => exact absurd rfl hd0 | cons _ _ => simp, by unfold deedsD; simp; omega, fun v2 o2 w0 w1 r2 => ?_⟩
    rw [updM_updM]
    obtain ⟨dn, hdn, hmem⟩ := atI_str (xs := srt (dl.map (·.1))) w0 (by rw [srt_len, List.length_map]; unfold deedsD at w1; simpa using w1)
    simp only [wB, wS, wE, wEs, wPs, wT, wAnd, wOr, wAndT, wOrT, wIfs, wPart, wIt, dB, dVar, wTg, tgSet, tgSets, Tg.idx, Tgs.idx, List.getElem?_cons_zero, List.getElem?_cons_succ, List.set_cons_zero, List.set_cons_succ, fIx, ixD, seqOf, dctOf, lstOf, fCmp, fNe, dOrd, dBif, dBin, dAdd, dSub, dMul, dMod, cInt, fLen, lenD, fTup, endsOf, startD, mkL, dSl, cList, cSorted, itemsOf, strsOf_map, Bool.false_eq_true, if_true, if_false, List.map, List.length, List.replicate, List.cons_append, List.nil_append, hdn, b_law_part_2, hc]
    refine ⟨by omega, p, o2, 3, rfl, updM_same, r2, by omega, by omega, fun v3 o3 x0 x1 r3 => ?_⟩
    rw [updM_updM]
    obtain ⟨l, hl⟩ : ∃ l : Bool, L2.atI [D.str "least", D.str "least", D.str "below"] v3 = some (.str (if l then "least" else "below")) := by
      have : v3 = 0 ∨ v3 = 1 ∨ v3 = 2 := by omega
      rcases this with rfl | rfl | rfl
      · exact ⟨true, rfl⟩
      · exact ⟨true, rfl⟩
      · exact ⟨false, rfl⟩
    have T3 : (updM M p o3) pt = some (.dct (tL dl x k)) := by rw [updM_ne (Ne.symm hne)]; exact hT
    simp only [wB, wS, wE, wEs, wPs, wT, wAnd, wOr, wAndT, wOrT, wIfs, wPart, wIt, dB, dVar, wTg, tgSet, tgSets, Tg.idx, Tgs.idx, List.getElem?_cons_zero, List.getElem?_cons_succ, List.set_cons_zero, List.set_cons_succ, fIx, ixD, seqOf, dctOf, lstOf, fCmp, fNe, dOrd, dBif, dBin, dAdd, dSub, dMul, dMod, cInt, fLen, lenD, fTup, endsOf, startD, mkL, dSl, cList, cSorted, itemsOf, strsOf_map, Bool.false_eq_true, if_true, if_false, List.map, List.length, List.replicate, List.cons_append, List.nil_append, hl, T3, key2, key3]
    refine ⟨p, o3, k, rfl, updM_same, r3, by omega, by omega, fun v4 o4 y0 y1 r4 => ?_⟩
    rw [updM_updM]
    refine ⟨by omega, ?_⟩
    exact hQ (.cnt l dn (1 + v4)) o4 ⟨(srt_perm _).mem_iff.mp hmem, by omega, by omega⟩ r4
  by_cases c4 : v < 4
  · simp only [c4, decide_true, if_true]; exact A
  · simp only [c4, decide_false, Bool.false_eq_true, if_false]
    refine ⟨by omega, dEq_strs_nil ?_⟩
    cases ot with
    | nil => simpa using A
    | cons z zs =>
      simp only [List.isEmpty_cons, Bool.false_eq_true, if_false]
      obtain ⟨hb, ehb⟩ : ∃ hb : Bool, L2.atI [D.str "has", D.str "lacks"] (v - 4) = some (.str (if hb then "has" else "lacks")) := by
        have : v = 4 ∨ v = 5 := by omega
        rcases this with rfl | rfl
        · exact ⟨true, rfl⟩
        · exact ⟨false, rfl⟩
      have lot : (z :: zs).length ≤ 4 := by rw [← hot]; exact Nat.le_trans (List.length_filter_le _ _) hnm
      simp only [b_law_part_1, wB, wS, wE, wEs, wPs, wT, wAnd, wOr, wAndT, wOrT, wIfs, wPart, wIt, dB, dVar, wTg, tgSet, tgSets, Tg.idx, Tgs.idx, List.getElem?_cons_zero, List.getElem?_cons_succ, List.set_cons_zero, List.set_cons_succ, fIx, ixD, seqOf, dctOf, lstOf, fCmp, fNe, dOrd, dBif, dBin, dAdd, dSub, dMul, dMod, cInt, fLen, lenD, fTup, endsOf, startD, mkL, dSl, cList, cSorted, itemsOf, strsOf_map, Bool.false_eq_true, if_true, if_false, List.map, List.length, List.replicate, List.cons_append, List.nil_append]
      refine ⟨by omega, ?_⟩
      simp only [ehb, hc]
      refine ⟨p, o1, _, rfl, updM_same, r1, by omega, by simp at lot ⊢; omega, fun v2 o2 w0 w1 r2 => ?_⟩
      rw [updM_updM]
      obtain ⟨mn, hmn, hmem⟩ := atI_str (xs := z :: zs) w0 (by simpa using w1)
      simp only [List.map] at hmn
      simp only [hmn]
      refine ⟨by omega, ?_⟩
      have hm2 : mn ∈ nm.filter (fun x => x ≠ own) := by rw [hot]; exact hmem
      rw [List.mem_filter] at hm2
      exact hQ (.mk hb mn) o2 ⟨hm2.1, by simpa using hm2.2⟩ r2
end Dg
end
section
set_option Elab.async false
set_option linter.all false
set_option maxRecDepth 100000
set_option maxHeartbeats 4000000
/-! Marksheld: drawn grounds, stays, books. -/
namespace Dg
open PySem
open Dy (E Es B S It Tg Tgs Lhs D DSp DK XQ Mp MO DEnds Sd)
open Dy

theorem eq_prt (a b : Prt) : eqD (prtD a) (prtD b) = decide (a = b) := by
  cases a with
  | cnt l d n =>
    cases b with
    | cnt l' d' n' =>
      show (((if l then "least" else "below" : Str) == (if l' then "least" else "below" : Str)) && ((d == d') && ((n == n') && true))) = _
      have e : (((if l then "least" else "below" : Str) == (if l' then "least" else "below" : Str))) = decide (l = l') := by
        cases l <;> cases l' <;> decide +kernel
      rw [e, Bool.eq_iff_iff]
      simp
    | mk h' m' =>
      show (((if l then "least" else "below" : Str) == (if h' then "has" else "lacks" : Str)) && ((d == m') && eqDs [.int n] [])) = _
      show (_ && (_ && false)) = _
      simp
  | mk h m =>
    cases b with
    | cnt l' d' n' =>
      show (((if h then "has" else "lacks" : Str) == (if l' then "least" else "below" : Str)) && ((m == d') && false)) = _
      simp
    | mk h' m' =>
      show (((if h then "has" else "lacks" : Str) == (if h' then "has" else "lacks" : Str)) && ((m == m') && true)) = _
      have e : (((if h then "has" else "lacks" : Str) == (if h' then "has" else "lacks" : Str))) = decide (h = h') := by
        cases h <;> cases h' <;> decide +kernel
      rw [e, Bool.eq_iff_iff]
      simp
theorem plain_prt (a : Prt) : plain (prtD a) = true := by cases a <;> rfl
theorem dep_prt (a : Prt) : dep (prtD a) ≤ 1 := by cases a <;> simp [prtD, dep, deps]
theorem plains_prt : ∀ l : List Prt, plains (l.map prtD) = true
  | [] => rfl
  | a :: r => by rw [List.map_cons, plains, plain_prt, plains_prt r]; rfl
theorem any_prt (a : Prt) (l : List Prt) : ((l.map prtD).any fun z => eqD z (prtD a)) = decide (a ∈ l) := by
  rw [Bool.eq_iff_iff]
  simp only [List.any_map, List.any_eq_true, Function.comp, eq_prt, decide_eq_true_eq]
  exact ⟨fun ⟨x, hx, e⟩ => e ▸ hx, fun h => ⟨a, h, rfl⟩⟩
theorem in_prt {neg : Bool} {a : Prt} {l : List Prt} {M : Mp} {Q : DK} (h : Q (.bl (if neg then !decide (a ∈ l) else decide (a ∈ l))) M) : fIn neg (prtD a) (.tup (l.map prtD)) M Q := by
  have e : inD M (prtD a) (.tup (l.map prtD)) = some (decide (a ∈ l)) := by
    show (if (plain (prtD a) && plains (l.map prtD) && (decide (dep (prtD a) ≤ 60) || decide (deps (l.map prtD) ≤ 60))) = true then some ((l.map prtD).any fun z => eqD z (prtD a)) else none) = _
    have := dep_prt a
    rw [plain_prt, plains_prt, decide_eq_true (show dep (prtD a) ≤ 60 by omega), any_prt]
    rfl
  unfold fIn
  rw [e]
  exact h
def OkG (dl nm : List Str) (own : Str) (k : Int) (g : List Prt) : Prop := g ≠ [] ∧ g.length ≤ 3 ∧ g.Nodup ∧ ∀ r ∈ g, OkPrt dl nm own k r
def spGround : DSp := fun ds M Q _ => ∃ p o pt dl x k nm own, ds = [.ref p, .ref pt, .lst (nm.map .str), .str own] ∧ M p = some o ∧ IsRow o ∧ p ≠ pt ∧ M pt = some (.dct (tL dl x k)) ∧ dl ≠ [] ∧ dl.length ≤ 3 ∧ 1 ≤ k ∧ k ≤ 3 ∧ nm.length ≤ 4 ∧
  ∀ g o', OkG (dl.map (·.1)) nm own k g → IsRow o' → Q (.tup (g.map prtD)) (updM M p o')
theorem w_ground (c : Str → DSp) (hc : c "_law_pick" = spPick) (hc2 : c "_law_part" = spPart) (ds : List D) (M : Mp) (Q : DK) (E : XQ) (h : spGround ds M Q E) : wB E (b_law_ground c) (endsOf Q) (startD N_law_ground ds) M := by
  obtain ⟨p, o, pt, dl, x, k, nm, own, rfl, hM, hr, hne, hT, hd0, hd3, hk1, hk3, hnm, hQ⟩ := h
  have eN : N_law_ground.length = 7 := by rfl
  have hz : 1000 ≤ sizeLine := by decide
  simp only [b_law_ground, wB, wS, wE, wEs, wPs, wT, wAnd, wOr, wAndT, wOrT, wIfs, wPart, wIt, dB, dVar, wTg, tgSet, tgSets, Tg.idx, Tgs.idx, List.getElem?_cons_zero, List.getElem?_cons_succ, List.set_cons_zero, List.set_cons_succ, fIx, ixD, seqOf, dctOf, lstOf, fCmp, fNe, dOrd, dBif, dBin, dAdd, dSub, dMul, dMod, cInt, fLen, lenD, fTup, endsOf, startD, mkL, dSl, cList, cSorted, itemsOf, strsOf_map, Bool.false_eq_true, if_true, if_false, List.map, List.length, List.replicate, List.cons_append, List.nil_append, eN]
  refine ⟨by omega, ?_⟩
  simp only [b_law_ground_5, wB, wS, wE, wEs, wPs, wT, wAnd, wOr, wAndT, wOrT, wIfs, wPart, wIt, dB, dVar, wTg, tgSet, tgSets, Tg.idx, Tgs.idx, List.getElem?_cons_zero, List.getElem?_cons_succ, List.set_cons_zero, List.set_cons_succ, fIx, ixD, seqOf, dctOf, lstOf, fCmp, fNe, dOrd, dBif, dBin, dAdd, dSub, dMul, dMod, cInt, fLen, lenD, fTup, endsOf, startD, mkL, dSl, cList, cSorted, itemsOf, strsOf_map, Bool.false_eq_true, if_true, if_false, List.map, List.length, List.replicate, List.cons_append, List.nil_append, hc]
  refine ⟨p, o, 3, rfl, hM, hr, by omega, by omega, fun v o1 v0 v1 r1 => ⟨by omega, by omega, ?_⟩⟩
  refine forN_inv (fun items σ M' => ∃ g o' a b, σ = [some (.ref p), some (.ref pt), some (.lst (nm.map .str)), some (.str own), some (.tup (g.map prtD)), a, b] ∧ M' = updM M p o' ∧ IsRow o' ∧ g.Nodup ∧ (∀ r ∈ g, OkPrt (dl.map (·.1)) nm own k r) ∧ g.length + items.length ≤ 3 ∧ (g = [] → items ≠ [])) ?_ ?_ _ _ _ ?_
  · rintro d ds σ M' K ⟨g, o', a, b, rfl, rfl, ro, nd, ok, len, ne⟩ hK
    simp only [wB, wS, wE, wEs, wPs, wT, wAnd, wOr, wAndT, wOrT, wIfs, wPart, wIt, dB, dVar, wTg, tgSet, tgSets, Tg.idx, Tgs.idx, List.getElem?_cons_zero, List.getElem?_cons_succ, List.set_cons_zero, List.set_cons_succ, fIx, ixD, seqOf, dctOf, lstOf, fCmp, fNe, dOrd, dBif, dBin, dAdd, dSub, dMul, dMod, cInt, fLen, lenD, fTup, endsOf, startD, mkL, dSl, cList, cSorted, itemsOf, strsOf_map, Bool.false_eq_true, if_true, if_false, List.map, List.length, List.replicate, List.cons_append, List.nil_append, b_law_ground_4, hc2]
    have T1 : (updM M p o') pt = some (.dct (tL dl x k)) := by rw [updM_ne (Ne.symm hne)]; exact hT
    refine ⟨p, o', pt, dl, x, k, nm, own, rfl, updM_same, ro, hne, T1, hd0, hd3, hk1, hk3, hnm, fun r o2 okr r2 => ?_⟩
    rw [updM_updM]
    simp only [wB, wS, wE, wEs, wPs, wT, wAnd, wOr, wAndT, wOrT, wIfs, wPart, wIt, dB, dVar, wTg, tgSet, tgSets, Tg.idx, Tgs.idx, List.getElem?_cons_zero, List.getElem?_cons_succ, List.set_cons_zero, List.set_cons_succ, fIx, ixD, seqOf, dctOf, lstOf, fCmp, fNe, dOrd, dBif, dBin, dAdd, dSub, dMul, dMod, cInt, fLen, lenD, fTup, endsOf, startD, mkL, dSl, cList, cSorted, itemsOf, strsOf_map, Bool.false_eq_true, if_true, if_false, List.map, List.length, List.replicate, List.cons_append, List.nil_append, b_law_ground_3]
    refine in_prt ?_
    simp only [List.length_cons] at len
    by_cases hin : r ∈ g
    · simp only [hin, decide_true, Bool.not_true, if_true, Bool.false_eq_true, if_false]
      exact hK _ _ ⟨g, o2, _, _, rfl, rfl, r2, nd, ok, by omega, fun e => by subst e; cases hin⟩
    · simp only [hin, decide_false, Bool.not_false, if_true]
      simp only [b_law_ground_2, wB, wS, wE, wEs, wPs, wT, wAnd, wOr, wAndT, wOrT, wIfs, wPart, wIt, dB, dVar, wTg, tgSet, tgSets, Tg.idx, Tgs.idx, List.getElem?_cons_zero, List.getElem?_cons_succ, List.set_cons_zero, List.set_cons_succ, fIx, ixD, seqOf, dctOf, lstOf, fCmp, fNe, dOrd, dBif, dBin, dAdd, dSub, dMul, dMod, cInt, fLen, lenD, fTup, endsOf, startD, mkL, dSl, cList, cSorted, itemsOf, strsOf_map, Bool.false_eq_true, if_true, if_false, List.map, List.length, List.replicate, List.cons_append, List.nil_append]
      refine ⟨by omega, by simp; omega, ?_⟩
      refine hK _ _ ⟨g ++ [r], o2, some d, some (prtD r), by simp, rfl, r2, ?_, ?_, by simp; omega, fun e => by simp at e⟩
      · rw [List.nodup_append]
        exact ⟨nd, by simp, fun a ha b hb e => by rw [List.mem_singleton] at hb; subst hb; subst e; exact hin ha⟩
      · intro y hy
        rcases List.mem_append.mp hy with hy | hy
        · exact ok y hy
        · rw [List.mem_singleton] at hy; subst hy; exact okr
  · rintro σ M' ⟨g, o', a, b, rfl, rfl, ro, nd, ok, len, ne⟩
    simp only [b_law_ground_1, wB, wS, wE, wEs, wPs, wT, wAnd, wOr, wAndT, wOrT, wIfs, wPart, wIt, dB, dVar, wTg, tgSet, tgSets, Tg.idx, Tgs.idx, List.getElem?_cons_zero, List.getElem?_cons_succ, List.set_cons_zero, List.set_cons_succ, fIx, ixD, seqOf, dctOf, lstOf, fCmp, fNe, dOrd, dBif, dBin, dAdd, dSub, dMul, dMod, cInt, fLen, lenD, fTup, endsOf, startD, mkL, dSl, cList, cSorted, itemsOf, strsOf_map, Bool.false_eq_true, if_true, if_false, List.map, List.length, List.replicate, List.cons_append, List.nil_append]
    refine hQ g o' ⟨fun e => ne e rfl, by simpa using len, nd, ok⟩ ro
  · exact ⟨[], o1, _, _, rfl, rfl, r1, List.nodup_nil, fun r hr => (nomatch hr), by simp [Src.items, rngD_len]; omega, fun _ => by simp [Src.items, rngD]; omega⟩
def spStay : DSp := fun ds M Q _ => ∃ p o pt dl x k, ds = [.ref p, .ref pt] ∧ M p = some o ∧ IsRow o ∧ p ≠ pt ∧ M pt = some (.dct (tL dl x k)) ∧ dl ≠ [] ∧ dl.length ≤ 3 ∧
  ∀ s o', OkSty (dl.map (·.1)) s → IsRow o' → Q (styD s) (updM M p o')
theorem w_stay (c : Str → DSp) (hc : c "_law_pick" = spPick) (ds : List D) (M : Mp) (Q : DK) (E : XQ) (h : spStay ds M Q E) : wB E (b_law_stay c) (endsOf Q) (startD N_law_stay ds) M := by
  obtain ⟨p, o, pt, dl, x, k, rfl, hM, hr, hne, hT, hd0, hd3, hQ⟩ := h
  have eN : N_law_stay.length = 3 := by rfl
  have hz : 1000 ≤ sizeLine := by decide
  simp only [b_law_stay, wB, wS, wE, wEs, wPs, wT, wAnd, wOr, wAndT, wOrT, wIfs, wPart, wIt, dB, dVar, wTg, tgSet, tgSets, Tg.idx, Tgs.idx, List.getElem?_cons_zero, List.getElem?_cons_succ, List.set_cons_zero, List.set_cons_succ, fIx, ixD, seqOf, dctOf, lstOf, fCmp, fNe, dOrd, dBif, dBin, dAdd, dSub, dMul, dMod, cInt, fLen, lenD, fTup, endsOf, startD, mkL, dSl, cList, cSorted, itemsOf, strsOf_map, Bool.false_eq_true, if_true, if_false, List.map, List.length, List.replicate, List.cons_append, List.nil_append, eN, hc]
  refine ⟨p, o, 4, rfl, hM, hr, by omega, by omega, fun v o1 v0 v1 r1 => ?_⟩
  simp only [b_law_stay_5, wB, wS, wE, wEs, wPs, wT, wAnd, wOr, wAndT, wOrT, wIfs, wPart, wIt, dB, dVar, wTg, tgSet, tgSets, Tg.idx, Tgs.idx, List.getElem?_cons_zero, List.getElem?_cons_succ, List.set_cons_zero, List.set_cons_succ, fIx, ixD, seqOf, dctOf, lstOf, fCmp, fNe, dOrd, dBif, dBin, dAdd, dSub, dMul, dMod, cInt, fLen, lenD, fTup, endsOf, startD, mkL, dSl, cList, cSorted, itemsOf, strsOf_map, Bool.false_eq_true, if_true, if_false, List.map, List.length, List.replicate, List.cons_append, List.nil_append]
  refine dEq_int ?_
  by_cases c0 : v = 0
  · subst c0
    simp only [beq_self_eq_true, Bool.false_eq_true, if_false, if_true]
    simp only [b_law_stay_4, wB, wS, wE, wEs, wPs, wT, wAnd, wOr, wAndT, wOrT, wIfs, wPart, wIt, dB, dVar, wTg, tgSet, tgSets, Tg.idx, Tgs.idx, List.getElem?_cons_zero, List.getElem?_cons_succ, List.set_cons_zero, List.set_cons_succ, fIx, ixD, seqOf, dctOf, lstOf, fCmp, fNe, dOrd, dBif, dBin, dAdd, dSub, dMul, dMod, cInt, fLen, lenD, fTup, endsOf, startD, mkL, dSl, cList, cSorted, itemsOf, strsOf_map, Bool.false_eq_true, if_true, if_false, List.map, List.length, List.replicate, List.cons_append, List.nil_append]
    exact ⟨by omega, hQ .always o1 trivial r1⟩
  · have e0 : (v == 0) = false := by simpa using c0
    simp only [e0, Bool.false_eq_true, if_false]
    simp only [b_law_stay_3, wB, wS, wE, wEs, wPs, wT, wAnd, wOr, wAndT, wOrT, wIfs, wPart, wIt, dB, dVar, wTg, tgSet, tgSets, Tg.idx, Tgs.idx, List.getElem?_cons_zero, List.getElem?_cons_succ, List.set_cons_zero, List.set_cons_succ, fIx, ixD, seqOf, dctOf, lstOf, fCmp, fNe, dOrd, dBif, dBin, dAdd, dSub, dMul, dMod, cInt, fLen, lenD, fTup, endsOf, startD, mkL, dSl, cList, cSorted, itemsOf, strsOf_map, Bool.false_eq_true, if_true, if_false, List.map, List.length, List.replicate, List.cons_append, List.nil_append]
    by_cases c3 : v < 3
    · simp only [c3, decide_true, if_true]
      simp only [b_law_stay_2, wB, wS, wE, wEs, wPs, wT, wAnd, wOr, wAndT, wOrT, wIfs, wPart, wIt, dB, dVar, wTg, tgSet, tgSets, Tg.idx, Tgs.idx, List.getElem?_cons_zero, List.getElem?_cons_succ, List.set_cons_zero, List.set_cons_succ, fIx, ixD, seqOf, dctOf, lstOf, fCmp, fNe, dOrd, dBif, dBin, dAdd, dSub, dMul, dMod, cInt, fLen, lenD, fTup, endsOf, startD, mkL, dSl, cList, cSorted, itemsOf, strsOf_map, Bool.false_eq_true, if_true, if_false, List.map, List.length, List.replicate, List.cons_append, List.nil_append]
      exact ⟨by omega, hQ .ground o1 trivial r1⟩
    · simp only [c3, decide_false, Bool.false_eq_true, if_false]
      have T1 : (updM M p o1) pt = some (.dct (tL dl x k)) := by rw [updM_ne (Ne.symm hne)]; exact hT
      have key0 : keyOk (.str "deeds") (tL dl x k) = true := (t_deeds dl x k).1
      have key1 : getD (tL dl x k) (.str "deeds") = some (.dct (deedsD dl)) := (t_deeds dl x k).2
      simp only [b_law_stay_1, wB, wS, wE, wEs, wPs, wT, wAnd, wOr, wAndT, wOrT, wIfs, wPart, wIt, dB, dVar, wTg, tgSet, tgSets, Tg.idx, Tgs.idx, List.getElem?_cons_zero, List.getElem?_cons_succ, List.set_cons_zero, List.set_cons_succ, fIx, ixD, seqOf, dctOf, lstOf, fCmp, fNe, dOrd, dBif, dBin, dAdd, dSub, dMul, dMod, cInt, fLen, lenD, fTup, endsOf, startD, mkL, dSl, cList, cSorted, itemsOf, strsOf_map, Bool.false_eq_true, if_true, if_false, List.map, List.length, List.replicate, List.cons_append, List.nil_append, T1, key0, key1]
      refine fz_newL ?_
      simp only [wB, wS, wE, wEs, wPs, wT, wAnd, wOr, wAndT, wOrT, wIfs, wPart, wIt, dB, dVar, wTg, tgSet, tgSets, Tg.idx, Tgs.idx, List.getElem?_cons_zero, List.getElem?_cons_succ, List.set_cons_zero, List.set_cons_succ, fIx, ixD, seqOf, dctOf, lstOf, fCmp, fNe, dOrd, dBif, dBin, dAdd, dSub, dMul, dMod, cInt, fLen, lenD, fTup, endsOf, startD, mkL, dSl, cList, cSorted, itemsOf, strsOf_map, Bool.false_eq_true, if_true, if_false, List.map, List.length, List.replicate, List.cons_append, List.nil_append, deeds_keys]
      refine ⟨.inl (by simpa using hd0), by simp; omega, fz_newL ?_⟩
      simp only [wB, wS, wE, wEs, wPs, wT, wAnd, wOr, wAndT, wOrT, wIfs, wPart, wIt, dB, dVar, wTg, tgSet, tgSets, Tg.idx, Tgs.idx, List.getElem?_cons_zero, List.getElem?_cons_succ, List.set_cons_zero, List.set_cons_succ, fIx, ixD, seqOf, dctOf, lstOf, fCmp, fNe, dOrd, dBif, dBin, dAdd, dSub, dMul, dMod, cInt, fLen, lenD, fTup, endsOf, startD, mkL, dSl, cList, cSorted, itemsOf, strsOf_map, Bool.false_eq_true, if_true, if_false, List.map, List.length, List.replicate, List.cons_append, List.nil_append, T1, key0, key1, hc]
      refine ⟨p, o1, _, rfl, updM_same, r1, by unfold deedsD; cases dl with | nil => exact absurd rfl hd0 | cons _ _ => simp, by unfold deedsD; simp; omega, fun v2 o2 w0 w1 r2 => ?_⟩
      rw [updM_updM]
      obtain ⟨dn, hdn, hmem⟩ := atI_str (xs := srt (dl.map (·.1))) w0 (by rw [srt_len, List.length_map]; unfold deedsD at w1; simpa using w1)
      simp only [wB, wS, wE, wEs, wPs, wT, wAnd, wOr, wAndT, wOrT, wIfs, wPart, wIt, dB, dVar, wTg, tgSet, tgSets, Tg.idx, Tgs.idx, List.getElem?_cons_zero, List.getElem?_cons_succ, List.set_cons_zero, List.set_cons_succ, fIx, ixD, seqOf, dctOf, lstOf, fCmp, fNe, dOrd, dBif, dBin, dAdd, dSub, dMul, dMod, cInt, fLen, lenD, fTup, endsOf, startD, mkL, dSl, cList, cSorted, itemsOf, strsOf_map, Bool.false_eq_true, if_true, if_false, List.map, List.length, List.replicate, List.cons_append, List.nil_append, hdn]
      exact ⟨by omega, hQ (.till dn) o2 ((srt_perm _).mem_iff.mp hmem) r2⟩
/-! ### a drawn book -/
def dNames : List Str := ["buy", "a", "go"]
def mNames : List Str := ["fan", "b", "new", "a"]
/-- a drawn book: n deeds, m marks -/
structure OkBk (dn mn mo : Nat) (b : Bk) : Prop where
  deeds : ∃ n, 1 ≤ n ∧ n ≤ dn ∧ b.deeds.map (·.1) = dNames.take n
  marks : ∃ n, 1 ≤ n ∧ n ≤ mn ∧ b.marks.map (·.1) = mNames.take n
  most : 1 ≤ b.most ∧ b.most ≤ mo
  ok : ∀ p ∈ b.marks, OkG (b.deeds.map (·.1)) (b.marks.map (·.1)) p.1 b.most p.2.1 ∧ OkSty (b.deeds.map (·.1)) p.2.2
def spDrawn : DSp := fun ds M Q _ => ∃ dn mn mo : Nat, ∃ pa : Addr, ∃ oo, ds = [.ref pa, .int dn, .int mn, .int mo] ∧ M pa = some oo ∧ IsRow oo ∧ 1 ≤ dn ∧ dn ≤ 3 ∧ 1 ≤ mn ∧ mn ≤ 4 ∧ 1 ≤ mo ∧ mo ≤ 3 ∧
  ∀ b o', OkBk dn mn mo b → IsRow o' → Q (tD b) (updM M pa o')
end Dg
end
section
set_option Elab.async false
set_option linter.all false
set_option maxRecDepth 100000
set_option maxHeartbeats 4000000
/-! Marksheld: drawn books. -/
namespace Dg
open PySem
open Dy (E Es B S It Tg Tgs Lhs D DSp DK XQ Mp MO DEnds Sd)
open Dy
/-- four places of a map told, the others as they were -/
structure St4 (M M' : Mp) (p pt q1 q2 : Addr) (o : MO) (T A B : Option MO) : Prop where
  ep : M' p = some o
  et : M' pt = T
  e1 : M' q1 = A
  e2 : M' q2 = B
  ot : ∀ a, a ≠ p → a ≠ pt → a ≠ q1 → a ≠ q2 → M' a = M a
structure Ne4 (p pt q1 q2 : Addr) : Prop where
  n1 : p ≠ pt
  n2 : p ≠ q1
  n3 : p ≠ q2
  n4 : pt ≠ q1
  n5 : pt ≠ q2
  n6 : q1 ≠ q2
section
variable {M M' : Mp} {p pt q1 q2 : Addr} {o : MO} {T A B : Option MO}
theorem St4.row (s : St4 M M' p pt q1 q2 o T A B) (n : Ne4 p pt q1 q2) (o' : MO) : St4 M (updM M' p o') p pt q1 q2 o' T A B :=
  ⟨updM_same, by rw [updM_ne (Ne.symm n.n1)]; exact s.et, by rw [updM_ne (Ne.symm n.n2)]; exact s.e1, by rw [updM_ne (Ne.symm n.n3)]; exact s.e2, fun a h1 h2 h3 h4 => by rw [updM_ne h1]; exact s.ot a h1 h2 h3 h4⟩
theorem St4.t (s : St4 M M' p pt q1 q2 o T A B) (n : Ne4 p pt q1 q2) (u : MO) : St4 M (updM M' pt u) p pt q1 q2 o (some u) A B :=
  ⟨by rw [updM_ne n.n1]; exact s.ep, updM_same, by rw [updM_ne (Ne.symm n.n4)]; exact s.e1, by rw [updM_ne (Ne.symm n.n5)]; exact s.e2, fun a h1 h2 h3 h4 => by rw [updM_ne h2]; exact s.ot a h1 h2 h3 h4⟩
theorem St4.a (s : St4 M M' p pt q1 q2 o T A B) (n : Ne4 p pt q1 q2) (u : MO) : St4 M (updM M' q1 u) p pt q1 q2 o T (some u) B :=
  ⟨by rw [updM_ne n.n2]; exact s.ep, by rw [updM_ne n.n4]; exact s.et, updM_same, by rw [updM_ne (Ne.symm n.n6)]; exact s.e2, fun a h1 h2 h3 h4 => by rw [updM_ne h3]; exact s.ot a h1 h2 h3 h4⟩
theorem St4.b (s : St4 M M' p pt q1 q2 o T A B) (n : Ne4 p pt q1 q2) (u : MO) : St4 M (updM M' q2 u) p pt q1 q2 o T A (some u) :=
  ⟨by rw [updM_ne n.n3]; exact s.ep, by rw [updM_ne n.n5]; exact s.et, by rw [updM_ne n.n6]; exact s.e1, updM_same, fun a h1 h2 h3 h4 => by rw [updM_ne h4]; exact s.ot a h1 h2 h3 h4⟩
theorem delM_ne {M : Mp} {a b : Addr} (h : b ≠ a) : delM M a b = M b := if_neg h
theorem delM_same {M : Mp} {a : Addr} : delM M a a = none := if_pos rfl
theorem St4.da (s : St4 M M' p pt q1 q2 o T A B) (n : Ne4 p pt q1 q2) : St4 M (delM M' q1) p pt q1 q2 o T none B :=
  ⟨by rw [delM_ne n.n2]; exact s.ep, by rw [delM_ne n.n4]; exact s.et, delM_same, by rw [delM_ne (Ne.symm n.n6)]; exact s.e2, fun a h1 h2 h3 h4 => by rw [delM_ne h3]; exact s.ot a h1 h2 h3 h4⟩
theorem St4.db (s : St4 M M' p pt q1 q2 o T A B) (n : Ne4 p pt q1 q2) : St4 M (delM M' q2) p pt q1 q2 o T A none :=
  ⟨by rw [delM_ne n.n3]; exact s.ep, by rw [delM_ne n.n5]; exact s.et, by rw [delM_ne n.n6]; exact s.e1, delM_same, fun a h1 h2 h3 h4 => by rw [delM_ne h4]; exact s.ot a h1 h2 h3 h4⟩
theorem St4.dt (s : St4 M M' p pt q1 q2 o T A B) (n : Ne4 p pt q1 q2) : St4 M (delM M' pt) p pt q1 q2 o none A B :=
  ⟨by rw [delM_ne n.n1]; exact s.ep, delM_same, by rw [delM_ne (Ne.symm n.n4)]; exact s.e1, by rw [delM_ne (Ne.symm n.n5)]; exact s.e2, fun a h1 h2 h3 h4 => by rw [delM_ne h2]; exact s.ot a h1 h2 h3 h4⟩
theorem St4.eq (s : St4 M M' p pt q1 q2 o none none none) (h1 : M pt = none) (h2 : M q1 = none) (h3 : M q2 = none) : M' = updM M p o := by
  funext a
  by_cases z : a = p
  · subst z; rw [updM_same]; exact s.ep
  · rw [updM_ne z]
    by_cases z1 : a = pt
    · subst z1; rw [s.et, h1]
    · by_cases z2 : a = q1
      · subst z2; rw [s.e1, h2]
      · by_cases z3 : a = q2
        · subst z3; rw [s.e2, h3]
        · exact s.ot a z z1 z2 z3
end
theorem getD_names {α : Type} (f : α → D) (l : List (Str × α)) (x : Str) (h : x ∉ l.map (·.1)) : getD (l.map fun p => (D.str p.1, f p.2)) (.str x) = none := by
  induction l with
  | nil => rfl
  | cons a r ih =>
    rw [List.map_cons, getD_cons]
    have e : eqD (D.str a.1) (.str x) = (a.1 == x) := rfl
    simp only [List.map_cons, List.mem_cons, not_or] at h
    rw [e, show (a.1 == x) = false from by simpa using fun z => h.1 z.symm, if_neg (by simp)]
    exact ih h.2
theorem putD_names {α : Type} (f : α → D) (l : List (Str × α)) (x : Str) (a : α) (h : x ∉ l.map (·.1)) : putD (l.map fun p => (D.str p.1, f p.2)) (.str x) (f a) = (l ++ [(x, a)]).map fun p => (D.str p.1, f p.2) := by
  unfold putD
  rw [getD_names f l x h]
  simp
theorem keyOk_names {α : Type} (f : α → D) (l : List (Str × α)) (x : Str) : keyOk (.str x) (l.map fun p => (D.str p.1, f p.2)) = true := by
  unfold keyOk
  have : allS (l.map fun p => (D.str p.1, f p.2)) = true := by
    unfold allS
    rw [List.all_eq_true]
    intro kv hk
    obtain ⟨p, _, rfl⟩ := List.mem_map.mp hk
    rfl
  rw [this]; rfl
theorem cut_d (v : Int) (h0 : 0 ≤ v) (h : v < 3) : cutD [D.str "buy", D.str "a", D.str "go"] none (some (1 + v)) = (dNames.take (1 + v.toNat)).map D.str := by
  have : v = 0 ∨ v = 1 ∨ v = 2 := by omega
  rcases this with rfl | rfl | rfl <;> rfl
theorem cut_m (v : Int) (h0 : 0 ≤ v) (h : v < 4) : cutD [D.str "fan", D.str "b", D.str "new", D.str "a"] none (some (1 + v)) = (mNames.take (1 + v.toNat)).map D.str := by
  have : v = 0 ∨ v = 1 ∨ v = 2 ∨ v = 3 := by omega
  rcases this with rfl | rfl | rfl | rfl <;> rfl
theorem w_drawn (c : Str → DSp) (hc : c "_law_pick" = spPick) (hc2 : c "_law_ground" = spGround) (hc3 : c "_law_stay" = spStay) (ds : List D) (M : Mp) (Q : DK) (E : XQ) (h : spDrawn ds M Q E) : wB E (b_law_drawn c) (endsOf Q) (startD N_law_drawn ds) M := by
  obtain ⟨dn, mn, mo, p, o, rfl, hM, hr, d1, d3, m1, m4, o1, o3, hQ⟩ := h
  have eN : N_law_drawn.length = 7 := by rfl
  have hz : 1000 ≤ sizeLine := by decide
  simp only [b_law_drawn, wB, wS, wE, wEs, wPs, wT, wAnd, wOr, wAndT, wOrT, wIfs, wPart, wIt, dB, dVar, wTg, tgSet, tgSets, Tg.idx, Tgs.idx, List.getElem?_cons_zero, List.getElem?_cons_succ, List.set_cons_zero, List.set_cons_succ, fIx, ixD, seqOf, dctOf, lstOf, fCmp, fNe, dOrd, dBif, dBin, dAdd, dSub, dMul, dMod, cInt, fLen, lenD, fTup, endsOf, startD, mkL, dSl, cList, cSorted, itemsOf, strsOf_map, Bool.false_eq_true, if_true, if_false, List.map, List.length, List.replicate, List.cons_append, List.nil_append, eN]
  intro pt hpt
  simp only [newD]
  intro q1 hq1 q2 hq2
  simp only [hc]
  have nt1 : q1 ≠ pt := fun e => by subst e; rw [updM_same] at hq1; cases hq1
  have mq1 : M q1 = none := by rw [updM_ne nt1] at hq1; exact hq1
  have n21 : q2 ≠ q1 := fun e => by subst e; rw [updM_same] at hq2; cases hq2
  rw [updM_ne n21] at hq2
  have n2t : q2 ≠ pt := fun e => by subst e; rw [updM_same] at hq2; cases hq2
  have mq2 : M q2 = none := by rw [updM_ne n2t] at hq2; exact hq2
  have n : Ne4 p pt q1 q2 := ⟨ne_of_M hM hpt, ne_of_M hM mq1, ne_of_M hM mq2, Ne.symm nt1, Ne.symm n2t, Ne.symm n21⟩
  have s0 : St4 M (updM (updM (updM M pt (.dct [])) q1 (.dct [])) q2 (.dct [])) p pt q1 q2 o (some (.dct [])) (some (.dct [])) (some (.dct [])) :=
    St4.b (St4.a (St4.t (⟨hM, rfl, rfl, rfl, fun a _ _ _ _ => rfl⟩ : St4 M M p pt q1 q2 o (M pt) (M q1) (M q2)) n _) n _) n _
  generalize updM (updM (updM M pt (.dct [])) q1 (.dct [])) q2 (.dct []) = M0 at s0
  refine ⟨p, o, mo, rfl, s0.ep, hr, by omega, by omega, fun k oa k0 k1 ra => ?_⟩
  have s1 := s0.row n oa
  generalize updM M0 p oa = M1 at s1
  refine ⟨s1.et, by simp, by rfl, ?_⟩
  have s2 := s1.t n (.dct [(.str "deeds", .ref q1), (.str "marks", .ref q2), (.str "most", .int (1 + k))])
  show wB E (b_law_drawn_6 c) _ _ (updM M1 pt (.dct [(.str "deeds", .ref q1), (.str "marks", .ref q2), (.str "most", .int (1 + k))]))
  generalize updM M1 pt _ = M2 at s2
  simp only [b_law_drawn_6, wB, wS, wE, wEs, wPs, wT, wAnd, wOr, wAndT, wOrT, wIfs, wPart, wIt, dB, dVar, wTg, tgSet, tgSets, Tg.idx, Tgs.idx, List.getElem?_cons_zero, List.getElem?_cons_succ, List.set_cons_zero, List.set_cons_succ, fIx, ixD, seqOf, dctOf, lstOf, fCmp, fNe, dOrd, dBif, dBin, dAdd, dSub, dMul, dMod, cInt, fLen, lenD, fTup, endsOf, startD, mkL, dSl, cList, cSorted, itemsOf, strsOf_map, Bool.false_eq_true, if_true, if_false, List.map, List.length, List.replicate, List.cons_append, List.nil_append, hc]
  refine ⟨by omega, p, oa, dn, rfl, s2.ep, ra, by omega, by omega, fun v ob v0 v1 rb => ?_⟩
  have s3 := s2.row n ob
  generalize updM M2 p ob = M3 at s3
  refine fz_newL ?_
  rw [cut_d v v0 (by omega)]
  have ltn : 1 + v.toNat ≤ 3 := by omega
  -- deeds
  have dnd : dNames.Nodup := by decide +kernel
  refine forN_inv (fun items σ M' => ∃ dl : List (Str × Bool), ∃ rest o' a, items = rest.map D.str ∧ dl.map (·.1) ++ rest = dNames.take (1 + v.toNat) ∧ σ = [some (.ref p), some (.int dn), some (.int mn), some (.int mo), some (.ref pt), a, none] ∧ IsRow o' ∧
    St4 M M' p pt q1 q2 o' (some (.dct [(.str "deeds", .ref q1), (.str "marks", .ref q2), (.str "most", .int (1 + k))])) (some (.dct (deedsD dl))) (some (.dct []))) ?_ ?_ _ _ _ ⟨[], _, ob, none, rfl, rfl, rfl, rb, s3⟩
  · rintro d ds σ M' K ⟨dl, rest, o', a, e1, e2, rfl, ro, s⟩ hK
    cases rest with
    | nil => simp at e1
    | cons x rest =>
      simp only [List.map_cons, List.cons.injEq] at e1
      obtain ⟨rfl, rfl⟩ := e1
      have nd : (dl.map (·.1) ++ x :: rest).Nodup := by rw [e2]; exact dnd.sublist (List.take_sublist _ _)
      have xn : x ∉ dl.map (·.1) := fun hx => by
        rw [List.nodup_append] at nd
        exact nd.2.2 x hx x List.mem_cons_self rfl
      have len : dl.length + 1 ≤ 3 := by
        have := congrArg List.length e2
        rw [List.length_append, List.length_cons, List.length_map, List.length_take] at this
        omega
      simp only [wB, wS, wE, wEs, wPs, wT, wAnd, wOr, wAndT, wOrT, wIfs, wPart, wIt, dB, dVar, wTg, tgSet, tgSets, Tg.idx, Tgs.idx, List.getElem?_cons_zero, List.getElem?_cons_succ, List.set_cons_zero, List.set_cons_succ, fIx, ixD, seqOf, dctOf, lstOf, fCmp, fNe, dOrd, dBif, dBin, dAdd, dSub, dMul, dMod, cInt, fLen, lenD, fTup, endsOf, startD, mkL, dSl, cList, cSorted, itemsOf, strsOf_map, Bool.false_eq_true, if_true, if_false, List.map, List.length, List.replicate, List.cons_append, List.nil_append, b_law_drawn_5, hc]
      refine ⟨by omega, p, o', 2, rfl, s.ep, ro, by omega, by omega, fun w oc w0 w1 rc => ?_⟩
      have s4 := s.row n oc
      generalize updM M' p oc = M4 at s4
      obtain ⟨b, hb⟩ : ∃ b : Bool, L2.atI [D.str "sum", D.str "run"] w = some (.str (if b then "run" else "sum")) := by
        have : w = 0 ∨ w = 1 := by omega
        rcases this with rfl | rfl
        · exact ⟨false, rfl⟩
        · exact ⟨true, rfl⟩
      have g1 : keyOk (.str "deeds") [(D.str "deeds", D.ref q1), (.str "marks", .ref q2), (.str "most", .int (1 + k))] = true := by rfl
      have g2 : getD [(D.str "deeds", D.ref q1), (.str "marks", .ref q2), (.str "most", .int (1 + k))] (.str "deeds") = some (.ref q1) := by rfl
      have g3 : keyOk (.str x) (deedsD dl) = true := keyOk_names (fun b : Bool => D.str (if b then "run" else "sum")) dl x
      have g4 : putD (deedsD dl) (.str x) (.str (if b then "run" else "sum")) = deedsD (dl ++ [(x, b)]) := putD_names (fun b : Bool => D.str (if b then "run" else "sum")) dl x b xn
      simp only [wB, wS, wE, wEs, wPs, wT, wAnd, wOr, wAndT, wOrT, wIfs, wPart, wIt, dB, dVar, wTg, tgSet, tgSets, Tg.idx, Tgs.idx, List.getElem?_cons_zero, List.getElem?_cons_succ, List.set_cons_zero, List.set_cons_succ, fIx, ixD, seqOf, dctOf, lstOf, fCmp, fNe, dOrd, dBif, dBin, dAdd, dSub, dMul, dMod, cInt, fLen, lenD, fTup, endsOf, startD, mkL, dSl, cList, cSorted, itemsOf, strsOf_map, Bool.false_eq_true, if_true, if_false, List.map, List.length, List.replicate, List.cons_append, List.nil_append, hb, s4.et, g1, g2, fSet, s4.e1]
      refine ⟨g3, by unfold deedsD; simp; omega, ?_⟩
      rw [g4]
      exact hK _ _ ⟨dl ++ [(x, b)], rest, oc, _, rfl, by simpa using e2, rfl, rc, s4.a n _⟩
  rintro σ M' ⟨dl, rest, o', a, e1, e2, rfl, ro, s⟩
  have er : rest = [] := by cases rest with | nil => rfl | cons _ _ => simp at e1
  subst er
  rw [List.append_nil] at e2
  have ldl : dl.length = 1 + v.toNat := by
    have := congrArg List.length e2
    rw [List.length_map, List.length_take] at this
    have : dNames.length = 3 := rfl
    omega
  -- what stands for the deeds is frozen
  have g2 : getD [(D.str "deeds", D.ref q1), (.str "marks", .ref q2), (.str "most", .int (1 + k))] (.str "deeds") = some (.ref q1) := by rfl
  simp only [b_law_drawn_4, wB, wS, wE, wEs, wPs, wT, wAnd, wOr, wAndT, wOrT, wIfs, wPart, wIt, dB, dVar, wTg, tgSet, tgSets, Tg.idx, Tgs.idx, List.getElem?_cons_zero, List.getElem?_cons_succ, List.set_cons_zero, List.set_cons_succ, fIx, ixD, seqOf, dctOf, lstOf, fCmp, fNe, dOrd, dBif, dBin, dAdd, dSub, dMul, dMod, cInt, fLen, lenD, fTup, endsOf, startD, mkL, dSl, cList, cSorted, itemsOf, strsOf_map, Bool.false_eq_true, if_true, if_false, List.map, List.length, List.replicate, List.cons_append, List.nil_append, fzKey, s.et, g2, s.e1]
  refine ⟨n.n4, ?_⟩
  have l1 : [(D.str "deeds", subR q1 (.dct (deedsD dl)) (.ref q1)), (.str "marks", subR q1 (.dct (deedsD dl)) (.ref q2)), (.str "most", subR q1 (.dct (deedsD dl)) (.int (1 + k)))] = tL dl (.ref q2) (1 + k) := by
    simp only [subR, tL, if_true, Ne.symm n.n6, n.n6, if_false]
  rw [l1]
  have s5 := (s.da n).t n (.dct (tL dl (.ref q2) (1 + k)))
  generalize updM (delM M' q1) pt _ = M5 at s5
  simp only [hc]
  refine ⟨by omega, p, o', mn, rfl, s5.ep, ro, by omega, by omega, fun u od u0 u1 rd => ?_⟩
  have s6 := s5.row n od
  generalize updM M5 p od = M6 at s6
  refine fz_newL ?_
  rw [cut_m u u0 (by omega)]
  have mnd : mNames.Nodup := by decide +kernel
  have lm4 : mNames.length = 4 := rfl
  have ld3 : dNames.length = 3 := rfl
  have dl0 : dl ≠ [] := fun e => by rw [e] at ldl; simp only [List.length_nil] at ldl; omega
  have dl3 : dl.length ≤ 3 := by
    have := congrArg List.length e2
    rw [List.length_map, List.length_take] at this
    omega
  refine forN_inv (fun items σ M' => ∃ ml : List (Str × Mrk), ∃ rest o' a, items = rest.map D.str ∧ ml.map (·.1) ++ rest = mNames.take (1 + u.toNat) ∧ σ = [some (.ref p), some (.int dn), some (.int mn), some (.int mo), some (.ref pt), a, some (.lst ((mNames.take (1 + u.toNat)).map .str))] ∧ IsRow o' ∧
    (∀ z ∈ ml, OkG (dl.map (·.1)) (mNames.take (1 + u.toNat)) z.1 (1 + k) z.2.1 ∧ OkSty (dl.map (·.1)) z.2.2) ∧
    St4 M M' p pt q1 q2 o' (some (.dct (tL dl (.ref q2) (1 + k)))) none (some (.dct (marksD ml)))) ?_ ?_ _ _ _ ⟨[], _, od, _, rfl, rfl, rfl, rd, fun z hz => (nomatch hz), s6⟩
  · rintro d ds σ M' K ⟨ml, rest, o', a, e3, e4, rfl, ro, oks, s⟩ hK
    cases rest with
    | nil => simp at e3
    | cons x rest =>
      simp only [List.map_cons, List.cons.injEq] at e3
      obtain ⟨rfl, rfl⟩ := e3
      have nd : (ml.map (·.1) ++ x :: rest).Nodup := by rw [e4]; exact mnd.sublist (List.take_sublist _ _)
      have xn : x ∉ ml.map (·.1) := fun hx => by
        rw [List.nodup_append] at nd
        exact nd.2.2 x hx x List.mem_cons_self rfl
      have len : ml.length + 1 ≤ 4 := by
        have := congrArg List.length e4
        rw [List.length_append, List.length_cons, List.length_map, List.length_take] at this
        omega
      simp only [wB, wS, wE, wEs, wPs, wT, wAnd, wOr, wAndT, wOrT, wIfs, wPart, wIt, dB, dVar, wTg, tgSet, tgSets, Tg.idx, Tgs.idx, List.getElem?_cons_zero, List.getElem?_cons_succ, List.set_cons_zero, List.set_cons_succ, fIx, ixD, seqOf, dctOf, lstOf, fCmp, fNe, dOrd, dBif, dBin, dAdd, dSub, dMul, dMod, cInt, fLen, lenD, fTup, endsOf, startD, mkL, dSl, cList, cSorted, itemsOf, strsOf_map, Bool.false_eq_true, if_true, if_false, List.map, List.length, List.replicate, List.cons_append, List.nil_append, b_law_drawn_2, hc2, hc3]
      refine ⟨p, o', pt, dl, _, _, _, x, rfl, s.ep, ro, n.n1, s.et, dl0, dl3, by omega, by omega, by rw [List.length_take]; omega, fun g oa okg ra => ?_⟩
      have s7 := s.row n oa
      generalize updM M' p oa = M7 at s7
      refine ⟨p, oa, pt, dl, _, _, rfl, s7.ep, ra, n.n1, s7.et, dl0, dl3, fun y ob oky rb => ?_⟩
      have s8 := s7.row n ob
      generalize updM M7 p ob = M8 at s8
      have g1 := (t_marks dl (.ref q2) (1 + k)).1
      have g2 := (t_marks dl (.ref q2) (1 + k)).2
      have g3 : keyOk (.str x) (marksD ml) = true := keyOk_names mrkD ml x
      have g4 : putD (marksD ml) (.str x) (.tup [.tup (g.map prtD), styD y]) = marksD (ml ++ [(x, (g, y))]) := putD_names mrkD ml x (g, y) xn
      simp only [wB, wS, wE, wEs, wPs, wT, wAnd, wOr, wAndT, wOrT, wIfs, wPart, wIt, dB, dVar, wTg, tgSet, tgSets, Tg.idx, Tgs.idx, List.getElem?_cons_zero, List.getElem?_cons_succ, List.set_cons_zero, List.set_cons_succ, fIx, ixD, seqOf, dctOf, lstOf, fCmp, fNe, dOrd, dBif, dBin, dAdd, dSub, dMul, dMod, cInt, fLen, lenD, fTup, endsOf, startD, mkL, dSl, cList, cSorted, itemsOf, strsOf_map, Bool.false_eq_true, if_true, if_false, List.map, List.length, List.replicate, List.cons_append, List.nil_append, s8.et, g1, g2, fSet, s8.e2]
      refine ⟨by omega, g3, by unfold marksD; simp; omega, ?_⟩
      rw [g4]
      refine hK _ _ ⟨ml ++ [(x, (g, y))], rest, ob, _, rfl, by simpa using e4, rfl, rb, ?_, s8.b n _⟩
      intro z hz
      rcases List.mem_append.mp hz with hz | hz
      · exact oks z hz
      · rw [List.mem_singleton] at hz; subst hz; exact ⟨okg, oky⟩
  rintro σ M' ⟨ml, rest, o', a, e3, e4, rfl, ro, oks, s⟩
  have er : rest = [] := by cases rest with | nil => rfl | cons _ _ => simp at e3
  subst er
  rw [List.append_nil] at e4
  have g2 := (t_marks dl (.ref q2) (1 + k)).2
  simp only [b_law_drawn_1, wB, wS, wE, wEs, wPs, wT, wAnd, wOr, wAndT, wOrT, wIfs, wPart, wIt, dB, dVar, wTg, tgSet, tgSets, Tg.idx, Tgs.idx, List.getElem?_cons_zero, List.getElem?_cons_succ, List.set_cons_zero, List.set_cons_succ, fIx, ixD, seqOf, dctOf, lstOf, fCmp, fNe, dOrd, dBif, dBin, dAdd, dSub, dMul, dMod, cInt, fLen, lenD, fTup, endsOf, startD, mkL, dSl, cList, cSorted, itemsOf, strsOf_map, Bool.false_eq_true, if_true, if_false, List.map, List.length, List.replicate, List.cons_append, List.nil_append, fzKey, s.et, g2, s.e2]
  refine ⟨n.n5, ?_⟩
  have l2 : (tL dl (.ref q2) (1 + k)).map (fun kv => (kv.1, subR q2 (.dct (marksD ml)) kv.2)) = tL dl (.dct (marksD ml)) (1 + k) := by
    simp only [subR, tL, List.map_cons, List.map_nil, if_true]
  rw [l2]
  have s9 := (s.db n).t n (.dct (tL dl (.dct (marksD ml)) (1 + k)))
  generalize updM (delM M' q2) pt _ = M9 at s9
  simp only [fzK, s9.et]
  have s10 := s9.dt n
  rw [s10.eq hpt mq1 mq2]
  refine hQ ⟨dl, ml, 1 + k⟩ o' ⟨⟨1 + v.toNat, by omega, by omega, e2⟩, ⟨1 + u.toNat, by omega, by omega, e4⟩, ⟨by show 1 ≤ 1 + k; omega, by show 1 + k ≤ mo; omega⟩, ?_⟩ ro
  intro z hz
  show OkG (dl.map (·.1)) (ml.map (·.1)) z.1 (1 + k) z.2.1 ∧ _
  rw [e4]; exact oks z hz
end Dg
end
section
set_option Elab.async false
set_option linter.all false
set_option maxRecDepth 100000
set_option maxHeartbeats 4000000
/-! Marksheld: the law's own machine. -/
namespace Dg
open PySem
open Dy (E Es B S It Tg Tgs Lhs D DSp DK XQ Mp MO DEnds Sd)
open Dy
abbrev Ok (b : Bk) : Prop := OkBk 3 4 3 b
theorem OkBk.up {a c e : Nat} {b : Bk} (h : OkBk a c e b) (h1 : a ≤ 3) (h2 : c ≤ 4) (h3 : e ≤ 3) : Ok b := by
  obtain ⟨n, n1, n2, n3⟩ := h.deeds
  obtain ⟨m, m1, m2, m3⟩ := h.marks
  exact ⟨⟨n, n1, by omega, n3⟩, ⟨m, m1, by omega, m3⟩, ⟨h.most.1, by have := h.most.2; omega⟩, h.ok⟩
def Bk.dn (b : Bk) : List Str := b.deeds.map (·.1)
def Bk.mn (b : Bk) : List Str := b.marks.map (·.1)
/-- the deeds, the marks in order -/
def Bk.dl (b : Bk) : List Str := srt b.dn
def Bk.ml (b : Bk) : List Str := srt b.mn
theorem Ok.dnd {b : Bk} (h : Ok b) : b.dn.Nodup := by
  obtain ⟨n, _, _, e⟩ := h.deeds
  show (b.deeds.map (·.1)).Nodup
  rw [e]; exact (show dNames.Nodup by decide +kernel).sublist (List.take_sublist _ _)
theorem Ok.mnd {b : Bk} (h : Ok b) : b.mn.Nodup := by
  obtain ⟨n, _, _, e⟩ := h.marks
  show (b.marks.map (·.1)).Nodup
  rw [e]; exact (show mNames.Nodup by decide +kernel).sublist (List.take_sublist _ _)
theorem Ok.dlen {b : Bk} (h : Ok b) : 1 ≤ b.deeds.length ∧ b.deeds.length ≤ 3 := by
  obtain ⟨n, n1, n2, e⟩ := h.deeds
  have := congrArg List.length e
  rw [List.length_map, List.length_take] at this
  have : dNames.length = 3 := rfl
  omega
theorem Ok.mlen {b : Bk} (h : Ok b) : 1 ≤ b.marks.length ∧ b.marks.length ≤ 4 := by
  obtain ⟨n, n1, n2, e⟩ := h.marks
  have := congrArg List.length e
  rw [List.length_map, List.length_take] at this
  have : mNames.length = 4 := rfl
  omega
theorem dl_len (b : Bk) : b.dl.length = b.deeds.length := by unfold Bk.dl Bk.dn; rw [srt_len, List.length_map]
theorem ml_len (b : Bk) : b.ml.length = b.marks.length := by unfold Bk.ml Bk.mn; rw [srt_len, List.length_map]
theorem marks_keys (l : List (Str × Mrk)) : (marksD l).map (·.1) = (l.map (·.1)).map D.str := by
  unfold marksD
  rw [List.map_map, List.map_map]; rfl
theorem k_deeds (b : Bk) : getD (tL b.deeds (.dct (marksD b.marks)) b.most) (.str "deeds") = some (.dct (deedsD b.deeds)) := (t_deeds _ _ _).2
theorem k_marks (b : Bk) : getD (tL b.deeds (.dct (marksD b.marks)) b.most) (.str "marks") = some (.dct (marksD b.marks)) := (t_marks _ _ _).2
theorem k_most (b : Bk) : getD (tL b.deeds (.dct (marksD b.marks)) b.most) (.str "most") = some (.int b.most) := (t_most _ _ _).2
theorem o_deeds (b : Bk) : keyOk (.str "deeds") (tL b.deeds (.dct (marksD b.marks)) b.most) = true := (t_deeds _ _ _).1
theorem o_marks (b : Bk) : keyOk (.str "marks") (tL b.deeds (.dct (marksD b.marks)) b.most) = true := (t_marks _ _ _).1
theorem o_most (b : Bk) : keyOk (.str "most") (tL b.deeds (.dct (marksD b.marks)) b.most) = true := (t_most _ _ _).1
def spDeeds : DSp := fun ds M Q _ => ∃ b, ds = [tD b] ∧ Ok b ∧ Q (.lst (b.dl.map .str)) M
theorem w_deeds (c : Str → DSp) (ds : List D) (M : Mp) (Q : DK) (E : XQ) (h : spDeeds ds M Q E) : wB E (b_law_deeds c) (endsOf Q) (startD N_law_deeds ds) M := by
  obtain ⟨b, rfl, ok, hQ⟩ := h
  have eN : N_law_deeds.length = 1 := by rfl
  have hz : 1000 ≤ sizeLine := by decide
  have len := ok.dlen
  simp only [b_law_deeds, wB, wS, wE, wEs, wPs, wT, wAnd, wOr, wAndT, wOrT, wIfs, wPart, wIt, dB, dVar, wTg, tgSet, tgSets, Tg.idx, Tgs.idx, List.getElem?_cons_zero, List.getElem?_cons_succ, List.set_cons_zero, List.set_cons_succ, fIx, ixD, seqOf, dctOf, lstOf, fCmp, fNe, dOrd, dBif, dBin, dAdd, dSub, dMul, dMod, cInt, fLen, lenD, fTup, endsOf, startD, mkL, dSl, cList, cSorted, itemsOf, strsOf_map, Bool.false_eq_true, if_true, if_false, List.map, List.length, List.replicate, List.cons_append, List.nil_append, eN, tD, k_deeds, o_deeds]
  refine fz_newL ?_
  simp only [wB, wS, wE, wEs, wPs, wT, wAnd, wOr, wAndT, wOrT, wIfs, wPart, wIt, dB, dVar, wTg, tgSet, tgSets, Tg.idx, Tgs.idx, List.getElem?_cons_zero, List.getElem?_cons_succ, List.set_cons_zero, List.set_cons_succ, fIx, ixD, seqOf, dctOf, lstOf, fCmp, fNe, dOrd, dBif, dBin, dAdd, dSub, dMul, dMod, cInt, fLen, lenD, fTup, endsOf, startD, mkL, dSl, cList, cSorted, itemsOf, strsOf_map, Bool.false_eq_true, if_true, if_false, List.map, List.length, List.replicate, List.cons_append, List.nil_append, deeds_keys]
  refine ⟨.inr rfl, by simp; omega, fz_newL hQ⟩
def spNames : DSp := fun ds M Q _ => ∃ b, ds = [tD b] ∧ Ok b ∧ Q (.lst (b.ml.map .str)) M
theorem w_names (c : Str → DSp) (ds : List D) (M : Mp) (Q : DK) (E : XQ) (h : spNames ds M Q E) : wB E (b_law_names c) (endsOf Q) (startD N_law_names ds) M := by
  obtain ⟨b, rfl, ok, hQ⟩ := h
  have eN : N_law_names.length = 1 := by rfl
  have hz : 1000 ≤ sizeLine := by decide
  have len := ok.mlen
  simp only [b_law_names, wB, wS, wE, wEs, wPs, wT, wAnd, wOr, wAndT, wOrT, wIfs, wPart, wIt, dB, dVar, wTg, tgSet, tgSets, Tg.idx, Tgs.idx, List.getElem?_cons_zero, List.getElem?_cons_succ, List.set_cons_zero, List.set_cons_succ, fIx, ixD, seqOf, dctOf, lstOf, fCmp, fNe, dOrd, dBif, dBin, dAdd, dSub, dMul, dMod, cInt, fLen, lenD, fTup, endsOf, startD, mkL, dSl, cList, cSorted, itemsOf, strsOf_map, Bool.false_eq_true, if_true, if_false, List.map, List.length, List.replicate, List.cons_append, List.nil_append, eN, tD, k_marks, o_marks]
  refine fz_newL ?_
  simp only [wB, wS, wE, wEs, wPs, wT, wAnd, wOr, wAndT, wOrT, wIfs, wPart, wIt, dB, dVar, wTg, tgSet, tgSets, Tg.idx, Tgs.idx, List.getElem?_cons_zero, List.getElem?_cons_succ, List.set_cons_zero, List.set_cons_succ, fIx, ixD, seqOf, dctOf, lstOf, fCmp, fNe, dOrd, dBif, dBin, dAdd, dSub, dMul, dMod, cInt, fLen, lenD, fTup, endsOf, startD, mkL, dSl, cList, cSorted, itemsOf, strsOf_map, Bool.false_eq_true, if_true, if_false, List.map, List.length, List.replicate, List.cons_append, List.nil_append, marks_keys]
  refine ⟨.inr rfl, by simp; omega, fz_newL hQ⟩
/-- a step -/
inductive Stp where
  | doo (d : Str) | back (d : Str) | night
  deriving DecidableEq
def stpD : Stp → D
  | .doo d => .tup [.str "do", .str d]
  | .back d => .tup [.str "back", .str d]
  | .night => .tup [.str "night"]
def everyB (b : Bk) : List Stp := b.dl.map .doo ++ b.dl.map .back ++ [.night]
def spEvery : DSp := fun ds M Q _ => ∃ b, ds = [tD b] ∧ Ok b ∧ Q (.lst ((everyB b).map stpD)) M
theorem w_every (c : Str → DSp) (hc : c "_law_deeds" = spDeeds) (ds : List D) (M : Mp) (Q : DK) (E : XQ) (h : spEvery ds M Q E) : wB E (b_law_every c) (endsOf Q) (startD N_law_every ds) M := by
  obtain ⟨b, rfl, ok, hQ⟩ := h
  have eN : N_law_every.length = 3 := by rfl
  have hz : 1000 ≤ sizeLine := by decide
  have len := ok.dlen
  have l2 := dl_len b
  have fm : ∀ (g : Str → Stp) (l : List Str), (l.map D.str).filterMap (fun d => match d with | .str x => some (stpD (g x)) | _ => none) = (l.map g).map stpD := fun g l => by
    induction l with
    | nil => rfl
    | cons x r ih => rw [List.map_cons, List.filterMap_cons, ih]; rfl
  simp only [b_law_every, wB, wS, wE, wEs, wPs, wT, wAnd, wOr, wAndT, wOrT, wIfs, wPart, wIt, dB, dVar, wTg, tgSet, tgSets, Tg.idx, Tgs.idx, List.getElem?_cons_zero, List.getElem?_cons_succ, List.set_cons_zero, List.set_cons_succ, fIx, ixD, seqOf, dctOf, lstOf, fCmp, fNe, dOrd, dBif, dBin, dAdd, dSub, dMul, dMod, cInt, fLen, lenD, fTup, endsOf, startD, mkL, dSl, cList, cSorted, itemsOf, strsOf_map, Bool.false_eq_true, if_true, if_false, List.map, List.length, List.replicate, List.cons_append, List.nil_append, eN, hc]
  refine ⟨b, rfl, ok, fun A hA => ?_⟩
  simp only [srcOf, Src.items]
  refine lc_pure (f := fun d => match d with | .str x => some (stpD (.doo x)) | _ => none) hA _ [] (by simp; omega) ?_ ?_ _
  · intro d hd M' hM K hK
    obtain ⟨x, _, rfl⟩ := List.mem_map.mp hd
    exact ⟨by decide, hK⟩
  rw [List.nil_append, fm .doo]
  refine ⟨b, rfl, ok, fun A2 hA2 => ?_⟩
  simp only [srcOf, Src.items]
  refine lc_pure (f := fun d => match d with | .str x => some (stpD (.back x)) | _ => none) hA2 _ [] (by simp; omega) ?_ ?_ _
  · intro d hd M' hM K hK
    obtain ⟨x, _, rfl⟩ := List.mem_map.mp hd
    exact ⟨by decide, hK⟩
  rw [List.nil_append, fm .back]
  refine ⟨by simp; omega, fz_newL ?_⟩
  simp only [b_law_every_1, wB, wS, wE, wEs, wPs, wT, wAnd, wOr, wAndT, wOrT, wIfs, wPart, wIt, dB, dVar, wTg, tgSet, tgSets, Tg.idx, Tgs.idx, List.getElem?_cons_zero, List.getElem?_cons_succ, List.set_cons_zero, List.set_cons_succ, fIx, ixD, seqOf, dctOf, lstOf, fCmp, fNe, dOrd, dBif, dBin, dAdd, dSub, dMul, dMod, cInt, fLen, lenD, fTup, endsOf, startD, mkL, dSl, cList, cSorted, itemsOf, strsOf_map, Bool.false_eq_true, if_true, if_false, List.map, List.length, List.replicate, List.cons_append, List.nil_append]
  refine ⟨by decide, by omega, by simp; omega, fz_newL ?_⟩
  have e : List.map stpD (List.map Stp.doo b.dl) ++ List.map stpD (List.map Stp.back b.dl) ++ [D.tup [D.str "night"]] = (everyB b).map stpD := by
    unfold everyB
    rw [List.map_append, List.map_append]; rfl
  rw [e]; exact hQ
/-- a standing of the law: counts, fresh ones, held ones -/
structure LS where
  cnt : Str → Int
  fresh : List Str
  held : List Str
def lsL (dl : List Str) (s : LS) : List (D × D) := (.str "fresh", .lst (s.fresh.map .str)) :: (.str "held", .lst (s.held.map .str)) :: dl.map fun d => (.str d, .int (s.cnt d))
def lsD (dl : List Str) (s : LS) : D := .dct (lsL dl s)
def fnC (f : Str → Int) (d : Str) (v : Int) : Str → Int := fun x => if x = d then v else f x
theorem ls_allS (dl : List Str) (s : LS) : allS (lsL dl s) = true := by
  unfold allS lsL
  rw [List.all_eq_true]
  intro kv hk
  simp only [List.mem_cons, List.mem_map] at hk
  rcases hk with rfl | rfl | ⟨d, _, rfl⟩ <;> rfl
theorem ls_ok (dl : List Str) (s : LS) (x : Str) : keyOk (.str x) (lsL dl s) = true := by
  unfold keyOk
  rw [ls_allS]; rfl
theorem ls_fresh (dl : List Str) (s : LS) : getD (lsL dl s) (.str "fresh") = some (.lst (s.fresh.map .str)) := by rfl
theorem ls_held (dl : List Str) (s : LS) : getD (lsL dl s) (.str "held") = some (.lst (s.held.map .str)) := by rfl
theorem getD_fn (f : Str → D) (x : Str) : ∀ l : List Str, x ∈ l → getD (l.map fun d => (D.str d, f d)) (.str x) = some (f x)
  | [], h => nomatch h
  | a :: r, h => by
    rw [List.map_cons, getD_cons]
    have e : eqD (D.str a) (.str x) = (a == x) := rfl
    rw [e]
    by_cases z : a = x
    · subst z; simp
    · rw [if_neg (by simpa using z)]
      exact getD_fn f x r ((List.mem_cons.mp h).resolve_left (Ne.symm z))
/-- the names of deeds are no words of the standing -/
def Fit (dl : List Str) : Prop := dl.Nodup ∧ (Str.ofString "fresh") ∉ dl ∧ (Str.ofString "held") ∉ dl
theorem ls_cnt {dl : List Str} (F : Fit dl) (s : LS) {d : Str} (h : d ∈ dl) : getD (lsL dl s) (.str d) = some (.int (s.cnt d)) := by
  unfold lsL
  have e1 : eqD (D.str "fresh") (.str d) = ((Str.ofString "fresh") == d) := rfl
  have e2 : eqD (D.str "held") (.str d) = ((Str.ofString "held") == d) := rfl
  have n1 : ¬ ((Str.ofString "fresh") == d) = true := by simp; intro z; subst z; exact F.2.1 h
  have n2 : ¬ ((Str.ofString "held") == d) = true := by simp; intro z; subst z; exact F.2.2 h
  rw [getD_cons, e1, if_neg n1, getD_cons, e2, if_neg n2]
  exact getD_fn (fun d => .int (s.cnt d)) d dl h
theorem ls_putF {dl : List Str} (F : Fit dl) (s : LS) (u : List Str) : putD (lsL dl s) (.str "fresh") (.lst (u.map .str)) = lsL dl { s with fresh := u } := by
  unfold putD
  rw [ls_fresh, Option.isSome_some, if_pos rfl]
  unfold lsL
  have e1 : eqD (D.str "fresh") (.str "fresh") = true := by rfl
  have e2 : eqD (D.str "held") (.str "fresh") = false := by rfl
  rw [List.map_cons, List.map_cons, List.map_map]
  simp only [e1, e2, if_true, Bool.false_eq_true, if_false, List.cons.injEq, true_and]
  refine List.map_congr_left fun d hd => ?_
  have e3 : eqD (D.str d) (.str "fresh") = (d == Str.ofString "fresh") := rfl
  have n : ¬ (d == Str.ofString "fresh") = true := by simp; intro z; rw [z] at hd; exact F.2.1 hd
  simp only [Function.comp, e3, if_neg n]
theorem ls_putH {dl : List Str} (F : Fit dl) (s : LS) (u : List Str) : putD (lsL dl s) (.str "held") (.lst (u.map .str)) = lsL dl { s with held := u } := by
  unfold putD
  rw [ls_held, Option.isSome_some, if_pos rfl]
  unfold lsL
  have e1 : eqD (D.str "fresh") (.str "held") = false := by rfl
  have e2 : eqD (D.str "held") (.str "held") = true := by rfl
  rw [List.map_cons, List.map_cons, List.map_map]
  simp only [e1, e2, if_true, Bool.false_eq_true, if_false, List.cons.injEq, true_and]
  refine List.map_congr_left fun d hd => ?_
  have e3 : eqD (D.str d) (.str "held") = (d == Str.ofString "held") := rfl
  have n : ¬ (d == Str.ofString "held") = true := by simp; intro z; rw [z] at hd; exact F.2.2 hd
  simp only [Function.comp, e3, if_neg n]
theorem ls_putC {dl : List Str} (F : Fit dl) (s : LS) {d : Str} (h : d ∈ dl) (v : Int) : putD (lsL dl s) (.str d) (.int v) = lsL dl { s with cnt := fnC s.cnt d v } := by
  unfold putD
  rw [ls_cnt F s h, Option.isSome_some, if_pos rfl]
  unfold lsL
  have e1 : eqD (D.str "fresh") (.str d) = ((Str.ofString "fresh") == d) := rfl
  have e2 : eqD (D.str "held") (.str d) = ((Str.ofString "held") == d) := rfl
  have n1 : ¬ ((Str.ofString "fresh") == d) = true := by simp; intro z; subst z; exact F.2.1 h
  have n2 : ¬ ((Str.ofString "held") == d) = true := by simp; intro z; subst z; exact F.2.2 h
  rw [List.map_cons, List.map_cons, List.map_map]
  simp only [e1, e2, if_neg n1, if_neg n2, List.cons.injEq, true_and]
  refine List.map_congr_left fun x hx => ?_
  have e3 : eqD (D.str x) (.str d) = (x == d) := rfl
  simp only [Function.comp, e3, fnC]
  by_cases z : x = d
  · subst z; simp
  · simp [z]
theorem dl_fit {b : Bk} (h : Ok b) : Fit b.dl := by
  obtain ⟨n, _, _, e⟩ := h.deeds
  have sub : ∀ x ∈ b.dl, x ∈ dNames := fun x hx => by
    have : x ∈ b.dn := (srt_perm _).mem_iff.mp hx
    have e' : b.dn = dNames.take n := e
    rw [e'] at this
    exact List.mem_of_mem_take this
  refine ⟨(srt_perm _).nodup_iff.mpr h.dnd, fun z => ?_, fun z => ?_⟩
  · exact absurd (sub _ z) (by decide +kernel)
  · exact absurd (sub _ z) (by decide +kernel)
theorem dl_mem {b : Bk} {x : Str} : x ∈ b.dl ↔ x ∈ b.dn := (srt_perm _).mem_iff
theorem ml_mem {b : Bk} {x : Str} : x ∈ b.ml ↔ x ∈ b.mn := (srt_perm _).mem_iff
/-! ### the first standing -/
def LS.zero : LS := ⟨fun _ => 0, [], []⟩
def spBegin : DSp := fun ds M Q _ => ∃ b, ds = [tD b] ∧ Ok b ∧ Q (lsD b.dl .zero) M
theorem putD_new (l : List (D × D)) (x v : D) (h : getD l x = none) : putD l x v = l ++ [(x, v)] := by
  unfold putD; rw [h]; rfl
theorem w_begin (c : Str → DSp) (hc : c "_law_deeds" = spDeeds) (ds : List D) (M : Mp) (Q : DK) (E : XQ) (h : spBegin ds M Q E) : wB E (b_law_begin c) (endsOf Q) (startD N_law_begin ds) M := by
  obtain ⟨b, rfl, ok, hQ⟩ := h
  have eN : N_law_begin.length = 3 := by rfl
  have hz : 1000 ≤ sizeLine := by decide
  have len := ok.dlen
  have l2 := dl_len b
  have F := dl_fit ok
  simp only [b_law_begin, wB, wS, wE, wEs, wPs, wT, wAnd, wOr, wAndT, wOrT, wIfs, wPart, wIt, dB, dVar, wTg, tgSet, tgSets, Tg.idx, Tgs.idx, List.getElem?_cons_zero, List.getElem?_cons_succ, List.set_cons_zero, List.set_cons_succ, fIx, ixD, seqOf, dctOf, lstOf, fCmp, fNe, dOrd, dBif, dBin, dAdd, dSub, dMul, dMod, cInt, fLen, lenD, fTup, endsOf, startD, mkL, dSl, cList, cSorted, itemsOf, strsOf_map, Bool.false_eq_true, if_true, if_false, List.map, List.length, List.replicate, List.cons_append, List.nil_append, eN]
  intro p hp
  refine ⟨by omega, by omega, ⟨updM_same, by decide, by rfl, ?_⟩⟩
  rw [updM_updM]
  simp only [b_law_begin_3, wB, wS, wE, wEs, wPs, wT, wAnd, wOr, wAndT, wOrT, wIfs, wPart, wIt, dB, dVar, wTg, tgSet, tgSets, Tg.idx, Tgs.idx, List.getElem?_cons_zero, List.getElem?_cons_succ, List.set_cons_zero, List.set_cons_succ, fIx, ixD, seqOf, dctOf, lstOf, fCmp, fNe, dOrd, dBif, dBin, dAdd, dSub, dMul, dMod, cInt, fLen, lenD, fTup, endsOf, startD, mkL, dSl, cList, cSorted, itemsOf, strsOf_map, Bool.false_eq_true, if_true, if_false, List.map, List.length, List.replicate, List.cons_append, List.nil_append, hc]
  refine ⟨b, rfl, ok, ?_⟩
  simp only [srcOf, Src.items]
  refine forN_inv (fun items σ M' => ∃ pre rest a, items = rest.map D.str ∧ pre ++ rest = b.dl ∧ σ = [some (tD b), some (.ref p), a] ∧ M' = updM M p (.dct (lsL pre .zero))) ?_ ?_ _ _ _ ⟨[], b.dl, none, rfl, rfl, rfl, rfl⟩
  · rintro d ds σ M' K ⟨pre, rest, a, e1, e2, rfl, rfl⟩ hK
    cases rest with
    | nil => simp at e1
    | cons x rest =>
      simp only [List.map_cons, List.cons.injEq] at e1
      obtain ⟨rfl, rfl⟩ := e1
      have nd : (pre ++ x :: rest).Nodup := by rw [e2]; exact F.1
      have xn : x ∉ pre := fun hx => by
        rw [List.nodup_append] at nd
        exact nd.2.2 x hx x List.mem_cons_self rfl
      have xm : x ∈ b.dl := by rw [← e2]; simp
      have ln : pre.length ≤ 3 := by
        have := congrArg List.length e2
        rw [List.length_append] at this
        omega
      have g : getD (lsL pre .zero) (.str x) = none := by
        unfold lsL
        have e1 : eqD (D.str "fresh") (.str x) = ((Str.ofString "fresh") == x) := rfl
        have e2 : eqD (D.str "held") (.str x) = ((Str.ofString "held") == x) := rfl
        have n1 : ¬ ((Str.ofString "fresh") == x) = true := by simp; intro z; subst z; exact F.2.1 xm
        have n2 : ¬ ((Str.ofString "held") == x) = true := by simp; intro z; subst z; exact F.2.2 xm
        rw [getD_cons, e1, if_neg n1, getD_cons, e2, if_neg n2]
        have := getD_names (fun _ : Unit => D.int 0) (pre.map fun d => (d, ())) x (by simpa using xn)
        rw [List.map_map] at this
        exact this
      simp only [wB, wS, wE, wEs, wPs, wT, wAnd, wOr, wAndT, wOrT, wIfs, wPart, wIt, dB, dVar, wTg, tgSet, tgSets, Tg.idx, Tgs.idx, List.getElem?_cons_zero, List.getElem?_cons_succ, List.set_cons_zero, List.set_cons_succ, fIx, ixD, seqOf, dctOf, lstOf, fCmp, fNe, dOrd, dBif, dBin, dAdd, dSub, dMul, dMod, cInt, fLen, lenD, fTup, endsOf, startD, mkL, dSl, cList, cSorted, itemsOf, strsOf_map, Bool.false_eq_true, if_true, if_false, List.map, List.length, List.replicate, List.cons_append, List.nil_append, b_law_begin_2, fSet, updM_same]
      refine ⟨ls_ok _ _ _, by unfold lsL; simp; omega, ?_⟩
      rw [putD_new _ _ _ g, updM_updM]
      refine hK _ _ ⟨pre ++ [x], rest, _, rfl, by simpa using e2, rfl, ?_⟩
      unfold lsL
      simp [LS.zero]
  rintro σ M' ⟨pre, rest, a, e1, e2, rfl, rfl⟩
  have er : rest = [] := by cases rest with | nil => rfl | cons _ _ => simp at e1
  subst er
  rw [List.append_nil] at e2
  subst e2
  simp only [b_law_begin_1, wB, wS, wE, wEs, wPs, wT, wAnd, wOr, wAndT, wOrT, wIfs, wPart, wIt, dB, dVar, wTg, tgSet, tgSets, Tg.idx, Tgs.idx, List.getElem?_cons_zero, List.getElem?_cons_succ, List.set_cons_zero, List.set_cons_succ, fIx, ixD, seqOf, dctOf, lstOf, fCmp, fNe, dOrd, dBif, dBin, dAdd, dSub, dMul, dMod, cInt, fLen, lenD, fTup, endsOf, startD, mkL, dSl, cList, cSorted, itemsOf, strsOf_map, Bool.false_eq_true, if_true, if_false, List.map, List.length, List.replicate, List.cons_append, List.nil_append, fzK, updM_same]
  rw [delM_updM hp]
  exact hQ
end Dg
end
section
set_option Elab.async false
set_option linter.all false
set_option maxRecDepth 100000
set_option maxHeartbeats 4000000
/-! Marksheld: the law's own machine, 2. -/
namespace Dg
open PySem
open Dy (E Es B S It Tg Tgs Lhs D DSp DK XQ Mp MO DEnds Sd)
open Dy
/-- is a part so -/
def isL (cnt : Str → Int) (held : List Str) : Prt → Bool
  | .cnt true d n => decide (n ≤ cnt d)
  | .cnt false d n => decide (cnt d < n)
  | .mk h m => decide (m ∈ held) == h
/-- a part speaks of what there is -/
def PrtIn (dl : List Str) : Prt → Prop
  | .cnt _ d _ => d ∈ dl
  | .mk _ _ => True
def dOf (M : Mp) : D → Option (List (D × D)) := dctOf M
theorem any_eq (x : Str) : ∀ l : List Str, (l.map D.str).any (fun z => eqD z (.str x)) = decide (x ∈ l)
  | [] => by simp
  | a :: r => by
    have e : eqD (D.str a) (.str x) = (a == x) := rfl
    rw [List.map_cons, List.any_cons, any_eq x r, e]
    by_cases z : a = x
    · subst z; simp
    · have : ¬ x = a := Ne.symm z
      simp [z, this]
theorem in_strs {M : Mp} {x : Str} {l : List Str} : inD M (.str x) (.lst (l.map D.str)) = some (decide (x ∈ l)) := by
  have e : inD M (.str x) (.lst (l.map D.str)) = if (plain (D.str x) && plains (l.map D.str) && (decide (dep (D.str x) ≤ 60) || decide (deps (l.map D.str) ≤ 60))) = true then some ((l.map D.str).any fun z => eqD z (.str x)) else none := by rfl
  rw [e, plains_str, any_eq, if_pos]
  simp [Dy.plain, dep]
theorem fIx_dc {x y v : D} {M : Mp} {Q : DK} {kvs : List (D × D)} (q1 : seqOf M x = none) (q2 : dctOf M x = some kvs) (ok : keyOk y kvs = true) (g : getD kvs y = some v) : fIx x y M Q = Q v M := by
  unfold fIx ixD
  rw [q1, q2]
  simp only [ok, if_true, g]
theorem fIx_tp {l : List D} {i : Int} {v : D} {M : Mp} {Q : DK} (g : L2.atI l i = some v) : fIx (.tup l) (.int i) M Q = Q v M := by
  unfold fIx ixD
  simp only [seqOf, g]
theorem fIx_ls {l : List D} {i : Int} {v : D} {M : Mp} {Q : DK} (g : L2.atI l i = some v) : fIx (.lst l) (.int i) M Q = Q v M := by
  unfold fIx ixD
  simp only [seqOf, g]
theorem fIx_dt {l : List (D × D)} {y v : D} {M : Mp} {Q : DK} (ok : keyOk y l = true) (g : getD l y = some v) : fIx (.dct l) y M Q = Q v M := fIx_dc rfl rfl ok g
theorem dEq_strE {neg : Bool} {i j : Str} {M : Mp} {Q : DK} : dEq neg (.str i) (.str j) M Q = Q (.bl (if neg then !(i == j) else i == j)) M := by
  apply propext
  exact ⟨fun h => h.2.2.2, dEq_str⟩
theorem dEq_intE {neg : Bool} {i j : Int} {M : Mp} {Q : DK} : dEq neg (.int i) (.int j) M Q = Q (.bl (if neg then !(i == j) else i == j)) M := by
  apply propext
  exact ⟨fun h => h.2.2.2, dEq_int⟩
theorem dEq_blE {neg : Bool} {i j : Bool} {M : Mp} {Q : DK} : dEq neg (.bl i) (.bl j) M Q = Q (.bl (if neg then !(i == j) else i == j)) M := by
  apply propext
  exact ⟨fun h => h.2.2.2, fun h => ⟨rfl, rfl, .inl (show (0 : Nat) ≤ 60 by decide), h⟩⟩
/-- a standing of the law stands as x -/
def IsLS (dl : List Str) (s : LS) (M : Mp) (x : D) : Prop := x = lsD dl s ∨ ∃ p, x = .ref p ∧ M p = some (.dct (lsL dl s))
theorem IsLS.sq {dl : List Str} {s : LS} {M : Mp} {x : D} (h : IsLS dl s M x) : seqOf M x = none := by rcases h with rfl | ⟨p, rfl, e⟩ <;> simp [lsD, seqOf, *]
theorem IsLS.dc {dl : List Str} {s : LS} {M : Mp} {x : D} (h : IsLS dl s M x) : dctOf M x = some (lsL dl s) := by rcases h with rfl | ⟨p, rfl, e⟩ <;> simp [lsD, dctOf, *]
theorem IsLS.held {dl : List Str} {s : LS} {M : Mp} {x : D} (h : IsLS dl s M x) {Q : DK} : fIx x (.str "held") M Q = Q (.lst (s.held.map .str)) M := fIx_dc h.sq h.dc (ls_ok _ _ _) (ls_held _ _)
theorem IsLS.fresh {dl : List Str} {s : LS} {M : Mp} {x : D} (h : IsLS dl s M x) {Q : DK} : fIx x (.str "fresh") M Q = Q (.lst (s.fresh.map .str)) M := fIx_dc h.sq h.dc (ls_ok _ _ _) (ls_fresh _ _)
theorem IsLS.cnt {dl : List Str} {s : LS} {M : Mp} {x : D} (h : IsLS dl s M x) (F : Fit dl) {d : Str} (hd : d ∈ dl) {Q : DK} : fIx x (.str d) M Q = Q (.int (s.cnt d)) M := fIx_dc h.sq h.dc (ls_ok _ _ _) (ls_cnt F _ hd)
def spIs : DSp := fun ds M Q _ => ∃ dl s x r, ds = [x, prtD r] ∧ IsLS dl s M x ∧ Fit dl ∧ PrtIn dl r ∧ Q (.bl (isL s.cnt s.held r)) M
theorem fIn_strs {neg : Bool} {x : Str} {l : List Str} {M : Mp} {Q : DK} : fIn neg (.str x) (.lst (l.map D.str)) M Q = Q (.bl (if neg then !decide (x ∈ l) else decide (x ∈ l))) M := by
  unfold fIn
  rw [in_strs]
theorem w_is (c : Str → DSp) (ds : List D) (M : Mp) (Q : DK) (E : XQ) (h : spIs ds M Q E) : wB E (b_law_is c) (endsOf Q) (startD N_law_is ds) M := by
  obtain ⟨dl, s, x, r, rfl, hx, F, hr, hQ⟩ := h
  have eN : N_law_is.length = 2 := by rfl
  have hz : 1000 ≤ sizeLine := by decide
  cases r with
  | cnt l d n =>
    have a0 : L2.atI [D.str (if l then "least" else "below"), .str d, .int n] 0 = some (.str (if l then "least" else "below")) := by rfl
    have a1 : L2.atI [D.str (if l then "least" else "below"), .str d, .int n] 1 = some (.str d) := by rfl
    have a2 : L2.atI [D.str (if l then "least" else "below"), .str d, .int n] 2 = some (.int n) := by rfl
    simp only [b_law_is, b_law_is_1, b_law_is_2, b_law_is_3, b_law_is_4, wB, wS, wT, dB, wE, dVar, startD, eN, List.replicate, List.length, endsOf, List.map, List.cons_append, List.nil_append, List.getElem?_cons_zero, List.getElem?_cons_succ, fCmp, prtD, fIx_tp a0, fIx_tp a1, fIx_tp a2, dEq_strE, dOrd, hx.cnt F (d := d) hr]
    cases l with
    | true =>
      have e : ((Str.ofString (if true = true then "least" else "below")) == (Str.ofString "least")) = true := by decide +kernel
      simp only [e, Bool.false_eq_true, if_false, if_true]
      exact hQ
    | false =>
      have e : ((Str.ofString (if false = true then "least" else "below")) == (Str.ofString "least")) = false := by decide +kernel
      have e2 : ((Str.ofString (if false = true then "least" else "below")) == (Str.ofString "below")) = true := by decide +kernel
      simp only [e, e2, Bool.false_eq_true, if_false, if_true]
      exact hQ
  | mk l m =>
    cases l with
    | true =>
      have a0 : L2.atI [D.str "has", .str m] 0 = some (.str "has") := by rfl
      have a1 : L2.atI [D.str "has", .str m] 1 = some (.str m) := by rfl
      have e : ((Str.ofString "has") == (Str.ofString "least")) = false := by decide +kernel
      have e2 : ((Str.ofString "has") == (Str.ofString "below")) = false := by decide +kernel
      have e3 : ((Str.ofString "has") == (Str.ofString "has")) = true := by decide +kernel
      simp only [b_law_is, b_law_is_1, b_law_is_2, b_law_is_3, b_law_is_4, wB, wS, wT, dB, wE, dVar, startD, eN, List.replicate, List.length, endsOf, List.map, List.cons_append, List.nil_append, List.getElem?_cons_zero, List.getElem?_cons_succ, fCmp, prtD, fIx_tp a0, fIx_tp a1, dEq_strE, dEq_blE, hx.held, fIn_strs, e, e2, e3, Bool.false_eq_true, if_false, if_true]
      exact hQ
    | false =>
      have a0 : L2.atI [D.str "lacks", .str m] 0 = some (.str "lacks") := by rfl
      have a1 : L2.atI [D.str "lacks", .str m] 1 = some (.str m) := by rfl
      have e : ((Str.ofString "lacks") == (Str.ofString "least")) = false := by decide +kernel
      have e2 : ((Str.ofString "lacks") == (Str.ofString "below")) = false := by decide +kernel
      have e3 : ((Str.ofString "lacks") == (Str.ofString "has")) = false := by decide +kernel
      simp only [b_law_is, b_law_is_1, b_law_is_2, b_law_is_3, b_law_is_4, wB, wS, wT, dB, wE, dVar, startD, eN, List.replicate, List.length, endsOf, List.map, List.cons_append, List.nil_append, List.getElem?_cons_zero, List.getElem?_cons_succ, fCmp, prtD, fIx_tp a0, fIx_tp a1, dEq_strE, dEq_blE, hx.held, fIn_strs, e, e2, e3, Bool.false_eq_true, if_false, if_true]
      exact hQ
/-! ### grounds -/
theorem lc_map {α : Type} (g : α → Dy.D) (f : α → Option Dy.D) {M : Mp} {p : Addr} {one : Dy.D → Mp → (Option Dy.D → Mp → Prop) → Prop} {Q : DK} (hp : M p = none) : ∀ (xs : List α) (acc : List Dy.D), acc.length + xs.length ≤ sizeLine →
    (∀ x ∈ xs, ∀ M', LeM M M' → ∀ K : Option Dy.D → Mp → Prop, K (f x) M' → one (g x) M' K) → Q (.lst (acc ++ xs.filterMap f)) M → ∀ (all : List Dy.D), lcRun (.val all) p one (lcEnd true p Q) (xs.map g) acc (updM M p (.lst acc))
  | [], acc, _, _, q, all => by
    refine ⟨trivial, updM_same, ?_⟩
    show Q (.lst acc) (delM _ p)
    rw [delM_updM hp]
    simpa using q
  | d :: ds, acc, hl, h, q, all => by
    refine ⟨trivial, h d List.mem_cons_self _ (LeM.new hp) _ ?_⟩
    simp only [List.length_cons] at hl
    cases e : f d with
    | none =>
      refine ⟨updM_same, lc_map g f hp ds acc (by omega) (fun d' hd => h d' (List.mem_cons_of_mem _ hd)) ?_ all⟩
      rw [List.filterMap_cons, e] at q
      exact q
    | some r =>
      refine ⟨updM_same, by omega, ?_⟩
      rw [updM_updM]
      refine lc_map g f hp ds (acc ++ [r]) (by simp; omega) (fun d' hd => h d' (List.mem_cons_of_mem _ hd)) ?_ all
      rw [List.filterMap_cons, e] at q
      simpa using q
theorem forN_map {α : Type} (g : α → Dy.D) {all : List Dy.D} {t : Dy.D → Sd → Mp → (Sd → Mp → Prop) → Prop} {b : DTS} {J : DEnds} (Inv : List α → Sd → Mp → Prop)
    (step : ∀ d ds σ M (K : Sd → Mp → Prop), Inv (d :: ds) σ M → (∀ σ' M', Inv ds σ' M' → K σ' M') → t (g d) σ M fun σ1 M1 => b { nx := K, ct := K, bk := J.nx, rt := J.rt } σ1 M1) (done : ∀ σ M, Inv [] σ M → J.nx σ M) :
    ∀ xs σ M, Inv xs σ M → forN (.val all) t b J (xs.map g) σ M
  | [], σ, M, h => ⟨trivial, done σ M h⟩
  | d :: ds, σ, M, h => ⟨trivial, step d ds σ M _ h fun σ' M' h' => forN_map g Inv step done ds σ' M' h'⟩
theorem dEq_nil {neg : Bool} {l : List Dy.D} {M : Mp} {Q : DK} (p : plains l = true) (h : Q (.bl (if neg then !l.isEmpty else l.isEmpty)) M) : dEq neg (.lst l) (.lst []) M Q := by
  refine ⟨p, rfl, .inr (by simp [Dy.top, dep, deps]), ?_⟩
  have e : eqD (Dy.top M (.lst l)) (Dy.top M (.lst [])) = l.isEmpty := by
    cases l <;> rfl
  rw [e]; exact h
theorem IsLS.up {dl : List Str} {s : LS} {M M' : Mp} {x : Dy.D} (h : IsLS dl s M x) (l : LeM M M') : IsLS dl s M' x := by
  rcases h with h | ⟨p, h, e⟩
  · exact .inl h
  · exact .inr ⟨p, h, l p _ e⟩
def Bk.get (b : Bk) (x : Str) : Mrk := (b.marks.lookup x).getD ([], .always)
theorem lookup_mem {α : Type} (x : Str) : ∀ l : List (Str × α), x ∈ l.map (·.1) → ∃ v, l.lookup x = some v ∧ (x, v) ∈ l
  | [], h => nomatch h
  | (a, v) :: r, h => by
    rw [List.lookup_cons]
    by_cases z : x = a
    · subst z; exact ⟨v, by simp, List.mem_cons_self⟩
    · have : (x == a) = false := by simpa using z
      rw [this]
      obtain ⟨w, h1, h2⟩ := lookup_mem x r ((List.mem_cons.mp h).resolve_left z)
      exact ⟨w, h1, List.mem_cons_of_mem _ h2⟩
theorem get_mem {b : Bk} {x : Str} (h : x ∈ b.mn) : (x, b.get x) ∈ b.marks := by
  obtain ⟨v, e, m⟩ := lookup_mem x b.marks h
  unfold Bk.get
  rw [e]; exact m
theorem getD_look {α : Type} (f : α → Dy.D) (x : Str) : ∀ l : List (Str × α), getD (l.map fun p => (Dy.D.str p.1, f p.2)) (.str x) = (l.lookup x).map f
  | [] => rfl
  | (a, v) :: r => by
    rw [List.map_cons, getD_cons, List.lookup_cons]
    have e : eqD (Dy.D.str a) (.str x) = (a == x) := rfl
    rw [e]
    by_cases z : a = x
    · subst z; simp
    · rw [if_neg (by simpa using z)]
      have : (x == a) = false := by simpa using Ne.symm z
      rw [this]; exact getD_look f x r
theorem mark_get {b : Bk} {x : Str} (h : x ∈ b.mn) : getD (marksD b.marks) (.str x) = some (mrkD (b.get x)) := by
  obtain ⟨v, e, m⟩ := lookup_mem x b.marks h
  unfold marksD
  rw [getD_look mrkD, Bk.get, e]; rfl
theorem mark_ok (b : Bk) (x : Str) : keyOk (.str x) (marksD b.marks) = true := keyOk_names mrkD b.marks x
theorem get_in {b : Bk} (ok : Ok b) {x : Str} (h : x ∈ b.mn) : (∀ r ∈ (b.get x).1, PrtIn b.dl r) ∧ (b.get x).1.length ≤ 3 := by
  obtain ⟨⟨_, l, _, o⟩, _⟩ := ok.ok _ (get_mem h)
  refine ⟨fun r hr => ?_, l⟩
  have := o r hr
  cases r with
  | cnt _ d n => exact dl_mem.mpr this.1
  | mk _ _ => trivial
/-- is a mark grounded -/
def groundedL (b : Bk) (cnt : Str → Int) (held : List Str) (x : Str) : Bool := (b.get x).1.all (isL cnt held)
def spGrounded : DSp := fun ds M Q _ => ∃ b s y x, ds = [tD b, y, .str x] ∧ Ok b ∧ IsLS b.dl s M y ∧ x ∈ b.mn ∧ Q (.bl (groundedL b s.cnt s.held x)) M
theorem plains_map {α : Type} (f : α → Dy.D) (h : ∀ a, Dy.plain (f a) = true) : ∀ l : List α, plains (l.map f) = true
  | [] => rfl
  | a :: r => by rw [List.map_cons, plains, h a, plains_map f h r]; rfl
theorem prt_plain (r : Prt) : Dy.plain (prtD r) = true := by cases r <;> rfl
theorem w_grounded (c : Str → DSp) (hc : c "_law_is" = spIs) (ds : List D) (M : Mp) (Q : DK) (E : XQ) (h : spGrounded ds M Q E) : wB E (b_law_grounded c) (endsOf Q) (startD N_law_grounded ds) M := by
  obtain ⟨b, s, y, x, rfl, ok, hy, hx, hQ⟩ := h
  have eN : N_law_grounded.length = 4 := by rfl
  have hz : 1000 ≤ sizeLine := by decide
  obtain ⟨gi, gl⟩ := get_in ok hx
  have F := dl_fit ok
  have a0 : L2.atI [D.tup ((b.get x).1.map prtD), styD (b.get x).2] 0 = some (.tup ((b.get x).1.map prtD)) := by rfl
  simp only [b_law_grounded, wB, wS, wT, dB, wE, wEs, wIt, dVar, startD, eN, List.replicate, List.length, endsOf, List.map, List.cons_append, List.nil_append, List.getElem?_cons_zero, List.getElem?_cons_succ, fCmp, tD, fIx_dt (o_marks b) (k_marks b), fIx_dt (mark_ok b x) (mark_get hx), mrkD, fIx_tp a0, hc]
  intro p hp
  simp only [srcOf, Src.items]
  refine lc_map prtD (fun r => if isL s.cnt s.held r = true then none else some (prtD r)) hp _ [] (by simp; omega) ?_ ?_ _
  · intro r hr M' hM K hK
    simp only [wB, wS, wE, wEs, wPs, wT, wAnd, wOr, wAndT, wOrT, wIfs, wPart, wIt, dB, dVar, wTg, tgSet, tgSets, Tg.idx, Tgs.idx, List.getElem?_cons_zero, List.getElem?_cons_succ, List.set_cons_zero, List.set_cons_succ, fIx, ixD, seqOf, dctOf, lstOf, fCmp, fNe, dOrd, dBif, dBin, dAdd, dSub, dMul, dMod, cInt, fLen, lenD, fTup, endsOf, startD, mkL, dSl, cList, cSorted, itemsOf, strsOf_map, Bool.false_eq_true, if_true, if_false, List.map, List.length, List.replicate, List.cons_append, List.nil_append, wipeD]
    refine ⟨b.dl, s, y, r, rfl, hy.up hM, F, gi r hr, ?_⟩
    cases e : isL s.cnt s.held r with
    | true => rw [e] at hK; exact hK
    | false => rw [e] at hK; exact hK
  · rw [List.nil_append]
    have fm : ∀ g : List Prt, g.filterMap (fun r => if isL s.cnt s.held r = true then none else some (prtD r)) = (g.filter fun r => !isL s.cnt s.held r).map prtD := fun g => by
      induction g with
      | nil => rfl
      | cons a r ih =>
        rw [List.filterMap_cons, List.filter_cons, ih]
        cases isL s.cnt s.held a <;> rfl
    have em : ∀ g : List Prt, ((g.filter fun r => !isL s.cnt s.held r).map prtD).isEmpty = g.all (isL s.cnt s.held) := fun g => by
      induction g with
      | nil => rfl
      | cons a r ih =>
        rw [List.filter_cons, List.all_cons]
        cases isL s.cnt s.held a
        · rfl
        · simpa using ih
    rw [fm]
    refine ⟨by decide, dEq_nil (plains_map prtD prt_plain _) ?_⟩
    rw [em]; exact hQ
end Dg
end
section
set_option Elab.async false
set_option linter.all false
set_option maxRecDepth 100000
set_option maxHeartbeats 4000000
/-! Marksheld: the law's look. -/
namespace Dg
open PySem
open Dy (E Es B S It Tg Tgs Lhs D DSp DK XQ Mp MO DEnds Sd)
open Dy
/-- does a mark held fall away, by its own ground -/
def falls (b : Bk) (cnt : Str → Int) (held : List Str) (x : Str) : Bool := decide (x ∈ held) && (decide ((b.get x).2 = .ground) && !groundedL b cnt held x)
def comes (b : Bk) (cnt : Str → Int) (held : List Str) (x : Str) : Bool := !decide (x ∈ held) && groundedL b cnt held x
def without (held : List Str) (x : Str) : List Str := held.filter fun y => !(y == x)
def lostN (b : Bk) (cnt : Str → Int) (some : List Str) : Nat → List Str → List Str → List Str × List Str
  | 0, held, out => (held, out)
  | n + 1, held, out => match some.find? (falls b cnt held) with
    | none => (held, out)
    | Option.some x => lostN b cnt some n (without held x) (out ++ [x])
def earnN (b : Bk) (cnt : Str → Int) (some : List Str) : Nat → List Str → List Str
  | 0, held => held
  | n + 1, held => match some.find? (comes b cnt held) with
    | none => held
    | Option.some x => earnN b cnt some n (srt (held ++ [x]))
/-- how many of some are not held -/
def gap (some held : List Str) : Nat := (some.filter fun x => !decide (x ∈ held)).length
def lookL (b : Bk) (cnt : Str → Int) (some held : List Str) : List Str × List Str :=
  let r := lostN b cnt some held.length held []
  (earnN b cnt some (gap some r.1) r.1, r.2)
theorem without_lt {held : List Str} {x : Str} (h : x ∈ held) : (without held x).length < held.length := by
  unfold without
  exact List.length_filter_lt_length_iff_exists.mpr ⟨x, h, by simp⟩
theorem falls_mem {b : Bk} {cnt : Str → Int} {held : List Str} {x : Str} (h : falls b cnt held x = true) : x ∈ held := by
  unfold falls at h
  simp only [Bool.and_eq_true, decide_eq_true_eq] at h
  exact h.1
theorem gap_lt {some held : List Str} {x : Str} (h : x ∈ some) (n : x ∉ held) : gap some (srt (held ++ [x])) < gap some held := by
  unfold gap
  have e : (some.filter fun y => !decide (y ∈ srt (held ++ [x]))) = (some.filter fun y => !decide (y ∈ held)).filter fun y => !(y == x) := by
    rw [List.filter_filter]
    refine List.filter_congr fun y _ => ?_
    have : y ∈ srt (held ++ [x]) ↔ y ∈ held ∨ y = x := by rw [(srt_perm _).mem_iff]; simp
    by_cases z : y = x
    · subst z; simp [this]
    · simp [this, z]
  rw [e]
  exact List.length_filter_lt_length_iff_exists.mpr ⟨x, List.mem_filter.mpr ⟨h, by simpa using n⟩, by simp⟩
def spLook : DSp := fun ds M Q _ => ∃ b s p some, ds = [tD b, .ref p, .lst (some.map .str)] ∧ Ok b ∧ M p = Option.some (.dct (lsL b.dl s)) ∧ (∀ x ∈ some, x ∈ b.mn) ∧ some.length ≤ 4 ∧ s.held.length ≤ 4 ∧
  Q (.lst ((lookL b s.cnt (srt some) s.held).2.map .str)) (updM M p (.dct (lsL b.dl { s with held := (lookL b s.cnt (srt some) s.held).1 })))
/-- two places of a map told, the others as they were -/
structure St2 (M M' : Mp) (p q : Addr) (o u : MO) : Prop where
  ep : M' p = some o
  eq : M' q = some u
  ot : ∀ a, a ≠ p → a ≠ q → M' a = M a
theorem St2.p {M M' : Mp} {p q : Addr} {o u : MO} (s : St2 M M' p q o u) (n : p ≠ q) (o' : MO) : St2 M (updM M' p o') p q o' u :=
  ⟨updM_same, by rw [updM_ne (Ne.symm n)]; exact s.eq, fun a h1 h2 => by rw [updM_ne h1]; exact s.ot a h1 h2⟩
theorem St2.q {M M' : Mp} {p q : Addr} {o u : MO} (s : St2 M M' p q o u) (n : p ≠ q) (u' : MO) : St2 M (updM M' q u') p q o u' :=
  ⟨by rw [updM_ne n]; exact s.ep, updM_same, fun a h1 h2 => by rw [updM_ne h2]; exact s.ot a h1 h2⟩
theorem St2.done {M M' : Mp} {p q : Addr} {o u : MO} (s : St2 M M' p q o u) (n : p ≠ q) (h : M q = none) : delM M' q = updM M p o := by
  funext a
  by_cases z : a = q
  · subst z; rw [delM_same, updM_ne (Ne.symm n), h]
  · rw [delM_ne z]
    by_cases y : a = p
    · subst y; rw [updM_same]; exact s.ep
    · rw [updM_ne y]; exact s.ot a y z
def styN : Sty → Str
  | .always => "always"
  | .ground => "ground"
  | .till _ => "till"
theorem sty_0 (s : Sty) : ∃ l, styD s = .tup l ∧ L2.atI l 0 = some (.str (styN s)) := by
  cases s
  · exact ⟨_, rfl, by rfl⟩
  · exact ⟨_, rfl, by rfl⟩
  · exact ⟨_, rfl, by rfl⟩
theorem sty_g (s : Sty) : (styN s == Str.ofString "ground") = decide (s = .ground) := by
  cases s
  · decide +kernel
  · decide +kernel
  · rw [show decide (Sty.till _ = Sty.ground) = false from by simp]
    show (Str.ofString "till" == Str.ofString "ground") = false
    decide +kernel
theorem lc_without {M : Mp} {p : Addr} {one : Dy.D → Mp → (Option Dy.D → Mp → Prop) → Prop} {Q : DK} (hp : M p = none) (held : List Str) (x : Str) (hl : held.length ≤ 1000) (h : ∀ y ∈ held, ∀ M', LeM M M' → ∀ K : Option Dy.D → Mp → Prop, K (if y == x then none else some (.str y)) M' → one (.str y) M' K)
    (q : Q (.lst ((without held x).map .str)) M) (all : List Dy.D) : lcRun (.val all) p one (lcEnd true p Q) (held.map .str) [] (updM M p (.lst [])) := by
  have hz : 1000 ≤ sizeLine := by decide
  refine lc_map Dy.D.str (fun y => if y == x then none else some (.str y)) hp held [] (by simp; omega) h ?_ all
  have e : held.filterMap (fun y => if (y == x) = true then none else some (Dy.D.str y)) = (without held x).map .str := by
    unfold without
    clear h q hl
    induction held with
    | nil => rfl
    | cons a r ih =>
      rw [List.filterMap_cons, List.filter_cons, ih]
      cases a == x <;> rfl
  rw [List.nil_append, e]
  exact q
section
variable {b : Bk} {cnt : Str → Int} {fresh : List Str} {c : Str → DSp} {Q : DK} {E : XQ} {M : Mp} {p q : Addr} {some : List Str}
def lkS (cnt : Str → Int) (fresh held : List Str) (dl : List Str) : MO := .dct (lsL dl ⟨cnt, fresh, held⟩)
def lkO (out : List Str) : MO := .lst (out.map .str)
def lkV (b : Bk) (p q : Addr) (some : List Str) (g : Bool) (x y : Option Dy.D) : Sd := [Option.some (tD b), Option.some (.ref p), Option.some (.lst (some.map .str)), Option.some (.ref q), Option.some (.bl g), x, y]
theorem look_one (hc : c "_law_grounded" = spGrounded) (ok : Ok b) (n : p ≠ q) {M' : Mp} {held out : List Str} (hh : held.length ≤ 1000) (ho : out.length ≤ 900) (s : St2 M M' p q (lkS cnt fresh held b.dl) (lkO out)) {x : Str} (hx : x ∈ b.mn) (y : Option Dy.D) (J : DEnds)
    (no : falls b cnt held x = false → J.nx (lkV b p q some false (.some (.str x)) y) M')
    (yes : falls b cnt held x = true → ∀ M'', St2 M M'' p q (lkS cnt fresh (without held x) b.dl) (lkO (out ++ [x])) → J.nx (lkV b p q some true (.some (.str x)) y) M'') :
    wB E (b_law_look_12 c) J (lkV b p q some false (.some (.str x)) y) M' := by
  have hz : 1000 ≤ sizeLine := by decide
  have F := dl_fit ok
  have ld := ok.dlen
  have ld2 := dl_len b
  have I : IsLS b.dl ⟨cnt, fresh, held⟩ M' (.ref p) := .inr ⟨p, rfl, s.ep⟩
  obtain ⟨l, el, e0⟩ := sty_0 (b.get x).2
  have a1 : L2.atI [D.tup ((b.get x).1.map prtD), styD (b.get x).2] 1 = Option.some (.tup l) := by rw [← el]; rfl
  simp only [b_law_look_12, lkV, wB, wS, wT, dB, wAndT, wE, wEs, dVar, List.getElem?_cons_zero, List.getElem?_cons_succ, fCmp, I.held, fIn_strs, tD, fIx_dt (o_marks b) (k_marks b), fIx_dt (mark_ok b x) (mark_get hx), mrkD, fIx_tp a1, fIx_tp e0, dEq_strE, sty_g, hc, Bool.not_false, Bool.false_eq_true, if_false, if_true]
  by_cases h1 : x ∈ held
  · rw [if_pos (by simpa using h1)]
    by_cases h2 : (b.get x).2 = .ground
    · rw [if_pos (by simpa using h2)]
      refine ⟨b, _, _, x, rfl, ok, I, hx, ?_⟩
      cases h3 : groundedL b cnt held x with
      | true =>
        simp only [Bool.not_true, Bool.false_eq_true, if_false]
        exact no (by unfold falls; rw [h3]; simp)
      | false =>
        simp only [Bool.not_false, if_true]
        have fl : falls b cnt held x = true := by unfold falls; rw [h3]; simp [h1, h2]
        simp only [b_law_look_11, wB, wS, wE, wEs, wIt, dVar, List.getElem?_cons_zero, List.getElem?_cons_succ, I.held]
        intro A hA
        refine lc_without hA held x hh ?_ ?_ _
        · intro y hy M2 hM K hK
          simp only [wB, wS, wE, wEs, wPs, wT, wAnd, wOr, wAndT, wOrT, wIfs, wPart, wIt, dB, dVar, wTg, tgSet, tgSets, Tg.idx, Tgs.idx, List.getElem?_cons_zero, List.getElem?_cons_succ, List.set_cons_zero, List.set_cons_succ, fIx, ixD, seqOf, dctOf, lstOf, fCmp, fNe, dOrd, dBif, dBin, dAdd, dSub, dMul, dMod, cInt, fLen, lenD, fTup, endsOf, startD, mkL, dSl, cList, cSorted, itemsOf, strsOf_map, Bool.false_eq_true, if_true, if_false, List.map, List.length, List.replicate, List.cons_append, List.nil_append, wipeD]
          refine dEq_str ?_
          cases e : y == x with
          | true => rw [e] at hK; exact hK
          | false => rw [e] at hK; exact hK
        · simp only [fSet, s.ep, lkS]
          refine ⟨ls_ok _ _ _, by unfold lsL; simp; omega, ?_⟩
          rw [ls_putH F]
          have s1 := s.p n (lkS cnt fresh (without held x) b.dl)
          show wB E (b_law_look_10 c) _ _ (updM M' p (lkS cnt fresh (without held x) b.dl))
          generalize updM M' p (lkS cnt fresh (without held x) b.dl) = M3 at s1
          simp only [b_law_look_10, b_law_look_9, wB, wS, wE, wEs, wPs, wT, wAnd, wOr, wAndT, wOrT, wIfs, wPart, wIt, dB, dVar, wTg, tgSet, tgSets, Tg.idx, Tgs.idx, List.getElem?_cons_zero, List.getElem?_cons_succ, List.set_cons_zero, List.set_cons_succ, fIx, ixD, seqOf, dctOf, lstOf, fCmp, fNe, dOrd, dBif, dBin, dAdd, dSub, dMul, dMod, cInt, fLen, lenD, fTup, endsOf, startD, mkL, dSl, cList, cSorted, itemsOf, strsOf_map, Bool.false_eq_true, if_true, if_false, List.map, List.length, List.replicate, List.cons_append, List.nil_append, dMth, Mth.T, tyD, mAppend, s1.eq, lkO]
          refine ⟨by first | rfl | simp, by simp; omega, ?_⟩
          have s2 := s1.q n (lkO (out ++ [x]))
          have e : (List.map D.str out ++ [D.str x]) = (out ++ [x]).map D.str := by simp
          rw [e]
          exact yes fl _ s2
    · rw [if_neg (by simpa using h2)]
      exact no (by unfold falls; simp [h2])
  · rw [if_neg (by simpa using h1)]
    exact no (by unfold falls; simp [h1])
theorem earn_one (hc : c "_law_grounded" = spGrounded) (ok : Ok b) (n : p ≠ q) {M' : Mp} {held out : List Str} (hh : held.length ≤ 60) (s : St2 M M' p q (lkS cnt fresh held b.dl) (lkO out)) {x : Str} (hx : x ∈ b.mn) (y : Option Dy.D) (J : DEnds)
    (no : comes b cnt held x = false → J.nx (lkV b p q some false (.some (.str x)) y) M')
    (yes : comes b cnt held x = true → ∀ M'', St2 M M'' p q (lkS cnt fresh (srt (held ++ [x])) b.dl) (lkO out) → J.nx (lkV b p q some true (.some (.str x)) y) M'') :
    wB E (b_law_look_4 c) J (lkV b p q some false (.some (.str x)) y) M' := by
  have hz : 1000 ≤ sizeLine := by decide
  have F := dl_fit ok
  have ld := ok.dlen
  have ld2 := dl_len b
  have I : IsLS b.dl ⟨cnt, fresh, held⟩ M' (.ref p) := .inr ⟨p, rfl, s.ep⟩
  simp only [b_law_look_4, lkV, wB, wS, wT, dB, wAndT, wE, wEs, dVar, List.getElem?_cons_zero, List.getElem?_cons_succ, fCmp, I.held, fIn_strs, hc, Bool.not_false, Bool.false_eq_true, if_false, if_true]
  by_cases h1 : x ∈ held
  · rw [if_neg (by simpa using h1)]
    exact no (by unfold comes; simp [h1])
  · rw [if_pos (by simpa using h1)]
    refine ⟨b, _, _, x, rfl, ok, I, hx, ?_⟩
    cases h3 : groundedL b cnt held x with
    | false =>
      simp only [Bool.false_eq_true, if_false]
      exact no (by unfold comes; rw [h3]; simp)
    | true =>
      simp only [if_true]
      have fl : comes b cnt held x = true := by unfold comes; rw [h3]; simp [h1]
      have a1 : (held.map D.str) ++ [D.str x] = (held ++ [x]).map D.str := by simp
      simp only [b_law_look_3, wB, wS, wE, wEs, wIt, dVar, List.getElem?_cons_zero, List.getElem?_cons_succ, I.held, dBin, dAdd, dBif, cSorted, mkL]
      refine ⟨by simp only [List.length_cons, List.length_nil]; omega, by simp; omega, fz_newL ?_⟩
      rw [a1]
      simp only [itemsOf, lstOf, strsOf_map]
      refine ⟨.inr rfl, by simp; omega, fz_newL ?_⟩
      simp only [fSet, s.ep, lkS]
      refine ⟨ls_ok _ _ _, by unfold lsL; simp; omega, ?_⟩
      rw [ls_putH F]
      have s1 := s.p n (lkS cnt fresh (srt (held ++ [x])) b.dl)
      show wB E (b_law_look_2 c) _ _ (updM M' p (lkS cnt fresh (srt (held ++ [x])) b.dl))
      generalize updM M' p (lkS cnt fresh (srt (held ++ [x])) b.dl) = M3 at s1
      simp only [b_law_look_2, wB, wS, wE, wEs, wPs, wT, wAnd, wOr, wAndT, wOrT, wIfs, wPart, wIt, dB, dVar, wTg, tgSet, tgSets, Tg.idx, Tgs.idx, List.getElem?_cons_zero, List.getElem?_cons_succ, List.set_cons_zero, List.set_cons_succ, fIx, ixD, seqOf, dctOf, lstOf, fCmp, fNe, dOrd, dBif, dBin, dAdd, dSub, dMul, dMod, cInt, fLen, lenD, fTup, endsOf, startD, mkL, dSl, cList, cSorted, itemsOf, strsOf_map, Bool.false_eq_true, if_true, if_false, List.map, List.length, List.replicate, List.cons_append, List.nil_append]
      exact yes fl _ s1
end
end Dg
end
section
set_option Elab.async false
set_option linter.all false
set_option maxRecDepth 100000
set_option maxHeartbeats 4000000
/-! Marksheld: the law's look, 2. -/
namespace Dg
open PySem
open Dy (E Es B S It Tg Tgs Lhs D DSp DK XQ Mp MO DEnds Sd)
open Dy
section
variable {b : Bk} {cnt : Str → Int} {fresh : List Str} {c : Str → DSp} {Q : DK} {E : XQ} {M : Mp} {p q : Addr} {sm : List Str}
theorem look_pass (hc : c "_law_grounded" = spGrounded) (ok : Ok b) (n : p ≠ q) {M' : Mp} {held out : List Str} (hh : held.length ≤ 1000) (ho : out.length ≤ 900) (s : St2 M M' p q (lkS cnt fresh held b.dl) (lkO out)) (hs : ∀ x ∈ sm, x ∈ b.mn) (hl : sm.length ≤ 4) (g : Bool) (x y : Option Dy.D) (J : DEnds)
    (no : (srt sm).find? (falls b cnt held) = none → ∀ x y, J.nx (lkV b p q sm false x y) M')
    (yes : ∀ z, (srt sm).find? (falls b cnt held) = some z → ∀ x y M'', St2 M M'' p q (lkS cnt fresh (without held z) b.dl) (lkO (out ++ [z])) → J.nx (lkV b p q sm true x y) M'') :
    wB E (b_law_look_14 c) J (lkV b p q sm g x y) M' := by
  have hz : 1000 ≤ sizeLine := by decide
  simp only [b_law_look_14, b_law_look_13, lkV, wB, wS, wE, wEs, wPs, wT, wAnd, wOr, wAndT, wOrT, wIfs, wPart, wIt, dB, dVar, wTg, tgSet, tgSets, Tg.idx, Tgs.idx, List.getElem?_cons_zero, List.getElem?_cons_succ, List.set_cons_zero, List.set_cons_succ, fIx, ixD, seqOf, dctOf, lstOf, fCmp, fNe, dOrd, dBif, dBin, dAdd, dSub, dMul, dMod, cInt, fLen, lenD, fTup, endsOf, startD, mkL, dSl, cList, cSorted, itemsOf, strsOf_map, Bool.false_eq_true, if_true, if_false, List.map, List.length, List.replicate, List.cons_append, List.nil_append]
  refine ⟨.inr rfl, by omega, fz_newL ?_⟩
  simp only [srcOf, Src.items]
  refine forN_map D.str (fun rest σ M2 => (∀ z ∈ rest, z ∈ sm) ∧ ((∃ x, σ = lkV b p q sm false x y ∧ rest.find? (falls b cnt held) = (srt sm).find? (falls b cnt held) ∧ M2 = M') ∨
    (∃ z x, σ = lkV b p q sm true x y ∧ (srt sm).find? (falls b cnt held) = some z ∧ St2 M M2 p q (lkS cnt fresh (without held z) b.dl) (lkO (out ++ [z]))))) ?_ ?_ (srt sm) _ _ ⟨fun z hz => (srt_perm _).mem_iff.mp hz, .inl ⟨x, rfl, rfl, rfl⟩⟩
  · rintro d ds σ M2 K ⟨mem, h⟩ hK
    have mem' : ∀ z ∈ ds, z ∈ sm := fun z hz => mem z (List.mem_cons_of_mem _ hz)
    rcases h with ⟨x, rfl, e, rfl⟩ | ⟨z, x, rfl, e, s2⟩
    · refine look_one hc ok n hh ho s (hs d (mem d List.mem_cons_self)) y _ ?_ ?_
      · intro f
        refine hK _ _ ⟨mem', .inl ⟨_, rfl, ?_, rfl⟩⟩
        rw [← e, List.find?_cons, f]
      · intro f M3 s3
        refine hK _ _ ⟨mem', .inr ⟨d, _, rfl, ?_, s3⟩⟩
        rw [← e, List.find?_cons, f]
    · simp only [b_law_look_12, lkV, wB, wS, wE, wEs, wPs, wT, wAnd, wOr, wAndT, wOrT, wIfs, wPart, wIt, dB, dVar, wTg, tgSet, tgSets, Tg.idx, Tgs.idx, List.getElem?_cons_zero, List.getElem?_cons_succ, List.set_cons_zero, List.set_cons_succ, fIx, ixD, seqOf, dctOf, lstOf, fCmp, fNe, dOrd, dBif, dBin, dAdd, dSub, dMul, dMod, cInt, fLen, lenD, fTup, endsOf, startD, mkL, dSl, cList, cSorted, itemsOf, strsOf_map, Bool.false_eq_true, if_true, if_false, List.map, List.length, List.replicate, List.cons_append, List.nil_append, Bool.not_true]
      exact hK _ _ ⟨mem', .inr ⟨z, _, rfl, e, s2⟩⟩
  · rintro σ M2 ⟨_, h⟩
    rcases h with ⟨x, rfl, e, rfl⟩ | ⟨z, x, rfl, e, s2⟩
    · simp only [wB]
      exact no e.symm _ _
    · simp only [wB]
      exact yes z e _ _ _ s2
theorem earn_pass (hc : c "_law_grounded" = spGrounded) (ok : Ok b) (n : p ≠ q) {M' : Mp} {held out : List Str} (hh : held.length ≤ 60) (s : St2 M M' p q (lkS cnt fresh held b.dl) (lkO out)) (hs : ∀ x ∈ sm, x ∈ b.mn) (hl : sm.length ≤ 4) (g : Bool) (x y : Option Dy.D) (J : DEnds)
    (no : (srt sm).find? (comes b cnt held) = none → ∀ x y, J.nx (lkV b p q sm false x y) M')
    (yes : ∀ z, (srt sm).find? (comes b cnt held) = some z → ∀ x y M'', St2 M M'' p q (lkS cnt fresh (srt (held ++ [z])) b.dl) (lkO out) → J.nx (lkV b p q sm true x y) M'') :
    wB E (b_law_look_6 c) J (lkV b p q sm g x y) M' := by
  have hz : 1000 ≤ sizeLine := by decide
  simp only [b_law_look_6, b_law_look_5, lkV, wB, wS, wE, wEs, wPs, wT, wAnd, wOr, wAndT, wOrT, wIfs, wPart, wIt, dB, dVar, wTg, tgSet, tgSets, Tg.idx, Tgs.idx, List.getElem?_cons_zero, List.getElem?_cons_succ, List.set_cons_zero, List.set_cons_succ, fIx, ixD, seqOf, dctOf, lstOf, fCmp, fNe, dOrd, dBif, dBin, dAdd, dSub, dMul, dMod, cInt, fLen, lenD, fTup, endsOf, startD, mkL, dSl, cList, cSorted, itemsOf, strsOf_map, Bool.false_eq_true, if_true, if_false, List.map, List.length, List.replicate, List.cons_append, List.nil_append]
  refine ⟨.inr rfl, by omega, fz_newL ?_⟩
  simp only [srcOf, Src.items]
  refine forN_map D.str (fun rest σ M2 => (∀ z ∈ rest, z ∈ sm) ∧ ((∃ x, σ = lkV b p q sm false x y ∧ rest.find? (comes b cnt held) = (srt sm).find? (comes b cnt held) ∧ M2 = M') ∨
    (∃ z x, σ = lkV b p q sm true x y ∧ (srt sm).find? (comes b cnt held) = some z ∧ St2 M M2 p q (lkS cnt fresh (srt (held ++ [z])) b.dl) (lkO out)))) ?_ ?_ (srt sm) _ _ ⟨fun z hz => (srt_perm _).mem_iff.mp hz, .inl ⟨x, rfl, rfl, rfl⟩⟩
  · rintro d ds σ M2 K ⟨mem, h⟩ hK
    have mem' : ∀ z ∈ ds, z ∈ sm := fun z hz => mem z (List.mem_cons_of_mem _ hz)
    rcases h with ⟨x, rfl, e, rfl⟩ | ⟨z, x, rfl, e, s2⟩
    · refine earn_one hc ok n hh s (hs d (mem d List.mem_cons_self)) y _ ?_ ?_
      · intro f
        refine hK _ _ ⟨mem', .inl ⟨_, rfl, ?_, rfl⟩⟩
        rw [← e, List.find?_cons, f]
      · intro f M3 s3
        refine hK _ _ ⟨mem', .inr ⟨d, _, rfl, ?_, s3⟩⟩
        rw [← e, List.find?_cons, f]
    · simp only [b_law_look_4, lkV, wB, wS, wE, wEs, wPs, wT, wAnd, wOr, wAndT, wOrT, wIfs, wPart, wIt, dB, dVar, wTg, tgSet, tgSets, Tg.idx, Tgs.idx, List.getElem?_cons_zero, List.getElem?_cons_succ, List.set_cons_zero, List.set_cons_succ, fIx, ixD, seqOf, dctOf, lstOf, fCmp, fNe, dOrd, dBif, dBin, dAdd, dSub, dMul, dMod, cInt, fLen, lenD, fTup, endsOf, startD, mkL, dSl, cList, cSorted, itemsOf, strsOf_map, Bool.false_eq_true, if_true, if_false, List.map, List.length, List.replicate, List.cons_append, List.nil_append, Bool.not_true]
      exact hK _ _ ⟨mem', .inr ⟨z, _, rfl, e, s2⟩⟩
  · rintro σ M2 ⟨_, h⟩
    rcases h with ⟨x, rfl, e, rfl⟩ | ⟨z, x, rfl, e, s2⟩
    · simp only [wB]
      exact no e.symm _ _
    · simp only [wB]
      exact yes z e _ _ _ s2
theorem whl_no {E : XQ} {b' : DTS} {J : DEnds} {x y : Option Dy.D} {M' : Mp} (h : J.nx (lkV b p q sm false x y) M') (m : Nat) : whileN (wT E (.var 4)) b' J (m + 1) (lkV b p q sm false x y) M' := by
  unfold whileN
  simp only [wT, dB, dVar, lkV, List.getElem?_cons_zero, List.getElem?_cons_succ, Bool.false_eq_true, if_false]
  exact h
theorem whl_yes {E : XQ} {b' : DTS} {J : DEnds} {x y : Option Dy.D} {M' : Mp} {m : Nat} (h : b' { nx := whileN (wT E (.var 4)) b' J m, ct := whileN (wT E (.var 4)) b' J m, bk := J.nx, rt := J.rt } (lkV b p q sm true x y) M') : whileN (wT E (.var 4)) b' J (m + 1) (lkV b p q sm true x y) M' := by
  unfold whileN
  simp only [wT, dB, dVar, lkV, List.getElem?_cons_zero, List.getElem?_cons_succ, if_true]
  exact h
theorem look_loop (hc : c "_law_grounded" = spGrounded) (ok : Ok b) (n : p ≠ q) (hs : ∀ x ∈ sm, x ∈ b.mn) (hl : sm.length ≤ 4) (J : DEnds) : ∀ (k : Nat) (M' : Mp) (held out : List Str) (x y : Option Dy.D), held.length ≤ k → held.length + out.length ≤ 60 → St2 M M' p q (lkS cnt fresh held b.dl) (lkO out) →
    (∀ x y M'', St2 M M'' p q (lkS cnt fresh (lostN b cnt (srt sm) k held out).1 b.dl) (lkO (lostN b cnt (srt sm) k held out).2) → J.nx (lkV b p q sm false x y) M'') → whileN (wT E (.var 4)) (wB E (b_law_look_14 c)) J (k + 2) (lkV b p q sm true x y) M'
  | 0, M', held, out, x, y, h1, h2, s, hJ => by
    refine whl_yes (look_pass hc ok n (by omega) (by omega) s hs hl true x y _ ?_ ?_)
    · intro _ x y
      show whileN (wT E (.var 4)) (wB E (b_law_look_14 c)) J (0 + 1) (lkV b p q sm false x y) M'
      refine whl_no ?_ 0
      exact hJ x y M' s
    · intro z f
      have := List.find?_some f
      have := falls_mem this
      have : held = [] := List.length_eq_zero_iff.mp (by omega)
      subst this
      contradiction
  | k + 1, M', held, out, x, y, h1, h2, s, hJ => by
    refine whl_yes (look_pass hc ok n (by omega) (by omega) s hs hl true x y _ ?_ ?_)
    · intro f x y
      show whileN (wT E (.var 4)) (wB E (b_law_look_14 c)) J (k + 1 + 1) (lkV b p q sm false x y) M'
      refine whl_no (hJ x y M' ?_) (k + 1)
      unfold lostN
      rw [f]; exact s
    · intro z f x y M2 s2
      have hm := falls_mem (List.find?_some f)
      have lt := without_lt hm
      refine look_loop hc ok n hs hl J k M2 (without held z) (out ++ [z]) x y (by omega) (by simp; omega) s2 fun x y M3 s3 => hJ x y M3 ?_
      unfold lostN
      rw [f]; exact s3
theorem comes_no {b : Bk} {cnt : Str → Int} {held : List Str} {x : Str} (h : comes b cnt held x = true) : x ∉ held := by
  unfold comes at h
  simp only [Bool.and_eq_true, Bool.not_eq_true', decide_eq_false_iff_not] at h
  exact h.1
theorem earn_loop (hc : c "_law_grounded" = spGrounded) (ok : Ok b) (n : p ≠ q) (hs : ∀ x ∈ sm, x ∈ b.mn) (hl : sm.length ≤ 4) (J : DEnds) {out : List Str} : ∀ (k : Nat) (M' : Mp) (held : List Str) (x y : Option Dy.D), gap (srt sm) held ≤ k → held.length + k ≤ 60 → St2 M M' p q (lkS cnt fresh held b.dl) (lkO out) →
    (∀ x y M'', St2 M M'' p q (lkS cnt fresh (earnN b cnt (srt sm) k held) b.dl) (lkO out) → J.nx (lkV b p q sm false x y) M'') → whileN (wT E (.var 4)) (wB E (b_law_look_6 c)) J (k + 2) (lkV b p q sm true x y) M'
  | 0, M', held, x, y, h1, h2, s, hJ => by
    refine whl_yes (earn_pass hc ok n (by omega) s hs hl true x y _ ?_ ?_)
    · intro _ x y
      show whileN (wT E (.var 4)) (wB E (b_law_look_6 c)) J (0 + 1) (lkV b p q sm false x y) M'
      refine whl_no ?_ 0
      exact hJ x y M' s
    · intro z f
      have hm := gap_lt (List.mem_of_find?_eq_some f) (comes_no (List.find?_some f))
      omega
  | k + 1, M', held, x, y, h1, h2, s, hJ => by
    refine whl_yes (earn_pass hc ok n (by omega) s hs hl true x y _ ?_ ?_)
    · intro f x y
      show whileN (wT E (.var 4)) (wB E (b_law_look_6 c)) J (k + 1 + 1) (lkV b p q sm false x y) M'
      refine whl_no (hJ x y M' ?_) (k + 1)
      unfold earnN
      rw [f]; exact s
    · intro z f x y M2 s2
      have lt := gap_lt (List.mem_of_find?_eq_some f) (comes_no (List.find?_some f))
      have ln : (srt (held ++ [z])).length = held.length + 1 := by rw [srt_len]; simp
      refine earn_loop hc ok n hs hl J k M2 (srt (held ++ [z])) x y (by omega) (by omega) s2 fun x y M3 s3 => hJ x y M3 ?_
      unfold earnN
      rw [f]; exact s3
theorem lostN_len {b : Bk} {cnt : Str → Int} {l : List Str} : ∀ (k : Nat) (held out : List Str), (lostN b cnt l k held out).1.length ≤ held.length ∧ (lostN b cnt l k held out).1.length + (lostN b cnt l k held out).2.length ≤ held.length + out.length
  | 0, held, out => ⟨Nat.le_refl _, Nat.le_refl _⟩
  | k + 1, held, out => by
    unfold lostN
    cases f : l.find? (falls b cnt held) with
    | none => exact ⟨Nat.le_refl _, Nat.le_refl _⟩
    | some z =>
      have lt := without_lt (falls_mem (List.find?_some f))
      have := lostN_len (b := b) (cnt := cnt) (l := l) k (without held z) (out ++ [z])
      simp only [List.length_append, List.length_cons, List.length_nil] at this
      exact ⟨by have := this.1; simp only; omega, by have := this.2; simp only; omega⟩
theorem w_look (hc : c "_law_grounded" = spGrounded) (ds : List D) (h : spLook ds M Q E) : wB E (b_law_look c) (endsOf Q) (startD N_law_look ds) M := by
  obtain ⟨b, s, p, sm, rfl, ok, hM, hs, hl, hh, hQ⟩ := h
  obtain ⟨cnt, fresh, held⟩ := s
  have eN : N_law_look.length = 7 := by rfl
  have hz : 1000 ≤ sizeLine := by decide
  simp only [b_law_look, wB, wS, wE, wEs, wPs, wT, wAnd, wOr, wAndT, wOrT, wIfs, wPart, wIt, dB, dVar, wTg, tgSet, tgSets, Tg.idx, Tgs.idx, List.getElem?_cons_zero, List.getElem?_cons_succ, List.set_cons_zero, List.set_cons_succ, fIx, ixD, seqOf, dctOf, lstOf, fCmp, fNe, dOrd, dBif, dBin, dAdd, dSub, dMul, dMod, cInt, fLen, lenD, fTup, endsOf, startD, mkL, dSl, cList, cSorted, itemsOf, strsOf_map, Bool.false_eq_true, if_true, if_false, List.map, List.length, List.replicate, List.cons_append, List.nil_append, eN]
  refine ⟨by omega, ?_⟩
  intro q hq
  have n : p ≠ q := ne_of_M hM hq
  have s0 : St2 M (updM M q (lkO [])) p q (lkS cnt fresh held b.dl) (lkO []) := ⟨by rw [updM_ne n]; exact hM, updM_same, fun a h1 h2 => by rw [updM_ne h2]⟩
  show wB E (b_law_look_16 c) _ _ (updM M q (lkO []))
  generalize updM M q (lkO []) = M1 at s0
  simp only [b_law_look_16, b_law_look_15, wB, wS, wE, wEs, wPs, wT, wAnd, wOr, wAndT, wOrT, wIfs, wPart, wIt, dB, dVar, wTg, tgSet, tgSets, Tg.idx, Tgs.idx, List.getElem?_cons_zero, List.getElem?_cons_succ, List.set_cons_zero, List.set_cons_succ, fIx, ixD, seqOf, dctOf, lstOf, fCmp, fNe, dOrd, dBif, dBin, dAdd, dSub, dMul, dMod, cInt, fLen, lenD, fTup, endsOf, startD, mkL, dSl, cList, cSorted, itemsOf, strsOf_map, Bool.false_eq_true, if_true, if_false, List.map, List.length, List.replicate, List.cons_append, List.nil_append]
  refine ⟨held.length + 2, look_loop (fresh := fresh) (x := none) (y := none) hc ok n hs hl _ held.length M1 held [] (Nat.le_refl _) (by simp only [List.length_nil]; simp only at hh; omega) s0 fun x y M2 s2 => ?_⟩
  simp only [b_law_look_8, b_law_look_7, lkV, wB, wS, wE, wEs, wPs, wT, wAnd, wOr, wAndT, wOrT, wIfs, wPart, wIt, dB, dVar, wTg, tgSet, tgSets, Tg.idx, Tgs.idx, List.getElem?_cons_zero, List.getElem?_cons_succ, List.set_cons_zero, List.set_cons_succ, fIx, ixD, seqOf, dctOf, lstOf, fCmp, fNe, dOrd, dBif, dBin, dAdd, dSub, dMul, dMod, cInt, fLen, lenD, fTup, endsOf, startD, mkL, dSl, cList, cSorted, itemsOf, strsOf_map, Bool.false_eq_true, if_true, if_false, List.map, List.length, List.replicate, List.cons_append, List.nil_append]
  have lb := lostN_len (b := b) (cnt := cnt) (l := srt sm) held.length held []
  have gb : gap (srt sm) (lostN b cnt (srt sm) held.length held []).1 ≤ 4 := by
    unfold gap
    have := List.length_filter_le (fun x => !decide (x ∈ (lostN b cnt (srt sm) held.length held []).1)) (srt sm)
    rw [srt_len] at this
    omega
  simp only at hh
  refine ⟨_, earn_loop (fresh := fresh) (x := x) (y := y) hc ok n hs hl _ _ M2 _ (Nat.le_refl _) (by omega) s2 fun x y M3 s3 => ?_⟩
  simp only [b_law_look_1, lkV, wB, wS, wE, wEs, wPs, wT, wAnd, wOr, wAndT, wOrT, wIfs, wPart, wIt, dB, dVar, wTg, tgSet, tgSets, Tg.idx, Tgs.idx, List.getElem?_cons_zero, List.getElem?_cons_succ, List.set_cons_zero, List.set_cons_succ, fIx, ixD, seqOf, dctOf, lstOf, fCmp, fNe, dOrd, dBif, dBin, dAdd, dSub, dMul, dMod, cInt, fLen, lenD, fTup, endsOf, startD, mkL, dSl, cList, cSorted, itemsOf, strsOf_map, Bool.false_eq_true, if_true, if_false, List.map, List.length, List.replicate, List.cons_append, List.nil_append, fzK, s3.eq, lkO]
  rw [s3.done n hq]
  exact hQ
end
end Dg
end
section
set_option Elab.async false
set_option linter.all false
set_option maxRecDepth 100000
set_option maxHeartbeats 4000000
/-! Marksheld: the law's count. -/
namespace Dg
open PySem
open Dy (E Es B S It Tg Tgs Lhs D DSp DK XQ Mp MO DEnds Sd)
open Dy
def Bk.run (b : Bk) (d : Str) : Bool := (b.deeds.lookup d).getD false
def runN (r : Bool) : Str := if r then "run" else "sum"
theorem deed_get {b : Bk} {d : Str} (h : d ∈ b.dl) : getD (deedsD b.deeds) (.str d) = some (.str (runN (b.run d))) := by
  obtain ⟨v, e, m⟩ := lookup_mem d b.deeds (dl_mem.mp h)
  unfold deedsD
  rw [getD_look (fun r : Bool => D.str (if r then "run" else "sum")), Bk.run, e]
  cases v <;> rfl
theorem deed_ok (b : Bk) (x : Str) : keyOk (.str x) (deedsD b.deeds) = true := keyOk_names (fun r : Bool => D.str (if r then "run" else "sum")) b.deeds x
theorem run_is (r : Bool) : (runN r == Str.ofString "run") = r := by cases r <;> decide +kernel
def StpIn (dl : List Str) : Stp → Prop
  | .doo d => d ∈ dl
  | .back d => d ∈ dl
  | .night => True
def nightC (b : Bk) (fresh : List Str) : List Str → (Str → Int) → (Str → Int)
  | [], f => f
  | d :: r, f => nightC b fresh r (if b.run d && !decide (d ∈ fresh) then fnC f d 0 else f)
theorem nightC_cons {b : Bk} {fresh : List Str} {d : Str} {r : List Str} {f : Str → Int} : nightC b fresh (d :: r) f = nightC b fresh r (if b.run d && !decide (d ∈ fresh) then fnC f d 0 else f) := rfl
def countL (b : Bk) (s : LS) : Stp → Option LS
  | .night => some ⟨nightC b s.fresh b.dl s.cnt, [], s.held⟩
  | .back d => if (s.cnt d == 0) || (b.run d && !decide (d ∈ s.fresh)) then none else some ⟨fnC s.cnt d (s.cnt d - 1), without s.fresh d, s.held⟩
  | .doo d => some ⟨if !decide (d ∈ s.fresh) && decide (s.cnt d < b.most) then fnC s.cnt d (s.cnt d + 1) else s.cnt, if b.run d && !decide (d ∈ s.fresh) then srt (s.fresh ++ [d]) else s.fresh, s.held⟩
theorem updM_self {M : Mp} {p : Addr} {o : MO} (h : M p = some o) : updM M p o = M := by
  funext a
  by_cases z : a = p
  · subst z; rw [updM_same, h]
  · rw [updM_ne z]
def spCount : DSp := fun ds M Q _ => ∃ b s p st, ds = [tD b, .ref p, stpD st] ∧ Ok b ∧ M p = some (.dct (lsL b.dl s)) ∧ StpIn b.dl st ∧ s.fresh.length ≤ 50 ∧
  (match countL b s st with
  | none => Q (.bl false) M
  | some s' => Q (.bl true) (updM M p (.dct (lsL b.dl s'))))
theorem w_count (c : Str → DSp) (hc : c "_law_deeds" = spDeeds) (ds : List D) (M : Mp) (Q : DK) (E : XQ) (h : spCount ds M Q E) : wB E (b_law_count c) (endsOf Q) (startD N_law_count ds) M := by
  obtain ⟨b, s, p, st, rfl, ok, hM, hst, hf, hQ⟩ := h
  have eN : N_law_count.length = 7 := by rfl
  have hz : 1000 ≤ sizeLine := by decide
  have F := dl_fit ok
  have ld := ok.dlen
  have ld2 := dl_len b
  cases st with
  | night =>
    have a0 : L2.atI [D.str "night"] 0 = some (.str "night") := by rfl
    have t1 : (Str.ofString "night" == Str.ofString "night") = true := by decide +kernel
    simp only [b_law_count, stpD, wB, wS, wT, dB, wE, wEs, wIt, dVar, startD, eN, List.replicate, List.length, endsOf, List.map, List.cons_append, List.nil_append, List.getElem?_cons_zero, List.getElem?_cons_succ, fCmp, fIx_tp a0, dEq_strE, t1, Bool.false_eq_true, if_false, if_true]
    simp only [b_law_count_18, wB, wS, wT, dB, wE, wEs, wIt, dVar, List.getElem?_cons_zero, List.getElem?_cons_succ, hc]
    refine ⟨b, rfl, ok, ?_⟩
    simp only [srcOf, Src.items]
    refine forN_map D.str (fun rest σ M2 => (∀ z ∈ rest, z ∈ b.dl) ∧ ∃ f x, σ = [some (tD b), some (.ref p), some (.tup [.str "night"]), x, none, none, none] ∧ M2 = updM M p (.dct (lsL b.dl ⟨f, s.fresh, s.held⟩)) ∧ nightC b s.fresh rest f = nightC b s.fresh b.dl s.cnt) ?_ ?_ b.dl _ _ ⟨fun z hz => hz, s.cnt, none, rfl, (updM_self hM).symm, rfl⟩
    · rintro d ds σ M2 K ⟨mem, f, x, rfl, rfl, e⟩ hK
      have mem' : ∀ z ∈ ds, z ∈ b.dl := fun z hz => mem z (List.mem_cons_of_mem _ hz)
      have md := mem d List.mem_cons_self
      have I : IsLS b.dl ⟨f, s.fresh, s.held⟩ (updM M p (.dct (lsL b.dl ⟨f, s.fresh, s.held⟩))) (.ref p) := .inr ⟨p, rfl, updM_same⟩
      simp only [b_law_count_17, wTg, tgSet, List.set_cons_zero, List.set_cons_succ, wB, wS, wT, dB, wAndT, wE, wEs, wIt, dVar, List.getElem?_cons_zero, List.getElem?_cons_succ, tD, fIx_dt (o_deeds b) (k_deeds b), fIx_dt (deed_ok b d) (deed_get md), fCmp, dEq_strE, run_is, I.fresh, fIn_strs, Bool.false_eq_true, if_false, if_true]
      rw [nightC_cons] at e
      cases h1 : b.run d with
      | false =>
        rw [h1] at e
        simp only [Bool.false_and, Bool.false_eq_true, if_false] at e ⊢
        exact hK _ _ ⟨mem', f, _, rfl, rfl, e⟩
      | true =>
        rw [h1] at e
        cases h2 : decide (d ∈ s.fresh) with
        | true =>
          rw [h2] at e
          simp only [Bool.true_and, Bool.not_true, Bool.false_eq_true, if_false, if_true] at e ⊢
          exact hK _ _ ⟨mem', f, _, rfl, rfl, e⟩
        | false =>
          rw [h2] at e
          simp only [Bool.true_and, Bool.not_false, if_true] at e ⊢
          simp only [b_law_count_16, wB, wS, wE, dVar, List.getElem?_cons_zero, List.getElem?_cons_succ, fSet, updM_same]
          refine ⟨ls_ok _ _ _, by unfold lsL; simp; omega, ?_⟩
          rw [ls_putC F _ md, updM_updM]
          exact hK _ _ ⟨mem', _, _, rfl, rfl, e⟩
    · rintro σ M2 ⟨_, f, x, rfl, rfl, e⟩
      simp only [b_law_count_15, b_law_count_14, wB, wS, wE, wEs, mkL, dVar, List.getElem?_cons_zero, List.getElem?_cons_succ, fSet, updM_same, List.length]
      refine ⟨by omega, ls_ok _ _ _, by unfold lsL; simp; omega, ?_⟩
      rw [show (D.lst []) = .lst (([] : List Str).map .str) from rfl, ls_putF F, updM_updM]
      have e' : f = nightC b s.fresh b.dl s.cnt := e
      rw [e']
      exact hQ
  | back d =>
    have md : d ∈ b.dl := hst
    have a0 : L2.atI [D.str "back", D.str d] 0 = some (.str "back") := by rfl
    have a1 : L2.atI [D.str "back", D.str d] 1 = some (.str d) := by rfl
    have t1 : (Str.ofString "back" == Str.ofString "night") = false := by decide +kernel
    have t2 : (Str.ofString "back" == Str.ofString "back") = true := by decide +kernel
    have I : IsLS b.dl s M (.ref p) := .inr ⟨p, rfl, hM⟩
    simp only [b_law_count, b_law_count_13, b_law_count_12, b_law_count_11, b_law_count_10, stpD, wB, wS, wT, dB, wAndT, wOrT, wE, wEs, wIt, wTg, tgSet, dVar, startD, eN, List.replicate, List.length, endsOf, List.map, List.cons_append, List.nil_append, List.getElem?_cons_zero, List.getElem?_cons_succ, List.set_cons_zero, List.set_cons_succ, fCmp, fIx_tp a0, fIx_tp a1, dEq_strE, dEq_intE, t1, t2, tD, fIx_dt (o_deeds b) (k_deeds b), fIx_dt (deed_ok b d) (deed_get md), run_is, I.fresh, I.cnt F md, fIn_strs, Bool.false_eq_true, if_false, if_true]
    simp only [countL] at hQ
    have last : ((s.cnt d == 0) || (b.run d && !decide (d ∈ s.fresh))) = false → ∀ x y : Bool, wB E (b_law_count_8 c) (endsOf Q) [some (tD b), some (.ref p), some (.tup [.str "back", .str d]), some (.str d), some (.bl x), some (.bl y), none] M := fun z x y => by
      simp only [z, Bool.false_eq_true, if_false] at hQ
      simp only [b_law_count_8, wB, wS, wE, dVar, List.getElem?_cons_zero, List.getElem?_cons_succ, I.cnt F md, dBin, dSub, fSet, hM]
      refine ⟨ls_ok _ _ _, by unfold lsL; simp; omega, ?_⟩
      rw [ls_putC F _ md]
      have I2 : IsLS b.dl ⟨fnC s.cnt d (s.cnt d - 1), s.fresh, s.held⟩ (updM M p (.dct (lsL b.dl ⟨fnC s.cnt d (s.cnt d - 1), s.fresh, s.held⟩))) (.ref p) := .inr ⟨p, rfl, updM_same⟩
      simp only [b_law_count_7, wB, wS, wE, wIt, wEs, dVar, List.getElem?_cons_zero, List.getElem?_cons_succ, I2.fresh]
      intro A hA
      refine lc_without hA s.fresh d (by omega) ?_ ?_ _
      · intro y hy M2 hM K hK
        simp only [wB, wS, wE, wEs, wPs, wT, wAnd, wOr, wAndT, wOrT, wIfs, wPart, wIt, dB, dVar, wTg, tgSet, tgSets, Tg.idx, Tgs.idx, List.getElem?_cons_zero, List.getElem?_cons_succ, List.set_cons_zero, List.set_cons_succ, fIx, ixD, seqOf, dctOf, lstOf, fCmp, fNe, dOrd, dBif, dBin, dAdd, dSub, dMul, dMod, cInt, fLen, lenD, fTup, endsOf, startD, mkL, dSl, cList, cSorted, itemsOf, strsOf_map, Bool.false_eq_true, if_true, if_false, List.map, List.length, List.replicate, List.cons_append, List.nil_append, wipeD]
        refine dEq_str ?_
        cases e : y == d with
        | true => rw [e] at hK; exact hK
        | false => rw [e] at hK; exact hK
      · simp only [fSet, updM_same]
        refine ⟨ls_ok _ _ _, by unfold lsL; simp; omega, ?_⟩
        rw [ls_putF F, updM_updM]
        simp only [b_law_count_6, wB, wS, wE]
        exact hQ
    have no : ((s.cnt d == 0) || (b.run d && !decide (d ∈ s.fresh))) = true → ∀ σ, wB E (b_law_count_9 c) (endsOf Q) σ M := fun z σ => by
      simp only [z, if_true] at hQ
      simp only [b_law_count_9, wB, wS, wE]
      exact hQ
    cases h0 : s.cnt d == 0 with
    | true =>
      simp only [if_true]
      exact no (by rw [h0]; rfl) _
    | false =>
      simp only [Bool.false_eq_true, if_false]
      cases h1 : b.run d with
      | false =>
        simp only [Bool.false_eq_true, if_false]
        exact last (by rw [h0, h1]; rfl) _ _
      | true =>
        simp only [if_true]
        cases h2 : decide (d ∈ s.fresh) with
        | true =>
          simp only [Bool.not_true, Bool.false_eq_true, if_false]
          exact last (by rw [h0, h1, h2]; rfl) _ _
        | false =>
          simp only [Bool.not_false, if_true]
          exact no (by rw [h0, h1, h2]; rfl) _
  | doo d =>
    have md : d ∈ b.dl := hst
    have a0 : L2.atI [D.str "do", D.str d] 0 = some (.str "do") := by rfl
    have a1 : L2.atI [D.str "do", D.str d] 1 = some (.str d) := by rfl
    have t1 : (Str.ofString "do" == Str.ofString "night") = false := by decide +kernel
    have t2 : (Str.ofString "do" == Str.ofString "back") = false := by decide +kernel
    have I : IsLS b.dl s M (.ref p) := .inr ⟨p, rfl, hM⟩
    simp only [countL] at hQ
    have last : ∀ f, Q (.bl true) (updM M p (.dct (lsL b.dl ⟨f, if b.run d && !decide (d ∈ s.fresh) then srt (s.fresh ++ [d]) else s.fresh, s.held⟩))) → wB E (b_law_count_3 c) (endsOf Q) [some (tD b), some (.ref p), some (.tup [.str "do", .str d]), some (.str d), some (.bl (b.run d)), some (.bl (decide (d ∈ s.fresh))), none] (updM M p (.dct (lsL b.dl ⟨f, s.fresh, s.held⟩))) := fun f hq => by
      have I2 : IsLS b.dl ⟨f, s.fresh, s.held⟩ (updM M p (.dct (lsL b.dl ⟨f, s.fresh, s.held⟩))) (.ref p) := .inr ⟨p, rfl, updM_same⟩
      have a2 : (s.fresh.map D.str) ++ [D.str d] = (s.fresh ++ [d]).map D.str := by simp
      simp only [b_law_count_3, wB, wS, wT, wAndT, dB, wE, dVar, List.getElem?_cons_zero, List.getElem?_cons_succ]
      cases h1 : b.run d with
      | false =>
        simp only [h1, Bool.false_and, Bool.false_eq_true, if_false] at hq ⊢
        simp only [b_law_count_1, wB, wS, wE]
        exact hq
      | true =>
        cases h2 : decide (d ∈ s.fresh) with
        | true =>
          simp only [h1, h2, Bool.true_and, Bool.not_true, Bool.false_eq_true, if_false, if_true] at hq ⊢
          simp only [b_law_count_1, wB, wS, wE]
          exact hq
        | false =>
          simp only [h1, h2, Bool.true_and, Bool.not_false, if_true] at hq ⊢
          simp only [b_law_count_2, wB, wS, wE, wEs, dVar, List.getElem?_cons_zero, List.getElem?_cons_succ, I2.fresh, dBin, dAdd, dBif, cSorted, mkL]
          refine ⟨by simp only [List.length_cons, List.length_nil]; omega, by simp; omega, fz_newL ?_⟩
          rw [a2]
          simp only [itemsOf, lstOf, strsOf_map]
          refine ⟨.inr rfl, by simp; omega, fz_newL ?_⟩
          simp only [fSet, updM_same]
          refine ⟨ls_ok _ _ _, by unfold lsL; simp; omega, ?_⟩
          rw [ls_putF F, updM_updM]
          simp only [b_law_count_1, wB, wS, wE]
          exact hq
    have base := last s.cnt
    have es : (⟨s.cnt, s.fresh, s.held⟩ : LS) = s := rfl
    rw [es, updM_self hM] at base
    simp only [b_law_count, b_law_count_13, b_law_count_12, b_law_count_11, b_law_count_5, stpD, wB, wS, wT, dB, wAndT, wOrT, wE, wEs, wIt, wTg, tgSet, dVar, startD, eN, List.replicate, List.length, endsOf, List.map, List.cons_append, List.nil_append, List.getElem?_cons_zero, List.getElem?_cons_succ, List.set_cons_zero, List.set_cons_succ, fCmp, dOrd, fIx_tp a0, fIx_tp a1, dEq_strE, dEq_intE, t1, t2, tD, fIx_dt (o_deeds b) (k_deeds b), fIx_dt (o_most b) (k_most b), fIx_dt (deed_ok b d) (deed_get md), run_is, I.fresh, I.cnt F md, fIn_strs, Bool.false_eq_true, if_false, if_true]
    by_cases h2 : decide (d ∈ s.fresh) = true
    · rw [if_neg (by rw [h2]; simp)]
      have : (!decide (d ∈ s.fresh) && decide (s.cnt d < b.most)) = false := by rw [h2]; rfl
      rw [this] at hQ
      exact base hQ
    · rw [if_pos (by simpa using h2)]
      by_cases h3 : s.cnt d < b.most
      · rw [if_pos (by simpa using h3)]
        have : (!decide (d ∈ s.fresh) && decide (s.cnt d < b.most)) = true := by simp [h3]; simpa using h2
        simp only [this, if_true] at hQ
        simp only [b_law_count_4, wB, wS, wE, dVar, List.getElem?_cons_zero, List.getElem?_cons_succ, I.cnt F md, dBin, dAdd, fSet, hM]
        refine ⟨ls_ok _ _ _, by unfold lsL; simp; omega, ?_⟩
        rw [ls_putC F _ md]
        exact last _ hQ
      · rw [if_neg (by simpa using h3)]
        have : (!decide (d ∈ s.fresh) && decide (s.cnt d < b.most)) = false := by simp [h3]
        rw [this] at hQ
        exact base hQ
end Dg
end
section
set_option Elab.async false
set_option linter.all false
set_option maxRecDepth 100000
set_option maxHeartbeats 4000000
/-! Marksheld: the law's step. -/
namespace Dg
open PySem
open Dy (E Es B S It Tg Tgs Lhs D DSp DK XQ Mp MO DEnds Sd)
open Dy
def tillOut (b : Bk) (held : List Str) (st : Stp) (x : Str) : Bool := match st with
  | .doo d => decide (x ∈ held) && decide ((b.get x).2 = .till d)
  | _ => false
def afterL (b : Bk) (s : LS) (st : Stp) (sm : List Str) : Option (LS × List Str) := match countL b s st with
  | none => none
  | some s1 =>
    let out := (srt sm).filter (tillOut b s1.held st)
    let r := lookL b s1.cnt (srt sm) (s1.held.filter fun x => !decide (x ∈ out))
    some (⟨s1.cnt, s1.fresh, r.1⟩, out ++ r.2)
def spAfter : DSp := fun ds M Q _ => ∃ b s st sm, ds = [tD b, lsD b.dl s, stpD st, .lst (sm.map .str)] ∧ Ok b ∧ StpIn b.dl st ∧ (∀ x ∈ sm, x ∈ b.mn) ∧ sm.length ≤ 4 ∧ s.fresh.length ≤ 50 ∧ s.held.length ≤ 4 ∧
  (match afterL b s st sm with
  | none => Q (.lst [.non, .lst []]) M
  | some (s', out) => ∀ p, M p = none → Q (.lst [.ref p, .lst (out.map .str)]) (updM M p (.dct (lsL b.dl s'))))
theorem count_held {b : Bk} {s s' : LS} {st : Stp} (h : countL b s st = some s') : s'.held = s.held := by
  cases st with
  | night => simp only [countL, Option.some.injEq] at h; subst h; rfl
  | doo d => simp only [countL, Option.some.injEq] at h; subst h; rfl
  | back d =>
    simp only [countL] at h
    split at h
    · cases h
    · simp only [Option.some.injEq] at h; subst h; rfl
theorem dEq_sty {s : Sty} {d : Str} {M : Mp} {Q : DK} : dEq false (styD s) (.tup [.str "till", .str d]) M Q ↔ Q (.bl (decide (s = .till d))) M := by
  have e : eqD (Dy.top M (styD s)) (Dy.top M (.tup [.str "till", .str d])) = decide (s = .till d) := by
    cases s with
    | always => rfl
    | ground => rfl
    | till x =>
      show ((Str.ofString "till" == Str.ofString "till") && ((x == d) && true)) = _
      rw [show (Str.ofString "till" == Str.ofString "till") = true by decide +kernel]
      by_cases z : x = d
      · subst z; simp
      · simp [z]
  have p : Dy.plain (Dy.top M (styD s)) = true := by cases s <;> rfl
  have q : Dy.plain (Dy.top M (.tup [.str "till", .str d])) = true := by rfl
  have r : dep (Dy.top M (.tup [D.str "till", .str d])) ≤ 60 := by
    show 0 + 1 ≤ 60
    decide
  constructor
  · rintro ⟨_, _, _, h⟩
    rw [e] at h; exact h
  · intro h
    exact ⟨p, q, .inr r, by rw [e]; exact h⟩
theorem fIn_ref {neg : Bool} {x : Str} {l : List Str} {q : Addr} {M : Mp} {Q : DK} (h : M q = some (lkO l)) : fIn neg (.str x) (.ref q) M Q = Q (.bl (if neg then !decide (x ∈ l) else decide (x ∈ l))) M := by
  have e : inD M (.str x) (.ref q) = some (decide (x ∈ l)) := by
    unfold inD dctOf seqOf
    simp only [h, lkO]
    rw [plains_str, any_eq, if_pos]
    simp [Dy.plain, dep]
  unfold fIn
  rw [e]
def afV (b : Bk) (s : LS) (st : Stp) (sm : List Str) (p q : Addr) (x : Option Dy.D) : Sd := [some (tD b), some (lsD b.dl s), some (stpD st), some (.lst (sm.map .str)), some (.ref p), some (.ref q), x]
theorem after_one (c : Str → DSp) {E : XQ} {b : Bk} (ok : Ok b) {s0 s : LS} {st : Stp} {sm : List Str} {M M' : Mp} {p q : Addr} (n : p ≠ q) {out : List Str} (ho : out.length ≤ 900) (h : St2 M M' p q (.dct (lsL b.dl s)) (lkO out)) {x : Str} (hx : x ∈ b.mn) (J : DEnds)
    (no : tillOut b s.held st x = false → J.nx (afV b s0 st sm p q (some (.str x))) M')
    (yes : tillOut b s.held st x = true → ∀ M'', St2 M M'' p q (.dct (lsL b.dl s)) (lkO (out ++ [x])) → J.nx (afV b s0 st sm p q (some (.str x))) M'') : wB E (b_law_after_4 c) J (afV b s0 st sm p q (some (.str x))) M' := by
  have hz : 1000 ≤ sizeLine := by decide
  have I : IsLS b.dl s M' (.ref p) := .inr ⟨p, rfl, h.ep⟩
  have a1 : L2.atI [D.tup ((b.get x).1.map prtD), styD (b.get x).2] 1 = Option.some (styD (b.get x).2) := by rfl
  cases st with
  | night =>
    have a0 : L2.atI [D.str "night"] 0 = some (.str "night") := by rfl
    have t1 : (Str.ofString "night" == Str.ofString "do") = false := by decide +kernel
    simp only [b_law_after_4, afV, stpD, wB, wS, wT, dB, wAndT, wE, dVar, List.getElem?_cons_zero, List.getElem?_cons_succ, fCmp, fIx_tp a0, dEq_strE, t1, Bool.false_eq_true, if_false]
    exact no rfl
  | back d =>
    have a0 : L2.atI [D.str "back", D.str d] 0 = some (.str "back") := by rfl
    have t1 : (Str.ofString "back" == Str.ofString "do") = false := by decide +kernel
    simp only [b_law_after_4, afV, stpD, wB, wS, wT, dB, wAndT, wE, dVar, List.getElem?_cons_zero, List.getElem?_cons_succ, fCmp, fIx_tp a0, dEq_strE, t1, Bool.false_eq_true, if_false]
    exact no rfl
  | doo d =>
    have a0 : L2.atI [D.str "do", D.str d] 0 = some (.str "do") := by rfl
    have a2 : L2.atI [D.str "do", D.str d] 1 = some (.str d) := by rfl
    have t1 : (Str.ofString "do" == Str.ofString "do") = true := by decide +kernel
    simp only [b_law_after_4, afV, stpD, wB, wS, wT, dB, wAndT, wE, wEs, dVar, List.getElem?_cons_zero, List.getElem?_cons_succ, fCmp, fIx_tp a0, fIx_tp a2, dEq_strE, t1, I.held, fIn_strs, tD, fIx_dt (o_marks b) (k_marks b), fIx_dt (mark_ok b x) (mark_get hx), mrkD, fIx_tp a1, Bool.false_eq_true, if_false, if_true]
    unfold tillOut at no yes
    simp only at no yes
    by_cases h1 : x ∈ s.held
    · rw [if_pos (by simpa using h1)]
      refine ⟨by simp only [List.length_cons, List.length_nil]; omega, dEq_sty.mpr ?_⟩
      by_cases h2 : (b.get x).2 = .till d
      · simp only [h2, decide_true, if_true]
        simp only [b_law_after_3, wB, wS, wE, wEs, dVar, List.getElem?_cons_zero, List.getElem?_cons_succ, dMth, Mth.T, tyD, mAppend, h.eq, lkO]
        refine ⟨by first | rfl | simp, by simp; omega, ?_⟩
        have e : (List.map D.str out ++ [D.str x]) = (out ++ [x]).map D.str := by simp
        rw [e]
        exact yes (by simp [h1, h2]) _ (h.q n (lkO (out ++ [x])))
      · simp only [h2, decide_false, Bool.false_eq_true, if_false]
        exact no (by simp [h2])
    · rw [if_neg (by simpa using h1)]
      exact no (by simp [h1])
theorem w_after (c : Str → DSp) (hc : c "_law_count" = spCount) (hc2 : c "_law_look" = spLook) (ds : List D) (M : Mp) (Q : DK) (E : XQ) (h : spAfter ds M Q E) : wB E (b_law_after c) (endsOf Q) (startD N_law_after ds) M := by
  obtain ⟨b, s, st, sm, rfl, ok, hst, hs, hl, hf, hh, hQ⟩ := h
  have eN : N_law_after.length = 7 := by rfl
  have hz : 1000 ≤ sizeLine := by decide
  have F := dl_fit ok
  simp only [b_law_after, wB, wS, wE, wEs, wPs, wT, wAnd, wOr, wAndT, wOrT, wIfs, wPart, wIt, dB, dVar, wTg, tgSet, tgSets, Tg.idx, Tgs.idx, List.getElem?_cons_zero, List.getElem?_cons_succ, List.set_cons_zero, List.set_cons_succ, fIx, ixD, seqOf, dctOf, lstOf, fCmp, fNe, dOrd, dBif, dBin, dAdd, dSub, dMul, dMod, cInt, fLen, lenD, fTup, endsOf, startD, mkL, dSl, cList, cSorted, itemsOf, strsOf_map, Bool.false_eq_true, if_true, if_false, List.map, List.length, List.replicate, List.cons_append, List.nil_append, eN, lsD, fDict]
  refine ⟨ls_allS _ _, ?_⟩
  intro p hp
  simp only [b_law_after_8, wB, wS, wE, wEs, wPs, wT, wAnd, wOr, wAndT, wOrT, wIfs, wPart, wIt, dB, dVar, wTg, tgSet, tgSets, Tg.idx, Tgs.idx, List.getElem?_cons_zero, List.getElem?_cons_succ, List.set_cons_zero, List.set_cons_succ, fIx, ixD, seqOf, dctOf, lstOf, fCmp, fNe, dOrd, dBif, dBin, dAdd, dSub, dMul, dMod, cInt, fLen, lenD, fTup, endsOf, startD, mkL, dSl, cList, cSorted, itemsOf, strsOf_map, Bool.false_eq_true, if_true, if_false, List.map, List.length, List.replicate, List.cons_append, List.nil_append, hc]
  refine ⟨b, s, p, st, rfl, ok, updM_same, hst, hf, ?_⟩
  unfold afterL at hQ
  cases e : countL b s st with
  | none =>
    rw [e] at hQ
    simp only [Bool.not_false, if_true]
    simp only [b_law_after_7, wB, wS, wE, wEs, wPs, wT, wAnd, wOr, wAndT, wOrT, wIfs, wPart, wIt, dB, dVar, wTg, tgSet, tgSets, Tg.idx, Tgs.idx, List.getElem?_cons_zero, List.getElem?_cons_succ, List.set_cons_zero, List.set_cons_succ, fIx, ixD, seqOf, dctOf, lstOf, fCmp, fNe, dOrd, dBif, dBin, dAdd, dSub, dMul, dMod, cInt, fLen, lenD, fTup, endsOf, startD, mkL, dSl, cList, cSorted, itemsOf, strsOf_map, Bool.false_eq_true, if_true, if_false, List.map, List.length, List.replicate, List.cons_append, List.nil_append, fzK, updM_same]
    rw [delM_updM hp]
    exact ⟨by omega, by omega, hQ⟩
  | some s1 =>
    rw [e] at hQ
    have eh := count_held e
    simp only [Bool.not_true, Bool.false_eq_true, if_false]
    rw [updM_updM]
    simp only [b_law_after_6, wB, wS, wE, wEs, wPs, wT, wAnd, wOr, wAndT, wOrT, wIfs, wPart, wIt, dB, dVar, wTg, tgSet, tgSets, Tg.idx, Tgs.idx, List.getElem?_cons_zero, List.getElem?_cons_succ, List.set_cons_zero, List.set_cons_succ, fIx, ixD, seqOf, dctOf, lstOf, fCmp, fNe, dOrd, dBif, dBin, dAdd, dSub, dMul, dMod, cInt, fLen, lenD, fTup, endsOf, startD, mkL, dSl, cList, cSorted, itemsOf, strsOf_map, Bool.false_eq_true, if_true, if_false, List.map, List.length, List.replicate, List.cons_append, List.nil_append]
    refine ⟨by omega, ?_⟩
    intro q hq
    have n : p ≠ q := ne_of_M updM_same hq
    have hpq : M q = none := by rw [updM_ne (Ne.symm n)] at hq; exact hq
    have s0 : St2 M (updM (updM M p (.dct (lsL b.dl s1))) q (lkO [])) p q (.dct (lsL b.dl s1)) (lkO []) := ⟨by rw [updM_ne n, updM_same], updM_same, fun a h1 h2 => by rw [updM_ne h2, updM_ne h1]⟩
    show wB E (b_law_after_5 c) _ _ (updM (updM M p (.dct (lsL b.dl s1))) q (lkO []))
    generalize updM (updM M p (.dct (lsL b.dl s1))) q (lkO []) = M1 at s0
    simp only [b_law_after_5, wB, wS, wE, wEs, wPs, wT, wAnd, wOr, wAndT, wOrT, wIfs, wPart, wIt, dB, dVar, wTg, tgSet, tgSets, Tg.idx, Tgs.idx, List.getElem?_cons_zero, List.getElem?_cons_succ, List.set_cons_zero, List.set_cons_succ, fIx, ixD, seqOf, dctOf, lstOf, fCmp, fNe, dOrd, dBif, dBin, dAdd, dSub, dMul, dMod, cInt, fLen, lenD, fTup, endsOf, startD, mkL, dSl, cList, cSorted, itemsOf, strsOf_map, Bool.false_eq_true, if_true, if_false, List.map, List.length, List.replicate, List.cons_append, List.nil_append]
    refine ⟨.inr rfl, by omega, fz_newL ?_⟩
    simp only [srcOf, Src.items]
    refine forN_map D.str (fun rest σ M2 => (∀ z ∈ rest, z ∈ sm) ∧ ∃ acc x, σ = afV b s st sm p q x ∧ acc ++ rest.filter (tillOut b s1.held st) = (srt sm).filter (tillOut b s1.held st) ∧ acc.length + rest.length ≤ 4 ∧ St2 M M2 p q (.dct (lsL b.dl s1)) (lkO acc)) ?_ ?_ (srt sm) _ _ ⟨fun z hz => (srt_perm _).mem_iff.mp hz, [], none, rfl, rfl, by rw [srt_len]; simp; omega, s0⟩
    · rintro d ds σ M2 K ⟨mem, acc, x, rfl, e2, l2, s2⟩ hK
      have mem' : ∀ z ∈ ds, z ∈ sm := fun z hz => mem z (List.mem_cons_of_mem _ hz)
      simp only [List.length_cons] at l2
      refine after_one c ok n (by omega) s2 (hs d (mem d List.mem_cons_self)) _ ?_ ?_
      · intro f
        rw [List.filter_cons, f] at e2
        exact hK _ _ ⟨mem', acc, _, rfl, e2, by omega, s2⟩
      · intro f M3 s3
        rw [List.filter_cons, f] at e2
        exact hK _ _ ⟨mem', acc ++ [d], _, rfl, by simpa using e2, by simp; omega, s3⟩
    rintro σ M2 ⟨_, acc, x, rfl, e2, l2, s2⟩
    simp only [List.filter_nil, List.append_nil, List.length_nil] at e2 l2
    have I : IsLS b.dl s1 M2 (.ref p) := .inr ⟨p, rfl, s2.ep⟩
    simp only [b_law_after_2, afV, wB, wS, wE, wIt, dVar, List.getElem?_cons_zero, List.getElem?_cons_succ, I.held]
    intro A hA
    simp only [srcOf, Src.items]
    refine lc_map Dy.D.str (fun y => if decide (y ∈ acc) = true then none else some (.str y)) hA s1.held [] (by simp; rw [eh]; omega) ?_ ?_ _
    · intro y hy M3 hM K hK
      have eq3 : M3 q = some (lkO acc) := hM q _ s2.eq
      simp only [wTg, tgSet, wipeD, wIfs, wT, wE, dB, dVar, List.map, List.set_cons_zero, List.set_cons_succ, List.getElem?_cons_zero, List.getElem?_cons_succ, fCmp, fIn_ref eq3]
      cases e : decide (y ∈ acc) with
      | true => rw [e] at hK; exact hK
      | false => rw [e] at hK; exact hK
    rw [List.nil_append]
    have fm : s1.held.filterMap (fun y => if decide (y ∈ acc) = true then none else some (Dy.D.str y)) = (s1.held.filter fun y => !decide (y ∈ acc)).map .str := by
      induction s1.held with
      | nil => rfl
      | cons a r ih =>
        rw [List.filterMap_cons, List.filter_cons, ih]
        cases decide (a ∈ acc) <;> rfl
    rw [fm]
    simp only [fSet, s2.ep]
    have ld := ok.dlen
    have ld2 := dl_len b
    refine ⟨ls_ok _ _ _, by unfold lsL; simp; omega, ?_⟩
    rw [ls_putH F]
    have s3 := s2.p n (.dct (lsL b.dl { s1 with held := s1.held.filter fun y => !decide (y ∈ acc) }))
    generalize updM M2 p _ = M3 at s3
    simp only [b_law_after_1, wB, dVar, List.getElem?_cons_zero, List.getElem?_cons_succ, fzK, s3.eq, lkO]
    rw [s3.done n hpq]
    have lh : (s1.held.filter fun y => !decide (y ∈ acc)).length ≤ 4 := by
      have := List.length_filter_le (fun y => !decide (y ∈ acc)) s1.held
      rw [eh] at this ⊢
      omega
    simp only [wS, wE, wEs, wB, dVar, List.set_cons_zero, List.set_cons_succ, List.getElem?_cons_zero, List.getElem?_cons_succ, hc2]
    refine ⟨b, _, p, sm, rfl, ok, updM_same, hs, hl, lh, ?_⟩
    rw [updM_updM]
    have lb := lostN_len (b := b) (cnt := s1.cnt) (l := srt sm) (s1.held.filter fun y => !decide (y ∈ acc)).length (s1.held.filter fun y => !decide (y ∈ acc)) []
    have lk : (lookL b s1.cnt (srt sm) (s1.held.filter fun y => !decide (y ∈ acc))).2.length ≤ 4 := by
      have := lb.2
      simp only [List.length_nil] at this
      show (lostN b s1.cnt (srt sm) _ _ []).2.length ≤ 4
      omega
    simp only [dBin, dAdd, lstOf]
    refine ⟨by simp; omega, fz_newL ?_⟩
    simp only [mkL]
    refine ⟨by simp only [List.length_cons, List.length_nil]; omega, ?_⟩
    have z := hQ p hp
    rw [e2, ← List.map_append]
    exact z
end Dg
end
section
set_option Elab.async false
set_option linter.all false
set_option maxRecDepth 100000
set_option maxHeartbeats 4000000
/-! Marksheld: led, tuple, small, draws. -/
namespace Dg
open PySem
open Dy (E Es B S It Tg Tgs Lhs D DSp DK XQ Mp MO DEnds Sd)
open Dy
def ledL (b : Bk) (s : LS) (st : Stp) : Option LS := (afterL b s st b.ml).map (·.1)
def spLed : DSp := fun ds M Q _ => ∃ b s st, ds = [tD b, lsD b.dl s, stpD st] ∧ Ok b ∧ StpIn b.dl st ∧ s.fresh.length ≤ 50 ∧ s.held.length ≤ 4 ∧
  (match ledL b s st with
  | none => Q .non M
  | some s' => Q (lsD b.dl s') M)
theorem w_led (c : Str → DSp) (hc : c "_law_after" = spAfter) (hc2 : c "_law_names" = spNames) (ds : List D) (M : Mp) (Q : DK) (E : XQ) (h : spLed ds M Q E) : wB E (b_law_led c) (endsOf Q) (startD N_law_led ds) M := by
  obtain ⟨b, s, st, rfl, ok, hst, hf, hh, hQ⟩ := h
  have eN : N_law_led.length = 3 := by rfl
  have hz : 1000 ≤ sizeLine := by decide
  have lm := ok.mlen
  have lm2 := ml_len b
  simp only [b_law_led, wB, wS, wE, wEs, dVar, startD, eN, List.replicate, List.length, endsOf, List.map, List.cons_append, List.nil_append, List.getElem?_cons_zero, List.getElem?_cons_succ, hc, hc2]
  refine ⟨b, rfl, ok, b, s, st, b.ml, rfl, ok, hst, fun x hx => ml_mem.mp hx, by omega, hf, hh, ?_⟩
  unfold ledL at hQ
  cases e : afterL b s st b.ml with
  | none =>
    rw [e] at hQ
    have a0 : L2.atI [D.non, D.lst []] 0 = some .non := by rfl
    simp only [fIx_ls a0, fzK]
    exact hQ
  | some r =>
    rw [e] at hQ
    obtain ⟨s', out⟩ := r
    intro p hp
    have a0 : L2.atI [D.ref p, D.lst (out.map .str)] 0 = some (.ref p) := by rfl
    simp only [fIx_ls a0, fzK, updM_same]
    rw [delM_updM hp]
    exact hQ
/-- a standing as the program has it -/
def lsT (dl : List Str) (s : LS) : D := .tup [.tup (dl.map fun d => .int (s.cnt d)), .tup (dl.map fun d => .bl (decide (d ∈ s.fresh))), .tup (s.held.map .str)]
def spTuple : DSp := fun ds M Q _ => ∃ b s, ds = [tD b, lsD b.dl s] ∧ Ok b ∧ Q (lsT b.dl s) M
theorem fm_some {α : Type} (f : α → D) : ∀ l : List α, l.filterMap (fun x => some (f x)) = l.map f
  | [] => rfl
  | a :: r => by rw [List.filterMap_cons, fm_some f r]; rfl
theorem w_tuple (c : Str → DSp) (hc : c "_law_deeds" = spDeeds) (ds : List D) (M : Mp) (Q : DK) (E : XQ) (h : spTuple ds M Q E) : wB E (b_law_tuple c) (endsOf Q) (startD N_law_tuple ds) M := by
  obtain ⟨b, s, rfl, ok, hQ⟩ := h
  have eN : N_law_tuple.length = 4 := by rfl
  have hz : 1000 ≤ sizeLine := by decide
  have F := dl_fit ok
  have ld := ok.dlen
  have ld2 := dl_len b
  have I : ∀ M', IsLS b.dl s M' (lsD b.dl s) := fun M' => .inl rfl
  simp only [b_law_tuple, wB, wS, wE, wEs, wIt, dVar, startD, eN, List.replicate, List.length, endsOf, List.map, List.cons_append, List.nil_append, List.getElem?_cons_zero, List.getElem?_cons_succ, hc]
  refine ⟨b, rfl, ok, ?_⟩
  simp only [srcOf, Src.items]
  intro A hA
  refine lc_map Dy.D.str (fun d => some (.int (s.cnt d))) hA b.dl [] (by simp; omega) ?_ ?_ _
  · intro d hd M' hM K hK
    simp only [wTg, tgSet, wipeD, wIfs, wE, dVar, List.map, List.set_cons_zero, List.set_cons_succ, List.getElem?_cons_zero, List.getElem?_cons_succ, (I M').cnt F hd, if_true]
    exact hK
  rw [List.nil_append, fm_some (fun d => .int (s.cnt d))]
  simp only [dBif, fTup, seqOf, wTg, tgSet, List.set_cons_zero, List.set_cons_succ]
  simp only [b_law_tuple_1, wB, wS, wE, wEs, wIt, dVar, List.map, List.getElem?_cons_zero, List.getElem?_cons_succ, hc]
  refine ⟨b, rfl, ok, ?_⟩
  simp only [srcOf, Src.items]
  intro A2 hA2
  refine lc_map Dy.D.str (fun d => some (.bl (decide (d ∈ s.fresh)))) hA2 b.dl [] (by simp; omega) ?_ ?_ _
  · intro d hd M' hM K hK
    simp only [wTg, tgSet, wipeD, wIfs, wE, dVar, List.map, List.set_cons_zero, List.set_cons_succ, List.getElem?_cons_zero, List.getElem?_cons_succ, (I M').fresh, fCmp, fIn_strs, Bool.false_eq_true, if_false, if_true]
    exact hK
  rw [List.nil_append, fm_some (fun d => .bl (decide (d ∈ s.fresh)))]
  simp only [dBif, fTup, seqOf, (I M).held]
  exact ⟨by simp only [List.length_cons, List.length_nil]; omega, hQ⟩
def spSmall : DSp := fun ds M Q _ => ∃ pa oo, ds = [.ref pa] ∧ M pa = some oo ∧ IsRow oo ∧ ∀ b o', Ok b → IsRow o' → Q (tD b) (updM M pa o')
theorem w_small (c : Str → DSp) (hc : c "_law_pick" = spPick) (hc2 : c "_law_drawn" = spDrawn) (ds : List D) (M : Mp) (Q : DK) (E : XQ) (h : spSmall ds M Q E) : wB E (b_law_small c) (endsOf Q) (startD N_law_small ds) M := by
  obtain ⟨pa, oo, rfl, hM, hr, hQ⟩ := h
  have eN : N_law_small.length = 1 := by rfl
  simp only [b_law_small, wB, wS, wE, wEs, wPs, wT, wAnd, wOr, wAndT, wOrT, wIfs, wPart, wIt, dB, dVar, wTg, tgSet, tgSets, Tg.idx, Tgs.idx, List.getElem?_cons_zero, List.getElem?_cons_succ, List.set_cons_zero, List.set_cons_succ, fIx, ixD, seqOf, dctOf, lstOf, fCmp, fNe, dOrd, dBif, dBin, dAdd, dSub, dMul, dMod, cInt, fLen, lenD, fTup, endsOf, startD, mkL, dSl, cList, cSorted, itemsOf, strsOf_map, Bool.false_eq_true, if_true, if_false, List.map, List.length, List.replicate, List.cons_append, List.nil_append, eN, hc]
  refine ⟨pa, oo, 2, rfl, hM, hr, by omega, by omega, fun v o1 v0 v1 r1 => ?_⟩
  simp only [dEq_intE, Bool.false_eq_true, if_false]
  cases v == 0 with
  | true =>
    simp only [if_true]
    simp only [b_law_small_2, wB, wS, wE, wEs, wPs, wT, wAnd, wOr, wAndT, wOrT, wIfs, wPart, wIt, dB, dVar, wTg, tgSet, tgSets, Tg.idx, Tgs.idx, List.getElem?_cons_zero, List.getElem?_cons_succ, List.set_cons_zero, List.set_cons_succ, fIx, ixD, seqOf, dctOf, lstOf, fCmp, fNe, dOrd, dBif, dBin, dAdd, dSub, dMul, dMod, cInt, fLen, lenD, fTup, endsOf, startD, mkL, dSl, cList, cSorted, itemsOf, strsOf_map, Bool.false_eq_true, if_true, if_false, List.map, List.length, List.replicate, List.cons_append, List.nil_append, hc2]
    refine ⟨1, 3, 3, pa, o1, rfl, updM_same, r1, by omega, by omega, by omega, by omega, by omega, by omega, fun b o2 hb r2 => ?_⟩
    rw [updM_updM]
    exact hQ b o2 (hb.up (by omega) (by omega) (by omega)) r2
  | false =>
    simp only [Bool.false_eq_true, if_false]
    simp only [b_law_small_1, wB, wS, wE, wEs, wPs, wT, wAnd, wOr, wAndT, wOrT, wIfs, wPart, wIt, dB, dVar, wTg, tgSet, tgSets, Tg.idx, Tgs.idx, List.getElem?_cons_zero, List.getElem?_cons_succ, List.set_cons_zero, List.set_cons_succ, fIx, ixD, seqOf, dctOf, lstOf, fCmp, fNe, dOrd, dBif, dBin, dAdd, dSub, dMul, dMod, cInt, fLen, lenD, fTup, endsOf, startD, mkL, dSl, cList, cSorted, itemsOf, strsOf_map, Bool.false_eq_true, if_true, if_false, List.map, List.length, List.replicate, List.cons_append, List.nil_append, hc2]
    refine ⟨2, 2, 2, pa, o1, rfl, updM_same, r1, by omega, by omega, by omega, by omega, by omega, by omega, fun b o2 hb r2 => ?_⟩
    rw [updM_updM]
    exact hQ b o2 (hb.up (by omega) (by omega) (by omega)) r2
def spDraws : DSp := fun ds M Q _ => ∃ ns : List Int, ds = [.lst (ns.map .int)] ∧ ∀ p o, M p = none → IsRow o → Q (.ref p) (updM M p o)
theorem w_draws (c : Str → DSp) (ds : List D) (M : Mp) (Q : DK) (E : XQ) (h : spDraws ds M Q E) : wB E (b_law_draws c) (endsOf Q) (startD N_law_draws ds) M := by
  obtain ⟨ns, rfl, hQ⟩ := h
  have eN : N_law_draws.length = 1 := by rfl
  have hz : 1000 ≤ sizeLine := by decide
  simp only [b_law_draws, wB, wS, wE, wEs, wPs, wT, wAnd, wOr, wAndT, wOrT, wIfs, wPart, wIt, dB, dVar, wTg, tgSet, tgSets, Tg.idx, Tgs.idx, List.getElem?_cons_zero, List.getElem?_cons_succ, List.set_cons_zero, List.set_cons_succ, fIx, ixD, seqOf, dctOf, lstOf, fCmp, fNe, dOrd, dBif, dBin, dAdd, dSub, dMul, dMod, cInt, fLen, lenD, fTup, endsOf, startD, mkL, dSl, cList, cSorted, itemsOf, strsOf_map, Bool.false_eq_true, if_true, if_false, List.map, List.length, List.replicate, List.cons_append, List.nil_append, eN]
  refine fz_newL ⟨by omega, fun p hp => hQ p _ hp ⟨ns, 0, 0, 7, by omega, by rfl⟩⟩
end Dg
end
section
set_option Elab.async false
set_option linter.all false
set_option maxRecDepth 100000
set_option maxHeartbeats 4000000
/-! Marksheld: standings stay within bounds. -/
namespace Dg
open PySem
open Dy
/-- held marks: each once, all of the book -/
def HeldOk (b : Bk) (h : List Str) : Prop := h.Nodup ∧ ∀ x ∈ h, x ∈ b.mn
theorem HeldOk.filter {b : Bk} {h : List Str} (k : HeldOk b h) (f : Str → Bool) : HeldOk b (h.filter f) :=
  ⟨k.1.sublist List.filter_sublist, fun x hx => k.2 x (List.mem_filter.mp hx).1⟩
theorem HeldOk.add {b : Bk} {h : List Str} (k : HeldOk b h) {x : Str} (n : x ∉ h) (m : x ∈ b.mn) : HeldOk b (srt (h ++ [x])) := by
  refine ⟨(srt_perm _).nodup_iff.mpr ?_, fun y hy => ?_⟩
  · rw [List.nodup_append]
    exact ⟨k.1, by simp, fun a ha b hb e => by rw [List.mem_singleton] at hb; subst hb; subst e; exact n ha⟩
  · rcases List.mem_append.mp ((srt_perm _).mem_iff.mp hy) with hy | hy
    · exact k.2 y hy
    · rw [List.mem_singleton] at hy; subst hy; exact m
theorem nodup_le : ∀ (l m : List Str), l.Nodup → (∀ x ∈ l, x ∈ m) → l.length ≤ m.length
  | [], m, _, _ => Nat.zero_le _
  | a :: r, m, n, s => by
    have h := List.nodup_cons.mp n
    have am := s a List.mem_cons_self
    have := nodup_le r (m.erase a) h.2 fun x hx => by
      have ne : x ≠ a := fun e => by subst e; exact h.1 hx
      exact (List.mem_erase_of_ne ne).mpr (s x (List.mem_cons_of_mem _ hx))
    rw [List.length_erase_of_mem am] at this
    have := List.length_pos_of_mem am
    simp only [List.length_cons]
    omega
theorem HeldOk.len {b : Bk} (ok : Ok b) {h : List Str} (k : HeldOk b h) : h.length ≤ 4 := by
  have := nodup_le _ _ k.1 k.2
  have e : b.mn.length = b.marks.length := by unfold Bk.mn; rw [List.length_map]
  have := ok.mlen
  omega
theorem lostN_ok {b : Bk} {cnt : Str → Int} {l : List Str} : ∀ (k : Nat) (h out : List Str), HeldOk b h → HeldOk b (lostN b cnt l k h out).1
  | 0, h, out, H => H
  | k + 1, h, out, H => by
    unfold lostN
    cases f : l.find? (falls b cnt h) with
    | none => exact H
    | some z => exact lostN_ok k _ _ (H.filter _)
theorem earnN_ok {b : Bk} {cnt : Str → Int} {l : List Str} (hl : ∀ x ∈ l, x ∈ b.mn) : ∀ (k : Nat) (h : List Str), HeldOk b h → HeldOk b (earnN b cnt l k h)
  | 0, h, H => H
  | k + 1, h, H => by
    unfold earnN
    cases f : l.find? (comes b cnt h) with
    | none => exact H
    | some z => exact earnN_ok hl k _ (H.add (comes_no (List.find?_some f)) (hl z (List.mem_of_find?_eq_some f)))
theorem lookL_ok {b : Bk} {cnt : Str → Int} {l h : List Str} (hl : ∀ x ∈ l, x ∈ b.mn) (H : HeldOk b h) : HeldOk b (lookL b cnt l h).1 := earnN_ok hl _ _ (lostN_ok _ _ _ H)
/-- a standing of the book: marks held, deeds fresh, counts within the cap -/
structure LsOk (b : Bk) (s : LS) : Prop where
  held : HeldOk b s.held
  fn : s.fresh.Nodup
  fm : ∀ d ∈ s.fresh, d ∈ b.dl
  cnt : ∀ d ∈ b.dl, 0 ≤ s.cnt d ∧ s.cnt d ≤ b.most
theorem zero_ok {b : Bk} (ok : Ok b) : LsOk b .zero := ⟨⟨List.nodup_nil, fun x hx => (nomatch hx)⟩, List.nodup_nil, fun d hd => (nomatch hd), fun d _ => ⟨Int.le_refl 0, by have := ok.most.1; show (0 : Int) ≤ b.most; omega⟩⟩
theorem LsOk.flen {b : Bk} (ok : Ok b) {s : LS} (h : LsOk b s) : s.fresh.length ≤ 3 := by
  have := nodup_le _ _ h.fn h.fm
  have := dl_len b
  have := ok.dlen
  omega
theorem night_ok {b : Bk} (ok : Ok b) {fresh : List Str} : ∀ (l : List Str) (f : Str → Int), (∀ d ∈ b.dl, 0 ≤ f d ∧ f d ≤ b.most) → ∀ d ∈ b.dl, 0 ≤ nightC b fresh l f d ∧ nightC b fresh l f d ≤ b.most
  | [], f, h => h
  | a :: r, f, h => by
    rw [nightC_cons]
    refine night_ok ok r _ fun d hd => ?_
    have := ok.most.1
    split
    · unfold fnC
      split
      · omega
      · exact h d hd
    · exact h d hd
theorem count_ok {b : Bk} (ok : Ok b) {s s' : LS} {st : Stp} (hst : StpIn b.dl st) (h : LsOk b s) (e : countL b s st = some s') : LsOk b s' := by
  have mo := ok.most.1
  cases st with
  | night =>
    simp only [countL, Option.some.injEq] at e
    subst e
    exact ⟨h.held, List.nodup_nil, fun d hd => (nomatch hd), night_ok ok _ _ h.cnt⟩
  | back d =>
    simp only [countL] at e
    split at e
    · cases e
    · rename_i z
      simp only [Option.some.injEq] at e
      subst e
      refine ⟨h.held, h.fn.sublist List.filter_sublist, fun x hx => h.fm x (List.mem_filter.mp hx).1, fun x hx => ?_⟩
      have := h.cnt x hx
      have hd := h.cnt d hst
      have nz : s.cnt d ≠ 0 := fun q => z (by simp [q])
      show 0 ≤ fnC s.cnt d (s.cnt d - 1) x ∧ fnC s.cnt d (s.cnt d - 1) x ≤ b.most
      unfold fnC
      split
      · omega
      · exact this
  | doo d =>
    simp only [countL, Option.some.injEq] at e
    subst e
    refine ⟨h.held, ?_, ?_, fun x hx => ?_⟩
    · dsimp only
      split
      · rename_i z
        simp only [Bool.and_eq_true, Bool.not_eq_true', decide_eq_false_iff_not] at z
        refine (srt_perm _).nodup_iff.mpr ?_
        rw [List.nodup_append]
        exact ⟨h.fn, by simp, fun a ha c hc e => by rw [List.mem_singleton] at hc; subst hc; subst e; exact z.2 ha⟩
      · exact h.fn
    · dsimp only
      split
      · intro x hx
        rcases List.mem_append.mp ((srt_perm _).mem_iff.mp hx) with hx | hx
        · exact h.fm x hx
        · rw [List.mem_singleton] at hx; subst hx; exact hst
      · exact h.fm
    · have hx' := h.cnt x hx
      have hd := h.cnt d hst
      dsimp only
      split
      · rename_i z
        simp only [Bool.and_eq_true, decide_eq_true_eq] at z
        simp only [fnC]
        split
        · omega
        · exact hx'
      · exact hx'
theorem after_ok {b : Bk} (ok : Ok b) {s s' : LS} {st : Stp} {sm out : List Str} (hst : StpIn b.dl st) (hs : ∀ x ∈ sm, x ∈ b.mn) (h : LsOk b s) (e : afterL b s st sm = some (s', out)) : LsOk b s' := by
  unfold afterL at e
  cases c : countL b s st with
  | none => rw [c] at e; cases e
  | some s1 =>
    rw [c] at e
    simp only [Option.some.injEq, Prod.mk.injEq] at e
    obtain ⟨rfl, _⟩ := e
    have h1 := count_ok ok hst h c
    exact ⟨lookL_ok (fun x hx => hs x ((srt_perm _).mem_iff.mp hx)) (h1.held.filter _), h1.fn, h1.fm, h1.cnt⟩
end Dg
end
section
set_option Elab.async false
set_option linter.all false
set_option maxRecDepth 100000
set_option maxHeartbeats 4000000
/-! Marksheld: the program's own looks at a book's parts. -/
namespace Dg
open PySem
open Dy (E Es B S It Tg Tgs Lhs D DSp DK XQ Mp MO DEnds Sd)
open Dy
def spIsInt : DSp := fun ds M Q _ => ∃ i, ds = [.int i] ∧ Q (.bl true) M
theorem w_is_integer (c : Str → DSp) (ds : List D) (M : Mp) (Q : DK) (E : XQ) (h : spIsInt ds M Q E) : wB E (b_is_integer c) (endsOf Q) (startD N_is_integer ds) M := by
  obtain ⟨i, rfl, hQ⟩ := h
  exact hQ
def abc : Str := "abcdefghijklmnopqrstuvwxyz"
def nameB (x : Str) : Bool := decide (1 ≤ (x.length : Int)) && (decide ((x.length : Int) ≤ 8) && x.cps.toList.all fun c => decide (c ∈ abc.cps.toList))
def spIsName : DSp := fun ds M Q _ => ∃ x, ds = [.str x] ∧ x.length ≤ sizeLine ∧ Q (.bl (nameB x)) M
theorem bools_bl {α : Type} (f : α → Bool) : ∀ l : List α, bools (l.map fun x => D.bl (f x)) = some (l.map f) := bools_map f
theorem all_id {α : Type} (f : α → Bool) (l : List α) : (l.map f).all id = l.all f := by rw [List.all_map]; rfl
theorem w_is_name (c : Str → DSp) (ds : List D) (M : Mp) (Q : DK) (E : XQ) (h : spIsName ds M Q E) : wB E (b_is_name c) (endsOf Q) (startD N_is_name ds) M := by
  obtain ⟨x, rfl, hl, hQ⟩ := h
  have eN : N_is_name.length = 2 := by rfl
  have last : wB E (b_is_name_1 c) (endsOf (if 1 ≤ (x.length : Int) ∧ (x.length : Int) ≤ 8 then Q else fun _ _ => True)) [some (.str x), none] M := by
    simp only [b_is_name_1, wB, wS, wE, wEs, wIt, wT, dB, wAndT, wOrT, wAnd, wOr, wIfs, dVar, startD, endsOf, wTg, tgSet, List.replicate, List.length, List.map, List.cons_append, List.nil_append, List.getElem?_cons_zero, List.getElem?_cons_succ, List.set_cons_zero, List.set_cons_succ, fCmp, Bool.false_eq_true, if_false, if_true]
    intro p hp
    simp only [srcOf, Src.items, signs]
    refine lc_map (fun ch => D.str ⟨#[ch]⟩) (fun ch => some (.bl (decide (ch ∈ abc.cps.toList)))) hp x.cps.toList [] (by simp; exact hl) ?_ ?_ _
    · intro ch hc M' hM K hK
      exact hK
    rw [List.nil_append, fm_some (fun ch => .bl (decide (ch ∈ abc.cps.toList)))]
    simp only [dBif, fAll, lstOf, bools_bl, all_id, Bool.false_eq_true, if_false]
    split
    · rename_i z
      have : (x.cps.toList.all fun c => decide (c ∈ abc.cps.toList)) = nameB x := by
        unfold nameB
        rw [decide_eq_true z.1, decide_eq_true z.2]; rfl
      rw [this]; exact hQ
    · trivial
  have i1 : L2.kitB "str" "str" = some true := by decide +kernel
  simp only [b_is_name, wB, wS, wE, wEs, wIt, wT, dB, wAndT, wOrT, wAnd, wOr, wIfs, dVar, startD, endsOf, wTg, tgSet, List.replicate, List.length, List.map, List.cons_append, List.nil_append, List.getElem?_cons_zero, List.getElem?_cons_succ, List.set_cons_zero, List.set_cons_succ, fCmp, Bool.false_eq_true, if_false, if_true, eN, dBif, cIsi, tyD, i1, fLen, lenD, hl, dOrd, Bool.not_true]
  by_cases h1 : 1 ≤ (x.length : Int)
  · by_cases h2 : (x.length : Int) ≤ 8
    · simp only [h1, h2, decide_true, if_true, Bool.not_true, Bool.false_eq_true, if_false]
      rw [if_pos ⟨h1, h2⟩] at last
      exact last
    · simp only [h1, h2, decide_true, decide_false, if_true, Bool.not_false]
      simp only [b_is_name_2, wB, wS, wE, wEs, wIt, wT, dB, wAndT, wOrT, wAnd, wOr, wIfs, dVar, startD, endsOf, wTg, tgSet, List.replicate, List.length, List.map, List.cons_append, List.nil_append, List.getElem?_cons_zero, List.getElem?_cons_succ, List.set_cons_zero, List.set_cons_succ, fCmp, Bool.false_eq_true, if_false, if_true]
      have : nameB x = false := by unfold nameB; rw [decide_eq_false h2]; simp
      rw [this] at hQ; exact hQ
  · simp only [h1, decide_false, Bool.false_eq_true, if_false, Bool.not_false, if_true]
    simp only [b_is_name_2, wB, wS, wE, wEs, wIt, wT, dB, wAndT, wOrT, wAnd, wOr, wIfs, dVar, startD, endsOf, wTg, tgSet, List.replicate, List.length, List.map, List.cons_append, List.nil_append, List.getElem?_cons_zero, List.getElem?_cons_succ, List.set_cons_zero, List.set_cons_succ, fCmp, Bool.false_eq_true, if_false, if_true]
    have : nameB x = false := by unfold nameB; rw [decide_eq_false h1]; simp
    rw [this] at hQ; exact hQ
def spIsOne : DSp := fun ds M Q _ => ∃ x y b, ds = [.str x, y] ∧ inD M (.str x) y = some b ∧ Q (.bl b) M
theorem w_is_one_of (c : Str → DSp) (ds : List D) (M : Mp) (Q : DK) (E : XQ) (h : spIsOne ds M Q E) : wB E (b_is_one_of c) (endsOf Q) (startD N_is_one_of ds) M := by
  obtain ⟨x, y, b, rfl, e, hQ⟩ := h
  have eN : N_is_one_of.length = 2 := by rfl
  have i1 : L2.kitB "str" "str" = some true := by decide +kernel
  simp only [b_is_one_of, wB, wS, wE, wEs, wIt, wT, dB, wAndT, wOrT, wAnd, wOr, wIfs, dVar, startD, endsOf, wTg, tgSet, List.replicate, List.length, List.map, List.cons_append, List.nil_append, List.getElem?_cons_zero, List.getElem?_cons_succ, List.set_cons_zero, List.set_cons_succ, fCmp, Bool.false_eq_true, if_false, if_true, eN, dBif, cIsi, tyD, i1, fIn, e]
  exact hQ
theorem in_keys {α : Type} (f : α → D) (l : List (Str × α)) {M : Mp} (x : Str) : inD M (.str x) (.dct (l.map fun p => (D.str p.1, f p.2))) = some (decide (x ∈ l.map (·.1))) := by
  unfold inD dctOf
  simp only [keyOk_names f l x, if_true]
  rw [getD_look f x l]
  by_cases h : x ∈ l.map (·.1)
  · obtain ⟨v, e, _⟩ := lookup_mem x l h
    rw [e, decide_eq_true h]; rfl
  · have : l.lookup x = none := by
      clear M
      induction l with
      | nil => rfl
      | cons a r ih =>
        simp only [List.map_cons, List.mem_cons, not_or] at h
        rw [List.lookup_cons, show (x == a.1) = false from by simpa using h.1]
        exact ih h.2
    rw [this, decide_eq_false h]; rfl
theorem in_deeds (dl : List (Str × Bool)) {M : Mp} (x : Str) : inD M (.str x) (.dct (deedsD dl)) = some (decide (x ∈ dl.map (·.1))) := in_keys (fun b : Bool => D.str (if b then "run" else "sum")) dl x
theorem in_marks (l : List (Str × Mrk)) {M : Mp} (x : Str) : inD M (.str x) (.dct (marksD l)) = some (decide (x ∈ l.map (·.1))) := in_keys mrkD l x
theorem in_two {M : Mp} {x a b : Str} : inD M (.str x) (.tup [.str a, .str b]) = some ((a == x) || ((b == x) || false)) := by rfl
theorem fIn_two {neg : Bool} {M : Mp} {Q : DK} {x a b : Str} : fIn neg (.str x) (.tup [.str a, .str b]) M Q = Q (.bl (if neg then !((a == x) || ((b == x) || false)) else ((a == x) || ((b == x) || false)))) M := by
  unfold fIn; rw [in_two]
def AllNames (l : List Str) : Prop := ∀ x ∈ l, nameB x = true ∧ x.length ≤ 8
def spCheckDeeds : DSp := fun ds M Q _ => ∃ dl, ds = [.dct (deedsD dl)] ∧ 1 ≤ dl.length ∧ dl.length ≤ 3 ∧ AllNames (dl.map (·.1)) ∧ Q .non M
theorem names_all {c : Str → DSp} (hc : c "is_name" = spIsName) {M : Mp} {l : List Str} (hl : l.length ≤ 100) (ok : AllNames l) {p : Addr} (hp : M p = none) {one : Dy.D → Mp → (Option Dy.D → Mp → Prop) → Prop} (ho : ∀ x M' K, spIsName [.str x] M' (fun d M2 => K (some d) M2) (fun _ _ => False) → one (.str x) M' K) {Q : DK} (q : Q (.lst (l.map fun _ => .bl true)) M) (all : List Dy.D) :
    lcRun (.val all) p one (lcEnd true p Q) (l.map .str) [] (updM M p (.lst [])) := by
  have hz : 1000 ≤ sizeLine := by decide
  refine lc_map Dy.D.str (fun _ => some (.bl true)) hp l [] (by simp; omega) ?_ ?_ _
  · intro x hx M' hM K hK
    refine ho x M' K ⟨x, rfl, by have := (ok x hx).2; omega, ?_⟩
    rw [(ok x hx).1]; exact hK
  · rw [List.nil_append, fm_some (fun _ => .bl true)]; exact q
theorem all_true {α : Type} (l : List α) : (l.map fun _ => true).all id = true := by
  rw [List.all_eq_true]
  intro x hx
  obtain ⟨_, _, rfl⟩ := List.mem_map.mp hx
  rfl
theorem deed_sort {dl : List (Str × Bool)} {x : Str} (h : x ∈ dl.map (·.1)) : ∃ v : Bool, getD (deedsD dl) (.str x) = some (.str (if v then "run" else "sum")) := by
  obtain ⟨v, e, m⟩ := lookup_mem x dl h
  refine ⟨v, ?_⟩
  unfold deedsD
  rw [getD_look (fun r : Bool => D.str (if r then "run" else "sum")), e]; rfl
theorem w_check_deeds (c : Str → DSp) (hc : c "is_name" = spIsName) (hc2 : c "is_one_of" = spIsOne) (ds : List D) (M : Mp) (Q : DK) (E : XQ) (h : spCheckDeeds ds M Q E) : wB E (b_check_deeds c) (endsOf Q) (startD N_check_deeds ds) M := by
  obtain ⟨dl, rfl, l1, l3, ok, hQ⟩ := h
  have eN : N_check_deeds.length = 2 := by rfl
  have hz : 1000 ≤ sizeLine := by decide
  have i1 : L2.kitB "dict" "dict" = some true := by decide +kernel
  have hh : (dl.map (·.1)).length ≤ 100 := by rw [List.length_map]; omega
  have len : ((deedsD dl).length : Int) = (dl.length : Int) := by unfold deedsD; simp
  have p1 : (1 : Int) ≤ ((deedsD dl).length : Int) := by omega
  have p3 : ((deedsD dl).length : Int) ≤ 3 := by omega
  simp only [b_check_deeds, wB, wS, wE, wEs, wIt, wT, dB, wAndT, wOrT, wAnd, wOr, wIfs, dVar, startD, endsOf, wTg, tgSet, List.replicate, List.length, List.map, List.cons_append, List.nil_append, List.getElem?_cons_zero, List.getElem?_cons_succ, List.set_cons_zero, List.set_cons_succ, fCmp, Bool.false_eq_true, if_false, if_true, eN, dBif, cIsi, tyD, i1, fLen, lenD, seqOf, dctOf, dOrd, Bool.not_true, p1, p3, decide_true, srcOf, Src.items, deeds_keys, hc]
  intro p hp
  refine names_all hc hh ok hp (fun x M' K hk => hk) ?_ _
  simp only [fAll, lstOf, bools_bl (fun _ => true), all_true, Bool.false_eq_true, if_false, Bool.not_true]
  simp only [b_check_deeds_3, wB, wS, wE, wEs, wIt, wT, dB, wAndT, wOrT, wAnd, wOr, wIfs, dVar, startD, endsOf, wTg, tgSet, List.replicate, List.length, List.map, List.cons_append, List.nil_append, List.getElem?_cons_zero, List.getElem?_cons_succ, List.set_cons_zero, List.set_cons_succ, fCmp, Bool.false_eq_true, if_false, if_true, dBif, cSorted, itemsOf, lstOf, dctOf, Option.map_some, deeds_keys, strsOf_map]
  refine ⟨.inl (by intro e; rw [List.map_eq_nil_iff] at e; subst e; simp at l1), by rw [List.length_map]; omega, fz_newL ?_⟩
  simp only [srcOf, Src.items]
  refine forN_map D.str (fun rest σ M2 => (∀ z ∈ rest, z ∈ dl.map (·.1)) ∧ M2 = M ∧ ∃ x, σ = [some (.dct (deedsD dl)), x]) ?_ ?_ (srt (dl.map (·.1))) _ _ ⟨fun z hz => (srt_perm _).mem_iff.mp hz, rfl, none, rfl⟩
  · rintro d ds σ M2 K ⟨mem, rfl, x, rfl⟩ hK
    obtain ⟨v, hv⟩ := deed_sort (mem d List.mem_cons_self)
    have ko : keyOk (.str d) (deedsD dl) = true := keyOk_names (fun b : Bool => D.str (if b then "run" else "sum")) dl d
    simp only [b_check_deeds_2, wB, wS, wE, wEs, wIt, wT, dB, wAndT, wOrT, wAnd, wOr, wIfs, dVar, startD, endsOf, wTg, tgSet, List.replicate, List.length, List.map, List.cons_append, List.nil_append, List.getElem?_cons_zero, List.getElem?_cons_succ, List.set_cons_zero, List.set_cons_succ, fCmp, Bool.false_eq_true, if_false, if_true, fIx_dt ko hv, hc2]
    refine ⟨_, _, true, rfl, ?_, ?_⟩
    · rw [in_two]
      cases v <;> rfl
    · simp only [Bool.not_true, Bool.false_eq_true, if_false]
      exact hK _ _ ⟨fun z hz => mem z (List.mem_cons_of_mem _ hz), rfl, _, rfl⟩
  · rintro σ M2 ⟨_, rfl, x, rfl⟩
    exact hQ
end Dg
end
section
set_option Elab.async false
set_option linter.all false
set_option maxRecDepth 100000
set_option maxHeartbeats 4000000
/-! Marksheld: the program's own looks at a book's marks. -/
namespace Dg
open PySem
open Dy (E Es B S It Tg Tgs Lhs D DSp DK XQ Mp MO DEnds Sd)
open Dy
theorem fNe_intE {i j : Int} {M : Mp} {Q : DK} : fNe (.int i) (.int j) M Q = Q (.bl (!(i == j))) M := dEq_intE (neg := true)
theorem fNe_strE {i j : Str} {M : Mp} {Q : DK} : fNe (.str i) (.str j) M Q = Q (.bl (!(i == j))) M := dEq_strE (neg := true)
def spIsPart : DSp := fun ds M Q _ => ∃ dl ml k own r, ds = [.dct (deedsD dl), .int k, .dct (marksD ml), .str own, prtD r] ∧ OkPrt (dl.map (·.1)) (ml.map (·.1)) own k r ∧ Q (.bl true) M
theorem w_is_part (c : Str → DSp) (hc : c "is_integer" = spIsInt) (hc2 : c "is_one_of" = spIsOne) (ds : List D) (M : Mp) (Q : DK) (E : XQ) (h : spIsPart ds M Q E) : wB E (b_is_part c) (endsOf Q) (startD N_is_part ds) M := by
  obtain ⟨dl, ml, k, own, r, rfl, ok, hQ⟩ := h
  have eN : N_is_part.length = 5 := by rfl
  have hz : 1000 ≤ sizeLine := by decide
  have i1 : L2.kitB "tuple" "tuple" = some true := by decide +kernel
  have i2 : L2.kitB "str" "str" = some true := by decide +kernel
  cases r with
  | cnt l d n =>
    have a0 : L2.atI [D.str (if l then "least" else "below"), .str d, .int n] 0 = some (.str (if l then "least" else "below")) := by rfl
    have a1 : L2.atI [D.str (if l then "least" else "below"), .str d, .int n] 1 = some (.str d) := by rfl
    have a2 : L2.atI [D.str (if l then "least" else "below"), .str d, .int n] 2 = some (.int n) := by rfl
    have t1 : (((Str.ofString "least") == (if l = true then Str.ofString "least" else Str.ofString "below")) || (((Str.ofString "below") == (if l = true then Str.ofString "least" else Str.ofString "below")) || false)) = true := by cases l <;> decide +kernel
    obtain ⟨hd, n1, n2⟩ := ok
    simp only [b_is_part, b_is_part_5, b_is_part_4, wB, wS, wE, wEs, wIt, wT, dB, wAndT, wOrT, wAnd, wOr, wIfs, dVar, startD, endsOf, wTg, tgSet, List.replicate, List.length, List.map, List.cons_append, List.nil_append, List.getElem?_cons_zero, List.getElem?_cons_succ, List.set_cons_zero, List.set_cons_succ, fCmp, Bool.false_eq_true, if_false, if_true, eN, prtD, dBif, cIsi, tyD, i1, i2, fLen, lenD, seqOf, dOrd, fIx_tp a0, fIx_tp a1, fIx_tp a2, Bool.not_true]
    refine ⟨by omega, ?_⟩
    rw [fIn_two]
    simp only [t1, Bool.false_eq_true, if_false, if_true]
    refine dEq_int ?_
    simp only [Bool.false_eq_true, if_false, show (((0 + 1 + 1 + 1 : Nat) : Int) == 3) = true from rfl, if_true, hc, hc2]
    refine ⟨_, _, true, rfl, ?_, ?_⟩
    · rw [in_deeds, decide_eq_true hd]
    · simp only [if_true]
      refine ⟨n, rfl, ?_⟩
      simp only [n1, n2, decide_true, if_true]
      exact hQ
  | mk h m =>
    have a0 : L2.atI [D.str (if h then "has" else "lacks"), .str m] 0 = some (.str (if h then "has" else "lacks")) := by rfl
    have a1 : L2.atI [D.str (if h then "has" else "lacks"), .str m] 1 = some (.str m) := by rfl
    have t1 : (((Str.ofString "least") == (if h = true then Str.ofString "has" else Str.ofString "lacks")) || (((Str.ofString "below") == (if h = true then Str.ofString "has" else Str.ofString "lacks")) || false)) = false := by cases h <;> decide +kernel
    have t2 : (((Str.ofString "has") == (if h = true then Str.ofString "has" else Str.ofString "lacks")) || (((Str.ofString "lacks") == (if h = true then Str.ofString "has" else Str.ofString "lacks")) || false)) = true := by cases h <;> decide +kernel
    obtain ⟨hm, ne⟩ := ok
    simp only [b_is_part, b_is_part_5, b_is_part_3, b_is_part_1, wB, wS, wE, wEs, wIt, wT, dB, wAndT, wOrT, wAnd, wOr, wIfs, dVar, startD, endsOf, wTg, tgSet, List.replicate, List.length, List.map, List.cons_append, List.nil_append, List.getElem?_cons_zero, List.getElem?_cons_succ, List.set_cons_zero, List.set_cons_succ, fCmp, Bool.false_eq_true, if_false, if_true, eN, prtD, dBif, cIsi, tyD, i1, i2, fLen, lenD, seqOf, dOrd, fIx_tp a0, fIx_tp a1, Bool.not_true]
    refine ⟨by omega, ?_⟩
    rw [fIn_two]
    simp only [t1, Bool.false_eq_true, if_false]
    refine ⟨by omega, ?_⟩
    rw [fIn_two]
    simp only [t2, Bool.not_true, Bool.false_eq_true, if_false, if_true]
    simp only [fNe_intE, show (!((((0 + 1 + 1 : Nat) : Int) == 2))) = false from rfl, Bool.false_eq_true, if_false, hc2]
    refine ⟨_, _, true, rfl, ?_, ?_⟩
    · rw [in_marks, decide_eq_true hm]
    · simp only [if_true]
      have : (!(m == own)) = true := by simpa using ne
      simp only [fNe_strE, this]
      exact hQ
def spIsStay : DSp := fun ds M Q _ => ∃ dl s, ds = [.dct (deedsD dl), styD s] ∧ OkSty (dl.map (·.1)) s ∧ Q (.bl true) M
theorem w_is_stay (c : Str → DSp) (hc2 : c "is_one_of" = spIsOne) (ds : List D) (M : Mp) (Q : DK) (E : XQ) (h : spIsStay ds M Q E) : wB E (b_is_stay c) (endsOf Q) (startD N_is_stay ds) M := by
  obtain ⟨dl, s, rfl, ok, hQ⟩ := h
  have eN : N_is_stay.length = 2 := by rfl
  have hz : 1000 ≤ sizeLine := by decide
  have i1 : L2.kitB "tuple" "tuple" = some true := by decide +kernel
  have i2 : L2.kitB "str" "str" = some true := by decide +kernel
  have dd : ∀ (l : List D) (Q : DK), Dy.plains l = true → l ≠ [] → Q (.bl false) M → dEq false (.tup l) (.tup []) M Q := fun l Q p n q => by
    refine ⟨p, rfl, .inr (by show 0 + 1 ≤ 60; omega), ?_⟩
    have e : eqD (Dy.top M (.tup l)) (Dy.top M (.tup [])) = false := by cases l with | nil => exact absurd rfl n | cons _ _ => rfl
    rw [e]; exact q
  have o : ∀ {a b x : Str} {Q : DK}, (((a == x) || ((b == x) || false)) = true) → Q (.bl true) M → fIn false (.str x) (.tup [.str a, .str b]) M Q := fun e q => by rw [fIn_two, e]; exact q
  cases s with
  | always =>
    have a0 : L2.atI [D.str "always"] 0 = some (.str "always") := by rfl
    simp only [b_is_stay, b_is_stay_3, b_is_stay_2, wB, wS, wE, wEs, wIt, wT, dB, wAndT, wOrT, wAnd, wOr, wIfs, dVar, startD, endsOf, wTg, tgSet, List.replicate, List.length, List.map, List.cons_append, List.nil_append, List.getElem?_cons_zero, List.getElem?_cons_succ, List.set_cons_zero, List.set_cons_succ, fCmp, Bool.false_eq_true, if_false, if_true, eN, styD, dBif, cIsi, tyD, i1, i2, fLen, lenD, seqOf, dOrd, fIx_tp a0, Bool.not_true]
    refine ⟨by omega, dd _ _ rfl (by simp) ?_⟩
    simp only [Bool.false_eq_true, if_false]
    refine ⟨by omega, o (by decide +kernel) ?_⟩
    simp only [if_true]
    exact dEq_int hQ
  | ground =>
    have a0 : L2.atI [D.str "ground"] 0 = some (.str "ground") := by rfl
    simp only [b_is_stay, b_is_stay_3, b_is_stay_2, wB, wS, wE, wEs, wIt, wT, dB, wAndT, wOrT, wAnd, wOr, wIfs, dVar, startD, endsOf, wTg, tgSet, List.replicate, List.length, List.map, List.cons_append, List.nil_append, List.getElem?_cons_zero, List.getElem?_cons_succ, List.set_cons_zero, List.set_cons_succ, fCmp, Bool.false_eq_true, if_false, if_true, eN, styD, dBif, cIsi, tyD, i1, i2, fLen, lenD, seqOf, dOrd, fIx_tp a0, Bool.not_true]
    refine ⟨by omega, dd _ _ rfl (by simp) ?_⟩
    simp only [Bool.false_eq_true, if_false]
    refine ⟨by omega, o (by decide +kernel) ?_⟩
    simp only [if_true]
    exact dEq_int hQ
  | till d =>
    have a0 : L2.atI [D.str "till", D.str d] 0 = some (.str "till") := by rfl
    have a1 : L2.atI [D.str "till", D.str d] 1 = some (.str d) := by rfl
    have t1 : (((Str.ofString "always") == (Str.ofString "till")) || (((Str.ofString "ground") == (Str.ofString "till")) || false)) = false := by decide +kernel
    simp only [b_is_stay, b_is_stay_3, b_is_stay_1, wB, wS, wE, wEs, wIt, wT, dB, wAndT, wOrT, wAnd, wOr, wIfs, dVar, startD, endsOf, wTg, tgSet, List.replicate, List.length, List.map, List.cons_append, List.nil_append, List.getElem?_cons_zero, List.getElem?_cons_succ, List.set_cons_zero, List.set_cons_succ, fCmp, Bool.false_eq_true, if_false, if_true, eN, styD, dBif, cIsi, tyD, i1, i2, fLen, lenD, seqOf, dOrd, fIx_tp a0, fIx_tp a1, Bool.not_true]
    refine ⟨by omega, dd _ _ rfl (by simp) ?_⟩
    simp only [Bool.false_eq_true, if_false]
    refine ⟨by omega, ?_⟩
    rw [fIn_two, t1]
    simp only [Bool.false_eq_true, if_false]
    refine dEq_str ?_
    simp only [Bool.false_eq_true, if_false, show (Str.ofString "till" == Str.ofString "till") = true by decide +kernel, if_true]
    refine dEq_int ?_
    simp only [Bool.false_eq_true, if_false, show (((0 + 1 + 1 : Nat) : Int) == 2) = true from rfl, if_true, hc2]
    exact ⟨_, _, true, rfl, by rw [in_deeds, decide_eq_true (show d ∈ dl.map (·.1) from ok)], hQ⟩
/-- a dict comprehension whose keys are all new -/
theorem dc_map {α β : Type} (g : α → Dy.D) (κ : α → β) (k v : α → Dy.D) {M : Mp} {p : Addr} {one : Dy.D → Mp → (Option (Dy.D × Dy.D) → Mp → Prop) → Prop} {Q : DK} (hp : M p = none)
    (G1 : ∀ (l : List α) (x : α), keyOk (k x) (l.map fun y => (k y, v y)) = true) (G2 : ∀ (l : List α) (x : α), κ x ∉ l.map κ → getD (l.map fun y => (k y, v y)) (k x) = none) (all : List Dy.D) : ∀ (xs acc : List α), acc.length + xs.length ≤ 1000 → ((acc ++ xs).map κ).Nodup →
    (∀ x ∈ xs, ∀ M', LeM M M' → ∀ K : Option (Dy.D × Dy.D) → Mp → Prop, K (some (k x, v x)) M' → one (g x) M' K) → Q (.dct ((acc ++ xs).map fun y => (k y, v y))) M → dcRun (.val all) p one (dcEnd true p Q) (xs.map g) (updM M p (.dct (acc.map fun y => (k y, v y))))
  | [], acc, _, _, _, q => by
    refine ⟨trivial, ?_⟩
    show fzK Q (.ref p) _
    unfold fzK
    simp only [updM_same]
    rw [delM_updM hp]
    simpa using q
  | d :: ds, acc, hl, nd, h, q => by
    have hz : 1000 ≤ sizeLine := by decide
    refine ⟨trivial, h d List.mem_cons_self _ (LeM.new hp) _ ?_⟩
    simp only [List.length_cons] at hl
    have nin : κ d ∉ acc.map κ := fun hx => by
      rw [List.map_append, List.map_cons, List.nodup_append] at nd
      exact nd.2.2 _ hx _ List.mem_cons_self rfl
    simp only [fDSet, updM_same]
    refine ⟨G1 acc d, by rw [List.length_map]; omega, ?_⟩
    rw [putD_new _ _ _ (G2 acc d nin), updM_updM, show (acc.map fun y => (k y, v y)) ++ [(k d, v d)] = (acc ++ [d]).map fun y => (k y, v y) from by simp]
    refine dc_map g κ k v hp G1 G2 all ds (acc ++ [d]) (by simp; omega) (by simpa using nd) (fun x hx => h x (List.mem_cons_of_mem _ hx)) (by simpa using q)
theorem keyOk_strs {α : Type} (n : α → Str) (v : α → Dy.D) (l : List α) (x : Str) : keyOk (.str x) (l.map fun y => (Dy.D.str (n y), v y)) = true := by
  have := keyOk_names (fun a : α => v a) (l.map fun y => (n y, y)) x
  rw [List.map_map] at this
  exact this
theorem getD_strs {α : Type} (n : α → Str) (v : α → Dy.D) (l : List α) (x : Str) (h : x ∉ l.map n) : getD (l.map fun y => (Dy.D.str (n y), v y)) (.str x) = none := by
  have := getD_names (fun a : α => v a) (l.map fun y => (n y, y)) x (by rw [List.map_map]; exact h)
  rw [List.map_map] at this
  exact this
theorem tkB_prt (r : Prt) : tkB (prtD r) = true := by cases r <;> rfl
theorem keyOk_prt (l : List Prt) (r : Prt) : keyOk (prtD r) (l.map fun y => (prtD y, Dy.D.bl true)) = true := by
  unfold keyOk
  rw [tkB_prt]
  have : (l.map fun y => (prtD y, Dy.D.bl true)).all (fun kv => isT kv.1) = true := by
    rw [List.all_eq_true]
    intro kv hk
    obtain ⟨a, _, rfl⟩ := List.mem_map.mp hk
    cases a <;> rfl
  rw [this]; simp
theorem getD_prt (l : List Prt) (r : Prt) (h : r ∉ l) : getD (l.map fun y => (prtD y, Dy.D.bl true)) (prtD r) = none := by
  induction l with
  | nil => rfl
  | cons a t ih =>
    simp only [List.mem_cons, not_or] at h
    rw [List.map_cons, getD_cons, eq_prt, decide_eq_false (Ne.symm h.1), if_neg (by simp)]
    exact ih h.2
def spIsMark : DSp := fun ds M Q _ => ∃ dl ml k own m, ds = [.dct (deedsD dl), .int k, .dct (marksD ml), .str own, mrkD m] ∧ OkG (dl.map (·.1)) (ml.map (·.1)) own k m.1 ∧ OkSty (dl.map (·.1)) m.2 ∧ Q (.bl true) M
theorem w_is_mark (c : Str → DSp) (hc : c "is_part" = spIsPart) (hc2 : c "is_stay" = spIsStay) (ds : List D) (M : Mp) (Q : DK) (E : XQ) (h : spIsMark ds M Q E) : wB E (b_is_mark c) (endsOf Q) (startD N_is_mark ds) M := by
  obtain ⟨dl, ml, k, own, ⟨g, s⟩, rfl, ⟨g0, g3, gn, gok⟩, sok, hQ⟩ := h
  have eN : N_is_mark.length = 7 := by rfl
  have hz : 1000 ≤ sizeLine := by decide
  have i1 : L2.kitB "tuple" "tuple" = some true := by decide +kernel
  have a0 : L2.atI [D.tup (g.map prtD), styD s] 0 = some (.tup (g.map prtD)) := by rfl
  have a1 : L2.atI [D.tup (g.map prtD), styD s] 1 = some (styD s) := by rfl
  have g3 : g.length ≤ 3 := g3
  have gn : g.Nodup := gn
  have gl : 1 ≤ g.length := by cases g with | nil => exact absurd rfl g0 | cons _ _ => simp
  have g1 : (1 : Int) ≤ (g.length : Int) := by omega
  have g2 : (g.length : Int) ≤ 3 := by omega
  simp only [b_is_mark, wB, wS, wE, wEs, wIt, wT, dB, wAndT, wOrT, wAnd, wOr, wIfs, dVar, startD, endsOf, wTg, tgSet, List.replicate, List.length, List.map, List.cons_append, List.nil_append, List.getElem?_cons_zero, List.getElem?_cons_succ, List.set_cons_zero, List.set_cons_succ, fCmp, Bool.false_eq_true, if_false, if_true, eN, mrkD, dBif, cIsi, tyD, i1, fLen, lenD, seqOf, dOrd, fIx_tp a0, fIx_tp a1, Bool.not_true]
  simp only [fNe_intE, show (!((((0 + 1 + 1 : Nat) : Int) == 2))) = false from rfl, Bool.false_eq_true, if_false]
  simp only [b_is_mark_4, b_is_mark_3, wB, wS, wE, wEs, wIt, wT, dB, wAndT, wOrT, wAnd, wOr, wIfs, dVar, startD, endsOf, wTg, tgSet, List.replicate, List.length, List.map, List.cons_append, List.nil_append, List.getElem?_cons_zero, List.getElem?_cons_succ, List.set_cons_zero, List.set_cons_succ, fCmp, Bool.false_eq_true, if_false, if_true, eN, mrkD, dBif, cIsi, tyD, i1, fLen, lenD, seqOf, dOrd, fIx_tp a0, fIx_tp a1, Bool.not_true, List.length_map, g1, g2, decide_true, srcOf, Src.items, hc]
  intro p hp
  refine lc_map prtD (fun _ => some (.bl true)) hp g [] (by simp; omega) ?_ ?_ _
  · intro r hr M' hM K hK
    exact ⟨dl, ml, k, own, r, rfl, gok r hr, hK⟩
  rw [List.nil_append, fm_some (fun _ => .bl true)]
  simp only [fAll, lstOf, bools_bl (fun _ => true), all_true, Bool.false_eq_true, if_false, Bool.not_true]
  simp only [b_is_mark_1, wB, wS, wE, wEs, wIt, wT, dB, wAndT, wOrT, wAnd, wOr, wIfs, dVar, startD, endsOf, wTg, tgSet, List.replicate, List.length, List.map, List.cons_append, List.nil_append, List.getElem?_cons_zero, List.getElem?_cons_succ, List.set_cons_zero, List.set_cons_succ, fCmp, Bool.false_eq_true, if_false, if_true, dBif, srcOf, Src.items, hc2]
  intro q hq
  refine dc_map prtD (fun r : Prt => r) prtD (fun _ => .bl true) hq (fun l x => keyOk_prt l x) (fun l x h => getD_prt l x (by simpa using h)) _ g [] (by simp; omega) (by simpa using gn) ?_ ?_
  · intro r hr M' hM K hK
    exact hK
  simp only [fLen, lenD, seqOf, dctOf, List.nil_append, List.length_map]
  refine dEq_int ?_
  simp only [Bool.false_eq_true, if_false, beq_self_eq_true, if_true]
  simp only [fIx_tp a1]
  exact ⟨dl, s, rfl, sok, hQ⟩
end Dg
end
section
set_option Elab.async false
set_option linter.all false
set_option maxRecDepth 100000
set_option maxHeartbeats 4000000
/-! Marksheld: a book is made. -/
namespace Dg
open PySem
open Dy (E Es B S It Tg Tgs Lhs D DSp DK XQ Mp MO DEnds Sd)
open Dy
def spCheckMarks : DSp := fun ds M Q _ => ∃ dl k ml, ds = [.dct (deedsD dl), .int k, .dct (marksD ml)] ∧ 1 ≤ ml.length ∧ ml.length ≤ 4 ∧ AllNames (ml.map (·.1)) ∧ (∀ z ∈ ml, OkG (dl.map (·.1)) (ml.map (·.1)) z.1 k z.2.1 ∧ OkSty (dl.map (·.1)) z.2.2) ∧ Q .non M
theorem w_check_marks (c : Str → DSp) (hc : c "is_name" = spIsName) (hc2 : c "is_mark" = spIsMark) (ds : List D) (M : Mp) (Q : DK) (E : XQ) (h : spCheckMarks ds M Q E) : wB E (b_check_marks c) (endsOf Q) (startD N_check_marks ds) M := by
  obtain ⟨dl, k, ml, rfl, l1, l3, ok, oks, hQ⟩ := h
  have eN : N_check_marks.length = 4 := by rfl
  have hz : 1000 ≤ sizeLine := by decide
  have i1 : L2.kitB "dict" "dict" = some true := by decide +kernel
  have hh : (ml.map (·.1)).length ≤ 100 := by rw [List.length_map]; omega
  have len : ((marksD ml).length : Int) = (ml.length : Int) := by unfold marksD; simp
  have p1 : (1 : Int) ≤ ((marksD ml).length : Int) := by omega
  have p3 : ((marksD ml).length : Int) ≤ 4 := by omega
  simp only [b_check_marks, wB, wS, wE, wEs, wIt, wT, dB, wAndT, wOrT, wAnd, wOr, wIfs, dVar, startD, endsOf, wTg, tgSet, List.replicate, List.length, List.map, List.cons_append, List.nil_append, List.getElem?_cons_zero, List.getElem?_cons_succ, List.set_cons_zero, List.set_cons_succ, fCmp, Bool.false_eq_true, if_false, if_true, eN, dBif, cIsi, tyD, i1, fLen, lenD, seqOf, dctOf, dOrd, Bool.not_true, p1, p3, decide_true, srcOf, Src.items, marks_keys, hc]
  intro p hp
  refine names_all hc hh ok hp (fun x M' K hk => hk) ?_ _
  simp only [fAll, lstOf, bools_bl (fun _ => true), all_true, Bool.false_eq_true, if_false, Bool.not_true]
  simp only [b_check_marks_3, wB, wS, wE, wEs, wIt, wT, dB, wAndT, wOrT, wAnd, wOr, wIfs, dVar, startD, endsOf, wTg, tgSet, List.replicate, List.length, List.map, List.cons_append, List.nil_append, List.getElem?_cons_zero, List.getElem?_cons_succ, List.set_cons_zero, List.set_cons_succ, fCmp, Bool.false_eq_true, if_false, if_true, dBif, cSorted, itemsOf, lstOf, dctOf, Option.map_some, marks_keys, strsOf_map]
  refine ⟨.inl (by intro e; rw [List.map_eq_nil_iff] at e; subst e; simp at l1), by rw [List.length_map]; omega, fz_newL ?_⟩
  simp only [srcOf, Src.items]
  refine forN_map D.str (fun rest σ M2 => (∀ z ∈ rest, z ∈ ml.map (·.1)) ∧ M2 = M ∧ ∃ x, σ = [some (.dct (deedsD dl)), some (.int k), some (.dct (marksD ml)), x]) ?_ ?_ (srt (ml.map (·.1))) _ _ ⟨fun z hz => (srt_perm _).mem_iff.mp hz, rfl, none, rfl⟩
  · rintro d ds σ M2 K ⟨mem, rfl, x, rfl⟩ hK
    obtain ⟨v, e, m⟩ := lookup_mem d ml (mem d List.mem_cons_self)
    have hv : getD (marksD ml) (.str d) = some (mrkD v) := by
      unfold marksD
      rw [getD_look mrkD, e]; rfl
    have ko : keyOk (.str d) (marksD ml) = true := keyOk_names mrkD ml d
    simp only [b_check_marks_2, wB, wS, wE, wEs, wIt, wT, dB, wAndT, wOrT, wAnd, wOr, wIfs, dVar, startD, endsOf, wTg, tgSet, List.replicate, List.length, List.map, List.cons_append, List.nil_append, List.getElem?_cons_zero, List.getElem?_cons_succ, List.set_cons_zero, List.set_cons_succ, fCmp, Bool.false_eq_true, if_false, if_true, fIx_dt ko hv, hc2]
    refine ⟨dl, ml, k, d, v, rfl, (oks _ m).1, (oks _ m).2, ?_⟩
    simp only [Bool.not_true, Bool.false_eq_true, if_false]
    exact hK _ _ ⟨fun z hz => mem z (List.mem_cons_of_mem _ hz), rfl, _, rfl⟩
  · rintro σ M2 ⟨_, rfl, x, rfl⟩
    exact hQ
theorem Ok.dnames {b : Bk} (h : Ok b) : AllNames b.dn := by
  obtain ⟨n, _, _, e⟩ := h.deeds
  have e' : b.dn = dNames.take n := e
  intro x hx
  rw [e'] at hx
  have := List.mem_of_mem_take hx
  exact (show ∀ x ∈ dNames, nameB x = true ∧ x.length ≤ 8 by decide +kernel) x this
theorem Ok.mnames {b : Bk} (h : Ok b) : AllNames b.mn := by
  obtain ⟨n, _, _, e⟩ := h.marks
  have e' : b.mn = mNames.take n := e
  intro x hx
  rw [e'] at hx
  have := List.mem_of_mem_take hx
  exact (show ∀ x ∈ mNames, nameB x = true ∧ x.length ≤ 8 by decide +kernel) x this
/-- the book as an object -/
def sortsD (b : Bk) : List (D × D) := b.dl.map fun d => (.str d, .str (runN (b.run d)))
def cardsD (b : Bk) : List (D × D) := b.ml.map fun x => (.str x, mrkD (b.get x))
def placesD (b : Bk) : List (D × D) := b.dl.zipIdx.map fun p => (.str p.1, .int (p.2 : Nat))
def bkF (b : Bk) : List (Str × D) := [("sorts", .dct (sortsD b)), ("cards", .dct (cardsD b)), ("cap", .int b.most), ("places", .dct (placesD b))]
def bkO (b : Bk) : MO := .ins "Book" (bkF b)
def spInit : DSp := fun ds M Q _ => ∃ b p, ds = [.ref p, .dct (deedsD b.deeds), .dct (marksD b.marks), .int b.most] ∧ M p = some (.ins "Book" []) ∧ Ok b ∧ Q .non (updM M p (bkO b))
theorem putFD_ne {f g : Str} {v x : D} {r : List (Str × D)} (h : (g == f) = false) : putFD f v ((g, x) :: r) = (g, x) :: putFD f v r := by
  have : ¬ g = f := by simpa using h
  rw [putFD, if_neg this]
theorem putFD_nil {f : Str} {v : D} : putFD f v [] = [(f, v)] := rfl
theorem enum_strs (l : List Str) : enumOf (l.map D.str) = l.zipIdx.map fun p => D.tup [.int (p.2 : Nat), .str p.1] := by
  unfold enumOf
  rw [List.zipIdx_map, List.map_map]; rfl
theorem zip_fst (l : List Str) : l.zipIdx.map (fun p => p.1) = l := by
  have := List.unzip_zipIdx_eq_prod (l := l) (i := 0)
  rw [List.unzip_eq_map] at this
  exact (Prod.mk.inj this).1
theorem w_init (c : Str → DSp) (hc : c "is_integer" = spIsInt) (hc2 : c "check_deeds" = spCheckDeeds) (hc3 : c "check_marks" = spCheckMarks) (ds : List D) (M : Mp) (Q : DK) (E : XQ) (h : spInit ds M Q E) : wB E (b_Book__init c) (endsOf Q) (startD N_Book__init ds) M := by
  obtain ⟨b, p, rfl, hM, ok, hQ⟩ := h
  have eN : N_Book__init.length = 6 := by rfl
  have hz : 1000 ≤ sizeLine := by decide
  have m1 : (1 : Int) ≤ b.most := by have := ok.most.1; omega
  have m3 : b.most ≤ 3 := by have := ok.most.2; omega
  have ld := ok.dlen
  have lm := ok.mlen
  have ld2 := dl_len b
  have lm2 := ml_len b
  have hn : ∀ {q : Addr}, M q = none → q ≠ p := fun hq e => by subst e; rw [hM] at hq; cases hq
  simp only [b_Book__init, wB, wS, wE, wEs, wIt, wT, dB, wAndT, wOrT, wAnd, wOr, wIfs, dVar, startD, endsOf, wTg, tgSet, List.replicate, List.length, List.map, List.cons_append, List.nil_append, List.getElem?_cons_zero, List.getElem?_cons_succ, List.set_cons_zero, List.set_cons_succ, fCmp, Bool.false_eq_true, if_false, if_true, eN, hc]
  refine ⟨_, rfl, ?_⟩
  simp only [dOrd, m1, m3, decide_true, Bool.not_true, Bool.false_eq_true, if_false, if_true]
  simp only [b_Book__init_6, wB, wS, wE, wEs, wIt, wT, dB, wAndT, wOrT, wAnd, wOr, wIfs, dVar, startD, endsOf, wTg, tgSet, List.replicate, List.length, List.map, List.cons_append, List.nil_append, List.getElem?_cons_zero, List.getElem?_cons_succ, List.set_cons_zero, List.set_cons_succ, fCmp, Bool.false_eq_true, if_false, if_true, hc2]
  refine ⟨b.deeds, rfl, ld.1, ld.2, ok.dnames, ?_⟩
  simp only [b_Book__init_5, wB, wS, wE, wEs, wIt, wT, dB, wAndT, wOrT, wAnd, wOr, wIfs, dVar, startD, endsOf, wTg, tgSet, List.replicate, List.length, List.map, List.cons_append, List.nil_append, List.getElem?_cons_zero, List.getElem?_cons_succ, List.set_cons_zero, List.set_cons_succ, fCmp, Bool.false_eq_true, if_false, if_true, hc3]
  refine ⟨b.deeds, b.most, b.marks, rfl, lm.1, lm.2, ok.mnames, fun z hz => ok.ok z hz, ?_⟩
  -- sorts
  simp only [b_Book__init_4, wB, wS, wE, wEs, wIt, wT, dB, wAndT, wOrT, wAnd, wOr, wIfs, dVar, startD, endsOf, wTg, tgSet, List.replicate, List.length, List.map, List.cons_append, List.nil_append, List.getElem?_cons_zero, List.getElem?_cons_succ, List.set_cons_zero, List.set_cons_succ, fCmp, Bool.false_eq_true, if_false, if_true, dBif, cSorted, itemsOf, lstOf, dctOf, Option.map_some, deeds_keys, strsOf_map]
  refine ⟨.inl (by intro e; rw [List.map_eq_nil_iff] at e; rw [e] at ld; simp at ld), by rw [List.length_map]; omega, fz_newL ?_⟩
  simp only [srcOf, Src.items]
  intro q hq
  refine dc_map D.str (fun x : Str => x) D.str (fun d => .str (runN (b.run d))) hq (fun l x => keyOk_strs (fun x => x) _ l x) (fun l x h => getD_strs (fun x => x) _ l x h) _ b.dl [] (by simp only [List.length_nil]; omega) (by simpa using (dl_fit ok).1) ?_ ?_
  · intro d hd M' hM' K hK
    simp only [wipeD, wB, wS, wE, wEs, wIt, wT, dB, wAndT, wOrT, wAnd, wOr, wIfs, dVar, startD, endsOf, wTg, tgSet, List.replicate, List.length, List.map, List.cons_append, List.nil_append, List.getElem?_cons_zero, List.getElem?_cons_succ, List.set_cons_zero, List.set_cons_succ, fCmp, Bool.false_eq_true, if_false, if_true, fIx_dt (deed_ok b d) (deed_get hd)]
    exact hK
  simp only [dFld, hM, true_and]
  refine ⟨by simp, ?_⟩
  rw [List.nil_append, putFD_nil, show b.dl.map (fun d => (D.str d, D.str (runN (b.run d)))) = sortsD b from rfl]
  -- cards
  simp only [b_Book__init_3, wB, wS, wE, wEs, wIt, wT, dB, wAndT, wOrT, wAnd, wOr, wIfs, dVar, startD, endsOf, wTg, tgSet, List.replicate, List.length, List.map, List.cons_append, List.nil_append, List.getElem?_cons_zero, List.getElem?_cons_succ, List.set_cons_zero, List.set_cons_succ, fCmp, Bool.false_eq_true, if_false, if_true, dBif, cSorted, itemsOf, lstOf, dctOf, Option.map_some, marks_keys, strsOf_map]
  refine ⟨.inl (by intro e; rw [List.map_eq_nil_iff] at e; rw [e] at lm; simp at lm), by rw [List.length_map]; omega, fz_newL ?_⟩
  simp only [srcOf, Src.items]
  intro q2 hq2
  refine dc_map D.str (fun x : Str => x) D.str (fun x => mrkD (b.get x)) hq2 (fun l x => keyOk_strs (fun x => x) _ l x) (fun l x h => getD_strs (fun x => x) _ l x h) _ b.ml [] (by simp only [List.length_nil]; omega) (by rw [List.nil_append, List.map_id']; exact (srt_perm _).nodup_iff.mpr ok.mnd) ?_ ?_
  · intro d hd M' hM' K hK
    simp only [wipeD, wB, wS, wE, wEs, wIt, wT, dB, wAndT, wOrT, wAnd, wOr, wIfs, dVar, startD, endsOf, wTg, tgSet, List.replicate, List.length, List.map, List.cons_append, List.nil_append, List.getElem?_cons_zero, List.getElem?_cons_succ, List.set_cons_zero, List.set_cons_succ, fCmp, Bool.false_eq_true, if_false, if_true, fIx_dt (mark_ok b d) (mark_get (ml_mem.mp hd))]
    exact hK
  simp only [dFld, updM_same, true_and]
  refine ⟨by simp, ?_⟩
  rw [List.nil_append, updM_updM, putFD_ne (by decide +kernel), putFD_nil, show b.ml.map (fun x => (D.str x, mrkD (b.get x))) = cardsD b from rfl]
  -- cap
  simp only [b_Book__init_2, wB, wS, wE, wEs, wIt, wT, dB, wAndT, wOrT, wAnd, wOr, wIfs, dVar, startD, endsOf, wTg, tgSet, List.replicate, List.length, List.map, List.cons_append, List.nil_append, List.getElem?_cons_zero, List.getElem?_cons_succ, List.set_cons_zero, List.set_cons_succ, fCmp, Bool.false_eq_true, if_false, if_true, dFld, updM_same, true_and]
  refine ⟨by simp, ?_⟩
  rw [updM_updM, putFD_ne (by decide +kernel), putFD_ne (by decide +kernel), putFD_nil]
  -- places
  have lk : List.lookup (Str.ofString "sorts") [(Str.ofString "sorts", D.dct (sortsD b)), ("cards", .dct (cardsD b)), ("cap", .int b.most)] = some (.dct (sortsD b)) := by
    rw [List.lookup_cons, beq_self_eq_true]
  have ks : (sortsD b).map (·.1) = b.dl.map D.str := by unfold sortsD; rw [List.map_map]; rfl
  simp only [b_Book__init_1, wB, wS, wE, wIt, dVar, List.getElem?_cons_zero, dAttr, updM_same, true_and, lk, ks, enum_strs, Src.items]
  intro q3 hq3
  refine dc_map (fun p : Str × Nat => D.tup [.int (p.2 : Nat), .str p.1]) (fun p => p.1) (fun p => .str p.1) (fun p => .int (p.2 : Nat)) hq3 (fun l x => keyOk_strs (fun p : Str × Nat => p.1) _ l x.1) (fun l x h => getD_strs (fun p : Str × Nat => p.1) _ l x.1 h) _ b.dl.zipIdx [] (by simp only [List.length_nil, List.length_zipIdx]; omega) (by rw [List.nil_append, zip_fst]; exact (dl_fit ok).1) ?_ ?_
  · intro d hd M' hM' K hK
    simp only [wipeD, wB, wS, wE, wEs, wIt, wT, dB, wAndT, wOrT, wAnd, wOr, wIfs, dVar, startD, endsOf, wTg, tgSet, List.replicate, List.length, List.map, List.cons_append, List.nil_append, List.getElem?_cons_zero, List.getElem?_cons_succ, List.set_cons_zero, List.set_cons_succ, fCmp, Bool.false_eq_true, if_false, if_true, tgSets, Option.bind]
    exact hK
  simp only [dFld, updM_same, true_and]
  refine ⟨by simp, ?_⟩
  rw [List.nil_append, updM_updM, putFD_ne (by decide +kernel), putFD_ne (by decide +kernel), putFD_ne (by decide +kernel), putFD_nil]
  exact hQ
def spMade : DSp := fun ds M Q _ => ∃ b, ds = [tD b] ∧ Ok b ∧ ∀ p, M p = none → Q (.ref p) (updM M p (bkO b))
theorem w_made (c : Str → DSp) (hc : c "Book.__init__" = spInit) (ds : List D) (M : Mp) (Q : DK) (E : XQ) (h : spMade ds M Q E) : wB E (b_law_made c) (endsOf Q) (startD N_law_made ds) M := by
  obtain ⟨b, rfl, ok, hQ⟩ := h
  have eN : N_law_made.length = 1 := by rfl
  simp only [b_law_made, wB, wS, wE, wEs, wIt, wT, dB, wAndT, wOrT, wAnd, wOr, wIfs, dVar, startD, endsOf, wTg, tgSet, List.replicate, List.length, List.map, List.cons_append, List.nil_append, List.getElem?_cons_zero, List.getElem?_cons_succ, List.set_cons_zero, List.set_cons_succ, fCmp, Bool.false_eq_true, if_false, if_true, eN, tD, fIx_dt (o_deeds b) (k_deeds b), fIx_dt (o_marks b) (k_marks b), fIx_dt (o_most b) (k_most b), hc]
  intro p hp
  refine ⟨b, p, rfl, updM_same, ok, rfl, ?_⟩
  rw [updM_updM]
  exact hQ p hp
end Dg
end
section
set_option Elab.async false
set_option linter.all false
set_option maxRecDepth 100000
set_option maxHeartbeats 4000000
/-! Marksheld: the program's machine. -/
namespace Dg
open PySem
open Dy (E Es B S It Tg Tgs Lhs D DSp DK XQ Mp MO DEnds Sd)
open Dy
/-- a book stands at p -/
def BkAt (M : Mp) (p : Addr) (b : Bk) : Prop := M p = some (bkO b)
section
variable {M : Mp} {p : Addr} {b : Bk} {Q : DK}
theorem BkAt.up (h : BkAt M p b) {M' : Mp} (l : LeM M M') : BkAt M' p b := l p _ h
theorem BkAt.sorts (h : BkAt M p b) : dAttr "Book" "sorts" (.ref p) M Q = Q (.dct (sortsD b)) M := by
  have lk : List.lookup (Str.ofString "sorts") (bkF b) = some (.dct (sortsD b)) := by
    unfold bkF
    rw [List.lookup_cons, beq_self_eq_true]
  simp only [dAttr, show M p = some (bkO b) from h, bkO, true_and, lk]
theorem look_ne {x y : Str} {v : D} {r : List (Str × D)} (h : (x == y) = false) : List.lookup x ((y, v) :: r) = List.lookup x r := by rw [List.lookup_cons, h]
theorem look_eq {x : Str} {v : D} {r : List (Str × D)} : List.lookup x ((x, v) :: r) = some v := by rw [List.lookup_cons, beq_self_eq_true]
theorem BkAt.cards (h : BkAt M p b) : dAttr "Book" "cards" (.ref p) M Q = Q (.dct (cardsD b)) M := by
  have lk : List.lookup (Str.ofString "cards") (bkF b) = some (.dct (cardsD b)) := by
    unfold bkF
    rw [look_ne (by decide +kernel), look_eq]
  simp only [dAttr, show M p = some (bkO b) from h, bkO, true_and, lk]
theorem BkAt.cap (h : BkAt M p b) : dAttr "Book" "cap" (.ref p) M Q = Q (.int b.most) M := by
  have lk : List.lookup (Str.ofString "cap") (bkF b) = some (.int b.most) := by
    unfold bkF
    rw [look_ne (by decide +kernel), look_ne (by decide +kernel), look_eq]
  simp only [dAttr, show M p = some (bkO b) from h, bkO, true_and, lk]
theorem BkAt.places (h : BkAt M p b) : dAttr "Book" "places" (.ref p) M Q = Q (.dct (placesD b)) M := by
  have lk : List.lookup (Str.ofString "places") (bkF b) = some (.dct (placesD b)) := by
    unfold bkF
    rw [look_ne (by decide +kernel), look_ne (by decide +kernel), look_ne (by decide +kernel), look_eq]
  simp only [dAttr, show M p = some (bkO b) from h, bkO, true_and, lk]
end
theorem sort_keys (b : Bk) : (sortsD b).map (·.1) = b.dl.map D.str := by unfold sortsD; rw [List.map_map]; rfl
theorem card_keys (b : Bk) : (cardsD b).map (·.1) = b.ml.map D.str := by unfold cardsD; rw [List.map_map]; rfl
theorem sort_ok (b : Bk) (x : Str) : keyOk (.str x) (sortsD b) = true := keyOk_strs (fun x => x) _ b.dl x
theorem sort_get {b : Bk} {d : Str} (h : d ∈ b.dl) : getD (sortsD b) (.str d) = some (.str (runN (b.run d))) := getD_fn (fun d => .str (runN (b.run d))) d b.dl h
theorem card_ok (b : Bk) (x : Str) : keyOk (.str x) (cardsD b) = true := keyOk_strs (fun x => x) _ b.ml x
theorem card_get {b : Bk} {x : Str} (h : x ∈ b.mn) : getD (cardsD b) (.str x) = some (mrkD (b.get x)) := getD_fn (fun x => mrkD (b.get x)) x b.ml (ml_mem.mpr h)
theorem place_ok (b : Bk) (x : Str) : keyOk (.str x) (placesD b) = true := keyOk_strs (fun p : Str × Nat => p.1) _ b.dl.zipIdx x
theorem place_idx (x : Str) : ∀ (l : List Str) (k : Nat), x ∈ l → getD ((l.zipIdx k).map fun p => (D.str p.1, D.int (p.2 : Nat))) (.str x) = some (.int ((k + l.idxOf x : Nat) : Int))
  | [], k, h => nomatch h
  | a :: r, k, h => by
    rw [List.zipIdx_cons, List.map_cons, getD_cons]
    have e : eqD (D.str a) (.str x) = (a == x) := rfl
    rw [e]
    by_cases z : a = x
    · subst z; simp
    · rw [if_neg (by simpa using z), place_idx x r (k + 1) ((List.mem_cons.mp h).resolve_left (Ne.symm z)), List.idxOf_cons, show (a == x) = false from by simpa using z, cond_false]
      congr 3
      omega
theorem place_get {b : Bk} {d : Str} (h : d ∈ b.dl) : getD (placesD b) (.str d) = some (.int ((b.dl.idxOf d : Nat) : Int)) := by
  have := place_idx d b.dl 0 h
  rw [Nat.zero_add] at this
  exact this
theorem at_idx {α : Type} (f : Str → α) {d : Str} {l : List Str} (h : d ∈ l) : L2.atI (l.map f) ((l.idxOf d : Nat) : Int) = some (f d) := by
  rw [atI_nat, List.getElem?_map, List.getElem?_eq_getElem (List.idxOf_lt_length_of_mem h), Option.map_some, List.getElem_idxOf]
/-! ### steps, the first standing -/
def spSteps : DSp := fun ds M Q _ => ∃ b p, ds = [.ref p] ∧ BkAt M p b ∧ Ok b ∧ Q (.lst ((everyB b).map stpD)) M
theorem fm_stp (g : Str → Stp) (l : List Str) : (l.filterMap fun x => some (stpD (g x))) = (l.map g).map stpD := by rw [fm_some (fun x => stpD (g x)), List.map_map]; rfl
theorem w_steps_of (c : Str → DSp) (ds : List D) (M : Mp) (Q : DK) (E : XQ) (h : spSteps ds M Q E) : wB E (b_steps_of c) (endsOf Q) (startD N_steps_of ds) M := by
  obtain ⟨b, p, rfl, hb, ok, hQ⟩ := h
  have eN : N_steps_of.length = 2 := by rfl
  have hz : 1000 ≤ sizeLine := by decide
  have len := ok.dlen
  have l2 := dl_len b
  simp only [b_steps_of, wB, wS, wE, wEs, wIt, dVar, startD, eN, List.replicate, List.length, List.map, List.cons_append, List.nil_append, List.getElem?_cons_zero, endsOf, hb.sorts, srcOf, sort_keys, Src.items]
  intro A hA
  refine lc_map D.str (fun x => some (stpD (.doo x))) hA b.dl [] (by simp only [List.length_nil]; omega) ?_ ?_ _
  · intro x _ M' _ K hK
    exact ⟨by decide, hK⟩
  rw [List.nil_append, fm_stp .doo]
  simp only [hb.sorts, sort_keys]
  intro A2 hA2
  refine lc_map D.str (fun x => some (stpD (.back x))) hA2 b.dl [] (by simp only [List.length_nil]; omega) ?_ ?_ _
  · intro x _ M' _ K hK
    exact ⟨by decide, hK⟩
  rw [List.nil_append, fm_stp .back]
  simp only [dBin, dAdd, lstOf]
  refine ⟨by simp; omega, fz_newL ?_⟩
  simp only [mkL, lstOf]
  refine ⟨by omega, by omega, by simp; omega, fz_newL ?_⟩
  have e : List.map stpD (List.map Stp.doo b.dl) ++ List.map stpD (List.map Stp.back b.dl) ++ [D.tup [D.str "night"]] = (everyB b).map stpD := by
    unfold everyB
    rw [List.map_append, List.map_append]; rfl
  rw [e]; exact hQ
def spFirst : DSp := fun ds M Q _ => ∃ b p, ds = [.ref p] ∧ BkAt M p b ∧ Ok b ∧ Q (lsT b.dl .zero) M
theorem rep_map {α : Type} (d : D) : ∀ l : List α, (List.replicate l.length [d]).flatten = l.map fun _ => d
  | [] => rfl
  | a :: r => by rw [List.length_cons, List.replicate_succ, List.flatten_cons, rep_map d r]; rfl
theorem w_first (c : Str → DSp) (ds : List D) (M : Mp) (Q : DK) (E : XQ) (h : spFirst ds M Q E) : wB E (b_first_standing c) (endsOf Q) (startD N_first_standing ds) M := by
  obtain ⟨b, p, rfl, hb, ok, hQ⟩ := h
  have eN : N_first_standing.length = 1 := by rfl
  have hz : 1000 ≤ sizeLine := by decide
  have len := ok.dlen
  have l2 := dl_len b
  have ln : (sortsD b).length = b.dl.length := by unfold sortsD; simp
  simp only [b_first_standing, wB, wS, wE, wEs, wIt, wT, dB, wAndT, wOrT, wAnd, wOr, wIfs, dVar, startD, endsOf, wTg, tgSet, List.replicate, List.length, List.map, List.cons_append, List.nil_append, List.getElem?_cons_zero, List.getElem?_cons_succ, List.set_cons_zero, List.set_cons_succ, fCmp, Bool.false_eq_true, if_false, if_true, eN, hb.sorts, dBif, fLen, lenD, seqOf, dctOf, dBin, dMul, ln]
  refine ⟨by omega, by simp, by omega, by omega, by omega, by omega, by simp, by omega, by omega, by omega, by omega, by omega, ?_⟩
  rw [Int.toNat_natCast, rep_map, rep_map]
  exact hQ
end Dg
end
section
set_option Elab.async false
set_option linter.all false
set_option maxRecDepth 100000
set_option maxHeartbeats 4000000
/-! Marksheld: the program's look at marks. -/
namespace Dg
open PySem
open Dy (E Es B S It Tg Tgs Lhs D DSp DK XQ Mp MO DEnds Sd)
open Dy
def ctL (b : Bk) (cnt : Str → Int) : List D := b.dl.map fun d => .int (cnt d)
def ctT (b : Bk) (cnt : Str → Int) : D := .tup (ctL b cnt)
def heT (held : List Str) : D := .tup (held.map .str)
theorem in_tstrs {M : Mp} {x : Str} {l : List Str} : inD M (.str x) (.tup (l.map D.str)) = some (decide (x ∈ l)) := by
  have e : inD M (.str x) (.tup (l.map D.str)) = if (plain (D.str x) && plains (l.map D.str) && (decide (dep (D.str x) ≤ 60) || decide (deps (l.map D.str) ≤ 60))) = true then some ((l.map D.str).any fun z => eqD z (.str x)) else none := by rfl
  rw [e, plains_str, any_eq, if_pos]
  simp [Dy.plain, dep]
theorem fIn_tstrs {neg : Bool} {x : Str} {l : List Str} {M : Mp} {Q : DK} : fIn neg (.str x) (heT l) M Q = Q (.bl (if neg then !decide (x ∈ l) else decide (x ∈ l))) M := by
  unfold fIn heT
  rw [in_tstrs]
def spIsSo : DSp := fun ds M Q _ => ∃ b p r cnt held, ds = [.ref p, prtD r, ctT b cnt, heT held] ∧ BkAt M p b ∧ Ok b ∧ PrtIn b.dl r ∧ Q (.bl (isL cnt held r)) M
theorem w_is_so (c : Str → DSp) (ds : List D) (M : Mp) (Q : DK) (E : XQ) (h : spIsSo ds M Q E) : wB E (b_is_so c) (endsOf Q) (startD N_is_so ds) M := by
  obtain ⟨b, p, r, cnt, held, rfl, hb, ok, hr, hQ⟩ := h
  have eN : N_is_so.length = 4 := by rfl
  have hz : 1000 ≤ sizeLine := by decide
  cases r with
  | cnt l d n =>
    have a0 : L2.atI [D.str (if l then "least" else "below"), .str d, .int n] 0 = some (.str (if l then "least" else "below")) := by rfl
    have a1 : L2.atI [D.str (if l then "least" else "below"), .str d, .int n] 1 = some (.str d) := by rfl
    have a2 : L2.atI [D.str (if l then "least" else "below"), .str d, .int n] 2 = some (.int n) := by rfl
    have t1 : (((Str.ofString "least") == (if l = true then Str.ofString "least" else Str.ofString "below")) || (((Str.ofString "below") == (if l = true then Str.ofString "least" else Str.ofString "below")) || false)) = true := by cases l <;> decide +kernel
    have t2 : ((if l = true then Str.ofString "least" else Str.ofString "below") == Str.ofString "least") = l := by cases l <;> decide +kernel
    have hd : d ∈ b.dl := hr
    simp only [b_is_so, b_is_so_2, wB, wS, wE, wEs, wIt, wT, dB, wAndT, wOrT, wAnd, wOr, wIfs, dVar, startD, endsOf, wTg, tgSet, List.replicate, List.length, List.map, List.cons_append, List.nil_append, List.getElem?_cons_zero, List.getElem?_cons_succ, List.set_cons_zero, List.set_cons_succ, fCmp, Bool.false_eq_true, if_false, if_true, eN, prtD, fIx_tp a0, fIx_tp a1, fIx_tp a2]
    refine ⟨by omega, ?_⟩
    rw [fIn_two]
    simp only [t1, Bool.false_eq_true, if_false, if_true, hb.places, fIx_dt (place_ok b d) (place_get hd), ctT, ctL, fIx_tp (at_idx (fun d => D.int (cnt d)) hd), dOrd, dEq_strE, dEq_blE, t2]
    have : (decide (cnt d ≥ n) == l) = isL cnt held (.cnt l d n) := by
      cases l with
      | true => simp [isL]
      | false =>
        simp only [isL, beq_false]
        by_cases z : n ≤ cnt d
        · rw [decide_eq_true z, decide_eq_false (by omega)]; rfl
        · rw [decide_eq_false z, decide_eq_true (by omega)]; rfl
    have t3 : decide (n ≤ cnt d) = decide (cnt d ≥ n) := rfl
    rw [← this] at hQ
    exact hQ
  | mk h m =>
    have a0 : L2.atI [D.str (if h then "has" else "lacks"), .str m] 0 = some (.str (if h then "has" else "lacks")) := by rfl
    have a1 : L2.atI [D.str (if h then "has" else "lacks"), .str m] 1 = some (.str m) := by rfl
    have t1 : (((Str.ofString "least") == (if h = true then Str.ofString "has" else Str.ofString "lacks")) || (((Str.ofString "below") == (if h = true then Str.ofString "has" else Str.ofString "lacks")) || false)) = false := by cases h <;> decide +kernel
    have t2 : ((if h = true then Str.ofString "has" else Str.ofString "lacks") == Str.ofString "has") = h := by cases h <;> decide +kernel
    simp only [b_is_so, b_is_so_1, wB, wS, wE, wEs, wIt, wT, dB, wAndT, wOrT, wAnd, wOr, wIfs, dVar, startD, endsOf, wTg, tgSet, List.replicate, List.length, List.map, List.cons_append, List.nil_append, List.getElem?_cons_zero, List.getElem?_cons_succ, List.set_cons_zero, List.set_cons_succ, fCmp, Bool.false_eq_true, if_false, if_true, eN, prtD, fIx_tp a0, fIx_tp a1]
    refine ⟨by omega, ?_⟩
    rw [fIn_two]
    simp only [t1, Bool.false_eq_true, if_false, if_true, fIn_tstrs, dEq_strE, dEq_blE, t2]
    exact hQ
def spDoes : DSp := fun ds M Q _ => ∃ b p x cnt held, ds = [.ref p, .str x, ctT b cnt, heT held] ∧ BkAt M p b ∧ Ok b ∧ x ∈ b.mn ∧ Q (.bl (groundedL b cnt held x)) M
theorem w_does_ground (c : Str → DSp) (hc : c "is_so" = spIsSo) (ds : List D) (M : Mp) (Q : DK) (E : XQ) (h : spDoes ds M Q E) : wB E (b_does_ground c) (endsOf Q) (startD N_does_ground ds) M := by
  obtain ⟨b, p, x, cnt, held, rfl, hb, ok, hx, hQ⟩ := h
  have eN : N_does_ground.length = 5 := by rfl
  have hz : 1000 ≤ sizeLine := by decide
  obtain ⟨gi, gl⟩ := get_in ok hx
  have a0 : L2.atI [D.tup ((b.get x).1.map prtD), styD (b.get x).2] 0 = some (.tup ((b.get x).1.map prtD)) := by rfl
  simp only [b_does_ground, wB, wS, wE, wEs, wIt, dVar, startD, eN, List.replicate, List.length, List.map, List.cons_append, List.nil_append, List.getElem?_cons_zero, List.getElem?_cons_succ, endsOf, hb.cards, fIx_dt (card_ok b x) (card_get hx), mrkD, fIx_tp a0, srcOf, Src.items, hc]
  intro q hq
  refine lc_map prtD (fun r => some (.bl (isL cnt held r))) hq _ [] (by simp only [List.length_nil]; omega) ?_ ?_ _
  · intro r hr M' hM K hK
    simp only [wipeD, wB, wS, wE, wEs, wIt, wT, dB, wAndT, wOrT, wAnd, wOr, wIfs, dVar, startD, endsOf, wTg, tgSet, List.replicate, List.length, List.map, List.cons_append, List.nil_append, List.getElem?_cons_zero, List.getElem?_cons_succ, List.set_cons_zero, List.set_cons_succ, fCmp, Bool.false_eq_true, if_false, if_true]
    exact ⟨b, p, r, cnt, held, rfl, hb.up hM, ok, gi r hr, hK⟩
  · rw [List.nil_append, fm_some (fun r => .bl (isL cnt held r))]
    simp only [dBif, fAll, lstOf, bools_bl, all_id, Bool.false_eq_true, if_false]
    exact hQ
def strO : Option Str → D
  | none => .non
  | some x => .str x
def spLost : DSp := fun ds M Q _ => ∃ b p, ∃ sm : List Str, ∃ cnt held, ds = [.ref p, .lst (sm.map .str), ctT b cnt, heT held] ∧ BkAt M p b ∧ Ok b ∧ (∀ x ∈ sm, x ∈ b.mn) ∧ Q (strO (sm.find? (falls b cnt held))) M
theorem dEq_ground {s : Sty} {M : Mp} {Q : DK} : dEq false (styD s) (.tup [.str "ground"]) M Q ↔ Q (.bl (decide (s = .ground))) M := by
  have e : eqD (Dy.top M (styD s)) (Dy.top M (.tup [.str "ground"])) = decide (s = .ground) := by
    cases s with
    | always =>
      show ((Str.ofString "always" == Str.ofString "ground") && true) = _
      rw [show (Str.ofString "always" == Str.ofString "ground") = false by decide +kernel]; rfl
    | ground =>
      show ((Str.ofString "ground" == Str.ofString "ground") && true) = _
      rw [show (Str.ofString "ground" == Str.ofString "ground") = true by decide +kernel]; rfl
    | till x =>
      show ((Str.ofString "till" == Str.ofString "ground") && eqDs [.str x] []) = _
      rw [show (Str.ofString "till" == Str.ofString "ground") = false by decide +kernel]; simp
  have p : Dy.plain (Dy.top M (styD s)) = true := by cases s <;> rfl
  have q : Dy.plain (Dy.top M (.tup [.str "ground"])) = true := by rfl
  have r : dep (Dy.top M (.tup [D.str "ground"])) ≤ 60 := by
    show 0 + 1 ≤ 60
    decide
  constructor
  · rintro ⟨_, _, _, h⟩
    rw [e] at h; exact h
  · intro h
    exact ⟨p, q, .inr r, by rw [e]; exact h⟩
theorem w_first_lost (c : Str → DSp) (hc : c "does_ground" = spDoes) (ds : List D) (M : Mp) (Q : DK) (E : XQ) (h : spLost ds M Q E) : wB E (b_first_lost c) (endsOf Q) (startD N_first_lost ds) M := by
  obtain ⟨b, p, sm, cnt, held, rfl, hb, ok, hs, hQ⟩ := h
  have eN : N_first_lost.length = 5 := by rfl
  have hz : 1000 ≤ sizeLine := by decide
  simp only [b_first_lost, wB, wS, wE, wEs, wIt, wT, dB, wAndT, wOrT, wAnd, wOr, wIfs, dVar, startD, endsOf, wTg, tgSet, List.replicate, List.length, List.map, List.cons_append, List.nil_append, List.getElem?_cons_zero, List.getElem?_cons_succ, List.set_cons_zero, List.set_cons_succ, fCmp, Bool.false_eq_true, if_false, if_true, eN, srcOf, Src.items]
  refine forN_map D.str (fun rest σ M2 => (∀ z ∈ rest, z ∈ b.mn) ∧ M2 = M ∧ (∃ x, σ = [some (.ref p), some (.lst (sm.map .str)), some (ctT b cnt), some (heT held), x]) ∧ rest.find? (falls b cnt held) = sm.find? (falls b cnt held)) ?_ ?_ sm _ _ ⟨hs, rfl, ⟨none, rfl⟩, rfl⟩
  · rintro d ds σ M2 K ⟨mem, rfl, ⟨x, rfl⟩, e⟩ hK
    have mem' : ∀ z ∈ ds, z ∈ b.mn := fun z hz => mem z (List.mem_cons_of_mem _ hz)
    have md := mem d List.mem_cons_self
    have a1 : L2.atI [D.tup ((b.get d).1.map prtD), styD (b.get d).2] 1 = Option.some (styD (b.get d).2) := by rfl
    have no : falls b cnt held d = false → K [some (.ref p), some (.lst (sm.map .str)), some (ctT b cnt), some (heT held), some (.str d)] M2 := fun f => hK _ _ ⟨mem', rfl, ⟨_, rfl⟩, by rw [← e, List.find?_cons, f]⟩
    simp only [b_first_lost_3, wB, wS, wE, wEs, wIt, wT, dB, wAndT, wOrT, wAnd, wOr, wIfs, dVar, startD, endsOf, wTg, tgSet, List.replicate, List.length, List.map, List.cons_append, List.nil_append, List.getElem?_cons_zero, List.getElem?_cons_succ, List.set_cons_zero, List.set_cons_succ, fCmp, Bool.false_eq_true, if_false, if_true, fIn_tstrs, hb.cards, fIx_dt (card_ok b d) (card_get md), mrkD, fIx_tp a1, hc]
    by_cases h1 : d ∈ held
    · rw [if_pos (by simpa using h1)]
      refine ⟨by omega, dEq_ground.mpr ?_⟩
      by_cases h2 : (b.get d).2 = .ground
      · simp only [h2, decide_true, if_true]
        refine ⟨b, p, d, cnt, held, rfl, hb, ok, md, ?_⟩
        cases h3 : groundedL b cnt held d with
        | true =>
          simp only [Bool.not_true, Bool.false_eq_true, if_false]
          exact no (by unfold falls; rw [h3]; simp)
        | false =>
          simp only [Bool.not_false, if_true]
          have f : falls b cnt held d = true := by unfold falls; rw [h3]; simp [h1, h2]
          rw [← e, List.find?_cons, f] at hQ
          simp only [b_first_lost_2, wB, wS, wE, wEs, wIt, wT, dB, wAndT, wOrT, wAnd, wOr, wIfs, dVar, startD, endsOf, wTg, tgSet, List.replicate, List.length, List.map, List.cons_append, List.nil_append, List.getElem?_cons_zero, List.getElem?_cons_succ, List.set_cons_zero, List.set_cons_succ, fCmp, Bool.false_eq_true, if_false, if_true]
          exact hQ
      · simp only [h2, decide_false, Bool.false_eq_true, if_false]
        exact no (by unfold falls; simp [h2])
    · rw [if_neg (by simpa using h1)]
      exact no (by unfold falls; simp [h1])
  · rintro σ M2 ⟨_, rfl, _, e⟩
    rw [← e] at hQ
    simp only [b_first_lost_1, wB, wS, wE, wEs, wIt, wT, dB, wAndT, wOrT, wAnd, wOr, wIfs, dVar, startD, endsOf, wTg, tgSet, List.replicate, List.length, List.map, List.cons_append, List.nil_append, List.getElem?_cons_zero, List.getElem?_cons_succ, List.set_cons_zero, List.set_cons_succ, fCmp, Bool.false_eq_true, if_false, if_true]
    exact hQ
def spEarned : DSp := fun ds M Q _ => ∃ b p, ∃ sm : List Str, ∃ cnt held, ds = [.ref p, .lst (sm.map .str), ctT b cnt, heT held] ∧ BkAt M p b ∧ Ok b ∧ (∀ x ∈ sm, x ∈ b.mn) ∧ Q (strO (sm.find? (comes b cnt held))) M
theorem w_first_earned (c : Str → DSp) (hc : c "does_ground" = spDoes) (ds : List D) (M : Mp) (Q : DK) (E : XQ) (h : spEarned ds M Q E) : wB E (b_first_earned c) (endsOf Q) (startD N_first_earned ds) M := by
  obtain ⟨b, p, sm, cnt, held, rfl, hb, ok, hs, hQ⟩ := h
  have eN : N_first_earned.length = 5 := by rfl
  have hz : 1000 ≤ sizeLine := by decide
  simp only [b_first_earned, wB, wS, wE, wEs, wIt, wT, dB, wAndT, wOrT, wAnd, wOr, wIfs, dVar, startD, endsOf, wTg, tgSet, List.replicate, List.length, List.map, List.cons_append, List.nil_append, List.getElem?_cons_zero, List.getElem?_cons_succ, List.set_cons_zero, List.set_cons_succ, fCmp, Bool.false_eq_true, if_false, if_true, eN, srcOf, Src.items]
  refine forN_map D.str (fun rest σ M2 => (∀ z ∈ rest, z ∈ b.mn) ∧ M2 = M ∧ (∃ x, σ = [some (.ref p), some (.lst (sm.map .str)), some (ctT b cnt), some (heT held), x]) ∧ rest.find? (comes b cnt held) = sm.find? (comes b cnt held)) ?_ ?_ sm _ _ ⟨hs, rfl, ⟨none, rfl⟩, rfl⟩
  · rintro d ds σ M2 K ⟨mem, rfl, ⟨x, rfl⟩, e⟩ hK
    have mem' : ∀ z ∈ ds, z ∈ b.mn := fun z hz => mem z (List.mem_cons_of_mem _ hz)
    have md := mem d List.mem_cons_self
    have no : comes b cnt held d = false → K [some (.ref p), some (.lst (sm.map .str)), some (ctT b cnt), some (heT held), some (.str d)] M2 := fun f => hK _ _ ⟨mem', rfl, ⟨_, rfl⟩, by rw [← e, List.find?_cons, f]⟩
    simp only [b_first_earned_3, wB, wS, wE, wEs, wIt, wT, dB, wAndT, wOrT, wAnd, wOr, wIfs, dVar, startD, endsOf, wTg, tgSet, List.replicate, List.length, List.map, List.cons_append, List.nil_append, List.getElem?_cons_zero, List.getElem?_cons_succ, List.set_cons_zero, List.set_cons_succ, fCmp, Bool.false_eq_true, if_false, if_true, fIn_tstrs, hc]
    by_cases h1 : d ∈ held
    · rw [if_neg (by simpa using h1)]
      exact no (by unfold comes; simp [h1])
    · rw [if_pos (by simpa using h1)]
      refine ⟨b, p, d, cnt, held, rfl, hb, ok, md, ?_⟩
      cases h3 : groundedL b cnt held d with
      | false =>
        simp only [Bool.false_eq_true, if_false]
        exact no (by unfold comes; rw [h3]; simp)
      | true =>
        simp only [if_true]
        have f : comes b cnt held d = true := by unfold comes; rw [h3]; simp [h1]
        rw [← e, List.find?_cons, f] at hQ
        simp only [b_first_earned_2, wB, wS, wE, wEs, wIt, wT, dB, wAndT, wOrT, wAnd, wOr, wIfs, dVar, startD, endsOf, wTg, tgSet, List.replicate, List.length, List.map, List.cons_append, List.nil_append, List.getElem?_cons_zero, List.getElem?_cons_succ, List.set_cons_zero, List.set_cons_succ, fCmp, Bool.false_eq_true, if_false, if_true]
        exact hQ
  · rintro σ M2 ⟨_, rfl, _, e⟩
    rw [← e] at hQ
    simp only [b_first_earned_1, wB, wS, wE, wEs, wIt, wT, dB, wAndT, wOrT, wAnd, wOr, wIfs, dVar, startD, endsOf, wTg, tgSet, List.replicate, List.length, List.map, List.cons_append, List.nil_append, List.getElem?_cons_zero, List.getElem?_cons_succ, List.set_cons_zero, List.set_cons_succ, fCmp, Bool.false_eq_true, if_false, if_true]
    exact hQ
end Dg
end
section
set_option Elab.async false
set_option linter.all false
set_option maxRecDepth 100000
set_option maxHeartbeats 4000000
/-! Marksheld: the program's look at marks, 2. -/
namespace Dg
open PySem
open Dy (E Es B S It Tg Tgs Lhs D DSp DK XQ Mp MO DEnds Sd)
open Dy
section
variable {b : Bk} {cnt : Str → Int} {c : Str → DSp} {Q : DK} {E : XQ} {M : Mp} {p q : Addr} {sm : List Str}
def lkP (p : Addr) (sm : List Str) (b : Bk) (cnt : Str → Int) (held : List Str) (q : Addr) (nm : Dy.D) (x : Option Dy.D) : Sd := [some (.ref p), some (.lst (sm.map .str)), some (ctT b cnt), some (heT held), some (.ref q), some nm, x]
theorem whlP_no {held : List Str} {x : Option Dy.D} {b' : DTS} {J : DEnds} {M' : Mp} (h : J.nx (lkP p sm b cnt held q .non x) M') (k : Nat) : whileN (wT E (.cmp .IsNot (.var 5) (.lit .non))) b' J (k + 1) (lkP p sm b cnt held q .non x) M' := by
  unfold whileN
  simp only [lkP, wB, wS, wE, wEs, wIt, wT, dB, wAndT, wOrT, wAnd, wOr, wIfs, dVar, startD, endsOf, wTg, tgSet, List.replicate, List.length, List.map, List.cons_append, List.nil_append, List.getElem?_cons_zero, List.getElem?_cons_succ, List.set_cons_zero, List.set_cons_succ, fCmp, Bool.false_eq_true, if_false, if_true, dCmp, dIs, isNone, Bool.not_true, true_and]
  exact h
theorem whlP_yes {held : List Str} {z : Str} {x : Option Dy.D} {b' : DTS} {J : DEnds} {M' : Mp} {k : Nat} (h : b' { nx := whileN (wT E (.cmp .IsNot (.var 5) (.lit .non))) b' J k, ct := whileN (wT E (.cmp .IsNot (.var 5) (.lit .non))) b' J k, bk := J.nx, rt := J.rt } (lkP p sm b cnt held q (.str z) x) M') : whileN (wT E (.cmp .IsNot (.var 5) (.lit .non))) b' J (k + 1) (lkP p sm b cnt held q (.str z) x) M' := by
  unfold whileN
  generalize whileN (wT E (.cmp .IsNot (.var 5) (.lit .non))) b' J k = W at h
  simp only [lkP, wB, wS, wE, wEs, wIt, wT, dB, wAndT, wOrT, wAnd, wOr, wIfs, dVar, startD, endsOf, wTg, tgSet, List.replicate, List.length, List.map, List.cons_append, List.nil_append, List.getElem?_cons_zero, List.getElem?_cons_succ, List.set_cons_zero, List.set_cons_succ, fCmp, Bool.false_eq_true, if_false, if_true, dCmp, dIs, isNone, Bool.not_false, true_and]
  exact h
theorem lost_turn (hc : c "first_lost" = spLost) (ok : Ok b) (hb : BkAt M p b) (hq : M q = none) (hs : ∀ x ∈ sm, x ∈ b.mn) (J : DEnds) {held out : List Str} {z : Str} {x : Option Dy.D} (h2 : held.length + out.length ≤ 60)
    (hJ : ∀ x, J.nx (lkP p sm b cnt (without held z) q (strO (sm.find? (falls b cnt (without held z)))) x) (updM M q (lkO (out ++ [z])))) : wB E (b_looked_at_8 c) J (lkP p sm b cnt held q (.str z) x) (updM M q (lkO out)) := by
  have hz : 1000 ≤ sizeLine := by decide
  simp only [b_looked_at_8, lkP, wB, wS, wE, wEs, wIt, wT, dB, wAndT, wOrT, wAnd, wOr, wIfs, dVar, startD, endsOf, wTg, tgSet, List.replicate, List.length, List.map, List.cons_append, List.nil_append, List.getElem?_cons_zero, List.getElem?_cons_succ, List.set_cons_zero, List.set_cons_succ, fCmp, Bool.false_eq_true, if_false, if_true, Mth.T, tyD, updM_same, lkO, dMth, mAppend]
  refine ⟨by first | rfl | simp, by rw [List.length_map]; omega, ?_⟩
  rw [updM_updM, show (List.map D.str out ++ [D.str z]) = (out ++ [z]).map D.str by simp]
  have hb2 : ∀ {M'}, LeM (updM M q (.lst ((out ++ [z]).map D.str))) M' → BkAt M' p b := fun l => (hb.up (LeM.new hq)).up l
  simp only [b_looked_at_7, wB, wS, wE, wEs, wIt, wT, dB, wAndT, wOrT, wAnd, wOr, wIfs, dVar, startD, endsOf, wTg, tgSet, List.replicate, List.length, List.map, List.cons_append, List.nil_append, List.getElem?_cons_zero, List.getElem?_cons_succ, List.set_cons_zero, List.set_cons_succ, fCmp, Bool.false_eq_true, if_false, if_true, heT, srcOf, Src.items]
  intro A hA
  refine lc_without hA held z (by omega) ?_ ?_ _
  · intro y hy M' hM K hK
    simp only [wB, wS, wE, wEs, wIt, wT, dB, wAndT, wOrT, wAnd, wOr, wIfs, dVar, startD, endsOf, wTg, tgSet, List.replicate, List.length, List.map, List.cons_append, List.nil_append, List.getElem?_cons_zero, List.getElem?_cons_succ, List.set_cons_zero, List.set_cons_succ, fCmp, Bool.false_eq_true, if_false, if_true, wipeD, fNe_strE]
    cases e : y == z with
    | true => rw [e] at hK; exact hK
    | false => rw [e] at hK; exact hK
  simp only [dBif, fTup, seqOf, wB, wS, wE, wEs, wIt, wT, dB, wAndT, wOrT, wAnd, wOr, wIfs, dVar, startD, endsOf, wTg, tgSet, List.replicate, List.length, List.map, List.cons_append, List.nil_append, List.getElem?_cons_zero, List.getElem?_cons_succ, List.set_cons_zero, List.set_cons_succ, fCmp, Bool.false_eq_true, if_false, if_true]
  simp only [b_looked_at_6, wB, wS, wE, wEs, wIt, wT, dB, wAndT, wOrT, wAnd, wOr, wIfs, dVar, startD, endsOf, wTg, tgSet, List.replicate, List.length, List.map, List.cons_append, List.nil_append, List.getElem?_cons_zero, List.getElem?_cons_succ, List.set_cons_zero, List.set_cons_succ, fCmp, Bool.false_eq_true, if_false, if_true, hc]
  exact ⟨b, p, sm, cnt, without held z, rfl, hb2 (LeM.refl _), ok, hs, hJ x⟩
theorem lost_loop (hc : c "first_lost" = spLost) (ok : Ok b) (hb : BkAt M p b) (hq : M q = none) (hs : ∀ x ∈ sm, x ∈ b.mn) (J : DEnds) : ∀ (k : Nat) (held out : List Str) (x : Option Dy.D), held.length ≤ k → held.length + out.length ≤ 60 →
    (∀ x, J.nx (lkP p sm b cnt (lostN b cnt sm k held out).1 q .non x) (updM M q (lkO (lostN b cnt sm k held out).2))) → whileN (wT E (.cmp .IsNot (.var 5) (.lit .non))) (wB E (b_looked_at_8 c)) J (k + 1) (lkP p sm b cnt held q (strO (sm.find? (falls b cnt held))) x) (updM M q (lkO out))
  | 0, held, out, x, h1, h2, hJ => by
    cases f : sm.find? (falls b cnt held) with
    | none => exact whlP_no (hJ x) 0
    | some z =>
      have := falls_mem (List.find?_some f)
      have : held = [] := List.length_eq_zero_iff.mp (by omega)
      subst this
      contradiction
  | k + 1, held, out, x, h1, h2, hJ => by
    cases f : sm.find? (falls b cnt held) with
    | none =>
      unfold lostN at hJ
      rw [f] at hJ
      exact whlP_no (hJ x) (k + 1)
    | some z =>
      have lt := without_lt (falls_mem (List.find?_some f))
      unfold lostN at hJ
      rw [f] at hJ
      exact whlP_yes (lost_turn hc ok hb hq hs _ h2 fun x => lost_loop hc ok hb hq hs J k (without held z) (out ++ [z]) x (by omega) (by simp; omega) hJ)
theorem earn_turn (hc : c "first_earned" = spEarned) (ok : Ok b) (hb : BkAt M p b) (hq : M q = none) (hs : ∀ x ∈ sm, x ∈ b.mn) (J : DEnds) {held out : List Str} {z : Str} {x : Option Dy.D} (h2 : held.length ≤ 60)
    (hJ : ∀ x, J.nx (lkP p sm b cnt (srt (held ++ [z])) q (strO (sm.find? (comes b cnt (srt (held ++ [z]))))) x) (updM M q (lkO out))) : wB E (b_looked_at_3 c) J (lkP p sm b cnt held q (.str z) x) (updM M q (lkO out)) := by
  have hz : 1000 ≤ sizeLine := by decide
  have hb2 : BkAt (updM M q (lkO out)) p b := hb.up (LeM.new hq)
  simp only [b_looked_at_3, lkP, wB, wS, wE, wEs, wIt, wT, dB, wAndT, wOrT, wAnd, wOr, wIfs, dVar, startD, endsOf, wTg, tgSet, List.replicate, List.length, List.map, List.cons_append, List.nil_append, List.getElem?_cons_zero, List.getElem?_cons_succ, List.set_cons_zero, List.set_cons_succ, fCmp, Bool.false_eq_true, if_false, if_true, heT, seqOf, mkL, dBif, cSorted, itemsOf, lstOf]
  rw [show (List.map D.str held ++ [D.str z]) = (held ++ [z]).map D.str by simp]
  simp only [strsOf_map]
  refine ⟨by simp; omega, .inr rfl, by simp; omega, fz_newL ?_⟩
  simp only [fTup, seqOf, wB, wS, wE, wEs, wIt, wT, dB, wAndT, wOrT, wAnd, wOr, wIfs, dVar, startD, endsOf, wTg, tgSet, List.replicate, List.length, List.map, List.cons_append, List.nil_append, List.getElem?_cons_zero, List.getElem?_cons_succ, List.set_cons_zero, List.set_cons_succ, fCmp, Bool.false_eq_true, if_false, if_true]
  simp only [b_looked_at_2, wB, wS, wE, wEs, wIt, wT, dB, wAndT, wOrT, wAnd, wOr, wIfs, dVar, startD, endsOf, wTg, tgSet, List.replicate, List.length, List.map, List.cons_append, List.nil_append, List.getElem?_cons_zero, List.getElem?_cons_succ, List.set_cons_zero, List.set_cons_succ, fCmp, Bool.false_eq_true, if_false, if_true, hc]
  exact ⟨b, p, sm, cnt, srt (held ++ [z]), rfl, hb2, ok, hs, hJ x⟩
theorem pearn_loop (hc : c "first_earned" = spEarned) (ok : Ok b) (hb : BkAt M p b) (hq : M q = none) (hs : ∀ x ∈ sm, x ∈ b.mn) {out : List Str} (J : DEnds) : ∀ (k : Nat) (held : List Str) (x : Option Dy.D), gap sm held ≤ k → held.length + k ≤ 60 →
    (∀ x, J.nx (lkP p sm b cnt (earnN b cnt sm k held) q .non x) (updM M q (lkO out))) → whileN (wT E (.cmp .IsNot (.var 5) (.lit .non))) (wB E (b_looked_at_3 c)) J (k + 1) (lkP p sm b cnt held q (strO (sm.find? (comes b cnt held))) x) (updM M q (lkO out))
  | 0, held, x, h1, h2, hJ => by
    cases f : sm.find? (comes b cnt held) with
    | none => exact whlP_no (hJ x) 0
    | some z =>
      have lt := gap_lt (List.mem_of_find?_eq_some f) (comes_no (List.find?_some f))
      omega
  | k + 1, held, x, h1, h2, hJ => by
    cases f : sm.find? (comes b cnt held) with
    | none =>
      unfold earnN at hJ
      rw [f] at hJ
      exact whlP_no (hJ x) (k + 1)
    | some z =>
      have lt := gap_lt (List.mem_of_find?_eq_some f) (comes_no (List.find?_some f))
      have ln : (srt (held ++ [z])).length = held.length + 1 := by rw [srt_len]; simp
      unfold earnN at hJ
      rw [f] at hJ
      exact whlP_yes (earn_turn hc ok hb hq hs _ (by omega) fun x => pearn_loop hc ok hb hq hs J k (srt (held ++ [z])) x (by omega) (by omega) hJ)
def spLooked : DSp := fun ds M Q _ => ∃ b p, ∃ sm : List Str, ∃ cnt held, ds = [.ref p, .lst (sm.map .str), ctT b cnt, heT held] ∧ BkAt M p b ∧ Ok b ∧ (∀ x ∈ sm, x ∈ b.mn) ∧ sm.length ≤ 4 ∧ held.length ≤ 4 ∧ Q (.tup [heT (lookL b cnt sm held).1, .lst ((lookL b cnt sm held).2.map .str)]) M
theorem w_looked_at (hc : c "first_lost" = spLost) (hc2 : c "first_earned" = spEarned) (ds : List D) (h : spLooked ds M Q E) : wB E (b_looked_at c) (endsOf Q) (startD N_looked_at ds) M := by
  obtain ⟨b, p, sm, cnt, held, rfl, hb, ok, hs, hl, hh, hQ⟩ := h
  have eN : N_looked_at.length = 7 := by rfl
  have hz : 1000 ≤ sizeLine := by decide
  simp only [b_looked_at, wB, wS, wE, wEs, wIt, wT, dB, wAndT, wOrT, wAnd, wOr, wIfs, dVar, startD, endsOf, wTg, tgSet, List.replicate, List.length, List.map, List.cons_append, List.nil_append, List.getElem?_cons_zero, List.getElem?_cons_succ, List.set_cons_zero, List.set_cons_succ, fCmp, Bool.false_eq_true, if_false, if_true, eN, mkL]
  refine ⟨by omega, ?_⟩
  intro q hq
  have hb2 : ∀ o, BkAt (updM M q o) p b := fun o => hb.up (LeM.new hq)
  simp only [b_looked_at_10, wB, wS, wE, wEs, wIt, wT, dB, wAndT, wOrT, wAnd, wOr, wIfs, dVar, startD, endsOf, wTg, tgSet, List.replicate, List.length, List.map, List.cons_append, List.nil_append, List.getElem?_cons_zero, List.getElem?_cons_succ, List.set_cons_zero, List.set_cons_succ, fCmp, Bool.false_eq_true, if_false, if_true, hc]
  refine ⟨b, p, sm, cnt, held, rfl, hb2 _, ok, hs, ?_⟩
  simp only [b_looked_at_9, wB, wS, List.set_cons_zero, List.set_cons_succ]
  refine ⟨held.length + 1, lost_loop (x := none) (out := []) hc ok hb hq hs _ held.length held (Nat.le_refl _) (by simp only [List.length_nil]; omega) fun x => ?_⟩
  have lb := lostN_len (b := b) (cnt := cnt) (l := sm) held.length held []
  have gb : gap sm (lostN b cnt sm held.length held []).1 ≤ 4 := by
    unfold gap
    have := List.length_filter_le (fun x => !decide (x ∈ (lostN b cnt sm held.length held []).1)) sm
    omega
  simp only [b_looked_at_5, lkP, wB, wS, wE, wEs, wIt, wT, dB, wAndT, wOrT, wAnd, wOr, wIfs, dVar, startD, endsOf, wTg, tgSet, List.replicate, List.length, List.map, List.cons_append, List.nil_append, List.getElem?_cons_zero, List.getElem?_cons_succ, List.set_cons_zero, List.set_cons_succ, fCmp, Bool.false_eq_true, if_false, if_true, hc2]
  refine ⟨b, p, sm, cnt, _, rfl, hb2 _, ok, hs, ?_⟩
  simp only [b_looked_at_4, wB, wS, List.set_cons_zero, List.set_cons_succ]
  refine ⟨_, pearn_loop (x := x) hc2 ok hb hq hs _ _ _ (Nat.le_refl _) (by omega) fun x => ?_⟩
  simp only [b_looked_at_1, lkP, wB, wS, wE, wEs, wIt, wT, dB, wAndT, wOrT, wAnd, wOr, wIfs, dVar, startD, endsOf, wTg, tgSet, List.replicate, List.length, List.map, List.cons_append, List.nil_append, List.getElem?_cons_zero, List.getElem?_cons_succ, List.set_cons_zero, List.set_cons_succ, fCmp, Bool.false_eq_true, if_false, if_true, fzK, updM_same, lkO, delM_updM hq]
  exact ⟨by omega, hQ⟩
end
end Dg
end
section
set_option Elab.async false
set_option linter.all false
set_option maxRecDepth 100000
set_option maxHeartbeats 4000000
/-! Marksheld: the program's count. -/
namespace Dg
open PySem
open Dy (E Es B S It Tg Tgs Lhs D DSp DK XQ Mp MO DEnds Sd)
open Dy
def spPut : DSp := fun ds M Q _ => ∃ (l : List D) (n : Nat) (x : D), ds = [.tup l, .int (n : Nat), x] ∧ n < l.length ∧ l.length ≤ 100 ∧ Q (.tup (l.set n x)) M
theorem cut_lo (l : List D) (n : Nat) (h : n ≤ l.length) : cutD l none (some (n : Int)) = l.take n := by
  unfold cutD
  have e : HT.sIx l.length 0 none = 0 := rfl
  have e2 : HT.sIx l.length l.length (some (n : Int)) = n := by rw [HT.sIx_nat]; omega
  rw [e, e2]; simp
theorem cut_hi (l : List D) (n : Nat) (h : n ≤ l.length) : cutD l (some (n : Int)) none = l.drop n := by
  unfold cutD
  have e : HT.sIx l.length l.length none = l.length := rfl
  have e2 : HT.sIx l.length 0 (some (n : Int)) = n := by rw [HT.sIx_nat]; omega
  rw [e, e2]
  exact List.take_of_length_le (by rw [List.length_drop]; omega)
theorem w_put (c : Str → DSp) (ds : List D) (M : Mp) (Q : DK) (E : XQ) (h : spPut ds M Q E) : wB E (b_put c) (endsOf Q) (startD N_put ds) M := by
  obtain ⟨l, n, x, rfl, hn, hl, hQ⟩ := h
  have eN : N_put.length = 3 := by rfl
  have hz : 1000 ≤ sizeLine := by decide
  have e1 : ((n : Int) + 1) = ((n + 1 : Nat) : Int) := by omega
  simp only [b_put, wB, wS, wE, wEs, wIt, wT, dB, wAndT, wOrT, wAnd, wOr, wIfs, dVar, startD, endsOf, wTg, tgSet, List.replicate, List.length, List.map, List.cons_append, List.nil_append, List.getElem?_cons_zero, List.getElem?_cons_succ, List.set_cons_zero, List.set_cons_succ, fCmp, Bool.false_eq_true, if_false, if_true, eN, wPart, dSl, fzK, dBin, dAdd, e1, cut_lo l n (by omega), cut_hi l (n + 1) (by omega)]
  refine ⟨by omega, by simp; omega, by simp; omega, ?_⟩
  have : l.take n ++ [x] ++ l.drop (n + 1) = l.set n x := by
    rw [List.set_eq_take_append_cons_drop, if_pos hn]; simp
  rw [this]; exact hQ
def frL (b : Bk) (fresh : List Str) : List D := b.dl.map fun d => .bl (decide (d ∈ fresh))
/-- deeds that are fresh are told by runs -/
def FrOk (b : Bk) (s : LS) : Prop := ∀ d ∈ s.fresh, b.run d = true
theorem zip_map (v f g : Str → D) : ∀ l : List Str, zipRows (l.map fun d => (D.str d, v d)) (l.map f) (l.map g) = l.map fun d => .tup [v d, f d, g d]
  | [] => rfl
  | a :: r => by
    show D.tup [v a, f a, g a] :: zipRows (r.map fun d => (D.str d, v d)) (r.map f) (r.map g) = _
    rw [zip_map v f g r]; rfl
theorem set_idx (f : Str → D) (x : D) {d : Str} : ∀ {l : List Str}, l.Nodup → d ∈ l → (l.map f).set (l.idxOf d) x = l.map fun y => if y = d then x else f y
  | [], _, h => nomatch h
  | a :: r, nd, h => by
    have nd' := List.nodup_cons.mp nd
    rw [List.idxOf_cons]
    by_cases z : a = d
    · subst z
      simp only [beq_self_eq_true, cond_true, List.map_cons, List.set_cons_zero, if_true, List.cons.injEq, true_and]
      exact List.map_congr_left fun y hy => by rw [if_neg (fun e => by subst e; exact nd'.1 hy)]
    · simp only [show (a == d) = false from by simpa using z, cond_false, List.map_cons, List.set_cons_succ, if_neg z, List.cons.injEq, true_and]
      exact set_idx f x nd'.2 ((List.mem_cons.mp h).resolve_left (Ne.symm z))
theorem night_at {b : Bk} {fresh : List Str} : ∀ {l : List Str} {f : Str → Int} {d : Str}, l.Nodup → (d ∈ l → nightC b fresh l f d = if b.run d && !decide (d ∈ fresh) then 0 else f d) ∧ (d ∉ l → nightC b fresh l f d = f d)
  | [], f, d, _ => ⟨fun h => (nomatch h), fun _ => rfl⟩
  | a :: r, f, d, nd => by
    have nd' := List.nodup_cons.mp nd
    rw [nightC_cons]
    have ih := night_at (b := b) (fresh := fresh) (l := r) (f := if b.run a && !decide (a ∈ fresh) then fnC f a 0 else f) (d := d) nd'.2
    constructor
    · intro h
      by_cases z : d = a
      · subst z
        rw [ih.2 nd'.1]
        cases b.run d && !decide (d ∈ fresh)
        · rfl
        · simp [fnC]
      · rw [ih.1 ((List.mem_cons.mp h).resolve_left z)]
        have : (if b.run a && !decide (a ∈ fresh) then fnC f a 0 else f) d = f d := by
          split
          · simp [fnC, z]
          · rfl
        rw [this]
    · intro h
      simp only [List.mem_cons, not_or] at h
      rw [ih.2 h.2]
      split
      · simp [fnC, h.1]
      · rfl
theorem put_c {b : Bk} (F : Fit b.dl) (cnt : Str → Int) {d : Str} (hd : d ∈ b.dl) (v : Int) : (ctL b cnt).set (b.dl.idxOf d) (.int v) = ctL b (fnC cnt d v) := by
  unfold ctL
  rw [set_idx _ _ F.1 hd]
  refine List.map_congr_left fun y _ => ?_
  unfold fnC
  split <;> rfl
theorem put_f {b : Bk} (F : Fit b.dl) (fresh fr2 : List Str) {d : Str} (hd : d ∈ b.dl) (v : Bool) (h : decide (d ∈ fr2) = v) (h2 : ∀ y, y ≠ d → (y ∈ fr2 ↔ y ∈ fresh)) : (frL b fresh).set (b.dl.idxOf d) (.bl v) = frL b fr2 := by
  unfold frL
  rw [set_idx _ _ F.1 hd]
  refine List.map_congr_left fun y _ => ?_
  by_cases z : y = d
  · subst z; rw [if_pos rfl, h]
  · rw [if_neg z]
    simp only [h2 y z]
theorem ct_congr {b : Bk} {f g : Str → Int} (h : ∀ d ∈ b.dl, f d = g d) : ctL b f = ctL b g := List.map_congr_left fun d hd => by rw [h d hd]
def spCounted : DSp := fun ds M Q _ => ∃ b p s st, ds = [.ref p, lsT b.dl s, stpD st] ∧ BkAt M p b ∧ Ok b ∧ StpIn b.dl st ∧ LsOk b s ∧ FrOk b s ∧
  (match countL b s st with
  | none => Q .non M
  | some s' => Q (.tup [ctT b s'.cnt, .tup (frL b s'.fresh)]) M)
theorem w_counted (c : Str → DSp) (hc : c "put" = spPut) (ds : List D) (M : Mp) (Q : DK) (E : XQ) (h : spCounted ds M Q E) : wB E (b_counted c) (endsOf Q) (startD N_counted ds) M := by
  obtain ⟨b, p, s, st, rfl, hb, ok, hst, hs, hf, hQ⟩ := h
  have eN : N_counted.length = 13 := by rfl
  have hz : 1000 ≤ sizeLine := by decide
  have F := dl_fit ok
  have ld := ok.dlen
  have ld2 := dl_len b
  have lc : (ctL b s.cnt).length = b.dl.length := by unfold ctL; simp
  have lf : (frL b s.fresh).length = b.dl.length := by unfold frL; simp
  have ls : (sortsD b).length = b.dl.length := by unfold sortsD; simp
  cases st with
  | night =>
    have a0 : L2.atI [D.str "night"] 0 = some (.str "night") := by rfl
    have t1 : (Str.ofString "night" == Str.ofString "night") = true := by decide +kernel
    simp only [b_counted, wB, wS, wE, wEs, wIt, wT, dB, wAndT, wOrT, wAnd, wOr, wIfs, dVar, startD, endsOf, wTg, tgSet, List.replicate, List.length, List.map, List.cons_append, List.nil_append, List.getElem?_cons_zero, List.getElem?_cons_succ, List.set_cons_zero, List.set_cons_succ, fCmp, Bool.false_eq_true, if_false, if_true, tgSets, Option.bind, eN, lsT, stpD]
    simp only [b_counted_12, wB, wS, wE, wEs, wIt, wT, dB, wAndT, wOrT, wAnd, wOr, wIfs, dVar, startD, endsOf, wTg, tgSet, List.replicate, List.length, List.map, List.cons_append, List.nil_append, List.getElem?_cons_zero, List.getElem?_cons_succ, List.set_cons_zero, List.set_cons_succ, fCmp, Bool.false_eq_true, if_false, if_true, fIx_tp a0, dEq_strE, t1]
    simp only [b_counted_11, wB, wS, wE, dVar, List.getElem?_cons_zero, List.getElem?_cons_succ, hb.sorts, dZipK]
    refine ⟨by unfold sortsD; rw [Bool.and_eq_true]; refine ⟨?_, ?_⟩; exact (by unfold allS; rw [List.all_eq_true]; intro kv hk; obtain ⟨d, _, rfl⟩ := List.mem_map.mp hk; rfl); cases e : b.dl with | nil => rw [e] at ld2; simp at ld2; omega | cons _ _ => rfl, by rw [ls]; simp, by rw [ls]; simp, by rw [ls]; omega, fz_newL ?_⟩
    rw [show sortsD b = b.dl.map fun d => (D.str d, D.str (runN (b.run d))) from rfl, zip_map]
    simp only [b_counted_10, wB, wS, wE, wIt, dVar, List.getElem?_cons_zero, List.getElem?_cons_succ, srcOf, Src.items]
    intro A hA
    refine lc_map (fun d => D.tup [.str (runN (b.run d)), .int (s.cnt d), .bl (decide (d ∈ s.fresh))]) (fun d => some (.int (if b.run d && !decide (d ∈ s.fresh) then 0 else s.cnt d))) hA b.dl [] (by simp only [List.length_nil]; omega) ?_ ?_ _
    · intro d hd M' hM K hK
      simp only [wipeD, wB, wS, wE, wEs, wIt, wT, dB, wAndT, wOrT, wAnd, wOr, wIfs, dVar, startD, endsOf, wTg, tgSet, List.replicate, List.length, List.map, List.cons_append, List.nil_append, List.getElem?_cons_zero, List.getElem?_cons_succ, List.set_cons_zero, List.set_cons_succ, fCmp, Bool.false_eq_true, if_false, if_true, tgSets, Option.bind, dEq_strE, run_is]
      cases h1 : b.run d with
      | false =>
        rw [h1] at hK
        simp only [Bool.false_and, Bool.false_eq_true, if_false] at hK ⊢
        exact hK
      | true =>
        rw [h1] at hK
        cases h2 : decide (d ∈ s.fresh) with
        | true =>
          rw [h2] at hK
          simp only [Bool.true_and, Bool.not_true, Bool.false_eq_true, if_false, if_true] at hK ⊢
          exact hK
        | false =>
          rw [h2] at hK
          simp only [Bool.true_and, Bool.not_false, if_true] at hK ⊢
          exact hK
    · rw [List.nil_append, fm_some (fun d => .int (if b.run d && !decide (d ∈ s.fresh) then 0 else s.cnt d))]
      simp only [countL] at hQ
      have ec : (b.dl.map fun d => D.int (if b.run d && !decide (d ∈ s.fresh) then 0 else s.cnt d)) = ctL b (nightC b s.fresh b.dl s.cnt) := by
        unfold ctL
        exact List.map_congr_left fun d hd => by rw [(night_at F.1).1 hd]
      rw [ec]
      simp only [wTg, tgSet, List.set_cons_zero, List.set_cons_succ]
      simp only [b_counted_9, wB, wS, wE, wEs, wIt, wT, dB, wAndT, wOrT, wAnd, wOr, wIfs, dVar, startD, endsOf, wTg, tgSet, List.replicate, List.length, List.map, List.cons_append, List.nil_append, List.getElem?_cons_zero, List.getElem?_cons_succ, List.set_cons_zero, List.set_cons_succ, fCmp, Bool.false_eq_true, if_false, if_true, dBif, fTup, seqOf, fLen, lenD, dBin, dMul, List.length_map]
      refine ⟨by omega, by simp, by omega, by omega, by omega, ?_⟩
      rw [Int.toNat_natCast, rep_map]
      have ef : (b.dl.map fun _ => D.bl false) = frL b [] := by
        unfold frL
        exact List.map_congr_left fun d hd => by simp
      rw [ef]
      exact ⟨by omega, hQ⟩
  | back d =>
    have md : d ∈ b.dl := hst
    have a0 : L2.atI [D.str "back", D.str d] 0 = some (.str "back") := by rfl
    have a1 : L2.atI [D.str "back", D.str d] 1 = some (.str d) := by rfl
    have t1 : (Str.ofString "back" == Str.ofString "night") = false := by decide +kernel
    have t2 : (Str.ofString "back" == Str.ofString "back") = true := by decide +kernel
    have ii : b.dl.idxOf d < b.dl.length := List.idxOf_lt_length_of_mem md
    simp only [b_counted, wB, wS, wE, wEs, wIt, wT, dB, wAndT, wOrT, wAnd, wOr, wIfs, dVar, startD, endsOf, wTg, tgSet, List.replicate, List.length, List.map, List.cons_append, List.nil_append, List.getElem?_cons_zero, List.getElem?_cons_succ, List.set_cons_zero, List.set_cons_succ, fCmp, Bool.false_eq_true, if_false, if_true, tgSets, Option.bind, eN, lsT, stpD]
    simp only [b_counted_12, wB, wS, wE, wEs, wIt, wT, dB, wAndT, wOrT, wAnd, wOr, wIfs, dVar, startD, endsOf, wTg, tgSet, List.replicate, List.length, List.map, List.cons_append, List.nil_append, List.getElem?_cons_zero, List.getElem?_cons_succ, List.set_cons_zero, List.set_cons_succ, fCmp, Bool.false_eq_true, if_false, if_true, fIx_tp a0, dEq_strE, t1]
    simp only [b_counted_8, wB, wS, wE, wEs, wIt, wT, dB, wAndT, wOrT, wAnd, wOr, wIfs, dVar, startD, endsOf, wTg, tgSet, List.replicate, List.length, List.map, List.cons_append, List.nil_append, List.getElem?_cons_zero, List.getElem?_cons_succ, List.set_cons_zero, List.set_cons_succ, fCmp, Bool.false_eq_true, if_false, if_true, hb.places, fIx_tp a1, fIx_dt (place_ok b d) (place_get md), hb.sorts, fIx_dt (sort_ok b d) (sort_get md), dEq_strE, run_is]
    simp only [b_counted_7, wB, wS, wE, wEs, wIt, wT, dB, wAndT, wOrT, wAnd, wOr, wIfs, dVar, startD, endsOf, wTg, tgSet, List.replicate, List.length, List.map, List.cons_append, List.nil_append, List.getElem?_cons_zero, List.getElem?_cons_succ, List.set_cons_zero, List.set_cons_succ, fCmp, Bool.false_eq_true, if_false, if_true, fIx_tp (at_idx (fun d => D.int (s.cnt d)) md), fIx_tp (at_idx (fun d => D.bl (decide (d ∈ s.fresh))) md)]
    simp only [b_counted_6, wB, wS, wE, wEs, wIt, wT, dB, wAndT, wOrT, wAnd, wOr, wIfs, dVar, startD, endsOf, wTg, tgSet, List.replicate, List.length, List.map, List.cons_append, List.nil_append, List.getElem?_cons_zero, List.getElem?_cons_succ, List.set_cons_zero, List.set_cons_succ, fCmp, Bool.false_eq_true, if_false, if_true, fIx_tp a0, dEq_strE, t2]
    simp only [countL] at hQ
    simp only [b_counted_5, wB, wS, wE, wEs, wIt, wT, dB, wAndT, wOrT, wAnd, wOr, wIfs, dVar, startD, endsOf, wTg, tgSet, List.replicate, List.length, List.map, List.cons_append, List.nil_append, List.getElem?_cons_zero, List.getElem?_cons_succ, List.set_cons_zero, List.set_cons_succ, fCmp, Bool.false_eq_true, if_false, if_true, dEq_intE]
    have no : ((s.cnt d == 0) || (b.run d && !decide (d ∈ s.fresh))) = true → ∀ σ, wB E (b_counted_4 c) { nx := wB E (b_counted_3 c) (endsOf Q), rt := Q } σ M := fun z σ => by
      simp only [z, if_true] at hQ
      simp only [b_counted_4, wB, wS, wE, wEs, wIt, wT, dB, wAndT, wOrT, wAnd, wOr, wIfs, dVar, startD, endsOf, wTg, tgSet, List.replicate, List.length, List.map, List.cons_append, List.nil_append, List.getElem?_cons_zero, List.getElem?_cons_succ, List.set_cons_zero, List.set_cons_succ, fCmp, Bool.false_eq_true, if_false, if_true]
      exact hQ
    have yes : ((s.cnt d == 0) || (b.run d && !decide (d ∈ s.fresh))) = false → wB E (b_counted_3 c) (endsOf Q) [some (.ref p), some (.tup [.tup (b.dl.map fun d => .int (s.cnt d)), .tup (b.dl.map fun d => .bl (decide (d ∈ s.fresh))), .tup (s.held.map .str)]), some (.tup [.str "back", .str d]), some (.tup (b.dl.map fun d => .int (s.cnt d))), some (.tup (b.dl.map fun d => .bl (decide (d ∈ s.fresh)))), some (.tup (s.held.map .str)), none, none, none, some (.int (s.cnt d)), some (.bl (decide (d ∈ s.fresh))), some (.int ((b.dl.idxOf d : Nat) : Int)), some (.bl (b.run d))] M := fun z => by
      simp only [z, Bool.false_eq_true, if_false] at hQ
      simp only [b_counted_3, wB, wS, wE, wEs, wIt, wT, dB, wAndT, wOrT, wAnd, wOr, wIfs, dVar, startD, endsOf, wTg, tgSet, List.replicate, List.length, List.map, List.cons_append, List.nil_append, List.getElem?_cons_zero, List.getElem?_cons_succ, List.set_cons_zero, List.set_cons_succ, fCmp, Bool.false_eq_true, if_false, if_true, hc, dBin, dSub]
      refine ⟨ctL b s.cnt, b.dl.idxOf d, .int (s.cnt d - 1), rfl, by omega, by omega, ?_⟩
      rw [put_c F s.cnt md]
      refine ⟨frL b s.fresh, b.dl.idxOf d, .bl false, rfl, by omega, by omega, ?_⟩
      rw [put_f F s.fresh (without s.fresh d) md false (by unfold without; simp) (fun y hy => by unfold without; simp [hy])]
      exact ⟨by omega, hQ⟩
    cases h0 : s.cnt d == 0 with
    | true =>
      simp only [if_true]
      exact no (by rw [h0]; rfl) _
    | false =>
      simp only [Bool.false_eq_true, if_false]
      cases h1 : b.run d with
      | false =>
        rw [h1] at yes
        simp only [Bool.false_eq_true, if_false]
        exact yes (by rw [h0]; rfl)
      | true =>
        rw [h1] at yes
        simp only [if_true]
        cases h2 : decide (d ∈ s.fresh) with
        | true =>
          rw [h2] at yes
          simp only [Bool.not_true, Bool.false_eq_true, if_false]
          exact yes (by rw [h0]; rfl)
        | false =>
          simp only [Bool.not_false, if_true]
          exact no (by rw [h0, h1, h2]; rfl) _
  | doo d =>
    have md : d ∈ b.dl := hst
    have a0 : L2.atI [D.str "do", D.str d] 0 = some (.str "do") := by rfl
    have a1 : L2.atI [D.str "do", D.str d] 1 = some (.str d) := by rfl
    have t1 : (Str.ofString "do" == Str.ofString "night") = false := by decide +kernel
    have t2 : (Str.ofString "do" == Str.ofString "back") = false := by decide +kernel
    have ii : b.dl.idxOf d < b.dl.length := List.idxOf_lt_length_of_mem md
    have le := (hs.cnt d md).2
    simp only [b_counted, wB, wS, wE, wEs, wIt, wT, dB, wAndT, wOrT, wAnd, wOr, wIfs, dVar, startD, endsOf, wTg, tgSet, List.replicate, List.length, List.map, List.cons_append, List.nil_append, List.getElem?_cons_zero, List.getElem?_cons_succ, List.set_cons_zero, List.set_cons_succ, fCmp, Bool.false_eq_true, if_false, if_true, tgSets, Option.bind, eN, lsT, stpD]
    simp only [b_counted_12, wB, wS, wE, wEs, wIt, wT, dB, wAndT, wOrT, wAnd, wOr, wIfs, dVar, startD, endsOf, wTg, tgSet, List.replicate, List.length, List.map, List.cons_append, List.nil_append, List.getElem?_cons_zero, List.getElem?_cons_succ, List.set_cons_zero, List.set_cons_succ, fCmp, Bool.false_eq_true, if_false, if_true, fIx_tp a0, dEq_strE, t1]
    simp only [b_counted_8, wB, wS, wE, wEs, wIt, wT, dB, wAndT, wOrT, wAnd, wOr, wIfs, dVar, startD, endsOf, wTg, tgSet, List.replicate, List.length, List.map, List.cons_append, List.nil_append, List.getElem?_cons_zero, List.getElem?_cons_succ, List.set_cons_zero, List.set_cons_succ, fCmp, Bool.false_eq_true, if_false, if_true, hb.places, fIx_tp a1, fIx_dt (place_ok b d) (place_get md), hb.sorts, fIx_dt (sort_ok b d) (sort_get md), dEq_strE, run_is]
    simp only [b_counted_7, wB, wS, wE, wEs, wIt, wT, dB, wAndT, wOrT, wAnd, wOr, wIfs, dVar, startD, endsOf, wTg, tgSet, List.replicate, List.length, List.map, List.cons_append, List.nil_append, List.getElem?_cons_zero, List.getElem?_cons_succ, List.set_cons_zero, List.set_cons_succ, fCmp, Bool.false_eq_true, if_false, if_true, fIx_tp (at_idx (fun d => D.int (s.cnt d)) md), fIx_tp (at_idx (fun d => D.bl (decide (d ∈ s.fresh))) md)]
    simp only [b_counted_6, wB, wS, wE, wEs, wIt, wT, dB, wAndT, wOrT, wAnd, wOr, wIfs, dVar, startD, endsOf, wTg, tgSet, List.replicate, List.length, List.map, List.cons_append, List.nil_append, List.getElem?_cons_zero, List.getElem?_cons_succ, List.set_cons_zero, List.set_cons_succ, fCmp, Bool.false_eq_true, if_false, if_true, fIx_tp a0, dEq_strE, t2]
    simp only [countL] at hQ
    have last : ∀ v : Int, (∀ x ∈ b.dl, fnC s.cnt d v x = (if !decide (d ∈ s.fresh) && decide (s.cnt d < b.most) then fnC s.cnt d (s.cnt d + 1) else s.cnt) x) → wB E (b_counted_1 c) (endsOf Q) [some (.ref p), some (.tup [.tup (b.dl.map fun d => .int (s.cnt d)), .tup (b.dl.map fun d => .bl (decide (d ∈ s.fresh))), .tup (s.held.map .str)]), some (.tup [.str "do", .str d]), some (.tup (b.dl.map fun d => .int (s.cnt d))), some (.tup (b.dl.map fun d => .bl (decide (d ∈ s.fresh)))), some (.tup (s.held.map .str)), none, some (.int v), none, some (.int (s.cnt d)), some (.bl (decide (d ∈ s.fresh))), some (.int ((b.dl.idxOf d : Nat) : Int)), some (.bl (b.run d))] M := fun v hv => by
      simp only [b_counted_1, wB, wS, wE, wEs, wIt, wT, dB, wAndT, wOrT, wAnd, wOr, wIfs, dVar, startD, endsOf, wTg, tgSet, List.replicate, List.length, List.map, List.cons_append, List.nil_append, List.getElem?_cons_zero, List.getElem?_cons_succ, List.set_cons_zero, List.set_cons_succ, fCmp, Bool.false_eq_true, if_false, if_true, hc]
      refine ⟨ctL b s.cnt, b.dl.idxOf d, .int v, rfl, by omega, by omega, ?_⟩
      rw [put_c F s.cnt md, ct_congr hv]
      refine ⟨frL b s.fresh, b.dl.idxOf d, .bl (b.run d), rfl, by omega, by omega, ?_⟩
      rw [put_f F s.fresh (if b.run d && !decide (d ∈ s.fresh) then srt (s.fresh ++ [d]) else s.fresh) md (b.run d) ?_ ?_]
      · exact ⟨by omega, hQ⟩
      · cases h1 : b.run d with
        | false =>
          simp only [Bool.false_and, Bool.false_eq_true, if_false]
          rw [decide_eq_false (fun hm => by rw [hf d hm] at h1; cases h1)]
        | true =>
          by_cases h2 : d ∈ s.fresh
          · simp [h2]
          · simp only [h2, decide_false, Bool.not_false, Bool.and_true, if_true]
            rw [decide_eq_true ((srt_perm _).mem_iff.mpr (by simp))]
      · intro y hy
        split
        · rw [(srt_perm _).mem_iff]; simp [hy]
        · exact Iff.rfl
    simp only [b_counted_2, wB, wS, wE, wEs, wIt, wT, dB, wAndT, wOrT, wAnd, wOr, wIfs, dVar, startD, endsOf, wTg, tgSet, List.replicate, List.length, List.map, List.cons_append, List.nil_append, List.getElem?_cons_zero, List.getElem?_cons_succ, List.set_cons_zero, List.set_cons_succ, fCmp, Bool.false_eq_true, if_false, if_true]
    by_cases h2 : d ∈ s.fresh
    · have h1 := hf d h2
      simp only [h1, h2, decide_true, if_true]
      simp only [h1, h2, decide_true] at last
      refine last _ fun x hx => ?_
      simp only [Bool.not_true, Bool.false_and, Bool.false_eq_true, if_false, fnC]
      split
      · rename_i e; rw [e]
      · rfl
    · have fin : wB E (b_counted_1 c) (endsOf Q) [some (.ref p), some (.tup [.tup (b.dl.map fun d => .int (s.cnt d)), .tup (b.dl.map fun d => .bl (decide (d ∈ s.fresh))), .tup (s.held.map .str)]), some (.tup [.str "do", .str d]), some (.tup (b.dl.map fun d => .int (s.cnt d))), some (.tup (b.dl.map fun d => .bl (decide (d ∈ s.fresh)))), some (.tup (s.held.map .str)), none, some (.int (if s.cnt d + 1 < b.most then s.cnt d + 1 else b.most)), none, some (.int (s.cnt d)), some (.bl (decide (d ∈ s.fresh))), some (.int ((b.dl.idxOf d : Nat) : Int)), some (.bl (b.run d))] M := by
        refine last _ fun x hx => ?_
        simp only [h2, decide_false, Bool.not_false, Bool.true_and]
        by_cases h3 : s.cnt d < b.most
        · simp only [h3, decide_true, if_true, fnC]
          split
          · split <;> omega
          · rfl
        · simp only [h3, decide_false, Bool.false_eq_true, if_false, fnC]
          split
          · rename_i e
            rw [e]
            split <;> omega
          · rfl
      simp only [h2, decide_false] at fin ⊢
      cases h1 : b.run d with
      | false =>
        rw [h1] at fin
        simp only [Bool.false_eq_true, if_false, hb.cap, dBif, dBin, dAdd, cMin]
        exact fin
      | true =>
        rw [h1] at fin
        simp only [Bool.false_eq_true, if_false, if_true, hb.cap, dBif, dBin, dAdd, cMin]
        exact fin
end Dg
end
section
set_option Elab.async false
set_option linter.all false
set_option maxRecDepth 100000
set_option maxHeartbeats 4000000
/-! Marksheld: the program's step. -/
namespace Dg
open PySem
open Dy (E Es B S It Tg Tgs Lhs D DSp DK XQ Mp MO DEnds Sd)
open Dy
theorem ml_srt (b : Bk) : srt b.ml = b.ml := srt_srt _
theorem flt_srt (b : Bk) (f : Str → Bool) : srt (b.ml.filter f) = b.ml.filter f := srt_id ((srt_sorted b.mn).sublist List.filter_sublist)
def spLedBy : DSp := fun ds M Q _ => ∃ b p s st, ∃ sm : List Str, ds = [.ref p, lsT b.dl s, stpD st, .lst (sm.map .str)] ∧ BkAt M p b ∧ Ok b ∧ StpIn b.dl st ∧ LsOk b s ∧ FrOk b s ∧ (∀ x ∈ sm, x ∈ b.mn) ∧ sm.length ≤ 4 ∧ srt sm = sm ∧
  (match afterL b s st sm with
  | none => Q .non M
  | some (s', out) => Q (.tup [lsT b.dl s', .lst (out.map .str)]) M)
theorem fm_filter (f : Str → Bool) (l : List Str) : l.filterMap (fun x => if f x = true then some (D.str x) else none) = (l.filter f).map .str := by
  induction l with
  | nil => rfl
  | cons a r ih =>
    rw [List.filterMap_cons, List.filter_cons, ih]
    cases f a <;> rfl
theorem w_led_by (c : Str → DSp) (hc : c "counted" = spCounted) (hc2 : c "looked_at" = spLooked) (ds : List D) (M : Mp) (Q : DK) (E : XQ) (h : spLedBy ds M Q E) : wB E (b_led_by c) (endsOf Q) (startD N_led_by ds) M := by
  obtain ⟨b, p, s, st, sm, rfl, hb, ok, hst, hs, hf, hm, hl, hsr, hQ⟩ := h
  have eN : N_led_by.length = 9 := by rfl
  have hz : 1000 ≤ sizeLine := by decide
  have s2 : L2.atI [D.tup (b.dl.map fun d => .int (s.cnt d)), D.tup (b.dl.map fun d => .bl (decide (d ∈ s.fresh))), heT s.held] 2 = some (heT s.held) := by rfl
  have eT : lsT b.dl s = .tup [D.tup (b.dl.map fun d => .int (s.cnt d)), D.tup (b.dl.map fun d => .bl (decide (d ∈ s.fresh))), heT s.held] := rfl
  simp only [b_led_by, wB, wS, wE, wEs, wIt, wT, dB, wAndT, wOrT, wAnd, wOr, wIfs, dVar, startD, endsOf, wTg, tgSet, List.replicate, List.length, List.map, List.cons_append, List.nil_append, List.getElem?_cons_zero, List.getElem?_cons_succ, List.set_cons_zero, List.set_cons_succ, fCmp, Bool.false_eq_true, if_false, if_true, eN, hc]
  refine ⟨b, p, s, st, rfl, hb, ok, hst, hs, hf, ?_⟩
  unfold afterL at hQ
  cases e : countL b s st with
  | none =>
    rw [e] at hQ
    simp only [b_led_by_5, wB, wS, wE, wEs, wIt, wT, dB, wAndT, wOrT, wAnd, wOr, wIfs, dVar, startD, endsOf, wTg, tgSet, List.replicate, List.length, List.map, List.cons_append, List.nil_append, List.getElem?_cons_zero, List.getElem?_cons_succ, List.set_cons_zero, List.set_cons_succ, fCmp, Bool.false_eq_true, if_false, if_true, dCmp, dIs, isNone, true_and, Bool.not_true]
    simp only [b_led_by_4, wB, wS, wE, wEs, wIt, wT, dB, wAndT, wOrT, wAnd, wOr, wIfs, dVar, startD, endsOf, wTg, tgSet, List.replicate, List.length, List.map, List.cons_append, List.nil_append, List.getElem?_cons_zero, List.getElem?_cons_succ, List.set_cons_zero, List.set_cons_succ, fCmp, Bool.false_eq_true, if_false, if_true]
    exact hQ
  | some s1 =>
    rw [e] at hQ
    have eh := count_held e
    simp only [b_led_by_5, wB, wS, wE, wEs, wIt, wT, dB, wAndT, wOrT, wAnd, wOr, wIfs, dVar, startD, endsOf, wTg, tgSet, List.replicate, List.length, List.map, List.cons_append, List.nil_append, List.getElem?_cons_zero, List.getElem?_cons_succ, List.set_cons_zero, List.set_cons_succ, fCmp, Bool.false_eq_true, if_false, if_true, dCmp, dIs, isNone, true_and, Bool.not_true]
    rw [hsr] at hQ
    simp only at hQ
    simp only [b_led_by_3, wB, wS, wE, wIt, dVar, List.getElem?_cons_zero, List.getElem?_cons_succ, srcOf, Src.items]
    intro A hA
    refine lc_map Dy.D.str (fun x => if tillOut b s1.held st x = true then some (.str x) else none) hA sm [] (by simp only [List.length_nil]; omega) ?_ ?_ _
    · intro x hx M' hM K hK
      have hx' := hm x hx
      have hb' := hb.up hM
      have a1 : L2.atI [D.tup ((b.get x).1.map prtD), styD (b.get x).2] 1 = Option.some (styD (b.get x).2) := by rfl
      rw [eh] at hK
      simp only [wipeD, wB, wS, wE, wEs, wIt, wT, dB, wAndT, wOrT, wAnd, wOr, wIfs, dVar, startD, endsOf, wTg, tgSet, List.replicate, List.length, List.map, List.cons_append, List.nil_append, List.getElem?_cons_zero, List.getElem?_cons_succ, List.set_cons_zero, List.set_cons_succ, fCmp, Bool.false_eq_true, if_false, if_true]
      cases st with
      | night =>
        have a0 : L2.atI [D.str "night"] 0 = some (.str "night") := by rfl
        have t1 : (Str.ofString "night" == Str.ofString "do") = false := by decide +kernel
        simp only [stpD, fIx_tp a0, dEq_strE, t1, Bool.false_eq_true, if_false]
        exact hK
      | back d =>
        have a0 : L2.atI [D.str "back", D.str d] 0 = some (.str "back") := by rfl
        have t1 : (Str.ofString "back" == Str.ofString "do") = false := by decide +kernel
        simp only [stpD, fIx_tp a0, dEq_strE, t1, Bool.false_eq_true, if_false]
        exact hK
      | doo d =>
        have a0 : L2.atI [D.str "do", D.str d] 0 = some (.str "do") := by rfl
        have a2 : L2.atI [D.str "do", D.str d] 1 = some (.str d) := by rfl
        have t1 : (Str.ofString "do" == Str.ofString "do") = true := by decide +kernel
        simp only [stpD, fIx_tp a0, fIx_tp a2, dEq_strE, t1, eT, fIx_tp s2, fIn_tstrs, hb'.cards, fIx_dt (card_ok b x) (card_get hx'), mrkD, fIx_tp a1, Bool.false_eq_true, if_false, if_true]
        unfold tillOut at hK
        by_cases h1 : x ∈ s.held
        · rw [if_pos (by simpa using h1)]
          refine ⟨by omega, dEq_sty.mpr ?_⟩
          by_cases h2 : (b.get x).2 = .till d
          · simp only [h1, h2, decide_true, Bool.and_self, if_true] at hK ⊢
            exact hK
          · simp only [h2, decide_false, Bool.and_false, Bool.false_eq_true, if_false] at hK ⊢
            exact hK
        · rw [if_neg (by simpa using h1)]
          simp only [h1, decide_false, Bool.false_and, Bool.false_eq_true, if_false] at hK ⊢
          exact hK
    rw [List.nil_append, fm_filter]
    generalize ho : sm.filter (tillOut b s1.held st) = out at hQ ⊢
    simp only [wTg, tgSet, List.set_cons_zero, List.set_cons_succ]
    have f0 : L2.atI [ctT b s1.cnt, D.tup (frL b s1.fresh)] 0 = some (ctT b s1.cnt) := by rfl
    have f1 : L2.atI [ctT b s1.cnt, D.tup (frL b s1.fresh)] 1 = some (D.tup (frL b s1.fresh)) := by rfl
    simp only [b_led_by_2, wB, wS, wE, wEs, wIt, dVar, List.getElem?_cons_zero, List.getElem?_cons_succ, fIx_tp f0, fIx_tp f1, eT, fIx_tp s2, srcOf, heT, Src.items, hc2]
    intro A2 hA2
    refine lc_map Dy.D.str (fun x => if (!decide (x ∈ out)) = true then some (.str x) else none) hA2 s.held [] (by have := hs.held.len ok; simp only [List.length_nil]; omega) ?_ ?_ _
    · intro x hx M' hM K hK
      simp only [wipeD, wB, wS, wE, wEs, wIt, wT, dB, wAndT, wOrT, wAnd, wOr, wIfs, dVar, startD, endsOf, wTg, tgSet, List.replicate, List.length, List.map, List.cons_append, List.nil_append, List.getElem?_cons_zero, List.getElem?_cons_succ, List.set_cons_zero, List.set_cons_succ, fCmp, Bool.false_eq_true, if_false, if_true, fIn_strs]
      cases e2 : decide (x ∈ out) with
      | true => rw [e2] at hK; exact hK
      | false => rw [e2] at hK; exact hK
    rw [List.nil_append, fm_filter]
    simp only [dBif, fTup, seqOf]
    have hh := hs.held.len ok
    have lh : (s.held.filter fun x => !decide (x ∈ out)).length ≤ 4 := Nat.le_trans (List.length_filter_le _ _) hh
    rw [eh] at hQ
    refine ⟨b, p, sm, s1.cnt, _, rfl, hb, ok, hm, hl, lh, ?_⟩
    have lb := lostN_len (b := b) (cnt := s1.cnt) (l := sm) (s.held.filter fun x => !decide (x ∈ out)).length (s.held.filter fun x => !decide (x ∈ out)) []
    have lk : (lookL b s1.cnt sm (s.held.filter fun x => !decide (x ∈ out))).2.length ≤ 4 := by
      have := lb.2
      simp only [List.length_nil] at this
      show (lostN b s1.cnt sm _ _ []).2.length ≤ 4
      omega
    have lo : out.length ≤ 4 := by rw [← ho]; exact Nat.le_trans (List.length_filter_le _ _) hl
    simp only [wTg, tgSet, tgSets, Option.bind, List.set_cons_zero, List.set_cons_succ]
    simp only [b_led_by_1, wB, wS, wE, wEs, wIt, wT, dB, wAndT, wOrT, wAnd, wOr, wIfs, dVar, startD, endsOf, wTg, tgSet, List.replicate, List.length, List.map, List.cons_append, List.nil_append, List.getElem?_cons_zero, List.getElem?_cons_succ, List.set_cons_zero, List.set_cons_succ, fCmp, Bool.false_eq_true, if_false, if_true, fIx_tp f0, fIx_tp f1, dBin, dAdd, lstOf, List.length_map]
    refine ⟨by omega, by omega, fz_newL ⟨by omega, ?_⟩⟩
    rw [← List.map_append]
    exact hQ
def spLedTo : DSp := fun ds M Q _ => ∃ b p s st, ds = [.ref p, lsT b.dl s, stpD st] ∧ BkAt M p b ∧ Ok b ∧ StpIn b.dl st ∧ LsOk b s ∧ FrOk b s ∧
  (match ledL b s st with
  | none => Q .non M
  | some s' => Q (lsT b.dl s') M)
theorem w_led_to (c : Str → DSp) (hc : c "led_by" = spLedBy) (ds : List D) (M : Mp) (Q : DK) (E : XQ) (h : spLedTo ds M Q E) : wB E (b_led_to c) (endsOf Q) (startD N_led_to ds) M := by
  obtain ⟨b, p, s, st, rfl, hb, ok, hst, hs, hf, hQ⟩ := h
  have eN : N_led_to.length = 4 := by rfl
  have hz : 1000 ≤ sizeLine := by decide
  have lm := ok.mlen
  have lm2 := ml_len b
  simp only [b_led_to, wB, wS, wE, wEs, wIt, wT, dB, wAndT, wOrT, wAnd, wOr, wIfs, dVar, startD, endsOf, wTg, tgSet, List.replicate, List.length, List.map, List.cons_append, List.nil_append, List.getElem?_cons_zero, List.getElem?_cons_succ, List.set_cons_zero, List.set_cons_succ, fCmp, Bool.false_eq_true, if_false, if_true, eN, hb.cards, dBif, cList, seqOf, dctOf, card_keys, hc]
  refine fz_newL ⟨b, p, s, st, b.ml, rfl, hb, ok, hst, hs, hf, fun x hx => ml_mem.mp hx, by omega, ml_srt b, ?_⟩
  unfold ledL at hQ
  cases e : afterL b s st b.ml with
  | none =>
    rw [e] at hQ
    simp only [b_led_to_1, wB, wS, wE, wEs, wIt, wT, dB, wAndT, wOrT, wAnd, wOr, wIfs, dVar, startD, endsOf, wTg, tgSet, List.replicate, List.length, List.map, List.cons_append, List.nil_append, List.getElem?_cons_zero, List.getElem?_cons_succ, List.set_cons_zero, List.set_cons_succ, fCmp, Bool.false_eq_true, if_false, if_true, dCmp, dIs, isNone, true_and]
    exact hQ
  | some r =>
    obtain ⟨s', out⟩ := r
    rw [e] at hQ
    have a0 : L2.atI [lsT b.dl s', D.lst (out.map .str)] 0 = some (lsT b.dl s') := by rfl
    simp only [b_led_to_1, wB, wS, wE, wEs, wIt, wT, dB, wAndT, wOrT, wAnd, wOr, wIfs, dVar, startD, endsOf, wTg, tgSet, List.replicate, List.length, List.map, List.cons_append, List.nil_append, List.getElem?_cons_zero, List.getElem?_cons_succ, List.set_cons_zero, List.set_cons_succ, fCmp, Bool.false_eq_true, if_false, if_true, dCmp, dIs, isNone, true_and, fIx_tp a0]
    exact hQ
/-! ### tables -/
def tblD (tb : List (Stp × List Str)) : List (D × D) := tb.map fun p => (stpD p.1, heT p.2)
def tget (tb : List (Stp × List Str)) (st : Stp) : List Str := (tb.lookup st).getD []
theorem eq_stp (a b : Stp) : eqD (stpD a) (stpD b) = decide (a = b) := by
  cases a with
  | doo d =>
    cases b with
    | doo e =>
      show ((Str.ofString "do" == Str.ofString "do") && ((d == e) && true)) = _
      rw [show (Str.ofString "do" == Str.ofString "do") = true by decide +kernel, Bool.eq_iff_iff]
      simp
    | back e =>
      show ((Str.ofString "do" == Str.ofString "back") && eqDs [.str d] [.str e]) = _
      rw [show (Str.ofString "do" == Str.ofString "back") = false by decide +kernel]; simp
    | night =>
      show ((Str.ofString "do" == Str.ofString "night") && eqDs [.str d] []) = _
      rw [show (Str.ofString "do" == Str.ofString "night") = false by decide +kernel]; simp
  | back d =>
    cases b with
    | doo e =>
      show ((Str.ofString "back" == Str.ofString "do") && eqDs [.str d] [.str e]) = _
      rw [show (Str.ofString "back" == Str.ofString "do") = false by decide +kernel]; simp
    | back e =>
      show ((Str.ofString "back" == Str.ofString "back") && ((d == e) && true)) = _
      rw [show (Str.ofString "back" == Str.ofString "back") = true by decide +kernel, Bool.eq_iff_iff]
      simp
    | night =>
      show ((Str.ofString "back" == Str.ofString "night") && eqDs [.str d] []) = _
      rw [show (Str.ofString "back" == Str.ofString "night") = false by decide +kernel]; simp
  | night =>
    cases b with
    | doo e =>
      show ((Str.ofString "night" == Str.ofString "do") && eqDs [] [.str e]) = _
      rw [show (Str.ofString "night" == Str.ofString "do") = false by decide +kernel]; simp
    | back e =>
      show ((Str.ofString "night" == Str.ofString "back") && eqDs [] [.str e]) = _
      rw [show (Str.ofString "night" == Str.ofString "back") = false by decide +kernel]; simp
    | night =>
      show ((Str.ofString "night" == Str.ofString "night") && true) = _
      rw [show (Str.ofString "night" == Str.ofString "night") = true by decide +kernel]; simp
theorem tkB_stp (r : Stp) : tkB (stpD r) = true := by cases r <;> rfl
theorem tbl_ok (tb : List (Stp × List Str)) (st : Stp) : keyOk (stpD st) (tblD tb) = true := by
  unfold keyOk
  rw [tkB_stp]
  have : (tblD tb).all (fun kv => isT kv.1) = true := by
    unfold tblD
    rw [List.all_eq_true]
    intro kv hk
    obtain ⟨a, _, rfl⟩ := List.mem_map.mp hk
    cases a.1 <;> rfl
  rw [this]; simp
theorem tbl_get (tb : List (Stp × List Str)) (st : Stp) : (getD (tblD tb) (stpD st)).getD (.tup []) = heT (tget tb st) := by
  unfold tget
  induction tb with
  | nil => rfl
  | cons a r ih =>
    obtain ⟨k, v⟩ := a
    show (getD ((stpD k, heT v) :: tblD r) (stpD st)).getD _ = _
    rw [getD_cons, eq_stp, List.lookup_cons]
    by_cases z : k = st
    · subst z; simp
    · rw [decide_eq_false z, if_neg (by simp), ih, show (st == k) = false from by simpa using Ne.symm z]
def someOf (b : Bk) (tb : List (Stp × List Str)) (st : Stp) : List Str := b.ml.filter fun x => decide (x ∈ tget tb st)
def spLedWith : DSp := fun ds M Q _ => ∃ b p s st tb x, ds = [.ref p, x, lsT b.dl s, stpD st] ∧ BkAt M p b ∧ tyD M x = some "dict" ∧ (∀ M', LeM M M' → dctOf M' x = some (tblD tb)) ∧ (∀ M', LeM M M' → tyD M' x = some "dict") ∧ Ok b ∧ StpIn b.dl st ∧ LsOk b s ∧ FrOk b s ∧
  (match afterL b s st (someOf b tb st) with
  | none => Q .non M
  | some (s', _) => Q (lsT b.dl s') M)
theorem w_led_with (c : Str → DSp) (hc : c "led_by" = spLedBy) (ds : List D) (M : Mp) (Q : DK) (E : XQ) (h : spLedWith ds M Q E) : wB E (b_led_with c) (endsOf Q) (startD N_led_with ds) M := by
  obtain ⟨b, p, s, st, tb, x, rfl, hb, _, hx, hx2, ok, hst, hs, hf, hQ⟩ := h
  have eN : N_led_with.length = 7 := by rfl
  have hz : 1000 ≤ sizeLine := by decide
  have lm := ok.mlen
  have lm2 := ml_len b
  simp only [b_led_with, wB, wS, wE, wIt, dVar, startD, endsOf, eN, List.replicate, List.length, List.map, List.cons_append, List.nil_append, List.getElem?_cons_zero, List.getElem?_cons_succ, hb.cards, srcOf, card_keys, Src.items]
  intro A hA
  refine lc_map Dy.D.str (fun y => if decide (y ∈ tget tb st) = true then some (.str y) else none) hA b.ml [] (by simp only [List.length_nil]; omega) ?_ ?_ _
  · intro y hy M' hM K hK
    simp only [wipeD, wB, wS, wE, wEs, wIt, wT, dB, wAndT, wOrT, wAnd, wOr, wIfs, dVar, startD, endsOf, wTg, tgSet, List.replicate, List.length, List.map, List.cons_append, List.nil_append, List.getElem?_cons_zero, List.getElem?_cons_succ, List.set_cons_zero, List.set_cons_succ, fCmp, Bool.false_eq_true, if_false, if_true, Mth.T, hx2 M' hM, true_and, dMth, fGet, hx M' hM, tbl_ok, tbl_get, fIn_tstrs]
    refine ⟨by omega, ?_⟩
    cases e2 : decide (y ∈ tget tb st) with
    | true => rw [e2] at hK; exact hK
    | false => rw [e2] at hK; exact hK
  rw [List.nil_append, fm_filter]
  simp only [wTg, tgSet, List.set_cons_zero, List.set_cons_succ]
  simp only [b_led_with_2, wB, wS, wE, wEs, wIt, wT, dB, wAndT, wOrT, wAnd, wOr, wIfs, dVar, startD, endsOf, wTg, tgSet, List.replicate, List.length, List.map, List.cons_append, List.nil_append, List.getElem?_cons_zero, List.getElem?_cons_succ, List.set_cons_zero, List.set_cons_succ, fCmp, Bool.false_eq_true, if_false, if_true, hc]
  refine ⟨b, p, s, st, someOf b tb st, rfl, hb, ok, hst, hs, hf, fun y hy => ml_mem.mp (List.mem_filter.mp hy).1, by have := List.length_filter_le (fun y => decide (y ∈ tget tb st)) b.ml; unfold someOf; omega, flt_srt b _, ?_⟩
  cases e : afterL b s st (someOf b tb st) with
  | none =>
    rw [e] at hQ
    simp only [b_led_with_1, wB, wS, wE, wEs, wIt, wT, dB, wAndT, wOrT, wAnd, wOr, wIfs, dVar, startD, endsOf, wTg, tgSet, List.replicate, List.length, List.map, List.cons_append, List.nil_append, List.getElem?_cons_zero, List.getElem?_cons_succ, List.set_cons_zero, List.set_cons_succ, fCmp, Bool.false_eq_true, if_false, if_true, dCmp, dIs, isNone, true_and]
    exact hQ
  | some r =>
    obtain ⟨s', out⟩ := r
    rw [e] at hQ
    have a0 : L2.atI [lsT b.dl s', D.lst (out.map .str)] 0 = some (lsT b.dl s') := by rfl
    simp only [b_led_with_1, wB, wS, wE, wEs, wIt, wT, dB, wAndT, wOrT, wAnd, wOr, wIfs, dVar, startD, endsOf, wTg, tgSet, List.replicate, List.length, List.map, List.cons_append, List.nil_append, List.getElem?_cons_zero, List.getElem?_cons_succ, List.set_cons_zero, List.set_cons_succ, fCmp, Bool.false_eq_true, if_false, if_true, dCmp, dIs, isNone, true_and, fIx_tp a0]
    exact hQ
end Dg
end
section
set_option Elab.async false
set_option linter.all false
set_option maxRecDepth 100000
set_option maxHeartbeats 4000000
/-! Marksheld: the walk of pairs of standings, in plain words. -/
namespace Dg
open PySem
open Dy
/-- fresh deeds are told by runs: kept by each step -/
theorem count_fr {b : Bk} {s s' : LS} {st : Stp} (hf : FrOk b s) (e : countL b s st = some s') : FrOk b s' := by
  cases st with
  | night =>
    simp only [countL, Option.some.injEq] at e
    subst e
    exact fun d hd => nomatch hd
  | back d =>
    simp only [countL] at e
    split at e
    · cases e
    · simp only [Option.some.injEq] at e
      subst e
      exact fun x hx => hf x (List.mem_filter.mp hx).1
  | doo d =>
    simp only [countL, Option.some.injEq] at e
    subst e
    intro x hx
    have hx : x ∈ (if b.run d && !decide (d ∈ s.fresh) then srt (s.fresh ++ [d]) else s.fresh) := hx
    split at hx
    · rename_i z
      simp only [Bool.and_eq_true] at z
      rcases List.mem_append.mp ((srt_perm _).mem_iff.mp hx) with hx | hx
      · exact hf x hx
      · rw [List.mem_singleton] at hx; subst hx; exact z.1
    · exact hf x hx
theorem after_fr {b : Bk} {s s' : LS} {st : Stp} {sm out : List Str} (hf : FrOk b s) (e : afterL b s st sm = some (s', out)) : FrOk b s' := by
  unfold afterL at e
  cases c : countL b s st with
  | none => rw [c] at e; cases e
  | some s1 =>
    rw [c] at e
    simp only [Option.some.injEq, Prod.mk.injEq] at e
    obtain ⟨rfl, _⟩ := e
    have := count_fr hf c
    exact fun d hd => this d hd
/-- a standing that may be -/
def Good (b : Bk) (s : LS) : Prop := LsOk b s ∧ FrOk b s
theorem Good.zero {b : Bk} (ok : Ok b) : Good b .zero := ⟨zero_ok ok, fun d hd => nomatch hd⟩
theorem Good.after {b : Bk} (ok : Ok b) {s s' : LS} {st : Stp} {sm out : List Str} (hst : StpIn b.dl st) (hs : ∀ x ∈ sm, x ∈ b.mn) (h : Good b s) (e : afterL b s st sm = some (s', out)) : Good b s' := ⟨after_ok ok hst hs h.1 e, after_fr h.2 e⟩
theorem Good.led {b : Bk} (ok : Ok b) {s s' : LS} {st : Stp} (hst : StpIn b.dl st) (h : Good b s) (e : ledL b s st = some s') : Good b s' := by
  unfold ledL at e
  cases c : afterL b s st b.ml with
  | none => rw [c] at e; cases e
  | some r =>
    rw [c] at e
    obtain ⟨s1, out⟩ := r
    simp only [Option.map_some, Option.some.injEq] at e
    subst e
    exact h.after ok hst (fun x hx => ml_mem.mp hx) c
theorem some_mn {b : Bk} {tb : List (Stp × List Str)} {st : Stp} : ∀ x ∈ someOf b tb st, x ∈ b.mn := fun x hx => ml_mem.mp (List.mem_filter.mp hx).1
/-- what tells a standing from others -/
abbrev Code := List Int × List Bool × List Str
def code (b : Bk) (s : LS) : Code := (b.dl.map s.cnt, b.dl.map (fun d => decide (d ∈ s.fresh)), s.held)
abbrev PS := LS × LS
abbrev Itm := List Stp × PS
def codeP (b : Bk) (q : PS) : Code × Code := (code b q.1, code b q.2)
def mvP (b : Bk) (tb : List (Stp × List Str)) (q : PS) (st : Stp) : Option PS := match ledL b q.1 st, afterL b q.2 st (someOf b tb st) with
  | some a, some c => some (a, c.1)
  | _, _ => none
def codes (b : Bk) (seen : List Itm) : List (Code × Code) := seen.map fun q => codeP b q.2
def ext1 (b : Bk) (tb : List (Stp × List Str)) (p : Itm) (seen : List Itm) (st : Stp) : List Itm := match mvP b tb p.2 st with
  | none => seen
  | some q => if codeP b q ∈ codes b seen then seen else seen ++ [(p.1 ++ [st], q)]
def extA (b : Bk) (tb : List (Stp × List Str)) (p : Itm) (seen : List Itm) (sts : List Stp) : List Itm := sts.foldl (ext1 b tb p) seen
def badP (q : PS) : Bool := !decide (q.1.held = q.2.held)
def lim : Nat := 200000
inductive Bfs (b : Bk) (tb : List (Stp × List Str)) : Nat → List Itm → Nat → Option (List Stp) → Prop
  | stop {seen : List Itm} {i : Nat} : seen.length = i → Bfs b tb 0 seen i none
  | bad {seen : List Itm} {i : Nat} {p : Itm} : seen[i]? = some p → badP p.2 = true → Bfs b tb 0 seen i (some p.1)
  | step {seen : List Itm} {i k : Nat} {p : Itm} {r : Option (List Stp)} : seen[i]? = some p → badP p.2 = false → Bfs b tb k (extA b tb p seen (everyB b)) (i + 1) r → Bfs b tb (k + 1) seen i r
/-- what stays so of those seen -/
structure SeenOk (b : Bk) (seen : List Itm) : Prop where
  good : ∀ q ∈ seen, Good b q.2.1 ∧ Good b q.2.2
  nd : (codes b seen).Nodup
  len : ∀ q ∈ seen, q.1.length < seen.length
theorem every_in {b : Bk} {st : Stp} (h : st ∈ everyB b) : StpIn b.dl st := by
  unfold everyB at h
  rcases List.mem_append.mp h with h | h
  · rcases List.mem_append.mp h with h | h
    · obtain ⟨d, hd, rfl⟩ := List.mem_map.mp h; exact hd
    · obtain ⟨d, hd, rfl⟩ := List.mem_map.mp h; exact hd
  · rw [List.mem_singleton] at h; subst h; trivial
theorem mvP_good {b : Bk} (ok : Ok b) {tb : List (Stp × List Str)} {q q' : PS} {st : Stp} (hst : StpIn b.dl st) (g : Good b q.1 ∧ Good b q.2) (e : mvP b tb q st = some q') : Good b q'.1 ∧ Good b q'.2 := by
  unfold mvP at e
  split at e
  · rename_i a c ha hc
    simp only [Option.some.injEq] at e
    subst e
    exact ⟨g.1.led ok hst ha, g.2.after ok hst some_mn hc⟩
  · cases e
theorem ext1_ok {b : Bk} (ok : Ok b) {tb : List (Stp × List Str)} {p : Itm} {seen : List Itm} {st : Stp} (hst : StpIn b.dl st) (hp : p ∈ seen) (h : SeenOk b seen) : SeenOk b (ext1 b tb p seen st) ∧ p ∈ ext1 b tb p seen st := by
  unfold ext1
  split
  · exact ⟨h, hp⟩
  · rename_i q e
    split
    · exact ⟨h, hp⟩
    · rename_i ni
      refine ⟨⟨?_, ?_, ?_⟩, List.mem_append_left _ hp⟩
      · intro r hr
        rcases List.mem_append.mp hr with hr | hr
        · exact h.good r hr
        · rw [List.mem_singleton] at hr; subst hr
          exact mvP_good ok hst (h.good p hp) e
      · unfold codes
        rw [List.map_append, List.nodup_append]
        refine ⟨h.nd, by simp, fun a ha c hc e => ?_⟩
        simp only [List.map_cons, List.map_nil, List.mem_singleton] at hc
        subst hc; subst e
        exact ni ha
      · intro r hr
        rw [List.length_append, List.length_singleton]
        rcases List.mem_append.mp hr with hr | hr
        · exact Nat.lt_succ_of_lt (h.len r hr)
        · rw [List.mem_singleton] at hr; subst hr
          have := h.len p hp
          rw [List.length_append, List.length_singleton]
          omega
theorem extA_ok {b : Bk} (ok : Ok b) {tb : List (Stp × List Str)} {p : Itm} : ∀ (sts : List Stp) {seen : List Itm}, (∀ st ∈ sts, StpIn b.dl st) → p ∈ seen → SeenOk b seen → SeenOk b (extA b tb p seen sts) ∧ p ∈ extA b tb p seen sts
  | [], seen, _, hp, h => ⟨h, hp⟩
  | st :: r, seen, hs, hp, h => by
    have := ext1_ok ok (tb := tb) (hs st List.mem_cons_self) hp h
    exact extA_ok ok r (fun x hx => hs x (List.mem_cons_of_mem _ hx)) this.2 this.1
theorem ext1_len {b : Bk} {tb : List (Stp × List Str)} {p : Itm} {seen : List Itm} {st : Stp} : seen.length ≤ (ext1 b tb p seen st).length := by
  unfold ext1
  split
  · exact Nat.le_refl _
  · split
    · exact Nat.le_refl _
    · simp
theorem extA_len {b : Bk} {tb : List (Stp × List Str)} {p : Itm} : ∀ (sts : List Stp) {seen : List Itm}, seen.length ≤ (extA b tb p seen sts).length
  | [], seen => Nat.le_refl _
  | st :: r, seen => Nat.le_trans ext1_len (extA_len r (seen := ext1 b tb p seen st))
/-! ### there are not many -/
def wordsN {α : Type} (A : List α) : Nat → List (List α)
  | 0 => [[]]
  | n + 1 => A.flatMap fun a => (wordsN A n).map (a :: ·)
theorem flat_len {α β : Type} {f : α → List β} {n : Nat} : ∀ (l : List α), (∀ a ∈ l, (f a).length = n) → (l.flatMap f).length = l.length * n
  | [], _ => by simp
  | a :: r, h => by
    rw [List.flatMap_cons, List.length_append, h a List.mem_cons_self, flat_len r fun x hx => h x (List.mem_cons_of_mem _ hx), List.length_cons, Nat.succ_mul, Nat.add_comm]
theorem words_len {α : Type} (A : List α) : ∀ n, (wordsN A n).length = A.length ^ n
  | 0 => rfl
  | n + 1 => by
    unfold wordsN
    rw [flat_len (n := A.length ^ n) A fun a _ => by rw [List.length_map, words_len A n], Nat.pow_succ, Nat.mul_comm]
theorem words_mem {α : Type} {A : List α} : ∀ {w : List α}, (∀ x ∈ w, x ∈ A) → w ∈ wordsN A w.length
  | [], _ => by simp [wordsN]
  | a :: r, h => by
    show a :: r ∈ A.flatMap fun a => (wordsN A r.length).map (a :: ·)
    rw [List.mem_flatMap]
    exact ⟨a, h a List.mem_cons_self, List.mem_map.mpr ⟨r, words_mem fun x hx => h x (List.mem_cons_of_mem _ hx), rfl⟩⟩
theorem nodup_leG {α : Type} [DecidableEq α] : ∀ (l m : List α), l.Nodup → (∀ x ∈ l, x ∈ m) → l.length ≤ m.length
  | [], m, _, _ => Nat.zero_le _
  | a :: r, m, n, s => by
    have h := List.nodup_cons.mp n
    have am := s a List.mem_cons_self
    have := nodup_leG r (m.erase a) h.2 fun x hx => by
      have ne : x ≠ a := fun e => by subst e; exact h.1 hx
      exact (List.mem_erase_of_ne ne).mpr (s x (List.mem_cons_of_mem _ hx))
    rw [List.length_erase_of_mem am] at this
    have := List.length_pos_of_mem am
    simp only [List.length_cons]
    omega
def heldAll (b : Bk) : List (List Str) := (List.range (b.mn.length + 1)).flatMap fun k => wordsN b.mn k
def cntAll (b : Bk) : List (List Int) := wordsN ((List.range (b.most.toNat + 1)).map fun i => ((i : Nat) : Int)) b.dl.length
def frAll (b : Bk) : List (List Bool) := wordsN [true, false] b.dl.length
def codeAll (b : Bk) : List Code := (cntAll b).flatMap fun c => (frAll b).flatMap fun f => (heldAll b).map fun h => (c, f, h)
theorem code_mem {b : Bk} (ok : Ok b) {s : LS} (g : Good b s) : code b s ∈ codeAll b := by
  unfold codeAll code
  rw [List.mem_flatMap]
  refine ⟨_, ?_, List.mem_flatMap.mpr ⟨_, ?_, List.mem_map.mpr ⟨_, ?_, rfl⟩⟩⟩
  · have := words_mem (A := (List.range (b.most.toNat + 1)).map fun i => ((i : Nat) : Int)) (w := b.dl.map s.cnt) fun x hx => by
      obtain ⟨d, hd, rfl⟩ := List.mem_map.mp hx
      have := g.1.cnt d hd
      exact List.mem_map.mpr ⟨(s.cnt d).toNat, List.mem_range.mpr (by omega), by omega⟩
    rw [List.length_map] at this
    exact this
  · have := words_mem (A := [true, false]) (w := b.dl.map fun d => decide (d ∈ s.fresh)) fun x hx => by cases x <;> simp
    rw [List.length_map] at this
    exact this
  · unfold heldAll
    rw [List.mem_flatMap]
    have := nodup_le _ _ g.1.held.1 g.1.held.2
    exact ⟨s.held.length, List.mem_range.mpr (by omega), words_mem g.1.held.2⟩
def codeAll2 (b : Bk) : List (Code × Code) := (codeAll b).flatMap fun x => (codeAll b).map fun y => (x, y)
theorem seen_le {b : Bk} (ok : Ok b) {seen : List Itm} (h : SeenOk b seen) : seen.length ≤ (codeAll2 b).length := by
  have := nodup_leG (codes b seen) (codeAll2 b) h.nd fun x hx => by
    obtain ⟨q, hq, rfl⟩ := List.mem_map.mp hx
    have g := h.good q hq
    exact List.mem_flatMap.mpr ⟨_, code_mem ok g.1, List.mem_map.mpr ⟨_, code_mem ok g.2, rfl⟩⟩
  rw [show (codes b seen).length = seen.length from List.length_map ..] at this
  exact this
theorem bfs_ends {b : Bk} (ok : Ok b) {tb : List (Stp × List Str)} : ∀ (n : Nat) {seen : List Itm} {i : Nat}, (codeAll2 b).length - i ≤ n → i ≤ seen.length → SeenOk b seen → ∃ k r, Bfs b tb k seen i r
  | n, seen, i, hn, hi, h => by
    by_cases e : seen.length = i
    · exact ⟨0, none, .stop e⟩
    · have lt : i < seen.length := by omega
      have hp : seen[i]? = some seen[i] := List.getElem?_eq_getElem lt
      cases c : badP seen[i].2 with
      | true => exact ⟨0, _, .bad hp c⟩
      | false =>
        have le := seen_le ok h
        have h2 := extA_ok ok (tb := tb) (p := seen[i]) (everyB b) (fun st hs => every_in hs) (List.getElem_mem lt) h
        have l2 := extA_len (b := b) (tb := tb) (p := seen[i]) (everyB b) (seen := seen)
        match n with
        | 0 => omega
        | n + 1 =>
          obtain ⟨k, r, d⟩ := bfs_ends ok n (i := i + 1) (by omega) (by omega) h2.1
          exact ⟨k + 1, r, .step hp c d⟩
/-- a book as small as the law draws it for this -/
def Small (b : Bk) : Prop := (b.deeds.length = 1 ∧ b.marks.length ≤ 3) ∨ (b.deeds.length = 2 ∧ b.marks.length ≤ 2 ∧ b.most ≤ 2)
theorem held_len (b : Bk) (n : Nat) (h : b.mn.length ≤ n) (hn : n ≤ 3) : (heldAll b).length ≤ 40 := by
  unfold heldAll
  have : b.mn.length = 0 ∨ b.mn.length = 1 ∨ b.mn.length = 2 ∨ b.mn.length = 3 := by omega
  rcases this with e | e | e | e <;> rw [e] <;> simp [List.range_succ, words_len, e]
theorem held_len2 (b : Bk) (h : b.mn.length ≤ 2) : (heldAll b).length ≤ 7 := by
  unfold heldAll
  have : b.mn.length = 0 ∨ b.mn.length = 1 ∨ b.mn.length = 2 := by omega
  rcases this with e | e | e <;> rw [e] <;> simp [List.range_succ, words_len, e]
theorem codeAll_len (b : Bk) : (codeAll b).length = (cntAll b).length * ((frAll b).length * (heldAll b).length) := by
  unfold codeAll
  rw [flat_len (n := (frAll b).length * (heldAll b).length)]
  intro c _
  rw [flat_len (n := (heldAll b).length)]
  intro f _
  rw [List.length_map]
theorem small_len {b : Bk} (ok : Ok b) (sm : Small b) : (codeAll2 b).length ≤ lim := by
  have e2 : (codeAll2 b).length = (codeAll b).length * (codeAll b).length := by
    unfold codeAll2
    rw [flat_len (n := (codeAll b).length)]
    intro x _
    rw [List.length_map]
  have el := codeAll_len b
  have em : b.mn.length = b.marks.length := by unfold Bk.mn; rw [List.length_map]
  have ed := dl_len b
  have mo := ok.most
  have c1 : (cntAll b).length = (b.most.toNat + 1) ^ b.dl.length := by unfold cntAll; rw [words_len, List.length_map, List.length_range]
  have f1 : (frAll b).length = 2 ^ b.dl.length := by unfold frAll; rw [words_len]; rfl
  have key : (codeAll b).length ≤ 320 := by
    rcases sm with ⟨d1, m3⟩ | ⟨d2, m2, k2⟩
    · have h := held_len b 3 (by omega) (by omega)
      rw [el, c1, f1, ed, d1, Nat.pow_one, Nat.pow_one]
      have : b.most.toNat + 1 ≤ 4 := by omega
      calc (b.most.toNat + 1) * (2 * (heldAll b).length) ≤ 4 * (2 * 40) := Nat.mul_le_mul this (Nat.mul_le_mul (Nat.le_refl _) h)
        _ = 320 := rfl
    · have h := held_len2 b (by omega)
      rw [el, c1, f1, ed, d2]
      have : b.most.toNat + 1 ≤ 3 := by omega
      calc (b.most.toNat + 1) ^ 2 * (2 ^ 2 * (heldAll b).length) ≤ 3 ^ 2 * (2 ^ 2 * 7) := Nat.mul_le_mul (Nat.pow_le_pow_left this 2) (Nat.mul_le_mul (Nat.le_refl _) h)
        _ ≤ 320 := by decide
  rw [e2]
  calc (codeAll b).length * (codeAll b).length ≤ 320 * 320 := Nat.mul_le_mul key key
    _ ≤ lim := by decide
end Dg
end
section
set_option Elab.async false
set_option linter.all false
set_option maxRecDepth 100000
set_option maxHeartbeats 4000000
/-! Marksheld: wrong, 1. -/
namespace Dg
open PySem
open Dy (E Es B S It Tg Tgs Lhs D DSp DK XQ Mp MO DEnds Sd)
open Dy
def lsC (c : Code) : D := .tup [.tup (c.1.map .int), .tup (c.2.1.map .bl), .tup (c.2.2.map .str)]
def keyC (c : Code × Code) : D := .tup [lsC c.1, lsC c.2]
def keyP (b : Bk) (q : PS) : D := .tup [lsT b.dl q.1, lsT b.dl q.2]
theorem lsT_C (b : Bk) (s : LS) : lsT b.dl s = lsC (code b s) := by
  unfold lsT lsC code
  rw [List.map_map, List.map_map]; rfl
theorem keyP_C (b : Bk) (q : PS) : keyP b q = keyC (codeP b q) := by
  unfold keyP keyC codeP
  rw [lsT_C, lsT_C]
theorem eqDs_map {α : Type} [DecidableEq α] (f : α → D) (h : ∀ a c, eqD (f a) (f c) = decide (a = c)) : ∀ l m : List α, eqDs (l.map f) (m.map f) = decide (l = m)
  | [], [] => rfl
  | [], _ :: _ => by simp [eqDs]
  | _ :: _, [] => by simp [eqDs]
  | a :: r, c :: t => by
    rw [List.map_cons, List.map_cons]
    show (eqD (f a) (f c) && eqDs (r.map f) (t.map f)) = _
    rw [h, eqDs_map f h r t, Bool.eq_iff_iff]
    simp
theorem eq_lsC (c d : Code) : eqD (lsC c) (lsC d) = decide (c = d) := by
  obtain ⟨a1, a2, a3⟩ := c
  obtain ⟨b1, b2, b3⟩ := d
  show (eqDs (a1.map .int) (b1.map .int) && (eqDs (a2.map .bl) (b2.map .bl) && (eqDs (a3.map .str) (b3.map .str) && true))) = _
  rw [eqDs_map D.int (fun i j => by show (i == j) = _; rw [Bool.eq_iff_iff]; simp), eqDs_map D.bl (fun i j => by cases i <;> cases j <;> rfl), eqDs_map D.str (fun i j => by show (i == j) = _; rw [Bool.eq_iff_iff]; simp), Bool.eq_iff_iff]
  simp
theorem eq_keyC (c d : Code × Code) : eqD (keyC c) (keyC d) = decide (c = d) := by
  obtain ⟨a1, a2⟩ := c
  obtain ⟨b1, b2⟩ := d
  show (eqD (lsC a1) (lsC b1) && (eqD (lsC a2) (lsC b2) && true)) = _
  rw [eq_lsC, eq_lsC, Bool.eq_iff_iff]
  simp
theorem keyNs_map {α : Type} (f : α → D) (g : α → NestedKey) (h : ∀ a, keyN (f a) = some (g a)) : ∀ l : List α, keyNs (l.map f) = some (l.map g)
  | [] => rfl
  | a :: r => by rw [List.map_cons, keyNs, h, keyNs_map f g h r]; rfl
theorem dep0 {α : Type} (g : α → NestedKey) (h : ∀ a, (g a).depth = 0) : ∀ l : List α, NestedKey.depthAll (l.map g) = 0
  | [] => rfl
  | a :: r => by
    show max (g a).depth (NestedKey.depthAll (r.map g)) = 0
    rw [h, dep0 g h r]; rfl
theorem keyN_lsC (c : Code) : ∃ k : List NestedKey, keyN (lsC c) = some (.tup k) ∧ (NestedKey.tup k).depth ≤ 2 := by
  obtain ⟨a1, a2, a3⟩ := c
  have h1 := keyNs_map D.int (fun i => NestedKey.num i) (fun _ => rfl) a1
  have h2 := keyNs_map D.bl (fun i => NestedKey.num (if i then 1 else 0)) (fun _ => rfl) a2
  have h3 := keyNs_map D.str (fun i => NestedKey.text i) (fun _ => rfl) a3
  refine ⟨[.tup (a1.map fun i => .num i), .tup (a2.map fun i => .num (if i then 1 else 0)), .tup (a3.map fun i => .text i)], ?_, ?_⟩
  · unfold lsC
    simp only [keyN, keyNs, h1, h2, h3, Option.map_some]
  · show max (NestedKey.depthAll (a1.map fun i => NestedKey.num i) + 1) (max (NestedKey.depthAll (a2.map fun i => NestedKey.num (if i then 1 else 0)) + 1) (max (NestedKey.depthAll (a3.map fun i => NestedKey.text i) + 1) 0)) + 1 ≤ 2
    rw [dep0 _ (fun _ => rfl), dep0 _ (fun _ => rfl), dep0 _ (fun _ => rfl)]
    decide
theorem tkB_keyC (c : Code × Code) : tkB (keyC c) = true := by
  obtain ⟨k1, e1, d1⟩ := keyN_lsC c.1
  obtain ⟨k2, e2, d2⟩ := keyN_lsC c.2
  have e : keyNs [lsC c.1, lsC c.2] = some [.tup k1, .tup k2] := by simp only [keyNs, e1, e2]
  unfold keyC tkB
  simp only [e, decide_eq_true_eq]
  show max (NestedKey.tup k1).depth (max (NestedKey.tup k2).depth 0) + 1 ≤ 8
  omega
section
variable {α : Type} (κ : α → Code × Code) (v : α → D)
def keyL (l : List α) : List (D × D) := l.map fun q => (keyC (κ q), v q)
theorem keyL_ok (l : List α) (c : Code × Code) : keyOk (keyC c) (keyL κ v l) = true := by
  unfold keyOk
  rw [tkB_keyC]
  have : (keyL κ v l).all (fun kv => isT kv.1) = true := by
    unfold keyL
    rw [List.all_eq_true]
    intro kv hk
    obtain ⟨a, _, rfl⟩ := List.mem_map.mp hk
    rfl
  rw [this]; simp
theorem keyL_in (c : Code × Code) : ∀ l : List α, (getD (keyL κ v l) (keyC c)).isSome = decide (c ∈ l.map κ)
  | [] => rfl
  | a :: r => by
    show (getD ((keyC (κ a), v a) :: keyL κ v r) (keyC c)).isSome = _
    rw [getD_cons, eq_keyC]
    by_cases z : κ a = c
    · subst z; simp
    · rw [decide_eq_false z, if_neg (by simp), keyL_in c r]
      have : ¬ c = κ a := Ne.symm z
      simp [this]
theorem keyL_none {l : List α} {c : Code × Code} (h : c ∉ l.map κ) : getD (keyL κ v l) (keyC c) = none := by
  have := keyL_in κ v c l
  rw [decide_eq_false h] at this
  cases e : getD (keyL κ v l) (keyC c) with
  | none => rfl
  | some x => rw [e] at this; cases this
theorem keyL_at : ∀ {l : List α} {a : α}, (l.map κ).Nodup → a ∈ l → getD (keyL κ v l) (keyC (κ a)) = some (v a)
  | [], a, _, h => nomatch h
  | x :: r, a, nd, h => by
    show getD ((keyC (κ x), v x) :: keyL κ v r) (keyC (κ a)) = _
    have nd' := List.nodup_cons.mp nd
    rw [getD_cons, eq_keyC]
    rcases List.mem_cons.mp h with e | h
    · subst e; simp
    · have ne : κ x ≠ κ a := fun e => nd'.1 (e ▸ List.mem_map_of_mem h)
      rw [decide_eq_false ne, if_neg (by simp)]
      exact keyL_at nd'.2 h
theorem fIn_keyL {neg : Bool} {l : List α} {c : Code × Code} {M : Mp} {Q : DK} {x : D} (h : dctOf M x = some (keyL κ v l)) : fIn neg (keyC c) x M Q = Q (.bl (if neg then !decide (c ∈ l.map κ) else decide (c ∈ l.map κ))) M := by
  have e : inD M (keyC c) x = some (decide (c ∈ l.map κ)) := by
    unfold inD
    rw [h]
    simp only [keyL_ok, if_true, keyL_in]
  unfold fIn
  rw [e]
end
def ansD : Option (List Stp) → D
  | none => .non
  | some l => .tup (l.map stpD)
def rowsD (b : Bk) (seen : List Itm) : List (D × D) := keyL (fun q : Itm => codeP b q.2) (fun q => .tup (q.1.map stpD)) seen
def waitD (b : Bk) (seen : List Itm) : List D := seen.map fun q => keyC (codeP b q.2)
theorem St2.le {M M' : Mp} {p q : Addr} {o u : MO} (s : St2 M M' p q o u) (hp : M p = none) (hq : M q = none) : LeM M M' := fun a x e => by
  have np : a ≠ p := fun z => by subst z; rw [hp] at e; cases e
  have nq : a ≠ q := fun z => by subst z; rw [hq] at e; cases e
  rw [s.ot a np nq]; exact e
theorem St2.gone {M M' : Mp} {p q : Addr} {o u : MO} (s : St2 M M' p q o u) (n : p ≠ q) (hp : M p = none) (hq : M q = none) : delM (delM M' p) q = M := by
  funext a
  by_cases z : a = q
  · subst z; rw [delM_same, hq]
  · rw [delM_ne z]
    by_cases y : a = p
    · subst y; rw [delM_same, hp]
    · rw [delM_ne y]; exact s.ot a y z
/-- a table of steps stands as x, whatever comes on top -/
structure TbAt (M : Mp) (x : D) (tb : List (Stp × List Str)) : Prop where
  d : ∀ M', LeM M M' → dctOf M' x = some (tblD tb)
  t : ∀ M', LeM M M' → tyD M' x = some "dict"
theorem TbAt.up {M M' : Mp} {x : D} {tb : List (Stp × List Str)} (h : TbAt M x tb) (l : LeM M M') : TbAt M' x tb := ⟨fun M2 l2 => h.d M2 (l.trans l2), fun M2 l2 => h.t M2 (l.trans l2)⟩
section
variable {b : Bk} {tb : List (Stp × List Str)} {c : Str → DSp} {Q : DK} {E : XQ} {M : Mp} {p pr pw : Addr} {x st0 : Dy.D}
def wrV (p pr pw : Addr) (x st0 : Dy.D) (i : Int) (o6 o7 o8 o9 : Option Dy.D) : Sd := [some (.ref p), some x, some st0, some (.ref pr), some (.ref pw), some (.int i), o6, o7, o8, o9]
theorem wr_one (hc : c "led_to" = spLedTo) (hc2 : c "led_with" = spLedWith) (ok : Ok b) (hb : BkAt M p b) (hx : TbAt M x tb) (hr : M pr = none) (hw : M pw = none) (n : pr ≠ pw) {M' : Mp} {acc : List Itm} {it : Itm} {st : Stp} (hst : StpIn b.dl st) (so : SeenOk b acc) (hit : it ∈ acc) (len : acc.length ≤ lim) {i : Int} {o8 o9 : Option Dy.D} (J : DEnds)
    (s : St2 M M' pr pw (.dct (rowsD b acc)) (.lst (waitD b acc)))
    (nxt : ∀ M'' o8 o9, St2 M M'' pr pw (.dct (rowsD b (ext1 b tb it acc st))) (.lst (waitD b (ext1 b tb it acc st))) → J.nx (wrV p pr pw x st0 i (some (keyP b it.2)) (some (stpD st)) o8 o9) M'') :
    wB E (b_wrong_5 c) J (wrV p pr pw x st0 i (some (keyP b it.2)) (some (stpD st)) o8 o9) M' := by
  have hz : lim + 1000 ≤ sizeLine := by decide
  have le := s.le hr hw
  have g := so.good it hit
  have k0 : L2.atI [lsT b.dl it.2.1, lsT b.dl it.2.2] 0 = some (lsT b.dl it.2.1) := by rfl
  have k1 : L2.atI [lsT b.dl it.2.1, lsT b.dl it.2.2] 1 = some (lsT b.dl it.2.2) := by rfl
  simp only [b_wrong_5, wrV, keyP, wB, wS, wE, wEs, wIt, wT, dB, wAndT, wOrT, wAnd, wOr, wIfs, dVar, startD, endsOf, wTg, tgSet, List.replicate, List.length, List.map, List.cons_append, List.nil_append, List.getElem?_cons_zero, List.getElem?_cons_succ, List.set_cons_zero, List.set_cons_succ, fCmp, Bool.false_eq_true, if_false, if_true, fIx_tp k0, fIx_tp k1, hc, hc2]
  refine ⟨b, p, it.2.1, st, rfl, hb.up le, ok, hst, g.1.1, g.1.2, ?_⟩
  have hx' := hx.up le
  have wth : ∀ K : DK, (match afterL b it.2.2 st (someOf b tb st) with
      | none => K .non M'
      | some (s', _) => K (lsT b.dl s') M') → spLedWith [.ref p, x, lsT b.dl it.2.2, stpD st] M' K E := fun K h => ⟨b, p, it.2.2, st, tb, x, rfl, hb.up le, hx'.t M' (LeM.refl _), hx'.d, hx'.t, ok, hst, g.2.1, g.2.2, h⟩
  unfold ext1 mvP at nxt
  cases e1 : ledL b it.2.1 st with
  | none =>
    rw [e1] at nxt
    refine wth _ ?_
    cases e2 : afterL b it.2.2 st (someOf b tb st) with
    | none =>
      simp only [b_wrong_4, wB, wS, wE, wEs, wIt, wT, dB, wAndT, wOrT, wAnd, wOr, wIfs, dVar, startD, endsOf, wTg, tgSet, List.replicate, List.length, List.map, List.cons_append, List.nil_append, List.getElem?_cons_zero, List.getElem?_cons_succ, List.set_cons_zero, List.set_cons_succ, fCmp, Bool.false_eq_true, if_false, if_true, dCmp, dIs, isNone, true_and, Bool.not_true]
      exact nxt M' _ _ s
    | some r =>
      obtain ⟨s', out⟩ := r
      simp only [b_wrong_4, wB, wS, wE, wEs, wIt, wT, dB, wAndT, wOrT, wAnd, wOr, wIfs, dVar, startD, endsOf, wTg, tgSet, List.replicate, List.length, List.map, List.cons_append, List.nil_append, List.getElem?_cons_zero, List.getElem?_cons_succ, List.set_cons_zero, List.set_cons_succ, fCmp, Bool.false_eq_true, if_false, if_true, dCmp, dIs, isNone, true_and, Bool.not_true]
      exact nxt M' _ _ s
  | some a =>
    rw [e1] at nxt
    refine wth _ ?_
    cases e2 : afterL b it.2.2 st (someOf b tb st) with
    | none =>
      rw [e2] at nxt
      have t1 : isNone (lsT b.dl a) = false := by rfl
      simp only [b_wrong_4, wB, wS, wE, wEs, wIt, wT, dB, wAndT, wOrT, wAnd, wOr, wIfs, dVar, startD, endsOf, wTg, tgSet, List.replicate, List.length, List.map, List.cons_append, List.nil_append, List.getElem?_cons_zero, List.getElem?_cons_succ, List.set_cons_zero, List.set_cons_succ, fCmp, Bool.false_eq_true, if_false, if_true, dCmp, dIs, t1, true_and, Bool.not_false, isNone, Bool.not_true]
      exact nxt M' _ _ s
    | some r =>
      obtain ⟨s', out⟩ := r
      rw [e2] at nxt
      have t1 : isNone (lsT b.dl a) = false := by rfl
      have t2 : isNone (lsT b.dl s') = false := by rfl
      have ek : Dy.D.tup [lsT b.dl a, lsT b.dl s'] = keyC (codeP b (a, s')) := keyP_C b (a, s')
      have dr : dctOf M' (.ref pr) = some (keyL (fun q : Itm => codeP b q.2) (fun q => .tup (q.1.map stpD)) acc) := by
        simp only [dctOf, s.ep]; rfl
      have lz : acc.length < sizeLine := by omega
      simp only [b_wrong_4, wB, wS, wE, wEs, wIt, wT, dB, wAndT, wOrT, wAnd, wOr, wIfs, dVar, startD, endsOf, wTg, tgSet, List.replicate, List.length, List.map, List.cons_append, List.nil_append, List.getElem?_cons_zero, List.getElem?_cons_succ, List.set_cons_zero, List.set_cons_succ, fCmp, Bool.false_eq_true, if_false, if_true, dCmp, dIs, t1, t2, true_and, Bool.not_false]
      refine ⟨by omega, ?_⟩
      rw [ek, fIn_keyL _ _ dr]
      simp only [if_true]
      by_cases hin : codeP b (a, s') ∈ codes b acc
      · have : decide (codeP b (a, s') ∈ acc.map fun q : Itm => codeP b q.2) = true := decide_eq_true hin
        rw [this]
        simp only [Bool.not_true, Bool.false_eq_true, if_false]
        simp only [hin, if_true] at nxt
        exact nxt M' _ _ s
      · have : decide (codeP b (a, s') ∈ acc.map fun q : Itm => codeP b q.2) = false := decide_eq_false hin
        rw [this]
        simp only [Bool.not_false, if_true]
        simp only [hin, if_false] at nxt
        have g1 : keyOk (keyC (codeP b it.2)) (rowsD b acc) = true := keyL_ok _ _ _ _
        have g2 : getD (rowsD b acc) (keyC (codeP b it.2)) = some (.tup (it.1.map stpD)) := keyL_at (fun q : Itm => codeP b q.2) _ so.nd hit
        have ei : Dy.D.tup [lsT b.dl it.2.1, lsT b.dl it.2.2] = keyC (codeP b it.2) := keyP_C b it.2
        have sq : seqOf M' (.ref pr) = none := by simp only [seqOf, s.ep]
        have lp := so.len it hit
        simp only [b_wrong_3, wB, wS, wE, wEs, wIt, wT, dB, wAndT, wOrT, wAnd, wOr, wIfs, dVar, startD, endsOf, wTg, tgSet, List.replicate, List.length, List.map, List.cons_append, List.nil_append, List.getElem?_cons_zero, List.getElem?_cons_succ, List.set_cons_zero, List.set_cons_succ, fCmp, Bool.false_eq_true, if_false, if_true, ek, ei, fIx_dc sq dr g1 g2, seqOf, fSet, s.ep]
        refine ⟨by simp; omega, by omega, keyL_ok _ _ _ _, by unfold rowsD keyL; rw [List.length_map]; exact lz, ?_⟩
        have pn : putD (rowsD b acc) (keyC (codeP b (a, s'))) (.tup (it.1.map stpD ++ [stpD st])) = rowsD b (acc ++ [(it.1 ++ [st], (a, s'))]) := by
          have gn : getD (rowsD b acc) (keyC (codeP b (a, s'))) = none := keyL_none (fun q : Itm => codeP b q.2) _ hin
          rw [putD_new _ _ _ gn]
          unfold rowsD keyL
          simp
        rw [pn]
        have s1 := s.p n (.dct (rowsD b (acc ++ [(it.1 ++ [st], (a, s'))])))
        generalize updM M' pr _ = M2 at s1
        simp only [b_wrong_2, wB, wS, wE, wEs, wIt, wT, dB, wAndT, wOrT, wAnd, wOr, wIfs, dVar, startD, endsOf, wTg, tgSet, List.replicate, List.length, List.map, List.cons_append, List.nil_append, List.getElem?_cons_zero, List.getElem?_cons_succ, List.set_cons_zero, List.set_cons_succ, fCmp, Bool.false_eq_true, if_false, if_true, Mth.T, tyD, s1.eq, dMth, mAppend, ek]
        refine ⟨by first | rfl | simp, by omega, by unfold waitD; rw [List.length_map]; exact lz, ?_⟩
        have s2 := s1.q n (.lst (waitD b (acc ++ [(it.1 ++ [st], (a, s'))])))
        have ew : waitD b acc ++ [keyC (codeP b (a, s'))] = waitD b (acc ++ [(it.1 ++ [st], (a, s'))]) := by unfold waitD; simp
        rw [ew]
        have := nxt _ (some (lsT b.dl a)) (some (lsT b.dl s')) s2
        simp only [wrV, keyP, ei] at this
        exact this
end
end Dg
end
section
set_option Elab.async false
set_option linter.all false
set_option maxRecDepth 100000
set_option maxHeartbeats 4000000
/-! Marksheld: wrong, 2. -/
namespace Dg
open PySem
open Dy (E Es B S It Tg Tgs Lhs D DSp DK XQ Mp MO DEnds Sd)
open Dy
theorem fNe_heT {a d : List Str} {M : Mp} {Q : DK} (h : Q (.bl (!decide (a = d))) M) : fNe (heT a) (heT d) M Q := by
  show dEq true (heT a) (heT d) M Q
  have e : eqD (Dy.top M (heT a)) (Dy.top M (heT d)) = decide (a = d) := eqDs_map D.str (fun i j => by show (i == j) = _; rw [Bool.eq_iff_iff]; simp) a d
  have p : ∀ l, Dy.plain (Dy.top M (heT l)) = true := fun l => plains_str l
  refine ⟨p a, p d, .inl ?_, ?_⟩
  · show deps (a.map D.str) + 1 ≤ 60
    rw [deps_str]; decide
  · rw [e]; exact h
theorem held_ls {dl : List Str} {s : LS} : ∃ l, lsT dl s = .tup l ∧ L2.atI l 2 = some (heT s.held) := ⟨_, rfl, by rfl⟩
section
variable {b : Bk} {tb : List (Stp × List Str)} {c : Str → DSp} {Q : DK} {E : XQ} {M : Mp} {p pr pw : Addr} {x st0 : Dy.D}
theorem wr_turn (hc : c "led_to" = spLedTo) (hc2 : c "led_with" = spLedWith) (hc3 : c "steps_of" = spSteps) (ok : Ok b) (sl : (codeAll2 b).length ≤ lim) (hb : BkAt M p b) (hx : TbAt M x tb) (hr : M pr = none) (hw : M pw = none) (n : pr ≠ pw) {M' : Mp} {seen : List Itm} {it : Itm} {i : Nat} (so : SeenOk b seen) (hi : seen[i]? = some it) {o6 o7 o8 o9 : Option Dy.D} (J : DEnds)
    (s : St2 M M' pr pw (.dct (rowsD b seen)) (.lst (waitD b seen)))
    (bad : badP it.2 = true → J.rt (ansD (some it.1)) M)
    (nxt : badP it.2 = false → ∀ M'' o6 o7 o8 o9, St2 M M'' pr pw (.dct (rowsD b (extA b tb it seen (everyB b)))) (.lst (waitD b (extA b tb it seen (everyB b)))) → J.nx (wrV p pr pw x st0 ((i + 1 : Nat) : Int) o6 o7 o8 o9) M'') :
    wB E (b_wrong_10 c) J (wrV p pr pw x st0 (i : Int) o6 o7 o8 o9) M' := by
  have hz : lim + 1000 ≤ sizeLine := by decide
  have le := s.le hr hw
  have hit := List.mem_of_getElem? hi
  have aw : L2.atI (waitD b seen) (i : Int) = some (keyP b it.2) := by
    rw [atI_nat, waitD, List.getElem?_map, hi, Option.map_some, keyP_C]
  have iw : ∀ Q : DK, fIx (.ref pw) (.int (i : Int)) M' Q = Q (keyP b it.2) M' := fun Q => by
    unfold fIx ixD
    simp only [seqOf, s.eq, aw]
  have k0 : L2.atI [lsT b.dl it.2.1, lsT b.dl it.2.2] 0 = some (lsT b.dl it.2.1) := by rfl
  have k1 : L2.atI [lsT b.dl it.2.1, lsT b.dl it.2.2] 1 = some (lsT b.dl it.2.2) := by rfl
  obtain ⟨l1, e1, h1⟩ := held_ls (dl := b.dl) (s := it.2.1)
  obtain ⟨l2, e2, h2⟩ := held_ls (dl := b.dl) (s := it.2.2)
  simp only [b_wrong_10, wrV, wB, wS, wE, wTg, tgSet, dVar, List.set_cons_zero, List.set_cons_succ, List.getElem?_cons_zero, List.getElem?_cons_succ, iw]
  simp only [b_wrong_9, wB, wS, wE, dVar, List.set_cons_zero, List.set_cons_succ, List.getElem?_cons_zero, List.getElem?_cons_succ]
  simp only [b_wrong_8, wB, wS, wT, dB, wE, dVar, List.getElem?_cons_zero, List.getElem?_cons_succ, fCmp, keyP, fIx_tp k0, fIx_tp k1]
  rw [e1]
  simp only [fIx_tp h1]
  rw [← e1, e2]
  simp only [fIx_tp h2]
  rw [← e2]
  refine fNe_heT ?_
  have eb : (!decide (it.2.1.held = it.2.2.held)) = badP it.2 := rfl
  simp only [eb]
  cases hbad : badP it.2 with
  | true =>
    simp only [if_true]
    have g1 : keyOk (keyC (codeP b it.2)) (rowsD b seen) = true := keyL_ok _ _ _ _
    have g2 : getD (rowsD b seen) (keyC (codeP b it.2)) = some (.tup (it.1.map stpD)) := keyL_at (fun q : Itm => codeP b q.2) _ so.nd hit
    have ei : Dy.D.tup [lsT b.dl it.2.1, lsT b.dl it.2.2] = keyC (codeP b it.2) := keyP_C b it.2
    have ew : (delM M' pr) pw = some (.lst (waitD b seen)) := by rw [delM_ne (Ne.symm n)]; exact s.eq
    simp only [b_wrong_7, wB, wS, wE, dVar, List.set_cons_zero, List.set_cons_succ, List.getElem?_cons_zero, List.getElem?_cons_succ, fzK, s.ep, ew, ei, fIx_dt g1 g2, s.gone n hr hw]
    exact bad hbad
  | false =>
    simp only [Bool.false_eq_true, if_false]
    simp only [b_wrong_6, wB, wS, wIt, wE, wEs, dVar, List.getElem?_cons_zero, List.getElem?_cons_succ, hc3]
    refine ⟨b, p, rfl, hb.up le, ok, ?_⟩
    simp only [srcOf, Src.items]
    refine forN_map stpD (fun rest σ M2 => (∀ st ∈ rest, StpIn b.dl st) ∧ ∃ acc, SeenOk b acc ∧ it ∈ acc ∧ extA b tb it acc rest = extA b tb it seen (everyB b) ∧ St2 M M2 pr pw (.dct (rowsD b acc)) (.lst (waitD b acc)) ∧ ∃ o7 o8 o9, σ = wrV p pr pw x st0 ((i + 1 : Nat) : Int) (some (keyP b it.2)) o7 o8 o9) ?_ ?_ (everyB b) _ _ ⟨fun st h => every_in h, seen, so, hit, rfl, s, o7, o8, o9, rfl⟩
    · rintro st sts σ M2 K ⟨hst, acc, sa, ia, ea, s2, o7, o8, o9, rfl⟩ hK
      have hs := hst st List.mem_cons_self
      have h3 := ext1_ok ok (tb := tb) hs ia sa
      simp only [wTg, tgSet, wrV, List.set_cons_zero, List.set_cons_succ]
      refine wr_one hc hc2 ok hb hx hr hw n (st0 := st0) (i := ((i + 1 : Nat) : Int)) hs sa ia (Nat.le_trans (seen_le ok sa) sl) _ s2 fun M3 o8 o9 s3 => ?_
      exact hK _ _ ⟨fun y hy => hst y (List.mem_cons_of_mem _ hy), _, h3.1, h3.2, ea, s3, _, _, _, rfl⟩
    · rintro σ M2 ⟨_, acc, sa, ia, ea, s2, o7, o8, o9, rfl⟩
      have ea : acc = _ := ea
      rw [ea] at s2
      exact nxt hbad _ _ _ _ _ s2
theorem wr_loop (hc : c "led_to" = spLedTo) (hc2 : c "led_with" = spLedWith) (hc3 : c "steps_of" = spSteps) (ok : Ok b) (sl : (codeAll2 b).length ≤ lim) (hb : BkAt M p b) (hx : TbAt M x tb) (hr : M pr = none) (hw : M pw = none) (n : pr ≠ pw) (J : DEnds) {r : Option (List Stp)}
    (hrt : ∀ l, r = some l → J.rt (ansD (some l)) M) (hnx : r = none → ∀ M' seen i o6 o7 o8 o9, St2 M M' pr pw (.dct (rowsD b seen)) (.lst (waitD b seen)) → J.nx (wrV p pr pw x st0 i o6 o7 o8 o9) M') : ∀ {k : Nat} {seen : List Itm} {i : Nat}, Bfs b tb k seen i r → SeenOk b seen → ∀ {M' : Mp} {o6 o7 o8 o9 : Option Dy.D}, St2 M M' pr pw (.dct (rowsD b seen)) (.lst (waitD b seen)) →
    whileN (wT E (.cmp .Lt (.var 5) (.bif .len (.cons (.var 4) .nil)))) (wB E (b_wrong_10 c)) J (k + 1) (wrV p pr pw x st0 (i : Int) o6 o7 o8 o9) M' := by
  intro k seen i d
  have cond : ∀ {seen : List Itm} {i : Nat} {M' : Mp} {o6 o7 o8 o9 : Option Dy.D} (K : Bool → Mp → Prop), St2 M M' pr pw (.dct (rowsD b seen)) (.lst (waitD b seen)) → K (decide ((i : Int) < (seen.length : Int))) M' → wT E (.cmp .Lt (.var 5) (.bif .len (.cons (.var 4) .nil))) (wrV p pr pw x st0 (i : Int) o6 o7 o8 o9) M' K := fun K s h => by
    simp only [wrV, wT, dB, wE, wEs, dVar, List.getElem?_cons_zero, List.getElem?_cons_succ, fCmp, dBif, fLen, lenD, seqOf, s.eq, dOrd]
    unfold waitD
    rw [List.length_map]
    exact h
  induction d with
  | stop e =>
    intro so M' o6 o7 o8 o9 s
    unfold whileN
    refine cond _ s ?_
    rw [decide_eq_false (by omega)]
    simp only [Bool.false_eq_true, if_false]
    exact hnx rfl _ _ _ _ _ _ _ s
  | bad hi hbad =>
    intro so M' o6 o7 o8 o9 s
    have lt := (List.getElem?_eq_some_iff.mp hi).1
    unfold whileN
    refine cond _ s ?_
    rw [decide_eq_true (by omega)]
    simp only [if_true]
    exact wr_turn hc hc2 hc3 ok sl hb hx hr hw n so hi _ s (fun _ => hrt _ rfl) fun h => by rw [hbad] at h; cases h
  | step hi hbad d ih =>
    intro so M' o6 o7 o8 o9 s
    have lt := (List.getElem?_eq_some_iff.mp hi).1
    have hit := List.mem_of_getElem? hi
    unfold whileN
    refine cond _ s ?_
    rw [decide_eq_true (by omega)]
    simp only [if_true]
    refine wr_turn hc hc2 hc3 ok sl hb hx hr hw n so hi _ s (fun h => by rw [hbad] at h; cases h) fun _ M2 o6 o7 o8 o9 s2 => ?_
    exact ih hrt hnx (extA_ok ok (everyB b) (fun st hs => every_in hs) hit so).1 s2
def start0 : List Itm := [([], (LS.zero, LS.zero))]
theorem start_ok (ok : Ok b) : SeenOk b start0 where
  good := fun q hq => by
    unfold start0 at hq
    rw [List.mem_singleton] at hq; subst hq
    exact ⟨Good.zero ok, Good.zero ok⟩
  nd := by unfold codes start0; simp
  len := fun q hq => by
    unfold start0 at hq ⊢
    rw [List.mem_singleton] at hq; subst hq
    simp
end
def spWrong : DSp := fun ds M Q _ => ∃ b p tb x k r, ds = [.ref p, x] ∧ BkAt M p b ∧ TbAt M x tb ∧ Ok b ∧ (codeAll2 b).length ≤ lim ∧ Bfs b tb k start0 0 r ∧ Q (ansD r) M
theorem w_wrong (c : Str → DSp) (hc : c "led_to" = spLedTo) (hc2 : c "led_with" = spLedWith) (hc3 : c "steps_of" = spSteps) (hc4 : c "first_standing" = spFirst) (ds : List D) (M : Mp) (Q : DK) (E : XQ) (h : spWrong ds M Q E) : wB E (b_wrong c) (endsOf Q) (startD N_wrong ds) M := by
  obtain ⟨b, p, tb, x, k, r, rfl, hb, hx, ok, sl, d, hQ⟩ := h
  have eN : N_wrong.length = 10 := by rfl
  have hz : lim + 1000 ≤ sizeLine := by decide
  simp only [b_wrong, wB, wS, wE, wEs, wIt, wT, dB, wAndT, wOrT, wAnd, wOr, wIfs, dVar, startD, endsOf, wTg, tgSet, List.replicate, List.length, List.map, List.cons_append, List.nil_append, List.getElem?_cons_zero, List.getElem?_cons_succ, List.set_cons_zero, List.set_cons_succ, fCmp, Bool.false_eq_true, if_false, if_true, eN, hc4]
  refine ⟨b, p, rfl, hb, ok, b, p, rfl, hb, ok, by omega, ?_⟩
  have ek : Dy.D.tup [lsT b.dl LS.zero, lsT b.dl LS.zero] = keyC (codeP b (LS.zero, LS.zero)) := keyP_C b (LS.zero, LS.zero)
  simp only [b_wrong_12, wB, wS, wE, wEs, wPs, dVar, List.getElem?_cons_zero, List.getElem?_cons_succ, fDisp, mkL, newL, List.length]
  intro pr hpr
  rw [ek]
  refine ⟨by omega, updM_same, by omega, by simp [tkB_keyC], by omega, ?_⟩
  rw [updM_updM]
  intro pw hpw
  have n : pr ≠ pw := fun e => by subst e; rw [updM_same] at hpw; cases hpw
  have hw : M pw = none := by rw [updM_ne (Ne.symm n)] at hpw; exact hpw
  have s : St2 M (updM (updM M pr (.dct (rowsD b start0))) pw (.lst (waitD b start0))) pr pw (.dct (rowsD b start0)) (.lst (waitD b start0)) :=
    ⟨by rw [updM_ne n, updM_same], updM_same, fun a h1 h2 => by rw [updM_ne h2, updM_ne h1]⟩
  have e1 : putAll [] [(keyC (codeP b (LS.zero, LS.zero)), D.tup [])] = rowsD b start0 := rfl
  have e2 : [keyC (codeP b (LS.zero, LS.zero))] = waitD b start0 := rfl
  rw [e1, e2]
  generalize updM (updM M pr _) pw _ = M1 at s
  simp only [List.set_cons_zero, List.set_cons_succ, b_wrong_11, wB, wS]
  refine ⟨k + 1, wr_loop (i := 0) hc hc2 hc3 ok sl hb hx hpr hw n _ (fun l e => by rw [e] at hQ; exact hQ) (fun e M' seen i o6 o7 o8 o9 s2 => ?_) d (start_ok ok) s⟩
  rw [e] at hQ
  have ew : (delM M' pr) pw = some (.lst (waitD b seen)) := by rw [delM_ne (Ne.symm n)]; exact s2.eq
  simp only [b_wrong_1, wrV, wB, wS, wE, dVar, List.set_cons_zero, List.set_cons_succ, List.getElem?_cons_zero, List.getElem?_cons_succ, fzK, s2.ep, ew, s2.gone n hpr hw]
  exact hQ
end Dg
end
section
set_option Elab.async false
set_option linter.all false
set_option maxRecDepth 100000
set_option maxHeartbeats 4000000
/-! Marksheld: the law's own walk of pairs. -/
namespace Dg
open PySem
open Dy (E Es B S It Tg Tgs Lhs D DSp DK XQ Mp MO DEnds Sd)
open Dy
def foundD (b : Bk) (seen : List Itm) : List (D × D) := keyL (fun q : Itm => codeP b q.2) (fun _ => .bl true) seen
def lawItm (b : Bk) (q : Itm) : D := .lst [.tup (q.1.map stpD), .tup [lsD b.dl q.2.1, lsD b.dl q.2.2]]
theorem fNe_strs {a d : List Str} {M : Mp} {Q : DK} (h : Q (.bl (!decide (a = d))) M) : fNe (.lst (a.map D.str)) (.lst (d.map D.str)) M Q := by
  cases d with
  | nil =>
    show (match lstOf M (.lst (a.map D.str)) with | some l => Q (.bl (!l.isEmpty)) M | none => False)
    simp only [lstOf]
    have : (List.map D.str a).isEmpty = decide (a = []) := by cases a <;> simp
    rw [this]; exact h
  | cons y r =>
    show dEq true (.lst (a.map D.str)) (.lst ((y :: r).map D.str)) M Q
    have e : eqD (Dy.top M (.lst (a.map D.str))) (Dy.top M (.lst ((y :: r).map D.str))) = decide (a = y :: r) := eqDs_map D.str (fun i j => by show (i == j) = _; rw [Bool.eq_iff_iff]; simp) a (y :: r)
    refine ⟨plains_str _, plains_str _, .inl ?_, ?_⟩
    · show deps (a.map D.str) + 1 ≤ 60
      rw [deps_str]; decide
    · rw [e]; exact h
section
variable {b : Bk} {tb : List (Stp × List Str)} {c : Str → DSp} {Q : DK} {E : XQ} {M : Mp} {pf pl : Addr} {x st0 : Dy.D}
def lsV (b : Bk) (x st0 : Dy.D) (pf : Addr) (lay : Dy.D) (pl : Addr) (o6 o7 o8 o9 o10 o11 o12 : Option Dy.D) : Sd := [some (tD b), some x, some st0, some (.ref pf), some lay, some (.ref pl), o6, o7, o8, o9, o10, o11, o12]
theorem ls_one (hc : c "_law_names" = spNames) (hc2 : c "_law_led" = spLed) (hc3 : c "_law_after" = spAfter) (hc4 : c "_law_tuple" = spTuple) (ok : Ok b) (hx : TbAt M x tb) (hf : M pf = none) (hl : M pl = none) (n : pf ≠ pl) {M' : Mp} {base lat : List Itm} {it : Itm} {st : Stp} (hst : StpIn b.dl st) (so : SeenOk b (base ++ lat)) (hit : it ∈ base ++ lat) (len : (base ++ lat).length ≤ lim) {lay : Dy.D} {o9 o10 o11 o12 : Option Dy.D} (J : DEnds)
    (s : St2 M M' pf pl (.dct (foundD b (base ++ lat))) (.lst (lat.map (lawItm b))))
    (nxt : ∀ M'' lat' o9 o10 o11 o12, ext1 b tb it (base ++ lat) st = base ++ lat' → St2 M M'' pf pl (.dct (foundD b (base ++ lat'))) (.lst (lat'.map (lawItm b))) → J.nx (lsV b x st0 pf lay pl (some (.tup (it.1.map stpD))) (some (.tup [lsD b.dl it.2.1, lsD b.dl it.2.2])) (some (stpD st)) o9 o10 o11 o12) M'') :
    wB E (b_law_least_9 c) J (lsV b x st0 pf lay pl (some (.tup (it.1.map stpD))) (some (.tup [lsD b.dl it.2.1, lsD b.dl it.2.2])) (some (stpD st)) o9 o10 o11 o12) M' := by
  have hz : lim + 1000 ≤ sizeLine := by decide
  have le := s.le hf hl
  have g := so.good it hit
  have hx' := hx.up le
  have lm := ok.mlen
  have lm2 := ml_len b
  have k0 : L2.atI [lsD b.dl it.2.1, lsD b.dl it.2.2] 0 = some (lsD b.dl it.2.1) := by rfl
  have k1 : L2.atI [lsD b.dl it.2.1, lsD b.dl it.2.2] 1 = some (lsD b.dl it.2.2) := by rfl
  simp only [b_law_least_9, lsV, wB, wS, wE, wEs, wIt, dVar, List.getElem?_cons_zero, List.getElem?_cons_succ, hc]
  refine ⟨b, rfl, ok, ?_⟩
  simp only [srcOf, Src.items]
  intro A hA
  refine lc_map Dy.D.str (fun y => if decide (y ∈ tget tb st) = true then some (.str y) else none) hA b.ml [] (by simp only [List.length_nil]; omega) ?_ ?_ _
  · intro y hy M2 hM K hK
    simp only [wipeD, wB, wS, wE, wEs, wIt, wT, dB, wAndT, wOrT, wAnd, wOr, wIfs, dVar, startD, endsOf, wTg, tgSet, List.replicate, List.length, List.map, List.cons_append, List.nil_append, List.getElem?_cons_zero, List.getElem?_cons_succ, List.set_cons_zero, List.set_cons_succ, fCmp, Bool.false_eq_true, if_false, if_true, Mth.T, hx'.t M2 hM, true_and, dMth, fGet, hx'.d M2 hM, tbl_ok, tbl_get, fIn_tstrs]
    refine ⟨by omega, ?_⟩
    cases e2 : decide (y ∈ tget tb st) with
    | true => rw [e2] at hK; exact hK
    | false => rw [e2] at hK; exact hK
  rw [List.nil_append, fm_filter]
  simp only [wTg, tgSet, List.set_cons_zero, List.set_cons_succ]
  simp only [b_law_least_8, wB, wS, wE, wEs, wIt, wT, dB, wAndT, wOrT, wAnd, wOr, wIfs, dVar, startD, endsOf, wTg, tgSet, List.replicate, List.length, List.map, List.cons_append, List.nil_append, List.getElem?_cons_zero, List.getElem?_cons_succ, List.set_cons_zero, List.set_cons_succ, fCmp, Bool.false_eq_true, if_false, if_true, fIx_tp k0, fIx_tp k1, hc2, hc3]
  refine ⟨b, it.2.1, st, rfl, ok, hst, by have := g.1.1.flen ok; omega, g.1.1.held.len ok, ?_⟩
  have sl4 : (someOf b tb st).length ≤ 4 := by
    have := List.length_filter_le (fun y => decide (y ∈ tget tb st)) b.ml
    unfold someOf; omega
  have aft : ∀ K : DK, (match afterL b it.2.2 st (someOf b tb st) with
      | none => K .non M'
      | some (s', _) => K (lsD b.dl s') M') → spAfter [tD b, lsD b.dl it.2.2, stpD st, .lst ((b.ml.filter fun y => decide (y ∈ tget tb st)).map .str)] M' (fun d M1 => fIx d (.int 0) M1 (fzK K)) E := fun K h => by
    refine ⟨b, it.2.2, st, someOf b tb st, rfl, ok, hst, some_mn, sl4, by have := g.2.1.flen ok; omega, g.2.1.held.len ok, ?_⟩
    cases e : afterL b it.2.2 st (someOf b tb st) with
    | none =>
      rw [e] at h
      have a0 : L2.atI [Dy.D.non, Dy.D.lst []] 0 = some .non := by rfl
      simp only [fIx_ls a0, fzK]
      exact h
    | some r =>
      rw [e] at h
      obtain ⟨s', out⟩ := r
      intro q hq
      have a0 : L2.atI [Dy.D.ref q, Dy.D.lst (out.map .str)] 0 = some (.ref q) := by rfl
      simp only [fIx_ls a0, fzK, updM_same]
      rw [delM_updM hq]
      exact h
  unfold ext1 mvP at nxt
  cases e1 : ledL b it.2.1 st with
  | none =>
    rw [e1] at nxt
    have same := fun o9 o10 o11 o12 => nxt M' lat o9 o10 o11 o12 rfl s
    refine aft _ ?_
    cases e2 : afterL b it.2.2 st (someOf b tb st) with
    | none =>
      have a0 : L2.atI [Dy.D.non, Dy.D.non] 0 = some .non := by rfl
      refine ⟨by omega, ?_⟩
      simp only [b_law_least_7, wB, wS, wE, wEs, wIt, wT, dB, wAndT, wOrT, wAnd, wOr, wIfs, dVar, startD, endsOf, wTg, tgSet, List.replicate, List.length, List.map, List.cons_append, List.nil_append, List.getElem?_cons_zero, List.getElem?_cons_succ, List.set_cons_zero, List.set_cons_succ, fCmp, Bool.false_eq_true, if_false, if_true, fIx_tp a0, dCmp, dIs, isNone, true_and, Bool.not_true]
      exact same _ _ _ _
    | some r =>
      obtain ⟨s', out⟩ := r
      have a0 : L2.atI [Dy.D.non, lsD b.dl s'] 0 = some .non := by rfl
      refine ⟨by omega, ?_⟩
      simp only [b_law_least_7, wB, wS, wE, wEs, wIt, wT, dB, wAndT, wOrT, wAnd, wOr, wIfs, dVar, startD, endsOf, wTg, tgSet, List.replicate, List.length, List.map, List.cons_append, List.nil_append, List.getElem?_cons_zero, List.getElem?_cons_succ, List.set_cons_zero, List.set_cons_succ, fCmp, Bool.false_eq_true, if_false, if_true, fIx_tp a0, dCmp, dIs, isNone, true_and, Bool.not_true]
      exact same _ _ _ _
  | some a =>
    rw [e1] at nxt
    have t1 : isNone (lsD b.dl a) = false := by rfl
    refine aft _ ?_
    cases e2 : afterL b it.2.2 st (someOf b tb st) with
    | none =>
      rw [e2] at nxt
      have same := fun o9 o10 o11 o12 => nxt M' lat o9 o10 o11 o12 rfl s
      have a0 : L2.atI [lsD b.dl a, Dy.D.non] 0 = some (lsD b.dl a) := by rfl
      have a1 : L2.atI [lsD b.dl a, Dy.D.non] 1 = some .non := by rfl
      refine ⟨by omega, ?_⟩
      simp only [b_law_least_7, wB, wS, wE, wEs, wIt, wT, dB, wAndT, wOrT, wAnd, wOr, wIfs, dVar, startD, endsOf, wTg, tgSet, List.replicate, List.length, List.map, List.cons_append, List.nil_append, List.getElem?_cons_zero, List.getElem?_cons_succ, List.set_cons_zero, List.set_cons_succ, fCmp, Bool.false_eq_true, if_false, if_true, fIx_tp a0, fIx_tp a1, dCmp, dIs, t1, isNone, true_and, Bool.not_true, Bool.not_false]
      exact same _ _ _ _
    | some r =>
      obtain ⟨s', out⟩ := r
      rw [e2] at nxt
      have t2 : isNone (lsD b.dl s') = false := by rfl
      have a0 : L2.atI [lsD b.dl a, lsD b.dl s'] 0 = some (lsD b.dl a) := by rfl
      have a1 : L2.atI [lsD b.dl a, lsD b.dl s'] 1 = some (lsD b.dl s') := by rfl
      have ek : Dy.D.tup [lsT b.dl a, lsT b.dl s'] = keyC (codeP b (a, s')) := keyP_C b (a, s')
      have dr : dctOf M' (.ref pf) = some (keyL (fun q : Itm => codeP b q.2) (fun _ => .bl true) (base ++ lat)) := by
        simp only [dctOf, s.ep]; rfl
      have lz : (base ++ lat).length < sizeLine := by omega
      have ll : lat.length < sizeLine := by rw [List.length_append] at lz; omega
      refine ⟨by omega, ?_⟩
      simp only [b_law_least_7, wB, wS, wE, wEs, wIt, wT, dB, wAndT, wOrT, wAnd, wOr, wIfs, dVar, startD, endsOf, wTg, tgSet, List.replicate, List.length, List.map, List.cons_append, List.nil_append, List.getElem?_cons_zero, List.getElem?_cons_succ, List.set_cons_zero, List.set_cons_succ, fCmp, Bool.false_eq_true, if_false, if_true, fIx_tp a0, fIx_tp a1, dCmp, dIs, t1, t2, true_and, Bool.not_false]
      simp only [b_law_least_6, wB, wS, wE, wEs, wIt, wT, dB, wAndT, wOrT, wAnd, wOr, wIfs, dVar, startD, endsOf, wTg, tgSet, List.replicate, List.length, List.map, List.cons_append, List.nil_append, List.getElem?_cons_zero, List.getElem?_cons_succ, List.set_cons_zero, List.set_cons_succ, fCmp, Bool.false_eq_true, if_false, if_true, fIx_tp a0, fIx_tp a1, hc4]
      refine ⟨b, a, rfl, ok, b, s', rfl, ok, by omega, ?_⟩
      rw [ek]
      simp only [b_law_least_5, wB, wS, wE, wEs, wIt, wT, dB, wAndT, wOrT, wAnd, wOr, wIfs, dVar, startD, endsOf, wTg, tgSet, List.replicate, List.length, List.map, List.cons_append, List.nil_append, List.getElem?_cons_zero, List.getElem?_cons_succ, List.set_cons_zero, List.set_cons_succ, fCmp, Bool.false_eq_true, if_false, if_true]
      rw [fIn_keyL _ _ dr]
      simp only [if_true]
      by_cases hin : codeP b (a, s') ∈ codes b (base ++ lat)
      · have : decide (codeP b (a, s') ∈ (base ++ lat).map fun q : Itm => codeP b q.2) = true := decide_eq_true hin
        rw [this]
        simp only [Bool.not_true, Bool.false_eq_true, if_false]
        simp only [hin, if_true] at nxt
        exact nxt M' lat _ _ _ _ rfl s
      · have : decide (codeP b (a, s') ∈ (base ++ lat).map fun q : Itm => codeP b q.2) = false := decide_eq_false hin
        rw [this]
        simp only [Bool.not_false, if_true]
        simp only [hin, if_false] at nxt
        have lp := so.len it hit
        simp only [b_law_least_4, wB, wS, wE, wEs, wIt, wT, dB, wAndT, wOrT, wAnd, wOr, wIfs, dVar, startD, endsOf, wTg, tgSet, List.replicate, List.length, List.map, List.cons_append, List.nil_append, List.getElem?_cons_zero, List.getElem?_cons_succ, List.set_cons_zero, List.set_cons_succ, fCmp, Bool.false_eq_true, if_false, if_true, fSet, s.ep]
        refine ⟨keyL_ok _ _ _ _, by unfold foundD keyL; rw [List.length_map]; exact lz, ?_⟩
        have pn : putD (foundD b (base ++ lat)) (keyC (codeP b (a, s'))) (.bl true) = foundD b (base ++ (lat ++ [(it.1 ++ [st], (a, s'))])) := by
          have gn : getD (foundD b (base ++ lat)) (keyC (codeP b (a, s'))) = none := keyL_none (fun q : Itm => codeP b q.2) _ hin
          rw [putD_new _ _ _ gn]
          unfold foundD keyL
          simp
        rw [pn]
        have s1 := s.p n (.dct (foundD b (base ++ (lat ++ [(it.1 ++ [st], (a, s'))]))))
        generalize updM M' pf _ = M2 at s1
        simp only [b_law_least_3, wB, wS, wE, wEs, wIt, wT, dB, wAndT, wOrT, wAnd, wOr, wIfs, dVar, startD, endsOf, wTg, tgSet, List.replicate, List.length, List.map, List.cons_append, List.nil_append, List.getElem?_cons_zero, List.getElem?_cons_succ, List.set_cons_zero, List.set_cons_succ, fCmp, Bool.false_eq_true, if_false, if_true, Mth.T, tyD, s1.eq, dMth, mAppend, mkL, dBin, dAdd, List.length_map]
        refine ⟨by first | rfl | simp, by omega, by omega, by omega, ll, ?_⟩
        have s2 := s1.q n (.lst ((lat ++ [(it.1 ++ [st], (a, s'))]).map (lawItm b)))
        have ew : lat.map (lawItm b) ++ [Dy.D.lst [Dy.D.tup (it.1.map stpD ++ [stpD st]), Dy.D.tup [lsD b.dl a, lsD b.dl s']]] = (lat ++ [(it.1 ++ [st], (a, s'))]).map (lawItm b) := by
          simp [lawItm]
        rw [ew]
        exact nxt _ _ _ _ _ _ (by rw [List.append_assoc]) s2
end
end Dg
end
section
set_option Elab.async false
set_option linter.all false
set_option maxRecDepth 100000
set_option maxHeartbeats 4000000
/-! Marksheld: the law's own walk of pairs, 2. -/
namespace Dg
open PySem
open Dy (E Es B S It Tg Tgs Lhs D DSp DK XQ Mp MO DEnds Sd)
open Dy
section
variable {b : Bk} {tb : List (Stp × List Str)} {c : Str → DSp} {Q : DK} {E : XQ} {M : Mp} {pf : Addr} {x st0 : Dy.D}
theorem ls_item (hc : c "_law_names" = spNames) (hc2 : c "_law_led" = spLed) (hc3 : c "_law_after" = spAfter) (hc4 : c "_law_tuple" = spTuple) (hc5 : c "_law_every" = spEvery) (ok : Ok b) (sl : (codeAll2 b).length ≤ lim) (hx : TbAt M x tb) {pl : Addr} (hf : M pf = none) (hl : M pl = none) (n : pf ≠ pl) {M' : Mp} {base lat : List Itm} {it : Itm} (so : SeenOk b (base ++ lat)) (hit : it ∈ base ++ lat) {lay : Dy.D} {o8 o9 o10 o11 o12 : Option Dy.D} (J : DEnds)
    (s : St2 M M' pf pl (.dct (foundD b (base ++ lat))) (.lst (lat.map (lawItm b))))
    (bad : badP it.2 = true → J.rt (ansD (some it.1)) M)
    (nxt : badP it.2 = false → ∀ M'' lat' o6 o7 o8 o9 o10 o11 o12, extA b tb it (base ++ lat) (everyB b) = base ++ lat' → St2 M M'' pf pl (.dct (foundD b (base ++ lat'))) (.lst (lat'.map (lawItm b))) → J.nx (lsV b x st0 pf lay pl o6 o7 o8 o9 o10 o11 o12) M'') :
    wB E (b_law_least_12 c) J (lsV b x st0 pf lay pl (some (.tup (it.1.map stpD))) (some (.tup [lsD b.dl it.2.1, lsD b.dl it.2.2])) o8 o9 o10 o11 o12) M' := by
  have le := s.le hf hl
  have k0 : L2.atI [lsD b.dl it.2.1, lsD b.dl it.2.2] 0 = some (lsD b.dl it.2.1) := by rfl
  have k1 : L2.atI [lsD b.dl it.2.1, lsD b.dl it.2.2] 1 = some (lsD b.dl it.2.2) := by rfl
  have I1 : IsLS b.dl it.2.1 M' (lsD b.dl it.2.1) := .inl rfl
  have I2 : IsLS b.dl it.2.2 M' (lsD b.dl it.2.2) := .inl rfl
  simp only [b_law_least_12, lsV, wB, wS, wT, dB, wE, dVar, List.getElem?_cons_zero, List.getElem?_cons_succ, fCmp, fIx_tp k0, fIx_tp k1, I1.held, I2.held]
  refine fNe_strs ?_
  have eb : (!decide (it.2.1.held = it.2.2.held)) = badP it.2 := rfl
  simp only [eb]
  cases hbad : badP it.2 with
  | true =>
    have ew : (delM M' pf) pl = some (.lst (lat.map (lawItm b))) := by rw [delM_ne (Ne.symm n)]; exact s.eq
    simp only [if_true]
    simp only [b_law_least_11, wB, wS, wE, dVar, List.set_cons_zero, List.set_cons_succ, List.getElem?_cons_zero, List.getElem?_cons_succ, fzK, s.ep, ew, s.gone n hf hl]
    exact bad hbad
  | false =>
    simp only [Bool.false_eq_true, if_false]
    simp only [b_law_least_10, wB, wS, wIt, wE, wEs, dVar, List.getElem?_cons_zero, List.getElem?_cons_succ, hc5]
    refine ⟨b, rfl, ok, ?_⟩
    simp only [srcOf, Src.items]
    refine forN_map stpD (fun rest σ M2 => (∀ st ∈ rest, StpIn b.dl st) ∧ ∃ la, SeenOk b (base ++ la) ∧ it ∈ base ++ la ∧ extA b tb it (base ++ la) rest = extA b tb it (base ++ lat) (everyB b) ∧ St2 M M2 pf pl (.dct (foundD b (base ++ la))) (.lst (la.map (lawItm b))) ∧ ∃ o8 o9 o10 o11 o12, σ = lsV b x st0 pf lay pl (some (.tup (it.1.map stpD))) (some (.tup [lsD b.dl it.2.1, lsD b.dl it.2.2])) o8 o9 o10 o11 o12) ?_ ?_ (everyB b) _ _ ⟨fun st h => every_in h, lat, so, hit, rfl, s, o8, o9, o10, o11, o12, rfl⟩
    · rintro st sts σ M2 K ⟨hst, la, sa, ia, ea, s2, o8, o9, o10, o11, o12, rfl⟩ hK
      have hs := hst st List.mem_cons_self
      have h3 := ext1_ok ok (tb := tb) hs ia sa
      simp only [wTg, tgSet, lsV, List.set_cons_zero, List.set_cons_succ]
      refine ls_one hc hc2 hc3 hc4 ok hx hf hl n (st0 := st0) (lay := lay) hs sa ia (Nat.le_trans (seen_le ok sa) sl) _ s2 fun M3 la' o9 o10 o11 o12 e s3 => ?_
      rw [e] at h3
      have ea : extA b tb it (ext1 b tb it (base ++ la) st) sts = extA b tb it (base ++ lat) (everyB b) := ea
      rw [e] at ea
      exact hK _ _ ⟨fun y hy => hst y (List.mem_cons_of_mem _ hy), la', h3.1, h3.2, ea, s3, _, _, _, _, _, rfl⟩
    · rintro σ M2 ⟨_, la, sa, ia, ea, s2, o8, o9, o10, o11, o12, rfl⟩
      have ea : base ++ la = extA b tb it (base ++ lat) (everyB b) := ea
      exact nxt hbad _ la _ _ _ _ _ _ _ ea.symm s2
theorem fNe_nil {l : List Dy.D} {M : Mp} {Q : DK} : fNe (.lst l) (.lst []) M Q = Q (.bl (!l.isEmpty)) M := rfl
/-- the law's while, n turns of it left -/
def lsW (c : Str → DSp) (E : XQ) (J : DEnds) (n : Nat) : Sd → Mp → Prop := whileN (wT E (.cmp .NotEq (.var 4) (.lst true .nil))) (wB E (b_law_least_14 c)) J n
def lsJ (c : Str → DSp) (E : XQ) (J : DEnds) (n : Nat) : DEnds := { nx := lsW c E J n, ct := lsW c E J n, bk := J.nx, rt := J.rt }
def lsF (c : Str → DSp) (E : XQ) (J : DEnds) (n : Nat) (all : List Dy.D) (rest : List Dy.D) : Sd → Mp → Prop := forN (.val all) (wTg (.tup (.cons (.name 6) (.cons (.name 7) .nil)))) (wB E (b_law_least_12 c)) { lsJ c E J n with nx := wB E (b_law_least_2 c) (lsJ c E J n) } rest
theorem ls_run (hc : c "_law_names" = spNames) (hc2 : c "_law_led" = spLed) (hc3 : c "_law_after" = spAfter) (hc4 : c "_law_tuple" = spTuple) (hc5 : c "_law_every" = spEvery) (ok : Ok b) (sl : (codeAll2 b).length ≤ lim) (hx : TbAt M x tb) (hf : M pf = none) (J : DEnds) {r : Option (List Stp)}
    (hrt : ∀ l, r = some l → J.rt (ansD (some l)) M) (hnx : r = none → ∀ seen lay o5 o6 o7 o8 o9 o10 o11 o12, J.nx [some (tD b), some x, some st0, some (.ref pf), some lay, o5, o6, o7, o8, o9, o10, o11, o12] (updM M pf (.dct (foundD b seen)))) {k : Nat} {seen : List Itm} {i : Nat} (d : Bfs b tb k seen i r) : SeenOk b seen →
    (∀ (it : Itm) (rest lat pre : List Itm) (n : Nat) (all : List Dy.D) (pl : Addr) (M' : Mp) (lay : Dy.D) (o6 o7 o8 o9 o10 o11 o12 : Option Dy.D), seen = (pre ++ it :: rest) ++ lat → pre.length = i → k ≤ n → M pl = none → pf ≠ pl → St2 M M' pf pl (.dct (foundD b seen)) (.lst (lat.map (lawItm b))) → lsF c E J n all ((it :: rest).map (lawItm b)) (lsV b x st0 pf lay pl o6 o7 o8 o9 o10 o11 o12) M') ∧
    (∀ (lat pre : List Itm) (n : Nat) (o5 o6 o7 o8 o9 o10 o11 o12 : Option Dy.D), seen = pre ++ lat → pre.length = i → k + 1 ≤ n → lsW c E J n [some (tD b), some x, some st0, some (.ref pf), some (.lst (lat.map (lawItm b))), o5, o6, o7, o8, o9, o10, o11, o12] (updM M pf (.dct (foundD b seen)))) := by
  have hz : lim + 1000 ≤ sizeLine := by decide
  -- the second from the first
  have two : ∀ {k : Nat} {seen : List Itm} {i : Nat}, (seen.length = i → r = none) →
      (∀ (it : Itm) (rest lat pre : List Itm) (n : Nat) (all : List Dy.D) (pl : Addr) (M' : Mp) (lay : Dy.D) (o6 o7 o8 o9 o10 o11 o12 : Option Dy.D), seen = (pre ++ it :: rest) ++ lat → pre.length = i → k ≤ n → M pl = none → pf ≠ pl → St2 M M' pf pl (.dct (foundD b seen)) (.lst (lat.map (lawItm b))) → lsF c E J n all ((it :: rest).map (lawItm b)) (lsV b x st0 pf lay pl o6 o7 o8 o9 o10 o11 o12) M') →
      (∀ (lat pre : List Itm) (n : Nat) (o5 o6 o7 o8 o9 o10 o11 o12 : Option Dy.D), seen = pre ++ lat → pre.length = i → k + 1 ≤ n → lsW c E J n [some (tD b), some x, some st0, some (.ref pf), some (.lst (lat.map (lawItm b))), o5, o6, o7, o8, o9, o10, o11, o12] (updM M pf (.dct (foundD b seen)))) := by
    intro k seen i hend A lat pre n o5 o6 o7 o8 o9 o10 o11 o12 e1 e2 hn
    match n with
    | 0 => omega
    | n + 1 =>
      unfold lsW whileN
      simp only [wT, dB, wE, wEs, dVar, List.getElem?_cons_zero, List.getElem?_cons_succ, fCmp, mkL, List.length]
      refine ⟨by omega, ?_⟩
      simp only [fNe_nil]
      cases lat with
      | nil =>
        simp only [List.map_nil, List.isEmpty_nil, Bool.not_true, Bool.false_eq_true, if_false]
        exact hnx (hend (by rw [e1, List.append_nil]; exact e2)) _ _ _ _ _ _ _ _ _ _
      | cons it rest =>
        simp only [List.map_cons, List.isEmpty_cons, Bool.not_false, if_true]
        simp only [b_law_least_14, wB, wS, wE, wEs, mkL, List.length]
        refine ⟨by omega, ?_⟩
        intro pl hpl
        have np : pf ≠ pl := fun e => by subst e; rw [updM_same] at hpl; cases hpl
        have hl : M pl = none := by rw [updM_ne (Ne.symm np)] at hpl; exact hpl
        have s : St2 M (updM (updM M pf (.dct (foundD b seen))) pl (.lst [])) pf pl (.dct (foundD b seen)) (.lst (([] : List Itm).map (lawItm b))) :=
          ⟨by rw [updM_ne np, updM_same], updM_same, fun a h1 h2 => by rw [updM_ne h2, updM_ne h1]⟩
        generalize updM (updM M pf _) pl _ = M1 at s
        simp only [wTg, tgSet, List.set_cons_zero, List.set_cons_succ]
        simp only [b_law_least_13, wB, wS, wIt, wE, dVar, List.getElem?_cons_zero, List.getElem?_cons_succ, srcOf, Src.items]
        exact A it rest [] pre n _ pl M1 _ _ _ _ _ _ _ _ (by rw [List.append_nil]; exact e1) e2 (by omega) hl np s
  -- the end of a layer
  have fin : ∀ {seen : List Itm} {lat pre : List Itm} {n : Nat} {pl : Addr} {M' : Mp} {lay : Dy.D} {o6 o7 o8 o9 o10 o11 o12 : Option Dy.D}, M pl = none → pf ≠ pl → St2 M M' pf pl (.dct (foundD b seen)) (.lst (lat.map (lawItm b))) → (∀ o5 o6 o7 o8 o9 o10 o11 o12, lsW c E J n [some (tD b), some x, some st0, some (.ref pf), some (.lst (lat.map (lawItm b))), o5, o6, o7, o8, o9, o10, o11, o12] (updM M pf (.dct (foundD b seen)))) →
      wB E (b_law_least_2 c) (lsJ c E J n) (lsV b x st0 pf lay pl o6 o7 o8 o9 o10 o11 o12) M' := by
    intro seen lat pre n pl M' lay o6 o7 o8 o9 o10 o11 o12 hl np s h
    simp only [b_law_least_2, lsV, wB, wS, wE, wTg, tgSet, dVar, List.set_cons_zero, List.set_cons_succ, List.getElem?_cons_zero, List.getElem?_cons_succ, fzK, s.eq]
    rw [s.done np hl]
    exact h _ _ _ _ _ _ _ _
  have tgt : ∀ {it : Itm} {lay : Dy.D} {pl : Addr} {o6 o7 o8 o9 o10 o11 o12 : Option Dy.D} {M' : Mp} {K : Sd → Mp → Prop}, K (lsV b x st0 pf lay pl (some (.tup (it.1.map stpD))) (some (.tup [lsD b.dl it.2.1, lsD b.dl it.2.2])) o8 o9 o10 o11 o12) M' → wTg (.tup (.cons (.name 6) (.cons (.name 7) .nil))) (lawItm b it) (lsV b x st0 pf lay pl o6 o7 o8 o9 o10 o11 o12) M' K := fun h => h
  induction d with
  | stop e =>
    rename_i seen i
    intro so
    have A : ∀ (it : Itm) (rest lat pre : List Itm) (n : Nat) (all : List Dy.D) (pl : Addr) (M' : Mp) (lay : Dy.D) (o6 o7 o8 o9 o10 o11 o12 : Option Dy.D), seen = (pre ++ it :: rest) ++ lat → pre.length = i → 0 ≤ n → M pl = none → pf ≠ pl → St2 M M' pf pl (.dct (foundD b seen)) (.lst (lat.map (lawItm b))) → lsF c E J n all ((it :: rest).map (lawItm b)) (lsV b x st0 pf lay pl o6 o7 o8 o9 o10 o11 o12) M' := by
      intro it rest lat pre n all pl M' lay o6 o7 o8 o9 o10 o11 o12 e1 e2 hn
      rw [e1] at e
      simp at e
      omega
    exact ⟨A, two (k := 0) (fun _ => rfl) A⟩
  | bad hi hbad =>
    rename_i seen i p
    intro so
    have A : ∀ (it : Itm) (rest lat pre : List Itm) (n : Nat) (all : List Dy.D) (pl : Addr) (M' : Mp) (lay : Dy.D) (o6 o7 o8 o9 o10 o11 o12 : Option Dy.D), seen = (pre ++ it :: rest) ++ lat → pre.length = i → 0 ≤ n → M pl = none → pf ≠ pl → St2 M M' pf pl (.dct (foundD b seen)) (.lst (lat.map (lawItm b))) → lsF c E J n all ((it :: rest).map (lawItm b)) (lsV b x st0 pf lay pl o6 o7 o8 o9 o10 o11 o12) M' := by
      intro it rest lat pre n all pl M' lay o6 o7 o8 o9 o10 o11 o12 e1 e2 hn hl np s
      have ep : p = it := by
        rw [e1, List.append_assoc, List.getElem?_append_right (by omega), e2, Nat.sub_self] at hi
        simpa using hi.symm
      subst ep
      refine ⟨trivial, tgt ?_⟩
      rw [e1] at s so
      refine ls_item hc hc2 hc3 hc4 hc5 ok sl hx hf hl np (st0 := st0) (lay := lay) so (List.mem_append_left _ (by simp)) _ s (fun _ => hrt _ rfl) fun h => by rw [hbad] at h; cases h
    refine ⟨A, two (k := 0) (fun e => ?_) A⟩
    have := (List.getElem?_eq_some_iff.mp hi).1
    omega
  | step hi hbad d ih =>
    rename_i seen i k p r
    intro so
    have hit := List.mem_of_getElem? hi
    have ih := ih hrt hnx two (extA_ok ok (everyB b) (fun st hs => every_in hs) hit so).1
    have A : ∀ (it : Itm) (rest lat pre : List Itm) (n : Nat) (all : List Dy.D) (pl : Addr) (M' : Mp) (lay : Dy.D) (o6 o7 o8 o9 o10 o11 o12 : Option Dy.D), seen = (pre ++ it :: rest) ++ lat → pre.length = i → k + 1 ≤ n → M pl = none → pf ≠ pl → St2 M M' pf pl (.dct (foundD b seen)) (.lst (lat.map (lawItm b))) → lsF c E J n all ((it :: rest).map (lawItm b)) (lsV b x st0 pf lay pl o6 o7 o8 o9 o10 o11 o12) M' := by
      intro it rest lat pre n all pl M' lay o6 o7 o8 o9 o10 o11 o12 e1 e2 hn hl np s
      have ep : p = it := by
        rw [e1, List.append_assoc, List.getElem?_append_right (by omega), e2, Nat.sub_self] at hi
        simpa using hi.symm
      subst ep
      refine ⟨trivial, tgt ?_⟩
      rw [e1] at s so ih
      refine ls_item hc hc2 hc3 hc4 hc5 ok sl hx hf hl np (st0 := st0) (lay := lay) so (List.mem_append_left _ (by simp)) _ s (fun h => by rw [hbad] at h; cases h) fun _ M2 lat' o6 o7 o8 o9 o10 o11 o12 ee s2 => ?_
      rw [ee] at ih
      cases rest with
      | nil =>
        refine ⟨trivial, fin (pre := pre) hl np s2 fun o5 o6 o7 o8 o9 o10 o11 o12 => ?_⟩
        exact ih.2 lat' (pre ++ [p]) n _ _ _ _ _ _ _ _ rfl (by simp [e2]) hn
      | cons y t =>
        exact ih.1 y t lat' (pre ++ [p]) n all pl M2 _ _ _ _ _ _ _ _ (by simp) (by simp [e2]) (by omega) hl np s2
    refine ⟨A, two (k := k + 1) (fun e => ?_) A⟩
    have := (List.getElem?_eq_some_iff.mp hi).1
    omega
end
def spLeast : DSp := fun ds M Q _ => ∃ b tb x k r, ds = [tD b, x] ∧ TbAt M x tb ∧ Ok b ∧ (codeAll2 b).length ≤ lim ∧ Bfs b tb k start0 0 r ∧ Q (ansD r) M
theorem w_least (c : Str → DSp) (hc : c "_law_names" = spNames) (hc2 : c "_law_led" = spLed) (hc3 : c "_law_after" = spAfter) (hc4 : c "_law_tuple" = spTuple) (hc5 : c "_law_every" = spEvery) (hc6 : c "_law_begin" = spBegin) (ds : List D) (M : Mp) (Q : DK) (E : XQ) (h : spLeast ds M Q E) : wB E (b_law_least c) (endsOf Q) (startD N_law_least ds) M := by
  obtain ⟨b, tb, x, k, r, rfl, hx, ok, sl, d, hQ⟩ := h
  have eN : N_law_least.length = 13 := by rfl
  have hz : lim + 1000 ≤ sizeLine := by decide
  simp only [b_law_least, wB, wS, wE, wEs, wIt, wT, dB, wAndT, wOrT, wAnd, wOr, wIfs, dVar, startD, endsOf, wTg, tgSet, List.replicate, List.length, List.map, List.cons_append, List.nil_append, List.getElem?_cons_zero, List.getElem?_cons_succ, List.set_cons_zero, List.set_cons_succ, fCmp, Bool.false_eq_true, if_false, if_true, eN, hc6]
  refine ⟨b, rfl, ok, b, rfl, ok, by omega, ?_⟩
  have k0 : L2.atI [lsD b.dl .zero, lsD b.dl .zero] 0 = some (lsD b.dl .zero) := by rfl
  have k1 : L2.atI [lsD b.dl .zero, lsD b.dl .zero] 1 = some (lsD b.dl .zero) := by rfl
  have ek : Dy.D.tup [lsT b.dl LS.zero, lsT b.dl LS.zero] = keyC (codeP b (LS.zero, LS.zero)) := keyP_C b (LS.zero, LS.zero)
  simp only [b_law_least_16, wB, wS, wE, wEs, wPs, dVar, List.getElem?_cons_zero, List.getElem?_cons_succ, fDisp, mkL, List.length, fIx_tp k0, fIx_tp k1, hc4]
  intro pf hpf
  refine ⟨b, .zero, rfl, ok, b, .zero, rfl, ok, by omega, updM_same, by omega, ?_⟩
  rw [ek]
  refine ⟨by simp [tkB_keyC], by omega, by omega, by omega, ?_⟩
  rw [updM_updM]
  have e1 : putAll [] [(keyC (codeP b (LS.zero, LS.zero)), D.bl true)] = foundD b start0 := rfl
  have e2 : [D.lst [D.tup [], D.tup [lsD b.dl LS.zero, lsD b.dl LS.zero]]] = start0.map (lawItm b) := rfl
  rw [e1, e2]
  simp only [List.set_cons_zero, List.set_cons_succ, b_law_least_15, wB, wS]
  refine ⟨k + 1, (ls_run (st0 := .tup [lsD b.dl .zero, lsD b.dl .zero]) hc hc2 hc3 hc4 hc5 ok sl hx hpf _ (fun l e => by rw [e] at hQ; exact hQ) (fun e seen lay o5 o6 o7 o8 o9 o10 o11 o12 => ?_) d (start_ok ok)).2 start0 [] (k + 1) _ _ _ _ _ _ _ _ rfl rfl (Nat.le_refl _)⟩
  rw [e] at hQ
  simp only [b_law_least_1, wB, wS, wE, dVar, List.set_cons_zero, List.set_cons_succ, List.getElem?_cons_zero, List.getElem?_cons_succ, fzK, updM_same, delM_updM hpf]
  exact hQ
end Dg
end
section
set_option Elab.async false
set_option linter.all false
set_option maxRecDepth 100000
set_option maxHeartbeats 4000000
/-! Marksheld: law k13. -/
namespace Dg
open PySem
open Dy (E Es B S It Tg Tgs Lhs D DSp DK XQ Mp MO DEnds Sd)
open Dy
theorem OkBk.small1 {b : Bk} (h : OkBk 1 3 3 b) : Small b := by
  obtain ⟨n, n1, n2, n3⟩ := h.deeds
  obtain ⟨m, m1, m2, m3⟩ := h.marks
  have e1 := congrArg List.length n3
  have e2 := congrArg List.length m3
  rw [List.length_map, List.length_take] at e1 e2
  have : dNames.length = 3 := rfl
  have : mNames.length = 4 := rfl
  exact .inl ⟨by omega, by omega⟩
theorem OkBk.small2 {b : Bk} (h : OkBk 2 2 2 b) : Small b := by
  obtain ⟨n, n1, n2, n3⟩ := h.deeds
  obtain ⟨m, m1, m2, m3⟩ := h.marks
  have e1 := congrArg List.length n3
  have e2 := congrArg List.length m3
  rw [List.length_map, List.length_take] at e1 e2
  have : dNames.length = 3 := rfl
  have : mNames.length = 4 := rfl
  have mo := h.most
  have : b.deeds.length = 1 ∨ b.deeds.length = 2 := by omega
  rcases this with e | e
  · exact .inl ⟨e, by omega⟩
  · exact .inr ⟨e, by omega, by omega⟩
def spSmallB : DSp := fun ds M Q _ => ∃ pa oo, ds = [.ref pa] ∧ M pa = some oo ∧ IsRow oo ∧ ∀ b o', Ok b → Small b → IsRow o' → Q (tD b) (updM M pa o')
theorem w_smallB (c : Str → DSp) (hc : c "_law_pick" = spPick) (hc2 : c "_law_drawn" = spDrawn) (ds : List D) (M : Mp) (Q : DK) (E : XQ) (h : spSmallB ds M Q E) : wB E (b_law_small c) (endsOf Q) (startD N_law_small ds) M := by
  obtain ⟨pa, oo, rfl, hM, hr, hQ⟩ := h
  have eN : N_law_small.length = 1 := by rfl
  simp only [b_law_small, wB, wS, wE, wEs, wIt, wT, dB, wAndT, wOrT, wAnd, wOr, wIfs, dVar, startD, endsOf, wTg, tgSet, List.replicate, List.length, List.map, List.cons_append, List.nil_append, List.getElem?_cons_zero, List.getElem?_cons_succ, List.set_cons_zero, List.set_cons_succ, fCmp, Bool.false_eq_true, if_false, if_true, eN, hc]
  refine ⟨pa, oo, 2, rfl, hM, hr, by omega, by omega, fun v o1 v0 v1 r1 => ?_⟩
  simp only [dEq_intE, Bool.false_eq_true, if_false]
  cases v == 0 with
  | true =>
    simp only [if_true]
    simp only [b_law_small_2, wB, wS, wE, wEs, wIt, wT, dB, wAndT, wOrT, wAnd, wOr, wIfs, dVar, startD, endsOf, wTg, tgSet, List.replicate, List.length, List.map, List.cons_append, List.nil_append, List.getElem?_cons_zero, List.getElem?_cons_succ, List.set_cons_zero, List.set_cons_succ, fCmp, Bool.false_eq_true, if_false, if_true, hc2]
    refine ⟨1, 3, 3, pa, o1, rfl, updM_same, r1, by omega, by omega, by omega, by omega, by omega, by omega, fun b o2 hb r2 => ?_⟩
    rw [updM_updM]
    exact hQ b o2 (hb.up (by omega) (by omega) (by omega)) hb.small1 r2
  | false =>
    simp only [Bool.false_eq_true, if_false]
    simp only [b_law_small_1, wB, wS, wE, wEs, wIt, wT, dB, wAndT, wOrT, wAnd, wOr, wIfs, dVar, startD, endsOf, wTg, tgSet, List.replicate, List.length, List.map, List.cons_append, List.nil_append, List.getElem?_cons_zero, List.getElem?_cons_succ, List.set_cons_zero, List.set_cons_succ, fCmp, Bool.false_eq_true, if_false, if_true, hc2]
    refine ⟨2, 2, 2, pa, o1, rfl, updM_same, r1, by omega, by omega, by omega, by omega, by omega, by omega, fun b o2 hb r2 => ?_⟩
    rw [updM_updM]
    exact hQ b o2 (hb.up (by omega) (by omega) (by omega)) hb.small2 r2
/-! ### tables as they are filled -/
theorem updM_comm {M : Mp} {a d : Addr} {o u : MO} (n : a ≠ d) : updM (updM M a o) d u = updM (updM M d u) a o := by
  funext x
  by_cases h1 : x = a
  · subst h1; rw [updM_ne n, updM_same, updM_same]
  · rw [updM_ne h1]
    by_cases h2 : x = d
    · subst h2; rw [updM_same, updM_same]
    · rw [updM_ne h2, updM_ne h2, updM_ne h1]
theorem tbl_put (tb : List (Stp × List Str)) (st : Stp) (l : List Str) : ∃ tb', putD (tblD tb) (stpD st) (heT l) = tblD tb' ∧ tb'.length ≤ tb.length + 1 ∧ tget tb' st = l ∧ ∀ s, s ≠ st → tget tb' s = tget tb s := by
  by_cases h : st ∈ tb.map (·.1)
  · refine ⟨tb.map fun p => if p.1 = st then (p.1, l) else p, ?_, by rw [List.length_map]; omega, ?_, ?_⟩
    · have gs : (getD (tblD tb) (stpD st)).isSome = true := by
        clear l
        induction tb with
        | nil => cases h
        | cons a r ih =>
          show (getD ((stpD a.1, heT a.2) :: tblD r) (stpD st)).isSome = true
          rw [getD_cons, eq_stp]
          by_cases z : a.1 = st
          · simp [z]
          · rw [decide_eq_false z, if_neg (by simp)]
            refine ih ((List.mem_cons.mp h).resolve_left (Ne.symm z))
      unfold putD
      rw [gs, if_pos rfl]
      unfold tblD
      rw [List.map_map, List.map_map]
      refine List.map_congr_left fun p _ => ?_
      simp only [Function.comp, eq_stp]
      by_cases z : p.1 = st
      · simp [z]
      · simp [z]
    · unfold tget
      induction tb with
      | nil => cases h
      | cons a r ih =>
        rw [List.map_cons, List.lookup_cons]
        by_cases z : a.1 = st
        · subst z; simp
        · rw [if_neg z, show (st == a.1) = false from by simpa using Ne.symm z]
          exact ih ((List.mem_cons.mp h).resolve_left (Ne.symm z))
    · intro s hs
      unfold tget
      clear h
      induction tb with
      | nil => rfl
      | cons a r ih =>
        rw [List.map_cons, List.lookup_cons, List.lookup_cons]
        by_cases z : a.1 = st
        · rw [if_pos z]
          have : (s == a.1) = false := by rw [z]; simpa using hs
          simp only [this]
          exact ih
        · rw [if_neg z]
          by_cases y : s = a.1
          · subst y; simp
          · have : (s == a.1) = false := by simpa using y
            simp only [this]
            exact ih
  · refine ⟨tb ++ [(st, l)], ?_, by simp, ?_, ?_⟩
    · have gn : getD (tblD tb) (stpD st) = none := by
        clear l
        induction tb with
        | nil => rfl
        | cons a r ih =>
          simp only [List.map_cons, List.mem_cons, not_or] at h
          show getD ((stpD a.1, heT a.2) :: tblD r) (stpD st) = none
          rw [getD_cons, eq_stp, decide_eq_false (Ne.symm h.1), if_neg (by simp)]
          exact ih h.2
      rw [putD_new _ _ _ gn]
      unfold tblD
      simp
    · unfold tget
      induction tb with
      | nil => simp
      | cons a r ih =>
        simp only [List.map_cons, List.mem_cons, not_or] at h
        rw [List.cons_append, List.lookup_cons, show (st == a.1) = false from by simpa using h.1]
        exact ih h.2
    · intro s hs
      unfold tget
      clear h
      induction tb with
      | nil =>
        show (List.lookup s [(st, l)]).getD [] = _
        rw [List.lookup_cons, show (s == st) = false from by simpa using hs]
      | cons a r ih =>
        rw [List.cons_append, List.lookup_cons, List.lookup_cons]
        cases s == a.1 with
        | true => rfl
        | false => exact ih
/-- a comprehension each of whose turns draws -/
theorem lc_pick {M : Mp} {pa A : Addr} (hA : M A = none) (hpa : pa ≠ A) {one : Dy.D → Mp → (Option Dy.D → Mp → Prop) → Prop} {Q : DK} (all : List Dy.D)
    (hone : ∀ (x : Str) M' o, M' pa = some o → IsRow o → ∀ K : Option Dy.D → Mp → Prop, (∀ (k : Bool) o', IsRow o' → K (if k then some (.str x) else none) (updM M' pa o')) → one (.str x) M' K) : ∀ (xs acc : List Str) (o : MO), IsRow o → acc.length + xs.length ≤ 100 →
    (∀ (l : List Str) o', IsRow o' → Q (.lst (l.map .str)) (updM M pa o')) → lcRun (.val all) A one (lcEnd true A Q) (xs.map .str) (acc.map .str) (updM (updM M pa o) A (.lst (acc.map .str)))
  | [], acc, o, ro, _, q => by
    refine ⟨trivial, updM_same, ?_⟩
    show Q (.lst (acc.map .str)) (delM _ A)
    rw [delM_updM (by rw [updM_ne (Ne.symm hpa)]; exact hA)]
    exact q acc o ro
  | x :: xs, acc, o, ro, hl, q => by
    have hz : 1000 ≤ sizeLine := by decide
    simp only [List.length_cons] at hl
    refine ⟨trivial, hone x _ o (by rw [updM_ne hpa, updM_same]) ro _ fun k o' ro' => ?_⟩
    rw [updM_comm (Ne.symm hpa), updM_updM]
    cases k with
    | false =>
      simp only [Bool.false_eq_true, if_false]
      exact ⟨updM_same, lc_pick hA hpa all hone xs acc o' ro' (by omega) q⟩
    | true =>
      simp only [if_true]
      refine ⟨updM_same, by rw [List.length_map]; omega, ?_⟩
      rw [updM_updM, show (acc.map D.str ++ [D.str x]) = (acc ++ [x]).map D.str by simp]
      exact lc_pick hA hpa all hone xs (acc ++ [x]) o' ro' (by simp; omega) q
theorem stp_dep : ∀ l : List Stp, deps (l.map stpD) ≤ 1
  | [] => by show 0 ≤ 1; omega
  | a :: r => by
    have h1 := stp_dep r
    have h2 : dep (stpD a) ≤ 1 := by cases a <;> simp [stpD, dep, deps]
    show max (dep (stpD a)) (deps (r.map stpD)) ≤ 1
    omega
theorem fNe_ans {r : Option (List Stp)} {M : Mp} {Q : DK} (h : Q (.bl false) M) : fNe (ansD r) (ansD r) M Q := by
  cases r with
  | none => exact ⟨rfl, rfl, .inl (by show 0 ≤ 60; omega), h⟩
  | some l =>
    show dEq true (.tup (l.map stpD)) (.tup (l.map stpD)) M Q
    have e : eqD (Dy.top M (.tup (l.map stpD))) (Dy.top M (.tup (l.map stpD))) = true := by
      show eqDs (l.map stpD) (l.map stpD) = true
      rw [eqDs_map stpD eq_stp]; simp
    have p : plains (l.map stpD) = true := plains_map stpD (fun a => by cases a <;> rfl) l
    refine ⟨p, p, .inl ?_, ?_⟩
    · show deps (l.map stpD) + 1 ≤ 60
      have := stp_dep l
      omega
    · rw [e]; exact h
/-- with all marks looked at, nothing goes wrong -/
theorem whole_none {b : Bk} {tb : List (Stp × List Str)} (h : ∀ st ∈ everyB b, someOf b tb st = b.ml) : ∀ {k : Nat} {seen : List Itm} {i : Nat} {r : Option (List Stp)}, Bfs b tb k seen i r → (∀ q ∈ seen, q.2.1 = q.2.2) → r = none := by
  intro k seen i r d
  induction d with
  | stop _ => exact fun _ => rfl
  | bad hi hb =>
    intro g
    have := g _ (List.mem_of_getElem? hi)
    unfold badP at hb
    rw [this] at hb
    simp at hb
  | step hi hb d ih =>
    rename_i seen i k p r
    intro g
    refine ih ?_
    have gp := g _ (List.mem_of_getElem? hi)
    have one : ∀ (sts : List Stp) (acc : List Itm), (∀ st ∈ sts, st ∈ everyB b) → (∀ q ∈ acc, q.2.1 = q.2.2) → ∀ q ∈ extA b tb p acc sts, q.2.1 = q.2.2 := by
      intro sts
      induction sts with
      | nil => exact fun acc _ g => g
      | cons st sts ihs =>
        intro acc hs g
        refine ihs _ (fun s m => hs s (List.mem_cons_of_mem _ m)) ?_
        have e := h st (hs st List.mem_cons_self)
        unfold ext1 mvP ledL
        rw [e, gp]
        cases ea : afterL b p.2.2 st b.ml with
        | none => exact g
        | some a =>
          simp only [Option.map_some]
          split
          · exact g
          · intro q hq
            rcases List.mem_append.mp hq with hq | hq
            · exact g q hq
            · rw [List.mem_singleton] at hq; subst hq; rfl
    exact one _ _ (fun _ m => m) g
end Dg
end
section
set_option Elab.async false
set_option linter.all false
set_option maxRecDepth 100000
set_option maxHeartbeats 4000000
/-! Marksheld: law k13, 2. -/
namespace Dg
open PySem
open Dy (E Es B S It Tg Tgs Lhs D DSp DK XQ Mp MO DEnds Sd)
open Dy
section
variable {b : Bk} {c : Str → DSp} {Q : DK} {E : XQ} {pa pb : Addr} {scr : Dy.D}
def lwV (b : Bk) (pa pb : Addr) (scr : Dy.D) (o5 o6 o7 o8 o9 : Option Dy.D) : Sd := [some scr, some (.ref pa), some (tD b), some (.ref pb), some (.lst (b.ml.map .str)), o5, o6, o7, o8, o9]
/-- the row of draws and the book stand -/
structure LawAt (M : Mp) (b : Bk) (pa pb : Addr) : Prop where
  row : ∃ o, M pa = some o ∧ IsRow o
  bk : BkAt M pb b
theorem IsRow.ne {o : MO} (h : IsRow o) {M : Mp} {a d : Addr} (e1 : M a = some o) {l : List (Dy.D × Dy.D)} (e2 : M d = some (.dct l)) : a ≠ d := fun z => by
  subst z
  obtain ⟨_, _, _, _, _, rfl⟩ := h
  rw [e1] at e2; cases e2
theorem IsRow.neB {o : MO} (h : IsRow o) {M : Mp} {a d : Addr} (e1 : M a = some o) {b : Bk} (e2 : BkAt M d b) : a ≠ d := fun z => by
  subst z
  obtain ⟨_, _, _, _, _, rfl⟩ := h
  have e2 : M a = some (bkO b) := e2
  rw [e1] at e2; cases e2
theorem BkAt.neD {M : Mp} {a d : Addr} {b : Bk} (e1 : BkAt M a b) {l : List (Dy.D × Dy.D)} (e2 : M d = some (.dct l)) : a ≠ d := fun z => by
  subst z
  have e1 : M a = some (bkO b) := e1
  rw [e1] at e2; cases e2
theorem LawAt.row' {M : Mp} (h : LawAt M b pa pb) {o : MO} (r : IsRow o) : LawAt (updM M pa o) b pa pb := by
  obtain ⟨o1, e1, r1⟩ := h.row
  exact ⟨⟨o, updM_same, r⟩, by show updM M pa o pb = _; rw [updM_ne (Ne.symm (r1.neB e1 h.bk))]; exact h.bk⟩
theorem LawAt.dct {M : Mp} (h : LawAt M b pa pb) {pt : Addr} {l : List (Dy.D × Dy.D)} (e : M pt = some (.dct l)) (u : List (Dy.D × Dy.D)) : LawAt (updM M pt (.dct u)) b pa pb := by
  obtain ⟨o1, e1, r1⟩ := h.row
  exact ⟨⟨o1, by rw [updM_ne (r1.ne e1 e)]; exact e1, r1⟩, by show updM M pt _ pb = _; rw [updM_ne (h.bk.neD e)]; exact h.bk⟩
theorem LawAt.new {M : Mp} (h : LawAt M b pa pb) {pt : Addr} (e : M pt = none) (o : MO) : LawAt (updM M pt o) b pa pb := by
  obtain ⟨o1, e1, r1⟩ := h.row
  exact ⟨⟨o1, by rw [updM_ne (ne_of_M e1 e)]; exact e1, r1⟩, h.bk.up (LeM.new e)⟩
theorem ref_tb {M : Mp} {pt : Addr} {tb : List (Stp × List Str)} (e : M pt = some (.dct (tblD tb))) : TbAt M (.ref pt) tb := ⟨fun M' l => by simp only [dctOf, l pt _ e], fun M' l => by simp only [tyD, l pt _ e]⟩
theorem dct_tb {M : Mp} {tb : List (Stp × List Str)} : TbAt M (.dct (tblD tb)) tb := ⟨fun M' l => rfl, fun M' l => rfl⟩
/-- one step of a table is drawn -/
theorem lw_one (hc : c "_law_pick" = spPick) (ok : Ok b) {M : Mp} {pt : Addr} {tb : List (Stp × List Str)} (h : LawAt M b pa pb) (ht : M pt = some (.dct (tblD tb))) (hl : tb.length ≤ 100) {st : Stp} {o5 o8 o9 : Option Dy.D} (J : DEnds)
    (nxt : ∀ M' tb' o8, LawAt M' b pa pb → M' pt = some (.dct (tblD tb')) → tb'.length ≤ tb.length + 1 → J.nx (lwV b pa pb scr o5 (some (.ref pt)) (some (stpD st)) o8 o9) M') :
    wB E (b_law_8 c) J (lwV b pa pb scr o5 (some (.ref pt)) (some (stpD st)) o8 o9) M := by
  have hz : 1000 ≤ sizeLine := by decide
  have lm := ok.mlen
  have lm2 := ml_len b
  obtain ⟨o, eo, ro⟩ := h.row
  simp only [b_law_8, lwV, wB, wS, wT, dB, wE, wEs, dVar, List.getElem?_cons_zero, List.getElem?_cons_succ, fCmp, hc]
  refine ⟨pa, o, 5, rfl, eo, ro, by omega, by omega, fun v o1 v0 v1 r1 => ?_⟩
  have h1 := h.row' r1
  have np := ro.ne eo ht
  have t1 : updM M pa o1 pt = some (.dct (tblD tb)) := by rw [updM_ne (Ne.symm np)]; exact ht
  simp only [dOrd]
  by_cases c0 : v > 0
  · rw [if_pos (by simpa using c0)]
    simp only [b_law_7, wB, wS, wE, wEs, wIt, dVar, List.getElem?_cons_zero, List.getElem?_cons_succ, srcOf, Src.items]
    intro A hA
    have ho1 : updM M pa o1 pa = some o1 := updM_same
    have nA : pa ≠ A := ne_of_M ho1 hA
    have hMA : M A = none := by rw [updM_ne (Ne.symm nA)] at hA; exact hA
    refine lc_pick (M := M) hMA nA _ ?_ b.ml [] o1 r1 (by simp only [List.length_nil]; omega) ?_
    · intro x M2 o2 e2 r2 K hK
      simp only [wipeD, wTg, tgSet, wIfs, wT, dB, wE, wEs, dVar, List.map, List.set_cons_zero, List.set_cons_succ, List.getElem?_cons_zero, List.getElem?_cons_succ, fCmp, hc]
      refine ⟨pa, o2, 4, rfl, e2, r2, by omega, by omega, fun v2 o3 w0 w1 r3 => ?_⟩
      have := hK (decide (v2 > 0)) o3 r3
      simp only [dOrd]
      by_cases c2 : v2 > 0
      · rw [if_pos (by simpa using c2)]
        rw [decide_eq_true c2] at this
        exact this
      · rw [if_neg (by simpa using c2)]
        rw [decide_eq_false c2] at this
        exact this
    · intro l o2 r2
      have t2 : updM M pa o2 pt = some (.dct (tblD tb)) := by rw [updM_ne (Ne.symm np)]; exact ht
      obtain ⟨tb', p1, p2, p3, p4⟩ := tbl_put tb st l
      simp only [dBif, fTup, seqOf, fSet, t2]
      refine ⟨tbl_ok _ _, by unfold tblD; rw [List.length_map]; omega, ?_⟩
      rw [show Dy.D.tup (l.map D.str) = heT l from rfl, p1]
      exact nxt _ tb' _ ((h.row' r2).dct t2 _) updM_same p2
  · rw [if_neg (by simpa using c0)]
    exact nxt _ tb _ h1 t1 (by omega)
def spLaw : DSp := fun ds M Q _ => ∃ ns : List Int, ds = [.lst (ns.map .int)] ∧ ∀ M', Q (.bl true) M'
theorem every_len {b : Bk} (ok : Ok b) : (everyB b).length ≤ 7 := by
  have := ok.dlen
  have := dl_len b
  unfold everyB
  simp
  omega
theorem w_law (hc : c "_law_pick" = spPick) (hc2 : c "_law_draws" = spDraws) (hc3 : c "_law_small" = spSmallB) (hc4 : c "_law_made" = spMade) (hc5 : c "_law_names" = spNames) (hc6 : c "_law_every" = spEvery) (hc7 : c "wrong" = spWrong) (hc8 : c "_law_least" = spLeast) (ds : List D) (M : Mp) (h : spLaw ds M Q E) : wB E (b_law c) (endsOf Q) (startD N_law ds) M := by
  obtain ⟨ns, rfl, hQ⟩ := h
  have eN : N_law.length = 10 := by rfl
  have hz : 1000 ≤ sizeLine := by decide
  simp only [b_law, wB, wS, wE, wEs, wIt, wT, dB, wAndT, wOrT, wAnd, wOr, wIfs, dVar, startD, endsOf, wTg, tgSet, List.replicate, List.length, List.map, List.cons_append, List.nil_append, List.getElem?_cons_zero, List.getElem?_cons_succ, List.set_cons_zero, List.set_cons_succ, fCmp, Bool.false_eq_true, if_false, if_true, eN, hc2]
  refine ⟨ns, rfl, fun pa o hpa ro => ?_⟩
  simp only [b_law_13, wB, wS, wE, wEs, wIt, wT, dB, wAndT, wOrT, wAnd, wOr, wIfs, dVar, startD, endsOf, wTg, tgSet, List.replicate, List.length, List.map, List.cons_append, List.nil_append, List.getElem?_cons_zero, List.getElem?_cons_succ, List.set_cons_zero, List.set_cons_succ, fCmp, Bool.false_eq_true, if_false, if_true, hc3]
  refine ⟨pa, o, rfl, updM_same, ro, fun b o1 ok sm r1 => ?_⟩
  rw [updM_updM]
  simp only [b_law_12, wB, wS, wE, wEs, dVar, List.getElem?_cons_zero, List.getElem?_cons_succ, hc4, hc5]
  refine ⟨b, rfl, ok, fun pb hpb => ⟨b, rfl, ok, ?_⟩⟩
  have nab : pb ≠ pa := fun e => by subst e; rw [updM_same] at hpb; cases hpb
  have L0 : LawAt (updM (updM M pa o1) pb (bkO b)) b pa pb := ⟨⟨o1, by rw [updM_ne (Ne.symm nab), updM_same], r1⟩, updM_same⟩
  generalize updM (updM M pa o1) pb (bkO b) = M1 at L0
  have sl := small_len ok sm
  have lev := every_len ok
  simp only [List.set_cons_zero, List.set_cons_succ]
  simp only [b_law_11, wB, wS, wIt, wE, wEs]
  refine ⟨by omega, by omega, ?_⟩
  refine forN_inv (fun items σ M' => LawAt M' b pa pb ∧ ∃ o5 o6 o7 o8 o9, σ = lwV b pa pb (.lst (ns.map .int)) o5 o6 o7 o8 o9) ?_ ?_ _ _ _ ⟨L0, none, none, none, none, none, rfl⟩
  · rintro d rest σ M' K ⟨L1, o5, o6, o7, o8, o9, rfl⟩ hK
    simp only [wTg, tgSet, lwV, List.set_cons_zero, List.set_cons_succ]
    simp only [b_law_10, wB, wS, wE, wTg, tgSet]
    intro pt hpt
    have L2 := L1.new hpt (.dct [])
    have ht : updM M' pt (.dct []) pt = some (.dct (tblD [])) := updM_same
    generalize updM M' pt (.dct []) = M2 at L2 ht
    simp only [List.set_cons_zero, List.set_cons_succ]
    simp only [b_law_9, wB, wS, wIt, wE, wEs, dVar, List.getElem?_cons_zero, List.getElem?_cons_succ, hc6]
    refine ⟨b, rfl, ok, ?_⟩
    simp only [srcOf, Src.items]
    refine forN_map stpD (fun rest σ M3 => LawAt M3 b pa pb ∧ ∃ tb, M3 pt = some (.dct (tblD tb)) ∧ tb.length + rest.length ≤ 20 ∧ ∃ o7 o8 o9, σ = lwV b pa pb (.lst (ns.map .int)) (some d) (some (.ref pt)) o7 o8 o9) ?_ ?_ (everyB b) _ _ ⟨L2, [], ht, by simp only [List.length_nil]; omega, o7, o8, o9, rfl⟩
    · rintro st sts σ M3 K2 ⟨L3, tb, h3, l3, o7, o8, o9, rfl⟩ hK2
      simp only [List.length_cons] at l3
      simp only [wTg, tgSet, lwV, List.set_cons_zero, List.set_cons_succ]
      exact lw_one hc ok L3 h3 (by omega) _ fun M4 tb' o8 L4 h4 l4 => hK2 _ _ ⟨L4, tb', h4, by omega, _, _, _, rfl⟩
    · rintro σ M3 ⟨L3, tb, h3, l3, o7, o8, o9, rfl⟩
      obtain ⟨k, r, bf⟩ := bfs_ends ok (tb := tb) _ (Nat.le_refl _) (Nat.zero_le _) (start_ok ok)
      simp only [b_law_6, lwV, wB, wS, wT, dB, wE, wEs, dVar, List.getElem?_cons_zero, List.getElem?_cons_succ, fCmp, hc7, hc8]
      refine ⟨b, pb, tb, .ref pt, k, r, rfl, L3.bk, ref_tb h3, ok, sl, bf, b, tb, .ref pt, k, r, rfl, ref_tb h3, ok, sl, bf, fNe_ans ?_⟩
      simp only [Bool.false_eq_true, if_false]
      exact hK _ _ ⟨L3, _, _, _, _, _, rfl⟩
  · rintro σ M' ⟨L1, o5, o6, o7, o8, o9, rfl⟩
    simp only [b_law_4, lwV, wB, wS, wE, wTg, tgSet]
    intro pt hpt
    have L2 := L1.new hpt (.dct [])
    have ht : updM M' pt (.dct []) pt = some (.dct (tblD [])) := updM_same
    generalize updM M' pt (.dct []) = M2 at L2 ht
    simp only [List.set_cons_zero, List.set_cons_succ]
    simp only [b_law_3, wB, wS, wIt, wE, wEs, dVar, List.getElem?_cons_zero, List.getElem?_cons_succ, hc6]
    refine ⟨b, rfl, ok, ?_⟩
    simp only [srcOf, Src.items]
    refine forN_map stpD (fun rest σ M3 => LawAt M3 b pa pb ∧ ∃ tb, M3 pt = some (.dct (tblD tb)) ∧ tb.length + rest.length ≤ 20 ∧ (∀ st ∈ everyB b, st ∈ rest ∨ tget tb st = b.ml) ∧ ∃ o5 o6 o7 o8, σ = lwV b pa pb (.lst (ns.map .int)) o5 o6 o7 o8 (some (.ref pt))) ?_ ?_ (everyB b) _ _ ⟨L2, [], ht, by simp only [List.length_nil]; omega, fun st h => .inl h, o5, o6, o7, o8, rfl⟩
    · rintro st sts σ M3 K2 ⟨L3, tb, h3, l3, g3, o5, o6, o7, o8, rfl⟩ hK2
      simp only [List.length_cons] at l3
      obtain ⟨tb', p1, p2, p3, p4⟩ := tbl_put tb st b.ml
      simp only [wTg, tgSet, lwV, List.set_cons_zero, List.set_cons_succ]
      simp only [b_law_2, wB, wS, wE, wEs, dVar, List.getElem?_cons_zero, List.getElem?_cons_succ, dBif, fTup, seqOf, fSet, h3]
      refine ⟨tbl_ok _ _, by unfold tblD; rw [List.length_map]; omega, ?_⟩
      rw [show Dy.D.tup (b.ml.map D.str) = heT b.ml from rfl, p1]
      refine hK2 _ _ ⟨L3.dct h3 _, tb', updM_same, by omega, fun s hs => ?_, _, _, _, _, rfl⟩
      by_cases z : s = st
      · subst z; exact .inr p3
      · rcases g3 s hs with m | m
        · exact .inl ((List.mem_cons.mp m).resolve_left z)
        · exact .inr (by rw [p4 s z]; exact m)
    · rintro σ M3 ⟨L3, tb, h3, l3, g3, o5, o6, o7, o8, rfl⟩
      obtain ⟨k, r, bf⟩ := bfs_ends ok (tb := tb) _ (Nat.le_refl _) (Nat.zero_le _) (start_ok ok)
      have rn : r = none := whole_none (fun st hs => by
        have := (g3 st hs).resolve_left (fun m => nomatch m)
        unfold someOf
        rw [this]
        exact List.filter_eq_self.mpr fun x hx => decide_eq_true hx) bf fun q hq => by
          unfold start0 at hq
          rw [List.mem_singleton] at hq; subst hq; rfl
      subst rn
      have L4 : BkAt (delM M3 pt) pb b := by show delM M3 pt pb = _; rw [delM_ne (L3.bk.neD h3)]; exact L3.bk
      simp only [b_law_1, lwV, wB, wS, wE, wEs, dVar, List.set_cons_zero, List.set_cons_succ, List.getElem?_cons_zero, List.getElem?_cons_succ, fzK, h3, hc7]
      refine ⟨b, pb, tb, _, k, none, rfl, L4, dct_tb, ok, sl, bf, ?_⟩
      simp only [ansD, fCmp, dCmp, dIs, isNone, true_and, Bool.false_eq_true, if_false]
      exact hQ _
end
end Dg
end
section
set_option Elab.async false
set_option linter.all false
set_option maxRecDepth 100000
set_option maxHeartbeats 4000000
/-! The D layer, join: facts to what a body asks; the law's end. -/
namespace Dj
open PySem PySem.Spec PyProof.Rows L2
open Dy
section
variable {P : Program} {w : World} {K : PySem.W.Frag} {mg : Str → Option Value} {base h : Heap} {k : Nat}
theorem g_int (X : K.In h) (G : h.Ns mainGlobals mg) {x : Str} {i : Int} (c : (He.Fa.int x i).ok K = true) : GlobOk ⟨P, w, K, mg, base, k⟩ x (.int i) := by
  obtain ⟨t, e⟩ := He.int_ok X G c
  exact ⟨_, .int i, e, ⟨t, rfl⟩, fun H => .int i⟩
theorem g_str (X : K.In h) (G : h.Ns mainGlobals mg) {x z : Str} (ok : PyData.strOk z = true) (c : (He.Fa.str x z).ok K = true) : GlobOk ⟨P, w, K, mg, base, k⟩ x (.str z) := by
  obtain ⟨t, e⟩ := He.str_ok X G c
  exact ⟨_, .str z, e, ⟨t, rfl⟩, fun H => .str z ok⟩
def dvD : He.Dv → Option D
  | .str x => if PyData.strOk x then some (.str x) else none
  | .int i => some (.int i)
  | _ => none
def dvDs : List He.Dv → Option (List D)
  | [] => some []
  | d :: r => match dvD d, dvDs r with
    | some a, some b => some (a :: b)
    | _, _ => none
theorem dv_abs {H : Hp} : ∀ {l : List He.Dv} {ds : List D}, dvDs l = some ds → AbsL ⟨P, w, K⟩ H (l.map (He.Dv.v K)) ds
  | [], ds, e => by cases e; exact .nil
  | d :: r, ds, e => by
    unfold dvDs at e
    split at e
    · rename_i a b e1 e2
      cases e
      refine .cons ?_ (dv_abs e2)
      cases d with
      | str x =>
        simp only [dvD] at e1
        split at e1
        · rename_i ok
          cases e1
          exact .str x ok
        · cases e1
      | int i => cases e1; exact .int i
      | _ => cases e1
    · cases e
theorem tab_at {ts : List (Str × List He.Dv)} (t : (ts.all fun t => He.tupB K t.1 t.2) = true) (i : Nat) {x : Str} {l : List He.Dv} (e : ts[i]? = some (x, l)) : He.tupB K x l = true := List.all_eq_true.mp t (x, l) (List.mem_of_getElem? e)
theorem g_tup (X : K.In h) (G : h.Ns mainGlobals mg) {x : Str} {l : List He.Dv} {ds : List D} (c : (He.Fa.glo x).ok K = true) (t : He.tupB K x l = true) (e : dvDs l = some ds) (_ : true = true) : GlobOk ⟨P, w, K, mg, base, k⟩ x (.tup ds) :=
  ⟨_, .ref (He.ga K x), He.glo_ok X G c, rfl, fun H => .tup (He.tupB_ok t H) (dv_abs e)⟩
theorem mk_of {j : Nat} (X : K.In h) (G : h.Ns mainGlobals mg) {C : Str} {fd : FuncData} {ps : List Str} {c : DSp} (c1 : (He.Fa.glo C).ok K = true) (c2 : (He.Fa.mkr C).ok K = true) (F : FnOk P w K mg base (L2.CX P w) j (He.fAd K (C, some "__init__")) fd ps (lSp ⟨P, w, K⟩ c)) (b : Binds K fd ps []) : MkOk ⟨P, w, K, mg, base, j + 1⟩ C c :=
  ⟨j, _, fd, ps, rfl, He.glo_ok X G c1, He.mkr_ok c2, F, b⟩
end
/-! ### the hook, with tables -/
def obsT (fa : List He.Fa) (fn : List He.DefD) (ts : List (Str × List He.Dv)) (K : PySem.W.Frag) : He.AlD × Bool := (He.obsD fa fn K, ts.all fun t => He.tupB K t.1 t.2)
def obsTG (n : Nat) (fa : List He.Fa) (fn : List He.DefD) (ts : List (Str × List He.Dv)) (g : Addr → Option Obj) : He.AlD × Bool := obsT fa fn ts (He.frG g (He.asD g n))
def hookT (n : Nat) (fa : List He.Fa) (fn : List He.DefD) (ts : List (Str × List He.Dv)) : PySem.W.Hook where
  α := He.AlD × Bool
  obs := fun s => obsTG n fa fn ts s.heap.get?
  val := fun _ => (He.valD fn, true)
  says := fun _ h => ∃ K : PySem.W.Frag, K.In h ∧ He.SaysD fa fn K ∧ (ts.all fun t => He.tupB K t.1 t.2) = true
  of := fun _ _ e => ⟨_, He.frG_in, congrArg (fun z : He.AlD × Bool => z.1) e, congrArg (fun z : He.AlD × Bool => z.2) e⟩
  keeps := fun _ _ _ ⟨K, hK, c⟩ k => ⟨K, PySem.W.Frag.In.keeps hK k, c⟩
theorem obsTG_eq {n : Nat} {fa : List He.Fa} {fn : List He.DefD} {ts : List (Str × List He.Dv)} {g : Addr → Option Obj} {s : Shared} (h : ∀ a, g a = s.heap.get? a) : obsTG n fa fn ts g = (hookT n fa fn ts).obs s := by
  have e : g = s.heap.get? := funext h
  rw [e] <;> rfl
/-! ### the law -/
theorem only_abs {G : Gv} {H : Hp} {a : Addr} {vs : List V} {ds : List D} (hO : Only H) (hS : SqL G.K H a vs) (al : AbsL G H vs ds) : Abs G H (.ref a) (.lst ds) := by
  refine .lst ?_ al
  rcases hS with r | r
  · rcases r with r | ⟨o, r⟩
    · rcases hO a with e | ⟨o, xs, e⟩
      · rw [e] at r; cases r
      · rw [e] at r; cases r
    · exact .inl ⟨o, r⟩
  · exact .inr r
theorem ints_abs {G : Gv} {H : Hp} : ∀ ns : List Int, AbsL G H (ns.map V.int) (ns.map D.int)
  | [] => .nil
  | i :: r => .cons (.int i) (ints_abs r)
theorem walk_law {l : PySem.W.OpenLaw} {n k : Nat} {q : Program} {loose : List Str} {XP : (Str → Option Value) → Heap → Prop} {YP : World → Heap → Prop} {d : DefRec} {x : Str}
    (hn : l.most = some n) (hn2 : n ≤ sizeLine) (hdf : d.params.defaults = []) (hr : Room k callerA)
    (F : ∀ (w : World) (mg : Str → Option Value) (fa : Addr) (h : Heap), YP w h → h.Ns mainGlobals mg → mg d.name = some (.ref fa) →
      ∃ (K : PySem.W.Frag) (fd : FuncData) (c : DSp), K.In h ∧ (∀ (s : Shared) (u : Value), BindsTo s fd ⟨[u], []⟩ [(x, u)]) ∧ (∀ ns : List Int, c [.lst (ns.map .int)] (fun _ => none) (fun v _ => v = .bl true) fun _ _ => False) ∧
        ∀ base : Heap, K.In base → base.Ns mainGlobals mg → FnOk l.prog w K mg base (L2.CX l.prog w) k fa fd [x] (lSp ⟨l.prog, w, K⟩ c)) :
    PySem.W.WalkO q loose XP YP l.row.toRowW d [] (fun f vs => PySem.call f vs) := by
  refine Att.attach_call hn hdf fun w s₀ s₁ mg mb fa o pm cd doc a vs ns G Y ho hd hcd hmg hobj hints hlen hg => ?_
  obtain ⟨K, fd, c, KX, hb, hsp, hF⟩ := F w mg fa _ Y G.T.g hmg
  refine law_call KX G.T.g G.T.b G.T.builtins G.T.nolimit hg hobj hints (Nat.le_trans hlen hn2) hr hF hb (fun H hO hS => ?_) fun H e s' h => ?_
  · refine ⟨[.lst (ns.map .int)], fun _ => none, fun v _ => v = .bl true, fun _ _ => False, .cons (only_abs hO hS (ints_abs ns)) .nil, fun _ _ e => (nomatch e), hsp ns, ?_, fun _ _ _ _ _ z => z.elim⟩
    intro d M' v H' e _ ab _
    subst e
    cases ab
    rfl
  · obtain ⟨_, _, _, _, _, _, _, _, _, _, _, _, z⟩ := h
    exact z
end Dj
end
section
set_option Elab.async false
set_option linter.all false
set_option maxRecDepth 100000
set_option maxHeartbeats 0
/-! The join: head, promises, law. -/
namespace Dg
open PySem PySem.Spec PyProof.Rows L2
open Dy (D DSp DK XQ Mp WfB WfS WfE WfEs WfIt CallOk MkOk AtOk GlobOk def_ok lSp Bif.name)
def dd_is_integer : He.DefD := ⟨("is_integer", none), "is_integer", "is_integer", defArgs st_is_integer, defBody st_is_integer, defScope st_is_integer, [], []⟩
def dd_is_name : He.DefD := ⟨("is_name", none), "is_name", "is_name", defArgs st_is_name, defBody st_is_name, defScope st_is_name, [], []⟩
def dd_is_one_of : He.DefD := ⟨("is_one_of", none), "is_one_of", "is_one_of", defArgs st_is_one_of, defBody st_is_one_of, defScope st_is_one_of, [], []⟩
def dd_check_deeds : He.DefD := ⟨("check_deeds", none), "check_deeds", "check_deeds", defArgs st_check_deeds, defBody st_check_deeds, defScope st_check_deeds, [], []⟩
def dd_is_part : He.DefD := ⟨("is_part", none), "is_part", "is_part", defArgs st_is_part, defBody st_is_part, defScope st_is_part, [], []⟩
def dd_is_stay : He.DefD := ⟨("is_stay", none), "is_stay", "is_stay", defArgs st_is_stay, defBody st_is_stay, defScope st_is_stay, [], []⟩
def dd_is_mark : He.DefD := ⟨("is_mark", none), "is_mark", "is_mark", defArgs st_is_mark, defBody st_is_mark, defScope st_is_mark, [], []⟩
def dd_check_marks : He.DefD := ⟨("check_marks", none), "check_marks", "check_marks", defArgs st_check_marks, defBody st_check_marks, defScope st_check_marks, [], []⟩
def dd_Book__init : He.DefD := ⟨("Book", some "__init__"), "__init__", "Book.__init__", defArgs st_Book__init, defBody st_Book__init, defScope st_Book__init, [], []⟩
def dd_steps_of : He.DefD := ⟨("steps_of", none), "steps_of", "steps_of", defArgs st_steps_of, defBody st_steps_of, defScope st_steps_of, [], []⟩
def dd_first_standing : He.DefD := ⟨("first_standing", none), "first_standing", "first_standing", defArgs st_first_standing, defBody st_first_standing, defScope st_first_standing, [], []⟩
def dd_put : He.DefD := ⟨("put", none), "put", "put", defArgs st_put, defBody st_put, defScope st_put, [], []⟩
def dd_is_so : He.DefD := ⟨("is_so", none), "is_so", "is_so", defArgs st_is_so, defBody st_is_so, defScope st_is_so, [], []⟩
def dd_does_ground : He.DefD := ⟨("does_ground", none), "does_ground", "does_ground", defArgs st_does_ground, defBody st_does_ground, defScope st_does_ground, [], []⟩
def dd_first_lost : He.DefD := ⟨("first_lost", none), "first_lost", "first_lost", defArgs st_first_lost, defBody st_first_lost, defScope st_first_lost, [], []⟩
def dd_first_earned : He.DefD := ⟨("first_earned", none), "first_earned", "first_earned", defArgs st_first_earned, defBody st_first_earned, defScope st_first_earned, [], []⟩
def dd_looked_at : He.DefD := ⟨("looked_at", none), "looked_at", "looked_at", defArgs st_looked_at, defBody st_looked_at, defScope st_looked_at, [], []⟩
def dd_counted : He.DefD := ⟨("counted", none), "counted", "counted", defArgs st_counted, defBody st_counted, defScope st_counted, [], []⟩
def dd_led_by : He.DefD := ⟨("led_by", none), "led_by", "led_by", defArgs st_led_by, defBody st_led_by, defScope st_led_by, [], []⟩
def dd_led_to : He.DefD := ⟨("led_to", none), "led_to", "led_to", defArgs st_led_to, defBody st_led_to, defScope st_led_to, [], []⟩
def dd_led_with : He.DefD := ⟨("led_with", none), "led_with", "led_with", defArgs st_led_with, defBody st_led_with, defScope st_led_with, [], []⟩
def dd_wrong : He.DefD := ⟨("wrong", none), "wrong", "wrong", defArgs st_wrong, defBody st_wrong, defScope st_wrong, [], []⟩
def dd_law_draws : He.DefD := ⟨("_law_draws", none), "_law_draws", "_law_draws", defArgs st_law_draws, defBody st_law_draws, defScope st_law_draws, [], []⟩
def dd_law_pick : He.DefD := ⟨("_law_pick", none), "_law_pick", "_law_pick", defArgs st_law_pick, defBody st_law_pick, defScope st_law_pick, [], []⟩
def dd_law_part : He.DefD := ⟨("_law_part", none), "_law_part", "_law_part", defArgs st_law_part, defBody st_law_part, defScope st_law_part, [], []⟩
def dd_law_ground : He.DefD := ⟨("_law_ground", none), "_law_ground", "_law_ground", defArgs st_law_ground, defBody st_law_ground, defScope st_law_ground, [], []⟩
def dd_law_stay : He.DefD := ⟨("_law_stay", none), "_law_stay", "_law_stay", defArgs st_law_stay, defBody st_law_stay, defScope st_law_stay, [], []⟩
def dd_law_drawn : He.DefD := ⟨("_law_drawn", none), "_law_drawn", "_law_drawn", defArgs st_law_drawn, defBody st_law_drawn, defScope st_law_drawn, [], []⟩
def dd_law_made : He.DefD := ⟨("_law_made", none), "_law_made", "_law_made", defArgs st_law_made, defBody st_law_made, defScope st_law_made, [], []⟩
def dd_law_deeds : He.DefD := ⟨("_law_deeds", none), "_law_deeds", "_law_deeds", defArgs st_law_deeds, defBody st_law_deeds, defScope st_law_deeds, [], []⟩
def dd_law_names : He.DefD := ⟨("_law_names", none), "_law_names", "_law_names", defArgs st_law_names, defBody st_law_names, defScope st_law_names, [], []⟩
def dd_law_every : He.DefD := ⟨("_law_every", none), "_law_every", "_law_every", defArgs st_law_every, defBody st_law_every, defScope st_law_every, [], []⟩
def dd_law_begin : He.DefD := ⟨("_law_begin", none), "_law_begin", "_law_begin", defArgs st_law_begin, defBody st_law_begin, defScope st_law_begin, [], []⟩
def dd_law_is : He.DefD := ⟨("_law_is", none), "_law_is", "_law_is", defArgs st_law_is, defBody st_law_is, defScope st_law_is, [], []⟩
def dd_law_grounded : He.DefD := ⟨("_law_grounded", none), "_law_grounded", "_law_grounded", defArgs st_law_grounded, defBody st_law_grounded, defScope st_law_grounded, [], []⟩
def dd_law_look : He.DefD := ⟨("_law_look", none), "_law_look", "_law_look", defArgs st_law_look, defBody st_law_look, defScope st_law_look, [], []⟩
def dd_law_count : He.DefD := ⟨("_law_count", none), "_law_count", "_law_count", defArgs st_law_count, defBody st_law_count, defScope st_law_count, [], []⟩
def dd_law_after : He.DefD := ⟨("_law_after", none), "_law_after", "_law_after", defArgs st_law_after, defBody st_law_after, defScope st_law_after, [], []⟩
def dd_law_led : He.DefD := ⟨("_law_led", none), "_law_led", "_law_led", defArgs st_law_led, defBody st_law_led, defScope st_law_led, [], []⟩
def dd_law_tuple : He.DefD := ⟨("_law_tuple", none), "_law_tuple", "_law_tuple", defArgs st_law_tuple, defBody st_law_tuple, defScope st_law_tuple, [], []⟩
def dd_law_small : He.DefD := ⟨("_law_small", none), "_law_small", "_law_small", defArgs st_law_small, defBody st_law_small, defScope st_law_small, [], []⟩
def dd_law_least : He.DefD := ⟨("_law_least", none), "_law_least", "_law_least", defArgs st_law_least, defBody st_law_least, defScope st_law_least, [], []⟩
def dd_law : He.DefD := ⟨("law", none), "law", "law", defArgs st_law, defBody st_law, defScope st_law, [], []⟩
def fnL : List He.DefD := [dd_is_integer, dd_is_name, dd_is_one_of, dd_check_deeds, dd_is_part, dd_is_stay, dd_is_mark, dd_check_marks, dd_Book__init, dd_steps_of, dd_first_standing, dd_put, dd_is_so, dd_does_ground, dd_first_lost, dd_first_earned, dd_looked_at, dd_counted, dd_led_by, dd_led_to, dd_led_with, dd_wrong, dd_law_draws, dd_law_pick, dd_law_part, dd_law_ground, dd_law_stay, dd_law_drawn, dd_law_made, dd_law_deeds, dd_law_names, dd_law_every, dd_law_begin, dd_law_is, dd_law_grounded, dd_law_look, dd_law_count, dd_law_after, dd_law_led, dd_law_tuple, dd_law_small, dd_law_least, dd_law]
def faL : List He.Fa := [.glo "is_integer", .glo "is_name", .glo "is_one_of", .glo "check_deeds", .glo "is_part", .glo "is_stay", .glo "is_mark", .glo "check_marks", .glo "steps_of", .glo "first_standing", .glo "put", .glo "is_so", .glo "does_ground", .glo "first_lost", .glo "first_earned", .glo "looked_at", .glo "counted", .glo "led_by", .glo "led_to", .glo "led_with", .glo "wrong", .glo "_law_draws", .glo "_law_pick", .glo "_law_part", .glo "_law_ground", .glo "_law_stay", .glo "_law_drawn", .glo "_law_made", .glo "_law_deeds", .glo "_law_names", .glo "_law_every", .glo "_law_begin", .glo "_law_is", .glo "_law_grounded", .glo "_law_look", .glo "_law_count", .glo "_law_after", .glo "_law_led", .glo "_law_tuple", .glo "_law_small", .glo "_law_least", .glo "law", .free "int", .free "bool", .free "isinstance", .str "LETTERS" "abcdefghijklmnopqrstuvwxyz", .int "LONGEST" 8, .free "all", .free "str", .free "len", .glo "SORTS", .int "MOST" 3, .free "dict", .free "sorted", .str "HAS" "has", .str "LACKS" "lacks", .str "LEAST" "least", .str "BELOW" "below", .free "tuple", .str "TILL" "till", .str "ALWAYS" "always", .str "GROUND" "ground", .int "MOST_PARTS" 3, .int "MOST_MARKS" 4, .free "enumerate", .cls "Book", .noat "Book" "cap", .noat "Book" "sorts", .noat "Book" "places", .noat "Book" "cards", .str "DO" "do", .str "BACK" "back", .str "NIGHT" "night", .str "RUN" "run", .free "zip", .free "list", .free "min", .free "range", .glo "Book", .mkr "Book"]
def tsL : List (Str × List He.Dv) := [("SORTS", [.str "sum", .str "run"])]
def loose0 : List Str := ["_wall", "MarkError", "BadMost", "BadDeed", "BadMark", "LETTERS", "LONGEST", "RUN", "SORTS", "LEAST", "BELOW", "HAS", "LACKS", "ALWAYS", "GROUND", "TILL", "MOST", "MOST_MARKS", "MOST_PARTS", "is_integer", "is_name", "is_one_of", "check_deeds", "is_part", "is_stay", "is_mark", "check_marks", "Book", "DO", "BACK"]
def loose1 : List Str := ["NIGHT", "steps_of", "first_standing", "put", "is_so", "does_ground", "first_lost", "first_earned", "looked_at", "counted", "led_by", "led_to", "led_with", "wrong", "_law_draws", "_law_pick", "_law_part", "_law_ground", "_law_stay", "_law_drawn", "_law_made", "_law_deeds", "_law_names", "_law_every", "_law_begin", "_law_is", "_law_grounded", "_law_look", "_law_count", "_law_after"]
def loose2 : List Str := ["_law_led", "_law_tuple", "_law_small", "_law_least"]
def looseL : List Str := loose0 ++ loose1 ++ loose2
def ccL0 : List (Str × DSp) := [("is_integer", spIsInt), ("is_name", spIsName), ("is_one_of", spIsOne), ("check_deeds", spCheckDeeds), ("is_part", spIsPart), ("is_stay", spIsStay), ("is_mark", spIsMark), ("check_marks", spCheckMarks)]
def ccL1 : List (Str × DSp) := [("Book.__init__", spInit), ("steps_of", spSteps), ("first_standing", spFirst), ("put", spPut), ("is_so", spIsSo), ("does_ground", spDoes), ("first_lost", spLost), ("first_earned", spEarned)]
def ccL2 : List (Str × DSp) := [("looked_at", spLooked), ("counted", spCounted), ("led_by", spLedBy), ("led_to", spLedTo), ("led_with", spLedWith), ("wrong", spWrong), ("_law_draws", spDraws), ("_law_pick", spPick)]
def ccL3 : List (Str × DSp) := [("_law_part", spPart), ("_law_ground", spGround), ("_law_stay", spStay), ("_law_drawn", spDrawn), ("_law_made", spMade), ("_law_deeds", spDeeds), ("_law_names", spNames), ("_law_every", spEvery)]
def ccL4 : List (Str × DSp) := [("_law_begin", spBegin), ("_law_is", spIs), ("_law_grounded", spGrounded), ("_law_look", spLook), ("_law_count", spCount), ("_law_after", spAfter), ("_law_led", spLed), ("_law_tuple", spTuple)]
def ccL5 : List (Str × DSp) := [("_law_small", spSmallB), ("_law_least", spLeast), ("law", spLaw)]
def ccL : List (Str × DSp) := ccL0 ++ ccL1 ++ ccL2 ++ ccL3 ++ ccL4 ++ ccL5
def cc (f : Str) : DSp := (ccL.lookup f).getD fun _ _ _ _ => False
theorem cc_is_integer : cc "is_integer" = spIsInt := by kernel_rfl
theorem cc_is_name : cc "is_name" = spIsName := by kernel_rfl
theorem cc_is_one_of : cc "is_one_of" = spIsOne := by kernel_rfl
theorem cc_check_deeds : cc "check_deeds" = spCheckDeeds := by kernel_rfl
theorem cc_is_part : cc "is_part" = spIsPart := by kernel_rfl
theorem cc_is_stay : cc "is_stay" = spIsStay := by kernel_rfl
theorem cc_is_mark : cc "is_mark" = spIsMark := by kernel_rfl
theorem cc_check_marks : cc "check_marks" = spCheckMarks := by kernel_rfl
theorem cc_Book__init : cc "Book.__init__" = spInit := by kernel_rfl
theorem cc_steps_of : cc "steps_of" = spSteps := by kernel_rfl
theorem cc_first_standing : cc "first_standing" = spFirst := by kernel_rfl
theorem cc_put : cc "put" = spPut := by kernel_rfl
theorem cc_is_so : cc "is_so" = spIsSo := by kernel_rfl
theorem cc_does_ground : cc "does_ground" = spDoes := by kernel_rfl
theorem cc_first_lost : cc "first_lost" = spLost := by kernel_rfl
theorem cc_first_earned : cc "first_earned" = spEarned := by kernel_rfl
theorem cc_looked_at : cc "looked_at" = spLooked := by kernel_rfl
theorem cc_counted : cc "counted" = spCounted := by kernel_rfl
theorem cc_led_by : cc "led_by" = spLedBy := by kernel_rfl
theorem cc_led_to : cc "led_to" = spLedTo := by kernel_rfl
theorem cc_led_with : cc "led_with" = spLedWith := by kernel_rfl
theorem cc_wrong : cc "wrong" = spWrong := by kernel_rfl
theorem cc_law_draws : cc "_law_draws" = spDraws := by kernel_rfl
theorem cc_law_pick : cc "_law_pick" = spPick := by kernel_rfl
theorem cc_law_part : cc "_law_part" = spPart := by kernel_rfl
theorem cc_law_ground : cc "_law_ground" = spGround := by kernel_rfl
theorem cc_law_stay : cc "_law_stay" = spStay := by kernel_rfl
theorem cc_law_drawn : cc "_law_drawn" = spDrawn := by kernel_rfl
theorem cc_law_made : cc "_law_made" = spMade := by kernel_rfl
theorem cc_law_deeds : cc "_law_deeds" = spDeeds := by kernel_rfl
theorem cc_law_names : cc "_law_names" = spNames := by kernel_rfl
theorem cc_law_every : cc "_law_every" = spEvery := by kernel_rfl
theorem cc_law_begin : cc "_law_begin" = spBegin := by kernel_rfl
theorem cc_law_is : cc "_law_is" = spIs := by kernel_rfl
theorem cc_law_grounded : cc "_law_grounded" = spGrounded := by kernel_rfl
theorem cc_law_look : cc "_law_look" = spLook := by kernel_rfl
theorem cc_law_count : cc "_law_count" = spCount := by kernel_rfl
theorem cc_law_after : cc "_law_after" = spAfter := by kernel_rfl
theorem cc_law_led : cc "_law_led" = spLed := by kernel_rfl
theorem cc_law_tuple : cc "_law_tuple" = spTuple := by kernel_rfl
theorem cc_law_small : cc "_law_small" = spSmallB := by kernel_rfl
theorem cc_law_least : cc "_law_least" = spLeast := by kernel_rfl
theorem cc_law : cc "law" = spLaw := by kernel_rfl
section
variable {P : Program} {w : World} {K : PySem.W.Frag} {mg : Str → Option Value} {base h : Heap}
noncomputable def fd_is_integer (c : He.SaysD faL fnL K) : FuncData := (c.def_ 0 (d := dd_is_integer) rfl).choose
theorem fu_is_integer (c : He.SaysD faL fnL K) : FunD K "is_integer" "is_integer" (defArgs st_is_integer) (defBody st_is_integer) (defScope st_is_integer) [] [] (He.fAd K dd_is_integer.at_) (fd_is_integer c) := (c.def_ 0 (d := dd_is_integer) rfl).choose_spec
theorem bd_is_integer (c : He.SaysD faL fnL K) : Binds K (fd_is_integer c) P_is_integer [] := (fu_is_integer c).bindsN fun _ _ _ _ _ _ us hl => match us, hl with | [_], _ => rfl
theorem le_is_integer (ds : List D) (M : Mp) (Q : DK) (E : XQ) (h : cc "is_integer" ds M Q E) : ds.length = P_is_integer.length := by
  rw [cc_is_integer] at h
  unfold spIsInt at h
  repeat (obtain ⟨_, h⟩ := h)
  all_goals (subst_vars; rfl)
theorem wk_is_integer (ds : List D) (M : Mp) (Q : DK) (E : XQ) (h : cc "is_integer" ds M Q E) : Dy.wB E (b_is_integer cc) (Dy.endsOf Q) (Dy.startD N_is_integer ds) M := by
  rw [cc_is_integer] at h
  exact w_is_integer cc  ds M Q E h
theorem fn_is_integer (X : K.In h) (G : h.Ns mainGlobals mg) (c : He.SaysD faL fnL K) (t : (tsL.all fun t => He.tupB K t.1 t.2) = true) : FnOk P w K mg base (L2.CX P w) 1 (He.fAd K dd_is_integer.at_) (fd_is_integer c) P_is_integer (lSp ⟨P, w, K⟩ (cc "is_integer")) := by
  have f_bool : mg "bool" = none := He.free_ok X G (c.fact 43 (f := .free "bool") rfl)
  have f_int : mg "int" = none := He.free_ok X G (c.fact 42 (f := .free "int") rfl)
  have f_isinstance : mg "isinstance" = none := He.free_ok X G (c.fact 44 (f := .free "isinstance") rfl)
  refine def_ok (fu_is_integer c) sc_is_integer le_is_integer (ck_is_integer cc) ?_ wk_is_integer
  simp only [b_is_integer, WfB, WfS, WfE, WfEs, WfIt, Bif.name, true_and, and_true]
  all_goals first | trivial | (and_intros <;> first | assumption | trivial)
theorem ok_is_integer (X : K.In h) (G : h.Ns mainGlobals mg) (c : He.SaysD faL fnL K) (t : (tsL.all fun t => He.tupB K t.1 t.2) = true) : CallOk ⟨P, w, K, mg, base, 1⟩ "is_integer" (cc "is_integer") :=
  ⟨_, _, _, He.glo_ok X G (c.fact 0 (f := .glo "is_integer") rfl), (fu_is_integer c).kp, fn_is_integer X G c t, bd_is_integer c⟩
noncomputable def fd_is_name (c : He.SaysD faL fnL K) : FuncData := (c.def_ 1 (d := dd_is_name) rfl).choose
theorem fu_is_name (c : He.SaysD faL fnL K) : FunD K "is_name" "is_name" (defArgs st_is_name) (defBody st_is_name) (defScope st_is_name) [] [] (He.fAd K dd_is_name.at_) (fd_is_name c) := (c.def_ 1 (d := dd_is_name) rfl).choose_spec
theorem bd_is_name (c : He.SaysD faL fnL K) : Binds K (fd_is_name c) P_is_name [] := (fu_is_name c).bindsN fun _ _ _ _ _ _ us hl => match us, hl with | [_], _ => rfl
theorem le_is_name (ds : List D) (M : Mp) (Q : DK) (E : XQ) (h : cc "is_name" ds M Q E) : ds.length = P_is_name.length := by
  rw [cc_is_name] at h
  unfold spIsName at h
  repeat (obtain ⟨_, h⟩ := h)
  all_goals (subst_vars; rfl)
theorem wk_is_name (ds : List D) (M : Mp) (Q : DK) (E : XQ) (h : cc "is_name" ds M Q E) : Dy.wB E (b_is_name cc) (Dy.endsOf Q) (Dy.startD N_is_name ds) M := by
  rw [cc_is_name] at h
  exact w_is_name cc  ds M Q E h
theorem fn_is_name (X : K.In h) (G : h.Ns mainGlobals mg) (c : He.SaysD faL fnL K) (t : (tsL.all fun t => He.tupB K t.1 t.2) = true) : FnOk P w K mg base (L2.CX P w) 1 (He.fAd K dd_is_name.at_) (fd_is_name c) P_is_name (lSp ⟨P, w, K⟩ (cc "is_name")) := by
  have g_LETTERS : GlobOk ⟨P, w, K, mg, base, 0⟩ "LETTERS" (.str "abcdefghijklmnopqrstuvwxyz") := Dj.g_str X G (by decide +kernel) (c.fact 45 (f := .str "LETTERS" "abcdefghijklmnopqrstuvwxyz") rfl)
  have g_LONGEST : GlobOk ⟨P, w, K, mg, base, 0⟩ "LONGEST" (.int 8) := Dj.g_int X G (c.fact 46 (f := .int "LONGEST" 8) rfl)
  have f_all : mg "all" = none := He.free_ok X G (c.fact 47 (f := .free "all") rfl)
  have f_isinstance : mg "isinstance" = none := He.free_ok X G (c.fact 44 (f := .free "isinstance") rfl)
  have f_len : mg "len" = none := He.free_ok X G (c.fact 49 (f := .free "len") rfl)
  have f_str : mg "str" = none := He.free_ok X G (c.fact 48 (f := .free "str") rfl)
  refine def_ok (fu_is_name c) sc_is_name le_is_name (ck_is_name cc) ?_ wk_is_name
  simp only [b_is_name, b_is_name_1, b_is_name_2, WfB, WfS, WfE, WfEs, WfIt, Bif.name, true_and, and_true]
  all_goals first | trivial | (and_intros <;> first | assumption | trivial)
theorem ok_is_name (X : K.In h) (G : h.Ns mainGlobals mg) (c : He.SaysD faL fnL K) (t : (tsL.all fun t => He.tupB K t.1 t.2) = true) : CallOk ⟨P, w, K, mg, base, 1⟩ "is_name" (cc "is_name") :=
  ⟨_, _, _, He.glo_ok X G (c.fact 1 (f := .glo "is_name") rfl), (fu_is_name c).kp, fn_is_name X G c t, bd_is_name c⟩
noncomputable def fd_is_one_of (c : He.SaysD faL fnL K) : FuncData := (c.def_ 2 (d := dd_is_one_of) rfl).choose
theorem fu_is_one_of (c : He.SaysD faL fnL K) : FunD K "is_one_of" "is_one_of" (defArgs st_is_one_of) (defBody st_is_one_of) (defScope st_is_one_of) [] [] (He.fAd K dd_is_one_of.at_) (fd_is_one_of c) := (c.def_ 2 (d := dd_is_one_of) rfl).choose_spec
theorem bd_is_one_of (c : He.SaysD faL fnL K) : Binds K (fd_is_one_of c) P_is_one_of [] := (fu_is_one_of c).bindsN fun _ _ _ _ _ _ us hl => match us, hl with | [_, _], _ => rfl
theorem le_is_one_of (ds : List D) (M : Mp) (Q : DK) (E : XQ) (h : cc "is_one_of" ds M Q E) : ds.length = P_is_one_of.length := by
  rw [cc_is_one_of] at h
  unfold spIsOne at h
  repeat (obtain ⟨_, h⟩ := h)
  all_goals (subst_vars; rfl)
theorem wk_is_one_of (ds : List D) (M : Mp) (Q : DK) (E : XQ) (h : cc "is_one_of" ds M Q E) : Dy.wB E (b_is_one_of cc) (Dy.endsOf Q) (Dy.startD N_is_one_of ds) M := by
  rw [cc_is_one_of] at h
  exact w_is_one_of cc  ds M Q E h
theorem fn_is_one_of (X : K.In h) (G : h.Ns mainGlobals mg) (c : He.SaysD faL fnL K) (t : (tsL.all fun t => He.tupB K t.1 t.2) = true) : FnOk P w K mg base (L2.CX P w) 1 (He.fAd K dd_is_one_of.at_) (fd_is_one_of c) P_is_one_of (lSp ⟨P, w, K⟩ (cc "is_one_of")) := by
  have f_isinstance : mg "isinstance" = none := He.free_ok X G (c.fact 44 (f := .free "isinstance") rfl)
  have f_str : mg "str" = none := He.free_ok X G (c.fact 48 (f := .free "str") rfl)
  refine def_ok (fu_is_one_of c) sc_is_one_of le_is_one_of (ck_is_one_of cc) ?_ wk_is_one_of
  simp only [b_is_one_of, WfB, WfS, WfE, WfEs, WfIt, Bif.name, true_and, and_true]
  all_goals first | trivial | (and_intros <;> first | assumption | trivial)
theorem ok_is_one_of (X : K.In h) (G : h.Ns mainGlobals mg) (c : He.SaysD faL fnL K) (t : (tsL.all fun t => He.tupB K t.1 t.2) = true) : CallOk ⟨P, w, K, mg, base, 1⟩ "is_one_of" (cc "is_one_of") :=
  ⟨_, _, _, He.glo_ok X G (c.fact 2 (f := .glo "is_one_of") rfl), (fu_is_one_of c).kp, fn_is_one_of X G c t, bd_is_one_of c⟩
noncomputable def fd_check_deeds (c : He.SaysD faL fnL K) : FuncData := (c.def_ 3 (d := dd_check_deeds) rfl).choose
theorem fu_check_deeds (c : He.SaysD faL fnL K) : FunD K "check_deeds" "check_deeds" (defArgs st_check_deeds) (defBody st_check_deeds) (defScope st_check_deeds) [] [] (He.fAd K dd_check_deeds.at_) (fd_check_deeds c) := (c.def_ 3 (d := dd_check_deeds) rfl).choose_spec
theorem bd_check_deeds (c : He.SaysD faL fnL K) : Binds K (fd_check_deeds c) P_check_deeds [] := (fu_check_deeds c).bindsN fun _ _ _ _ _ _ us hl => match us, hl with | [_], _ => rfl
theorem le_check_deeds (ds : List D) (M : Mp) (Q : DK) (E : XQ) (h : cc "check_deeds" ds M Q E) : ds.length = P_check_deeds.length := by
  rw [cc_check_deeds] at h
  unfold spCheckDeeds at h
  repeat (obtain ⟨_, h⟩ := h)
  all_goals (subst_vars; rfl)
theorem wk_check_deeds (ds : List D) (M : Mp) (Q : DK) (E : XQ) (h : cc "check_deeds" ds M Q E) : Dy.wB E (b_check_deeds cc) (Dy.endsOf Q) (Dy.startD N_check_deeds ds) M := by
  rw [cc_check_deeds] at h
  exact w_check_deeds cc cc_is_name cc_is_one_of ds M Q E h
theorem fn_check_deeds (X : K.In h) (G : h.Ns mainGlobals mg) (c : He.SaysD faL fnL K) (t : (tsL.all fun t => He.tupB K t.1 t.2) = true) : FnOk P w K mg base (L2.CX P w) 2 (He.fAd K dd_check_deeds.at_) (fd_check_deeds c) P_check_deeds (lSp ⟨P, w, K⟩ (cc "check_deeds")) := by
  have c_is_one_of : CallOk ⟨P, w, K, mg, base, 1⟩ "is_one_of" (cc "is_one_of") := (ok_is_one_of X G c t).mono (by decide)
  have c_is_name : CallOk ⟨P, w, K, mg, base, 1⟩ "is_name" (cc "is_name") := (ok_is_name X G c t).mono (by decide)
  have g_SORTS : GlobOk ⟨P, w, K, mg, base, 1⟩ "SORTS" (.tup [(.str "sum"), (.str "run")]) := Dj.g_tup X G (c.fact 50 (f := .glo "SORTS") rfl) (Dj.tab_at t 0 rfl) (by kernel_rfl) rfl
  have g_MOST : GlobOk ⟨P, w, K, mg, base, 1⟩ "MOST" (.int 3) := Dj.g_int X G (c.fact 51 (f := .int "MOST" 3) rfl)
  have f_all : mg "all" = none := He.free_ok X G (c.fact 47 (f := .free "all") rfl)
  have f_dict : mg "dict" = none := He.free_ok X G (c.fact 52 (f := .free "dict") rfl)
  have f_isinstance : mg "isinstance" = none := He.free_ok X G (c.fact 44 (f := .free "isinstance") rfl)
  have f_len : mg "len" = none := He.free_ok X G (c.fact 49 (f := .free "len") rfl)
  have f_sorted : mg "sorted" = none := He.free_ok X G (c.fact 53 (f := .free "sorted") rfl)
  refine def_ok (fu_check_deeds c) sc_check_deeds le_check_deeds (ck_check_deeds cc) ?_ wk_check_deeds
  simp only [b_check_deeds, b_check_deeds_1, b_check_deeds_2, b_check_deeds_3, b_check_deeds_4, WfB, WfS, WfE, WfEs, WfIt, Bif.name, true_and, and_true]
  all_goals first | trivial | (and_intros <;> first | assumption | trivial)
theorem ok_check_deeds (X : K.In h) (G : h.Ns mainGlobals mg) (c : He.SaysD faL fnL K) (t : (tsL.all fun t => He.tupB K t.1 t.2) = true) : CallOk ⟨P, w, K, mg, base, 2⟩ "check_deeds" (cc "check_deeds") :=
  ⟨_, _, _, He.glo_ok X G (c.fact 3 (f := .glo "check_deeds") rfl), (fu_check_deeds c).kp, fn_check_deeds X G c t, bd_check_deeds c⟩
noncomputable def fd_is_part (c : He.SaysD faL fnL K) : FuncData := (c.def_ 4 (d := dd_is_part) rfl).choose
theorem fu_is_part (c : He.SaysD faL fnL K) : FunD K "is_part" "is_part" (defArgs st_is_part) (defBody st_is_part) (defScope st_is_part) [] [] (He.fAd K dd_is_part.at_) (fd_is_part c) := (c.def_ 4 (d := dd_is_part) rfl).choose_spec
theorem bd_is_part (c : He.SaysD faL fnL K) : Binds K (fd_is_part c) P_is_part [] := (fu_is_part c).bindsN fun _ _ _ _ _ _ us hl => match us, hl with | [_, _, _, _, _], _ => rfl
theorem le_is_part (ds : List D) (M : Mp) (Q : DK) (E : XQ) (h : cc "is_part" ds M Q E) : ds.length = P_is_part.length := by
  rw [cc_is_part] at h
  unfold spIsPart at h
  repeat (obtain ⟨_, h⟩ := h)
  all_goals (subst_vars; rfl)
theorem wk_is_part (ds : List D) (M : Mp) (Q : DK) (E : XQ) (h : cc "is_part" ds M Q E) : Dy.wB E (b_is_part cc) (Dy.endsOf Q) (Dy.startD N_is_part ds) M := by
  rw [cc_is_part] at h
  exact w_is_part cc cc_is_integer cc_is_one_of ds M Q E h
theorem fn_is_part (X : K.In h) (G : h.Ns mainGlobals mg) (c : He.SaysD faL fnL K) (t : (tsL.all fun t => He.tupB K t.1 t.2) = true) : FnOk P w K mg base (L2.CX P w) 2 (He.fAd K dd_is_part.at_) (fd_is_part c) P_is_part (lSp ⟨P, w, K⟩ (cc "is_part")) := by
  have c_is_one_of : CallOk ⟨P, w, K, mg, base, 1⟩ "is_one_of" (cc "is_one_of") := (ok_is_one_of X G c t).mono (by decide)
  have c_is_integer : CallOk ⟨P, w, K, mg, base, 1⟩ "is_integer" (cc "is_integer") := (ok_is_integer X G c t).mono (by decide)
  have g_HAS : GlobOk ⟨P, w, K, mg, base, 1⟩ "HAS" (.str "has") := Dj.g_str X G (by decide +kernel) (c.fact 54 (f := .str "HAS" "has") rfl)
  have g_LACKS : GlobOk ⟨P, w, K, mg, base, 1⟩ "LACKS" (.str "lacks") := Dj.g_str X G (by decide +kernel) (c.fact 55 (f := .str "LACKS" "lacks") rfl)
  have g_LEAST : GlobOk ⟨P, w, K, mg, base, 1⟩ "LEAST" (.str "least") := Dj.g_str X G (by decide +kernel) (c.fact 56 (f := .str "LEAST" "least") rfl)
  have g_BELOW : GlobOk ⟨P, w, K, mg, base, 1⟩ "BELOW" (.str "below") := Dj.g_str X G (by decide +kernel) (c.fact 57 (f := .str "BELOW" "below") rfl)
  have f_isinstance : mg "isinstance" = none := He.free_ok X G (c.fact 44 (f := .free "isinstance") rfl)
  have f_len : mg "len" = none := He.free_ok X G (c.fact 49 (f := .free "len") rfl)
  have f_str : mg "str" = none := He.free_ok X G (c.fact 48 (f := .free "str") rfl)
  have f_tuple : mg "tuple" = none := He.free_ok X G (c.fact 58 (f := .free "tuple") rfl)
  refine def_ok (fu_is_part c) sc_is_part le_is_part (ck_is_part cc) ?_ wk_is_part
  simp only [b_is_part, b_is_part_1, b_is_part_2, b_is_part_3, b_is_part_4, b_is_part_5, b_is_part_6, WfB, WfS, WfE, WfEs, WfIt, Bif.name, true_and, and_true]
  all_goals first | trivial | (and_intros <;> first | assumption | trivial)
theorem ok_is_part (X : K.In h) (G : h.Ns mainGlobals mg) (c : He.SaysD faL fnL K) (t : (tsL.all fun t => He.tupB K t.1 t.2) = true) : CallOk ⟨P, w, K, mg, base, 2⟩ "is_part" (cc "is_part") :=
  ⟨_, _, _, He.glo_ok X G (c.fact 4 (f := .glo "is_part") rfl), (fu_is_part c).kp, fn_is_part X G c t, bd_is_part c⟩
noncomputable def fd_is_stay (c : He.SaysD faL fnL K) : FuncData := (c.def_ 5 (d := dd_is_stay) rfl).choose
theorem fu_is_stay (c : He.SaysD faL fnL K) : FunD K "is_stay" "is_stay" (defArgs st_is_stay) (defBody st_is_stay) (defScope st_is_stay) [] [] (He.fAd K dd_is_stay.at_) (fd_is_stay c) := (c.def_ 5 (d := dd_is_stay) rfl).choose_spec
theorem bd_is_stay (c : He.SaysD faL fnL K) : Binds K (fd_is_stay c) P_is_stay [] := (fu_is_stay c).bindsN fun _ _ _ _ _ _ us hl => match us, hl with | [_, _], _ => rfl
theorem le_is_stay (ds : List D) (M : Mp) (Q : DK) (E : XQ) (h : cc "is_stay" ds M Q E) : ds.length = P_is_stay.length := by
  rw [cc_is_stay] at h
  unfold spIsStay at h
  repeat (obtain ⟨_, h⟩ := h)
  all_goals (subst_vars; rfl)
theorem wk_is_stay (ds : List D) (M : Mp) (Q : DK) (E : XQ) (h : cc "is_stay" ds M Q E) : Dy.wB E (b_is_stay cc) (Dy.endsOf Q) (Dy.startD N_is_stay ds) M := by
  rw [cc_is_stay] at h
  exact w_is_stay cc cc_is_one_of ds M Q E h
theorem fn_is_stay (X : K.In h) (G : h.Ns mainGlobals mg) (c : He.SaysD faL fnL K) (t : (tsL.all fun t => He.tupB K t.1 t.2) = true) : FnOk P w K mg base (L2.CX P w) 2 (He.fAd K dd_is_stay.at_) (fd_is_stay c) P_is_stay (lSp ⟨P, w, K⟩ (cc "is_stay")) := by
  have c_is_one_of : CallOk ⟨P, w, K, mg, base, 1⟩ "is_one_of" (cc "is_one_of") := (ok_is_one_of X G c t).mono (by decide)
  have g_TILL : GlobOk ⟨P, w, K, mg, base, 1⟩ "TILL" (.str "till") := Dj.g_str X G (by decide +kernel) (c.fact 59 (f := .str "TILL" "till") rfl)
  have g_ALWAYS : GlobOk ⟨P, w, K, mg, base, 1⟩ "ALWAYS" (.str "always") := Dj.g_str X G (by decide +kernel) (c.fact 60 (f := .str "ALWAYS" "always") rfl)
  have g_GROUND : GlobOk ⟨P, w, K, mg, base, 1⟩ "GROUND" (.str "ground") := Dj.g_str X G (by decide +kernel) (c.fact 61 (f := .str "GROUND" "ground") rfl)
  have f_isinstance : mg "isinstance" = none := He.free_ok X G (c.fact 44 (f := .free "isinstance") rfl)
  have f_len : mg "len" = none := He.free_ok X G (c.fact 49 (f := .free "len") rfl)
  have f_str : mg "str" = none := He.free_ok X G (c.fact 48 (f := .free "str") rfl)
  have f_tuple : mg "tuple" = none := He.free_ok X G (c.fact 58 (f := .free "tuple") rfl)
  refine def_ok (fu_is_stay c) sc_is_stay le_is_stay (ck_is_stay cc) ?_ wk_is_stay
  simp only [b_is_stay, b_is_stay_1, b_is_stay_2, b_is_stay_3, b_is_stay_4, WfB, WfS, WfE, WfEs, WfIt, Bif.name, true_and, and_true]
  all_goals first | trivial | (and_intros <;> first | assumption | trivial)
theorem ok_is_stay (X : K.In h) (G : h.Ns mainGlobals mg) (c : He.SaysD faL fnL K) (t : (tsL.all fun t => He.tupB K t.1 t.2) = true) : CallOk ⟨P, w, K, mg, base, 2⟩ "is_stay" (cc "is_stay") :=
  ⟨_, _, _, He.glo_ok X G (c.fact 5 (f := .glo "is_stay") rfl), (fu_is_stay c).kp, fn_is_stay X G c t, bd_is_stay c⟩
noncomputable def fd_is_mark (c : He.SaysD faL fnL K) : FuncData := (c.def_ 6 (d := dd_is_mark) rfl).choose
theorem fu_is_mark (c : He.SaysD faL fnL K) : FunD K "is_mark" "is_mark" (defArgs st_is_mark) (defBody st_is_mark) (defScope st_is_mark) [] [] (He.fAd K dd_is_mark.at_) (fd_is_mark c) := (c.def_ 6 (d := dd_is_mark) rfl).choose_spec
theorem bd_is_mark (c : He.SaysD faL fnL K) : Binds K (fd_is_mark c) P_is_mark [] := (fu_is_mark c).bindsN fun _ _ _ _ _ _ us hl => match us, hl with | [_, _, _, _, _], _ => rfl
theorem le_is_mark (ds : List D) (M : Mp) (Q : DK) (E : XQ) (h : cc "is_mark" ds M Q E) : ds.length = P_is_mark.length := by
  rw [cc_is_mark] at h
  unfold spIsMark at h
  repeat (obtain ⟨_, h⟩ := h)
  all_goals (subst_vars; rfl)
theorem wk_is_mark (ds : List D) (M : Mp) (Q : DK) (E : XQ) (h : cc "is_mark" ds M Q E) : Dy.wB E (b_is_mark cc) (Dy.endsOf Q) (Dy.startD N_is_mark ds) M := by
  rw [cc_is_mark] at h
  exact w_is_mark cc cc_is_part cc_is_stay ds M Q E h
theorem fn_is_mark (X : K.In h) (G : h.Ns mainGlobals mg) (c : He.SaysD faL fnL K) (t : (tsL.all fun t => He.tupB K t.1 t.2) = true) : FnOk P w K mg base (L2.CX P w) 3 (He.fAd K dd_is_mark.at_) (fd_is_mark c) P_is_mark (lSp ⟨P, w, K⟩ (cc "is_mark")) := by
  have c_is_stay : CallOk ⟨P, w, K, mg, base, 2⟩ "is_stay" (cc "is_stay") := (ok_is_stay X G c t).mono (by decide)
  have c_is_part : CallOk ⟨P, w, K, mg, base, 2⟩ "is_part" (cc "is_part") := (ok_is_part X G c t).mono (by decide)
  have g_MOST_PARTS : GlobOk ⟨P, w, K, mg, base, 2⟩ "MOST_PARTS" (.int 3) := Dj.g_int X G (c.fact 62 (f := .int "MOST_PARTS" 3) rfl)
  have f_all : mg "all" = none := He.free_ok X G (c.fact 47 (f := .free "all") rfl)
  have f_isinstance : mg "isinstance" = none := He.free_ok X G (c.fact 44 (f := .free "isinstance") rfl)
  have f_len : mg "len" = none := He.free_ok X G (c.fact 49 (f := .free "len") rfl)
  have f_tuple : mg "tuple" = none := He.free_ok X G (c.fact 58 (f := .free "tuple") rfl)
  refine def_ok (fu_is_mark c) sc_is_mark le_is_mark (ck_is_mark cc) ?_ wk_is_mark
  simp only [b_is_mark, b_is_mark_1, b_is_mark_2, b_is_mark_3, b_is_mark_4, b_is_mark_5, WfB, WfS, WfE, WfEs, WfIt, Bif.name, true_and, and_true]
  all_goals first | trivial | (and_intros <;> first | assumption | trivial)
theorem ok_is_mark (X : K.In h) (G : h.Ns mainGlobals mg) (c : He.SaysD faL fnL K) (t : (tsL.all fun t => He.tupB K t.1 t.2) = true) : CallOk ⟨P, w, K, mg, base, 3⟩ "is_mark" (cc "is_mark") :=
  ⟨_, _, _, He.glo_ok X G (c.fact 6 (f := .glo "is_mark") rfl), (fu_is_mark c).kp, fn_is_mark X G c t, bd_is_mark c⟩
noncomputable def fd_check_marks (c : He.SaysD faL fnL K) : FuncData := (c.def_ 7 (d := dd_check_marks) rfl).choose
theorem fu_check_marks (c : He.SaysD faL fnL K) : FunD K "check_marks" "check_marks" (defArgs st_check_marks) (defBody st_check_marks) (defScope st_check_marks) [] [] (He.fAd K dd_check_marks.at_) (fd_check_marks c) := (c.def_ 7 (d := dd_check_marks) rfl).choose_spec
theorem bd_check_marks (c : He.SaysD faL fnL K) : Binds K (fd_check_marks c) P_check_marks [] := (fu_check_marks c).bindsN fun _ _ _ _ _ _ us hl => match us, hl with | [_, _, _], _ => rfl
theorem le_check_marks (ds : List D) (M : Mp) (Q : DK) (E : XQ) (h : cc "check_marks" ds M Q E) : ds.length = P_check_marks.length := by
  rw [cc_check_marks] at h
  unfold spCheckMarks at h
  repeat (obtain ⟨_, h⟩ := h)
  all_goals (subst_vars; rfl)
theorem wk_check_marks (ds : List D) (M : Mp) (Q : DK) (E : XQ) (h : cc "check_marks" ds M Q E) : Dy.wB E (b_check_marks cc) (Dy.endsOf Q) (Dy.startD N_check_marks ds) M := by
  rw [cc_check_marks] at h
  exact w_check_marks cc cc_is_name cc_is_mark ds M Q E h
theorem fn_check_marks (X : K.In h) (G : h.Ns mainGlobals mg) (c : He.SaysD faL fnL K) (t : (tsL.all fun t => He.tupB K t.1 t.2) = true) : FnOk P w K mg base (L2.CX P w) 4 (He.fAd K dd_check_marks.at_) (fd_check_marks c) P_check_marks (lSp ⟨P, w, K⟩ (cc "check_marks")) := by
  have c_is_mark : CallOk ⟨P, w, K, mg, base, 3⟩ "is_mark" (cc "is_mark") := (ok_is_mark X G c t).mono (by decide)
  have c_is_name : CallOk ⟨P, w, K, mg, base, 3⟩ "is_name" (cc "is_name") := (ok_is_name X G c t).mono (by decide)
  have g_MOST_MARKS : GlobOk ⟨P, w, K, mg, base, 3⟩ "MOST_MARKS" (.int 4) := Dj.g_int X G (c.fact 63 (f := .int "MOST_MARKS" 4) rfl)
  have f_all : mg "all" = none := He.free_ok X G (c.fact 47 (f := .free "all") rfl)
  have f_dict : mg "dict" = none := He.free_ok X G (c.fact 52 (f := .free "dict") rfl)
  have f_isinstance : mg "isinstance" = none := He.free_ok X G (c.fact 44 (f := .free "isinstance") rfl)
  have f_len : mg "len" = none := He.free_ok X G (c.fact 49 (f := .free "len") rfl)
  have f_sorted : mg "sorted" = none := He.free_ok X G (c.fact 53 (f := .free "sorted") rfl)
  refine def_ok (fu_check_marks c) sc_check_marks le_check_marks (ck_check_marks cc) ?_ wk_check_marks
  simp only [b_check_marks, b_check_marks_1, b_check_marks_2, b_check_marks_3, b_check_marks_4, WfB, WfS, WfE, WfEs, WfIt, Bif.name, true_and, and_true]
  all_goals first | trivial | (and_intros <;> first | assumption | trivial)
theorem ok_check_marks (X : K.In h) (G : h.Ns mainGlobals mg) (c : He.SaysD faL fnL K) (t : (tsL.all fun t => He.tupB K t.1 t.2) = true) : CallOk ⟨P, w, K, mg, base, 4⟩ "check_marks" (cc "check_marks") :=
  ⟨_, _, _, He.glo_ok X G (c.fact 7 (f := .glo "check_marks") rfl), (fu_check_marks c).kp, fn_check_marks X G c t, bd_check_marks c⟩
noncomputable def fd_Book__init (c : He.SaysD faL fnL K) : FuncData := (c.def_ 8 (d := dd_Book__init) rfl).choose
theorem fu_Book__init (c : He.SaysD faL fnL K) : FunD K "__init__" "Book.__init__" (defArgs st_Book__init) (defBody st_Book__init) (defScope st_Book__init) [] [] (He.fAd K dd_Book__init.at_) (fd_Book__init c) := (c.def_ 8 (d := dd_Book__init) rfl).choose_spec
theorem bd_Book__init (c : He.SaysD faL fnL K) : Binds K (fd_Book__init c) P_Book__init [] := (fu_Book__init c).bindsN fun _ _ _ _ _ _ us hl => match us, hl with | [_, _, _, _], _ => rfl
theorem le_Book__init (ds : List D) (M : Mp) (Q : DK) (E : XQ) (h : cc "Book.__init__" ds M Q E) : ds.length = P_Book__init.length := by
  rw [cc_Book__init] at h
  unfold spInit at h
  repeat (obtain ⟨_, h⟩ := h)
  all_goals (subst_vars; rfl)
theorem wk_Book__init (ds : List D) (M : Mp) (Q : DK) (E : XQ) (h : cc "Book.__init__" ds M Q E) : Dy.wB E (b_Book__init cc) (Dy.endsOf Q) (Dy.startD N_Book__init ds) M := by
  rw [cc_Book__init] at h
  exact w_init cc cc_is_integer cc_check_deeds cc_check_marks ds M Q E h
theorem fn_Book__init (X : K.In h) (G : h.Ns mainGlobals mg) (c : He.SaysD faL fnL K) (t : (tsL.all fun t => He.tupB K t.1 t.2) = true) : FnOk P w K mg base (L2.CX P w) 5 (He.fAd K dd_Book__init.at_) (fd_Book__init c) P_Book__init (lSp ⟨P, w, K⟩ (cc "Book.__init__")) := by
  have c_check_marks : CallOk ⟨P, w, K, mg, base, 4⟩ "check_marks" (cc "check_marks") := (ok_check_marks X G c t).mono (by decide)
  have c_check_deeds : CallOk ⟨P, w, K, mg, base, 4⟩ "check_deeds" (cc "check_deeds") := (ok_check_deeds X G c t).mono (by decide)
  have c_is_integer : CallOk ⟨P, w, K, mg, base, 4⟩ "is_integer" (cc "is_integer") := (ok_is_integer X G c t).mono (by decide)
  have g_MOST : GlobOk ⟨P, w, K, mg, base, 4⟩ "MOST" (.int 3) := Dj.g_int X G (c.fact 51 (f := .int "MOST" 3) rfl)
  have f_enumerate : mg "enumerate" = none := He.free_ok X G (c.fact 64 (f := .free "enumerate") rfl)
  have f_sorted : mg "sorted" = none := He.free_ok X G (c.fact 53 (f := .free "sorted") rfl)
  have a_Book_cap : AtOk ⟨P, w, K, mg, base, 4⟩ "Book" "cap" := ⟨He.cls_ok (c.fact 65 (f := .cls "Book") rfl), He.noat_ok (c.fact 66 (f := .noat "Book" "cap") rfl)⟩
  have a_Book_cards : AtOk ⟨P, w, K, mg, base, 4⟩ "Book" "cards" := ⟨He.cls_ok (c.fact 65 (f := .cls "Book") rfl), He.noat_ok (c.fact 69 (f := .noat "Book" "cards") rfl)⟩
  have a_Book_places : AtOk ⟨P, w, K, mg, base, 4⟩ "Book" "places" := ⟨He.cls_ok (c.fact 65 (f := .cls "Book") rfl), He.noat_ok (c.fact 68 (f := .noat "Book" "places") rfl)⟩
  have a_Book_sorts : AtOk ⟨P, w, K, mg, base, 4⟩ "Book" "sorts" := ⟨He.cls_ok (c.fact 65 (f := .cls "Book") rfl), He.noat_ok (c.fact 67 (f := .noat "Book" "sorts") rfl)⟩
  refine def_ok (fu_Book__init c) sc_Book__init le_Book__init (ck_Book__init cc) ?_ wk_Book__init
  simp only [b_Book__init, b_Book__init_1, b_Book__init_2, b_Book__init_3, b_Book__init_4, b_Book__init_5, b_Book__init_6, b_Book__init_7, WfB, WfS, WfE, WfEs, WfIt, Bif.name, true_and, and_true]
  all_goals first | trivial | (and_intros <;> first | assumption | trivial)
noncomputable def fd_steps_of (c : He.SaysD faL fnL K) : FuncData := (c.def_ 9 (d := dd_steps_of) rfl).choose
theorem fu_steps_of (c : He.SaysD faL fnL K) : FunD K "steps_of" "steps_of" (defArgs st_steps_of) (defBody st_steps_of) (defScope st_steps_of) [] [] (He.fAd K dd_steps_of.at_) (fd_steps_of c) := (c.def_ 9 (d := dd_steps_of) rfl).choose_spec
theorem bd_steps_of (c : He.SaysD faL fnL K) : Binds K (fd_steps_of c) P_steps_of [] := (fu_steps_of c).bindsN fun _ _ _ _ _ _ us hl => match us, hl with | [_], _ => rfl
theorem le_steps_of (ds : List D) (M : Mp) (Q : DK) (E : XQ) (h : cc "steps_of" ds M Q E) : ds.length = P_steps_of.length := by
  rw [cc_steps_of] at h
  unfold spSteps at h
  repeat (obtain ⟨_, h⟩ := h)
  all_goals (subst_vars; rfl)
theorem wk_steps_of (ds : List D) (M : Mp) (Q : DK) (E : XQ) (h : cc "steps_of" ds M Q E) : Dy.wB E (b_steps_of cc) (Dy.endsOf Q) (Dy.startD N_steps_of ds) M := by
  rw [cc_steps_of] at h
  exact w_steps_of cc  ds M Q E h
theorem fn_steps_of (X : K.In h) (G : h.Ns mainGlobals mg) (c : He.SaysD faL fnL K) (t : (tsL.all fun t => He.tupB K t.1 t.2) = true) : FnOk P w K mg base (L2.CX P w) 1 (He.fAd K dd_steps_of.at_) (fd_steps_of c) P_steps_of (lSp ⟨P, w, K⟩ (cc "steps_of")) := by
  have g_DO : GlobOk ⟨P, w, K, mg, base, 0⟩ "DO" (.str "do") := Dj.g_str X G (by decide +kernel) (c.fact 70 (f := .str "DO" "do") rfl)
  have g_BACK : GlobOk ⟨P, w, K, mg, base, 0⟩ "BACK" (.str "back") := Dj.g_str X G (by decide +kernel) (c.fact 71 (f := .str "BACK" "back") rfl)
  have g_NIGHT : GlobOk ⟨P, w, K, mg, base, 0⟩ "NIGHT" (.str "night") := Dj.g_str X G (by decide +kernel) (c.fact 72 (f := .str "NIGHT" "night") rfl)
  have a_Book_sorts : AtOk ⟨P, w, K, mg, base, 0⟩ "Book" "sorts" := ⟨He.cls_ok (c.fact 65 (f := .cls "Book") rfl), He.noat_ok (c.fact 67 (f := .noat "Book" "sorts") rfl)⟩
  refine def_ok (fu_steps_of c) sc_steps_of le_steps_of (ck_steps_of cc) ?_ wk_steps_of
  simp only [b_steps_of, WfB, WfS, WfE, WfEs, WfIt, Bif.name, true_and, and_true]
  all_goals first | trivial | (and_intros <;> first | assumption | trivial)
theorem ok_steps_of (X : K.In h) (G : h.Ns mainGlobals mg) (c : He.SaysD faL fnL K) (t : (tsL.all fun t => He.tupB K t.1 t.2) = true) : CallOk ⟨P, w, K, mg, base, 1⟩ "steps_of" (cc "steps_of") :=
  ⟨_, _, _, He.glo_ok X G (c.fact 8 (f := .glo "steps_of") rfl), (fu_steps_of c).kp, fn_steps_of X G c t, bd_steps_of c⟩
noncomputable def fd_first_standing (c : He.SaysD faL fnL K) : FuncData := (c.def_ 10 (d := dd_first_standing) rfl).choose
theorem fu_first_standing (c : He.SaysD faL fnL K) : FunD K "first_standing" "first_standing" (defArgs st_first_standing) (defBody st_first_standing) (defScope st_first_standing) [] [] (He.fAd K dd_first_standing.at_) (fd_first_standing c) := (c.def_ 10 (d := dd_first_standing) rfl).choose_spec
theorem bd_first_standing (c : He.SaysD faL fnL K) : Binds K (fd_first_standing c) P_first_standing [] := (fu_first_standing c).bindsN fun _ _ _ _ _ _ us hl => match us, hl with | [_], _ => rfl
theorem le_first_standing (ds : List D) (M : Mp) (Q : DK) (E : XQ) (h : cc "first_standing" ds M Q E) : ds.length = P_first_standing.length := by
  rw [cc_first_standing] at h
  unfold spFirst at h
  repeat (obtain ⟨_, h⟩ := h)
  all_goals (subst_vars; rfl)
theorem wk_first_standing (ds : List D) (M : Mp) (Q : DK) (E : XQ) (h : cc "first_standing" ds M Q E) : Dy.wB E (b_first_standing cc) (Dy.endsOf Q) (Dy.startD N_first_standing ds) M := by
  rw [cc_first_standing] at h
  exact w_first cc  ds M Q E h
theorem fn_first_standing (X : K.In h) (G : h.Ns mainGlobals mg) (c : He.SaysD faL fnL K) (t : (tsL.all fun t => He.tupB K t.1 t.2) = true) : FnOk P w K mg base (L2.CX P w) 1 (He.fAd K dd_first_standing.at_) (fd_first_standing c) P_first_standing (lSp ⟨P, w, K⟩ (cc "first_standing")) := by
  have f_len : mg "len" = none := He.free_ok X G (c.fact 49 (f := .free "len") rfl)
  have a_Book_sorts : AtOk ⟨P, w, K, mg, base, 0⟩ "Book" "sorts" := ⟨He.cls_ok (c.fact 65 (f := .cls "Book") rfl), He.noat_ok (c.fact 67 (f := .noat "Book" "sorts") rfl)⟩
  refine def_ok (fu_first_standing c) sc_first_standing le_first_standing (ck_first_standing cc) ?_ wk_first_standing
  simp only [b_first_standing, WfB, WfS, WfE, WfEs, WfIt, Bif.name, true_and, and_true]
  all_goals first | trivial | (and_intros <;> first | assumption | trivial)
theorem ok_first_standing (X : K.In h) (G : h.Ns mainGlobals mg) (c : He.SaysD faL fnL K) (t : (tsL.all fun t => He.tupB K t.1 t.2) = true) : CallOk ⟨P, w, K, mg, base, 1⟩ "first_standing" (cc "first_standing") :=
  ⟨_, _, _, He.glo_ok X G (c.fact 9 (f := .glo "first_standing") rfl), (fu_first_standing c).kp, fn_first_standing X G c t, bd_first_standing c⟩
noncomputable def fd_put (c : He.SaysD faL fnL K) : FuncData := (c.def_ 11 (d := dd_put) rfl).choose
theorem fu_put (c : He.SaysD faL fnL K) : FunD K "put" "put" (defArgs st_put) (defBody st_put) (defScope st_put) [] [] (He.fAd K dd_put.at_) (fd_put c) := (c.def_ 11 (d := dd_put) rfl).choose_spec
theorem bd_put (c : He.SaysD faL fnL K) : Binds K (fd_put c) P_put [] := (fu_put c).bindsN fun _ _ _ _ _ _ us hl => match us, hl with | [_, _, _], _ => rfl
theorem le_put (ds : List D) (M : Mp) (Q : DK) (E : XQ) (h : cc "put" ds M Q E) : ds.length = P_put.length := by
  rw [cc_put] at h
  unfold spPut at h
  repeat (obtain ⟨_, h⟩ := h)
  all_goals (subst_vars; rfl)
theorem wk_put (ds : List D) (M : Mp) (Q : DK) (E : XQ) (h : cc "put" ds M Q E) : Dy.wB E (b_put cc) (Dy.endsOf Q) (Dy.startD N_put ds) M := by
  rw [cc_put] at h
  exact w_put cc  ds M Q E h
theorem fn_put (X : K.In h) (G : h.Ns mainGlobals mg) (c : He.SaysD faL fnL K) (t : (tsL.all fun t => He.tupB K t.1 t.2) = true) : FnOk P w K mg base (L2.CX P w) 1 (He.fAd K dd_put.at_) (fd_put c) P_put (lSp ⟨P, w, K⟩ (cc "put")) := by
  refine def_ok (fu_put c) sc_put le_put (ck_put cc) ?_ wk_put
  simp only [b_put, WfB, WfS, WfE, WfEs, WfIt, Bif.name, true_and, and_true]
  all_goals first | trivial | (and_intros <;> first | assumption | trivial)
theorem ok_put (X : K.In h) (G : h.Ns mainGlobals mg) (c : He.SaysD faL fnL K) (t : (tsL.all fun t => He.tupB K t.1 t.2) = true) : CallOk ⟨P, w, K, mg, base, 1⟩ "put" (cc "put") :=
  ⟨_, _, _, He.glo_ok X G (c.fact 10 (f := .glo "put") rfl), (fu_put c).kp, fn_put X G c t, bd_put c⟩
noncomputable def fd_is_so (c : He.SaysD faL fnL K) : FuncData := (c.def_ 12 (d := dd_is_so) rfl).choose
theorem fu_is_so (c : He.SaysD faL fnL K) : FunD K "is_so" "is_so" (defArgs st_is_so) (defBody st_is_so) (defScope st_is_so) [] [] (He.fAd K dd_is_so.at_) (fd_is_so c) := (c.def_ 12 (d := dd_is_so) rfl).choose_spec
theorem bd_is_so (c : He.SaysD faL fnL K) : Binds K (fd_is_so c) P_is_so [] := (fu_is_so c).bindsN fun _ _ _ _ _ _ us hl => match us, hl with | [_, _, _, _], _ => rfl
theorem le_is_so (ds : List D) (M : Mp) (Q : DK) (E : XQ) (h : cc "is_so" ds M Q E) : ds.length = P_is_so.length := by
  rw [cc_is_so] at h
  unfold spIsSo at h
  repeat (obtain ⟨_, h⟩ := h)
  all_goals (subst_vars; rfl)
theorem wk_is_so (ds : List D) (M : Mp) (Q : DK) (E : XQ) (h : cc "is_so" ds M Q E) : Dy.wB E (b_is_so cc) (Dy.endsOf Q) (Dy.startD N_is_so ds) M := by
  rw [cc_is_so] at h
  exact w_is_so cc  ds M Q E h
theorem fn_is_so (X : K.In h) (G : h.Ns mainGlobals mg) (c : He.SaysD faL fnL K) (t : (tsL.all fun t => He.tupB K t.1 t.2) = true) : FnOk P w K mg base (L2.CX P w) 1 (He.fAd K dd_is_so.at_) (fd_is_so c) P_is_so (lSp ⟨P, w, K⟩ (cc "is_so")) := by
  have g_HAS : GlobOk ⟨P, w, K, mg, base, 0⟩ "HAS" (.str "has") := Dj.g_str X G (by decide +kernel) (c.fact 54 (f := .str "HAS" "has") rfl)
  have g_LEAST : GlobOk ⟨P, w, K, mg, base, 0⟩ "LEAST" (.str "least") := Dj.g_str X G (by decide +kernel) (c.fact 56 (f := .str "LEAST" "least") rfl)
  have g_BELOW : GlobOk ⟨P, w, K, mg, base, 0⟩ "BELOW" (.str "below") := Dj.g_str X G (by decide +kernel) (c.fact 57 (f := .str "BELOW" "below") rfl)
  have a_Book_places : AtOk ⟨P, w, K, mg, base, 0⟩ "Book" "places" := ⟨He.cls_ok (c.fact 65 (f := .cls "Book") rfl), He.noat_ok (c.fact 68 (f := .noat "Book" "places") rfl)⟩
  refine def_ok (fu_is_so c) sc_is_so le_is_so (ck_is_so cc) ?_ wk_is_so
  simp only [b_is_so, b_is_so_1, b_is_so_2, WfB, WfS, WfE, WfEs, WfIt, Bif.name, true_and, and_true]
  all_goals first | trivial | (and_intros <;> first | assumption | trivial)
theorem ok_is_so (X : K.In h) (G : h.Ns mainGlobals mg) (c : He.SaysD faL fnL K) (t : (tsL.all fun t => He.tupB K t.1 t.2) = true) : CallOk ⟨P, w, K, mg, base, 1⟩ "is_so" (cc "is_so") :=
  ⟨_, _, _, He.glo_ok X G (c.fact 11 (f := .glo "is_so") rfl), (fu_is_so c).kp, fn_is_so X G c t, bd_is_so c⟩
noncomputable def fd_does_ground (c : He.SaysD faL fnL K) : FuncData := (c.def_ 13 (d := dd_does_ground) rfl).choose
theorem fu_does_ground (c : He.SaysD faL fnL K) : FunD K "does_ground" "does_ground" (defArgs st_does_ground) (defBody st_does_ground) (defScope st_does_ground) [] [] (He.fAd K dd_does_ground.at_) (fd_does_ground c) := (c.def_ 13 (d := dd_does_ground) rfl).choose_spec
theorem bd_does_ground (c : He.SaysD faL fnL K) : Binds K (fd_does_ground c) P_does_ground [] := (fu_does_ground c).bindsN fun _ _ _ _ _ _ us hl => match us, hl with | [_, _, _, _], _ => rfl
theorem le_does_ground (ds : List D) (M : Mp) (Q : DK) (E : XQ) (h : cc "does_ground" ds M Q E) : ds.length = P_does_ground.length := by
  rw [cc_does_ground] at h
  unfold spDoes at h
  repeat (obtain ⟨_, h⟩ := h)
  all_goals (subst_vars; rfl)
theorem wk_does_ground (ds : List D) (M : Mp) (Q : DK) (E : XQ) (h : cc "does_ground" ds M Q E) : Dy.wB E (b_does_ground cc) (Dy.endsOf Q) (Dy.startD N_does_ground ds) M := by
  rw [cc_does_ground] at h
  exact w_does_ground cc cc_is_so ds M Q E h
theorem fn_does_ground (X : K.In h) (G : h.Ns mainGlobals mg) (c : He.SaysD faL fnL K) (t : (tsL.all fun t => He.tupB K t.1 t.2) = true) : FnOk P w K mg base (L2.CX P w) 2 (He.fAd K dd_does_ground.at_) (fd_does_ground c) P_does_ground (lSp ⟨P, w, K⟩ (cc "does_ground")) := by
  have c_is_so : CallOk ⟨P, w, K, mg, base, 1⟩ "is_so" (cc "is_so") := (ok_is_so X G c t).mono (by decide)
  have f_all : mg "all" = none := He.free_ok X G (c.fact 47 (f := .free "all") rfl)
  have a_Book_cards : AtOk ⟨P, w, K, mg, base, 1⟩ "Book" "cards" := ⟨He.cls_ok (c.fact 65 (f := .cls "Book") rfl), He.noat_ok (c.fact 69 (f := .noat "Book" "cards") rfl)⟩
  refine def_ok (fu_does_ground c) sc_does_ground le_does_ground (ck_does_ground cc) ?_ wk_does_ground
  simp only [b_does_ground, WfB, WfS, WfE, WfEs, WfIt, Bif.name, true_and, and_true]
  all_goals first | trivial | (and_intros <;> first | assumption | trivial)
theorem ok_does_ground (X : K.In h) (G : h.Ns mainGlobals mg) (c : He.SaysD faL fnL K) (t : (tsL.all fun t => He.tupB K t.1 t.2) = true) : CallOk ⟨P, w, K, mg, base, 2⟩ "does_ground" (cc "does_ground") :=
  ⟨_, _, _, He.glo_ok X G (c.fact 12 (f := .glo "does_ground") rfl), (fu_does_ground c).kp, fn_does_ground X G c t, bd_does_ground c⟩
noncomputable def fd_first_lost (c : He.SaysD faL fnL K) : FuncData := (c.def_ 14 (d := dd_first_lost) rfl).choose
theorem fu_first_lost (c : He.SaysD faL fnL K) : FunD K "first_lost" "first_lost" (defArgs st_first_lost) (defBody st_first_lost) (defScope st_first_lost) [] [] (He.fAd K dd_first_lost.at_) (fd_first_lost c) := (c.def_ 14 (d := dd_first_lost) rfl).choose_spec
theorem bd_first_lost (c : He.SaysD faL fnL K) : Binds K (fd_first_lost c) P_first_lost [] := (fu_first_lost c).bindsN fun _ _ _ _ _ _ us hl => match us, hl with | [_, _, _, _], _ => rfl
theorem le_first_lost (ds : List D) (M : Mp) (Q : DK) (E : XQ) (h : cc "first_lost" ds M Q E) : ds.length = P_first_lost.length := by
  rw [cc_first_lost] at h
  unfold spLost at h
  repeat (obtain ⟨_, h⟩ := h)
  all_goals (subst_vars; rfl)
theorem wk_first_lost (ds : List D) (M : Mp) (Q : DK) (E : XQ) (h : cc "first_lost" ds M Q E) : Dy.wB E (b_first_lost cc) (Dy.endsOf Q) (Dy.startD N_first_lost ds) M := by
  rw [cc_first_lost] at h
  exact w_first_lost cc cc_does_ground ds M Q E h
theorem fn_first_lost (X : K.In h) (G : h.Ns mainGlobals mg) (c : He.SaysD faL fnL K) (t : (tsL.all fun t => He.tupB K t.1 t.2) = true) : FnOk P w K mg base (L2.CX P w) 3 (He.fAd K dd_first_lost.at_) (fd_first_lost c) P_first_lost (lSp ⟨P, w, K⟩ (cc "first_lost")) := by
  have c_does_ground : CallOk ⟨P, w, K, mg, base, 2⟩ "does_ground" (cc "does_ground") := (ok_does_ground X G c t).mono (by decide)
  have g_GROUND : GlobOk ⟨P, w, K, mg, base, 2⟩ "GROUND" (.str "ground") := Dj.g_str X G (by decide +kernel) (c.fact 61 (f := .str "GROUND" "ground") rfl)
  have a_Book_cards : AtOk ⟨P, w, K, mg, base, 2⟩ "Book" "cards" := ⟨He.cls_ok (c.fact 65 (f := .cls "Book") rfl), He.noat_ok (c.fact 69 (f := .noat "Book" "cards") rfl)⟩
  refine def_ok (fu_first_lost c) sc_first_lost le_first_lost (ck_first_lost cc) ?_ wk_first_lost
  simp only [b_first_lost, b_first_lost_1, b_first_lost_2, b_first_lost_3, WfB, WfS, WfE, WfEs, WfIt, Bif.name, true_and, and_true]
  all_goals first | trivial | (and_intros <;> first | assumption | trivial)
theorem ok_first_lost (X : K.In h) (G : h.Ns mainGlobals mg) (c : He.SaysD faL fnL K) (t : (tsL.all fun t => He.tupB K t.1 t.2) = true) : CallOk ⟨P, w, K, mg, base, 3⟩ "first_lost" (cc "first_lost") :=
  ⟨_, _, _, He.glo_ok X G (c.fact 13 (f := .glo "first_lost") rfl), (fu_first_lost c).kp, fn_first_lost X G c t, bd_first_lost c⟩
noncomputable def fd_first_earned (c : He.SaysD faL fnL K) : FuncData := (c.def_ 15 (d := dd_first_earned) rfl).choose
theorem fu_first_earned (c : He.SaysD faL fnL K) : FunD K "first_earned" "first_earned" (defArgs st_first_earned) (defBody st_first_earned) (defScope st_first_earned) [] [] (He.fAd K dd_first_earned.at_) (fd_first_earned c) := (c.def_ 15 (d := dd_first_earned) rfl).choose_spec
theorem bd_first_earned (c : He.SaysD faL fnL K) : Binds K (fd_first_earned c) P_first_earned [] := (fu_first_earned c).bindsN fun _ _ _ _ _ _ us hl => match us, hl with | [_, _, _, _], _ => rfl
theorem le_first_earned (ds : List D) (M : Mp) (Q : DK) (E : XQ) (h : cc "first_earned" ds M Q E) : ds.length = P_first_earned.length := by
  rw [cc_first_earned] at h
  unfold spEarned at h
  repeat (obtain ⟨_, h⟩ := h)
  all_goals (subst_vars; rfl)
theorem wk_first_earned (ds : List D) (M : Mp) (Q : DK) (E : XQ) (h : cc "first_earned" ds M Q E) : Dy.wB E (b_first_earned cc) (Dy.endsOf Q) (Dy.startD N_first_earned ds) M := by
  rw [cc_first_earned] at h
  exact w_first_earned cc cc_does_ground ds M Q E h
theorem fn_first_earned (X : K.In h) (G : h.Ns mainGlobals mg) (c : He.SaysD faL fnL K) (t : (tsL.all fun t => He.tupB K t.1 t.2) = true) : FnOk P w K mg base (L2.CX P w) 3 (He.fAd K dd_first_earned.at_) (fd_first_earned c) P_first_earned (lSp ⟨P, w, K⟩ (cc "first_earned")) := by
  have c_does_ground : CallOk ⟨P, w, K, mg, base, 2⟩ "does_ground" (cc "does_ground") := (ok_does_ground X G c t).mono (by decide)
  refine def_ok (fu_first_earned c) sc_first_earned le_first_earned (ck_first_earned cc) ?_ wk_first_earned
  simp only [b_first_earned, b_first_earned_1, b_first_earned_2, b_first_earned_3, WfB, WfS, WfE, WfEs, WfIt, Bif.name, true_and, and_true]
  all_goals first | trivial | (and_intros <;> first | assumption | trivial)
theorem ok_first_earned (X : K.In h) (G : h.Ns mainGlobals mg) (c : He.SaysD faL fnL K) (t : (tsL.all fun t => He.tupB K t.1 t.2) = true) : CallOk ⟨P, w, K, mg, base, 3⟩ "first_earned" (cc "first_earned") :=
  ⟨_, _, _, He.glo_ok X G (c.fact 14 (f := .glo "first_earned") rfl), (fu_first_earned c).kp, fn_first_earned X G c t, bd_first_earned c⟩
noncomputable def fd_looked_at (c : He.SaysD faL fnL K) : FuncData := (c.def_ 16 (d := dd_looked_at) rfl).choose
theorem fu_looked_at (c : He.SaysD faL fnL K) : FunD K "looked_at" "looked_at" (defArgs st_looked_at) (defBody st_looked_at) (defScope st_looked_at) [] [] (He.fAd K dd_looked_at.at_) (fd_looked_at c) := (c.def_ 16 (d := dd_looked_at) rfl).choose_spec
theorem bd_looked_at (c : He.SaysD faL fnL K) : Binds K (fd_looked_at c) P_looked_at [] := (fu_looked_at c).bindsN fun _ _ _ _ _ _ us hl => match us, hl with | [_, _, _, _], _ => rfl
theorem le_looked_at (ds : List D) (M : Mp) (Q : DK) (E : XQ) (h : cc "looked_at" ds M Q E) : ds.length = P_looked_at.length := by
  rw [cc_looked_at] at h
  unfold spLooked at h
  repeat (obtain ⟨_, h⟩ := h)
  all_goals (subst_vars; rfl)
theorem wk_looked_at (ds : List D) (M : Mp) (Q : DK) (E : XQ) (h : cc "looked_at" ds M Q E) : Dy.wB E (b_looked_at cc) (Dy.endsOf Q) (Dy.startD N_looked_at ds) M := by
  rw [cc_looked_at] at h
  exact w_looked_at cc_first_lost cc_first_earned ds h
theorem fn_looked_at (X : K.In h) (G : h.Ns mainGlobals mg) (c : He.SaysD faL fnL K) (t : (tsL.all fun t => He.tupB K t.1 t.2) = true) : FnOk P w K mg base (L2.CX P w) 4 (He.fAd K dd_looked_at.at_) (fd_looked_at c) P_looked_at (lSp ⟨P, w, K⟩ (cc "looked_at")) := by
  have c_first_earned : CallOk ⟨P, w, K, mg, base, 3⟩ "first_earned" (cc "first_earned") := (ok_first_earned X G c t).mono (by decide)
  have c_first_lost : CallOk ⟨P, w, K, mg, base, 3⟩ "first_lost" (cc "first_lost") := (ok_first_lost X G c t).mono (by decide)
  have f_sorted : mg "sorted" = none := He.free_ok X G (c.fact 53 (f := .free "sorted") rfl)
  have f_tuple : mg "tuple" = none := He.free_ok X G (c.fact 58 (f := .free "tuple") rfl)
  refine def_ok (fu_looked_at c) sc_looked_at le_looked_at (ck_looked_at cc) ?_ wk_looked_at
  simp only [b_looked_at, b_looked_at_1, b_looked_at_2, b_looked_at_3, b_looked_at_4, b_looked_at_5, b_looked_at_6, b_looked_at_7, b_looked_at_8, b_looked_at_9, b_looked_at_10, WfB, WfS, WfE, WfEs, WfIt, Bif.name, true_and, and_true]
  all_goals first | trivial | (and_intros <;> first | assumption | trivial)
theorem ok_looked_at (X : K.In h) (G : h.Ns mainGlobals mg) (c : He.SaysD faL fnL K) (t : (tsL.all fun t => He.tupB K t.1 t.2) = true) : CallOk ⟨P, w, K, mg, base, 4⟩ "looked_at" (cc "looked_at") :=
  ⟨_, _, _, He.glo_ok X G (c.fact 15 (f := .glo "looked_at") rfl), (fu_looked_at c).kp, fn_looked_at X G c t, bd_looked_at c⟩
noncomputable def fd_counted (c : He.SaysD faL fnL K) : FuncData := (c.def_ 17 (d := dd_counted) rfl).choose
theorem fu_counted (c : He.SaysD faL fnL K) : FunD K "counted" "counted" (defArgs st_counted) (defBody st_counted) (defScope st_counted) [] [] (He.fAd K dd_counted.at_) (fd_counted c) := (c.def_ 17 (d := dd_counted) rfl).choose_spec
theorem bd_counted (c : He.SaysD faL fnL K) : Binds K (fd_counted c) P_counted [] := (fu_counted c).bindsN fun _ _ _ _ _ _ us hl => match us, hl with | [_, _, _], _ => rfl
theorem le_counted (ds : List D) (M : Mp) (Q : DK) (E : XQ) (h : cc "counted" ds M Q E) : ds.length = P_counted.length := by
  rw [cc_counted] at h
  unfold spCounted at h
  repeat (obtain ⟨_, h⟩ := h)
  all_goals (subst_vars; rfl)
theorem wk_counted (ds : List D) (M : Mp) (Q : DK) (E : XQ) (h : cc "counted" ds M Q E) : Dy.wB E (b_counted cc) (Dy.endsOf Q) (Dy.startD N_counted ds) M := by
  rw [cc_counted] at h
  exact w_counted cc cc_put ds M Q E h
theorem fn_counted (X : K.In h) (G : h.Ns mainGlobals mg) (c : He.SaysD faL fnL K) (t : (tsL.all fun t => He.tupB K t.1 t.2) = true) : FnOk P w K mg base (L2.CX P w) 2 (He.fAd K dd_counted.at_) (fd_counted c) P_counted (lSp ⟨P, w, K⟩ (cc "counted")) := by
  have c_put : CallOk ⟨P, w, K, mg, base, 1⟩ "put" (cc "put") := (ok_put X G c t).mono (by decide)
  have g_BACK : GlobOk ⟨P, w, K, mg, base, 1⟩ "BACK" (.str "back") := Dj.g_str X G (by decide +kernel) (c.fact 71 (f := .str "BACK" "back") rfl)
  have g_RUN : GlobOk ⟨P, w, K, mg, base, 1⟩ "RUN" (.str "run") := Dj.g_str X G (by decide +kernel) (c.fact 73 (f := .str "RUN" "run") rfl)
  have g_NIGHT : GlobOk ⟨P, w, K, mg, base, 1⟩ "NIGHT" (.str "night") := Dj.g_str X G (by decide +kernel) (c.fact 72 (f := .str "NIGHT" "night") rfl)
  have f_len : mg "len" = none := He.free_ok X G (c.fact 49 (f := .free "len") rfl)
  have f_list : mg "list" = none := He.free_ok X G (c.fact 75 (f := .free "list") rfl)
  have f_min : mg "min" = none := He.free_ok X G (c.fact 76 (f := .free "min") rfl)
  have f_tuple : mg "tuple" = none := He.free_ok X G (c.fact 58 (f := .free "tuple") rfl)
  have f_zip : mg "zip" = none := He.free_ok X G (c.fact 74 (f := .free "zip") rfl)
  have a_Book_cap : AtOk ⟨P, w, K, mg, base, 1⟩ "Book" "cap" := ⟨He.cls_ok (c.fact 65 (f := .cls "Book") rfl), He.noat_ok (c.fact 66 (f := .noat "Book" "cap") rfl)⟩
  have a_Book_places : AtOk ⟨P, w, K, mg, base, 1⟩ "Book" "places" := ⟨He.cls_ok (c.fact 65 (f := .cls "Book") rfl), He.noat_ok (c.fact 68 (f := .noat "Book" "places") rfl)⟩
  have a_Book_sorts : AtOk ⟨P, w, K, mg, base, 1⟩ "Book" "sorts" := ⟨He.cls_ok (c.fact 65 (f := .cls "Book") rfl), He.noat_ok (c.fact 67 (f := .noat "Book" "sorts") rfl)⟩
  refine def_ok (fu_counted c) sc_counted le_counted (ck_counted cc) ?_ wk_counted
  simp only [b_counted, b_counted_1, b_counted_2, b_counted_3, b_counted_4, b_counted_5, b_counted_6, b_counted_7, b_counted_8, b_counted_9, b_counted_10, b_counted_11, b_counted_12, WfB, WfS, WfE, WfEs, WfIt, Bif.name, true_and, and_true]
  all_goals first | trivial | (and_intros <;> first | assumption | trivial)
theorem ok_counted (X : K.In h) (G : h.Ns mainGlobals mg) (c : He.SaysD faL fnL K) (t : (tsL.all fun t => He.tupB K t.1 t.2) = true) : CallOk ⟨P, w, K, mg, base, 2⟩ "counted" (cc "counted") :=
  ⟨_, _, _, He.glo_ok X G (c.fact 16 (f := .glo "counted") rfl), (fu_counted c).kp, fn_counted X G c t, bd_counted c⟩
noncomputable def fd_led_by (c : He.SaysD faL fnL K) : FuncData := (c.def_ 18 (d := dd_led_by) rfl).choose
theorem fu_led_by (c : He.SaysD faL fnL K) : FunD K "led_by" "led_by" (defArgs st_led_by) (defBody st_led_by) (defScope st_led_by) [] [] (He.fAd K dd_led_by.at_) (fd_led_by c) := (c.def_ 18 (d := dd_led_by) rfl).choose_spec
theorem bd_led_by (c : He.SaysD faL fnL K) : Binds K (fd_led_by c) P_led_by [] := (fu_led_by c).bindsN fun _ _ _ _ _ _ us hl => match us, hl with | [_, _, _, _], _ => rfl
theorem le_led_by (ds : List D) (M : Mp) (Q : DK) (E : XQ) (h : cc "led_by" ds M Q E) : ds.length = P_led_by.length := by
  rw [cc_led_by] at h
  unfold spLedBy at h
  repeat (obtain ⟨_, h⟩ := h)
  all_goals (subst_vars; rfl)
theorem wk_led_by (ds : List D) (M : Mp) (Q : DK) (E : XQ) (h : cc "led_by" ds M Q E) : Dy.wB E (b_led_by cc) (Dy.endsOf Q) (Dy.startD N_led_by ds) M := by
  rw [cc_led_by] at h
  exact w_led_by cc cc_counted cc_looked_at ds M Q E h
theorem fn_led_by (X : K.In h) (G : h.Ns mainGlobals mg) (c : He.SaysD faL fnL K) (t : (tsL.all fun t => He.tupB K t.1 t.2) = true) : FnOk P w K mg base (L2.CX P w) 5 (He.fAd K dd_led_by.at_) (fd_led_by c) P_led_by (lSp ⟨P, w, K⟩ (cc "led_by")) := by
  have c_looked_at : CallOk ⟨P, w, K, mg, base, 4⟩ "looked_at" (cc "looked_at") := (ok_looked_at X G c t).mono (by decide)
  have c_counted : CallOk ⟨P, w, K, mg, base, 4⟩ "counted" (cc "counted") := (ok_counted X G c t).mono (by decide)
  have g_DO : GlobOk ⟨P, w, K, mg, base, 4⟩ "DO" (.str "do") := Dj.g_str X G (by decide +kernel) (c.fact 70 (f := .str "DO" "do") rfl)
  have g_TILL : GlobOk ⟨P, w, K, mg, base, 4⟩ "TILL" (.str "till") := Dj.g_str X G (by decide +kernel) (c.fact 59 (f := .str "TILL" "till") rfl)
  have f_tuple : mg "tuple" = none := He.free_ok X G (c.fact 58 (f := .free "tuple") rfl)
  have a_Book_cards : AtOk ⟨P, w, K, mg, base, 4⟩ "Book" "cards" := ⟨He.cls_ok (c.fact 65 (f := .cls "Book") rfl), He.noat_ok (c.fact 69 (f := .noat "Book" "cards") rfl)⟩
  refine def_ok (fu_led_by c) sc_led_by le_led_by (ck_led_by cc) ?_ wk_led_by
  simp only [b_led_by, b_led_by_1, b_led_by_2, b_led_by_3, b_led_by_4, b_led_by_5, WfB, WfS, WfE, WfEs, WfIt, Bif.name, true_and, and_true]
  all_goals first | trivial | (and_intros <;> first | assumption | trivial)
theorem ok_led_by (X : K.In h) (G : h.Ns mainGlobals mg) (c : He.SaysD faL fnL K) (t : (tsL.all fun t => He.tupB K t.1 t.2) = true) : CallOk ⟨P, w, K, mg, base, 5⟩ "led_by" (cc "led_by") :=
  ⟨_, _, _, He.glo_ok X G (c.fact 17 (f := .glo "led_by") rfl), (fu_led_by c).kp, fn_led_by X G c t, bd_led_by c⟩
noncomputable def fd_led_to (c : He.SaysD faL fnL K) : FuncData := (c.def_ 19 (d := dd_led_to) rfl).choose
theorem fu_led_to (c : He.SaysD faL fnL K) : FunD K "led_to" "led_to" (defArgs st_led_to) (defBody st_led_to) (defScope st_led_to) [] [] (He.fAd K dd_led_to.at_) (fd_led_to c) := (c.def_ 19 (d := dd_led_to) rfl).choose_spec
theorem bd_led_to (c : He.SaysD faL fnL K) : Binds K (fd_led_to c) P_led_to [] := (fu_led_to c).bindsN fun _ _ _ _ _ _ us hl => match us, hl with | [_, _, _], _ => rfl
theorem le_led_to (ds : List D) (M : Mp) (Q : DK) (E : XQ) (h : cc "led_to" ds M Q E) : ds.length = P_led_to.length := by
  rw [cc_led_to] at h
  unfold spLedTo at h
  repeat (obtain ⟨_, h⟩ := h)
  all_goals (subst_vars; rfl)
theorem wk_led_to (ds : List D) (M : Mp) (Q : DK) (E : XQ) (h : cc "led_to" ds M Q E) : Dy.wB E (b_led_to cc) (Dy.endsOf Q) (Dy.startD N_led_to ds) M := by
  rw [cc_led_to] at h
  exact w_led_to cc cc_led_by ds M Q E h
theorem fn_led_to (X : K.In h) (G : h.Ns mainGlobals mg) (c : He.SaysD faL fnL K) (t : (tsL.all fun t => He.tupB K t.1 t.2) = true) : FnOk P w K mg base (L2.CX P w) 6 (He.fAd K dd_led_to.at_) (fd_led_to c) P_led_to (lSp ⟨P, w, K⟩ (cc "led_to")) := by
  have c_led_by : CallOk ⟨P, w, K, mg, base, 5⟩ "led_by" (cc "led_by") := (ok_led_by X G c t).mono (by decide)
  have f_list : mg "list" = none := He.free_ok X G (c.fact 75 (f := .free "list") rfl)
  have a_Book_cards : AtOk ⟨P, w, K, mg, base, 5⟩ "Book" "cards" := ⟨He.cls_ok (c.fact 65 (f := .cls "Book") rfl), He.noat_ok (c.fact 69 (f := .noat "Book" "cards") rfl)⟩
  refine def_ok (fu_led_to c) sc_led_to le_led_to (ck_led_to cc) ?_ wk_led_to
  simp only [b_led_to, b_led_to_1, WfB, WfS, WfE, WfEs, WfIt, Bif.name, true_and, and_true]
  all_goals first | trivial | (and_intros <;> first | assumption | trivial)
theorem ok_led_to (X : K.In h) (G : h.Ns mainGlobals mg) (c : He.SaysD faL fnL K) (t : (tsL.all fun t => He.tupB K t.1 t.2) = true) : CallOk ⟨P, w, K, mg, base, 6⟩ "led_to" (cc "led_to") :=
  ⟨_, _, _, He.glo_ok X G (c.fact 18 (f := .glo "led_to") rfl), (fu_led_to c).kp, fn_led_to X G c t, bd_led_to c⟩
noncomputable def fd_led_with (c : He.SaysD faL fnL K) : FuncData := (c.def_ 20 (d := dd_led_with) rfl).choose
theorem fu_led_with (c : He.SaysD faL fnL K) : FunD K "led_with" "led_with" (defArgs st_led_with) (defBody st_led_with) (defScope st_led_with) [] [] (He.fAd K dd_led_with.at_) (fd_led_with c) := (c.def_ 20 (d := dd_led_with) rfl).choose_spec
theorem bd_led_with (c : He.SaysD faL fnL K) : Binds K (fd_led_with c) P_led_with [] := (fu_led_with c).bindsN fun _ _ _ _ _ _ us hl => match us, hl with | [_, _, _, _], _ => rfl
theorem le_led_with (ds : List D) (M : Mp) (Q : DK) (E : XQ) (h : cc "led_with" ds M Q E) : ds.length = P_led_with.length := by
  rw [cc_led_with] at h
  unfold spLedWith at h
  repeat (obtain ⟨_, h⟩ := h)
  all_goals (subst_vars; rfl)
theorem wk_led_with (ds : List D) (M : Mp) (Q : DK) (E : XQ) (h : cc "led_with" ds M Q E) : Dy.wB E (b_led_with cc) (Dy.endsOf Q) (Dy.startD N_led_with ds) M := by
  rw [cc_led_with] at h
  exact w_led_with cc cc_led_by ds M Q E h
theorem fn_led_with (X : K.In h) (G : h.Ns mainGlobals mg) (c : He.SaysD faL fnL K) (t : (tsL.all fun t => He.tupB K t.1 t.2) = true) : FnOk P w K mg base (L2.CX P w) 6 (He.fAd K dd_led_with.at_) (fd_led_with c) P_led_with (lSp ⟨P, w, K⟩ (cc "led_with")) := by
  have c_led_by : CallOk ⟨P, w, K, mg, base, 5⟩ "led_by" (cc "led_by") := (ok_led_by X G c t).mono (by decide)
  have a_Book_cards : AtOk ⟨P, w, K, mg, base, 5⟩ "Book" "cards" := ⟨He.cls_ok (c.fact 65 (f := .cls "Book") rfl), He.noat_ok (c.fact 69 (f := .noat "Book" "cards") rfl)⟩
  refine def_ok (fu_led_with c) sc_led_with le_led_with (ck_led_with cc) ?_ wk_led_with
  simp only [b_led_with, b_led_with_1, b_led_with_2, WfB, WfS, WfE, WfEs, WfIt, Bif.name, true_and, and_true]
  all_goals first | trivial | (and_intros <;> first | assumption | trivial)
theorem ok_led_with (X : K.In h) (G : h.Ns mainGlobals mg) (c : He.SaysD faL fnL K) (t : (tsL.all fun t => He.tupB K t.1 t.2) = true) : CallOk ⟨P, w, K, mg, base, 6⟩ "led_with" (cc "led_with") :=
  ⟨_, _, _, He.glo_ok X G (c.fact 19 (f := .glo "led_with") rfl), (fu_led_with c).kp, fn_led_with X G c t, bd_led_with c⟩
noncomputable def fd_wrong (c : He.SaysD faL fnL K) : FuncData := (c.def_ 21 (d := dd_wrong) rfl).choose
theorem fu_wrong (c : He.SaysD faL fnL K) : FunD K "wrong" "wrong" (defArgs st_wrong) (defBody st_wrong) (defScope st_wrong) [] [] (He.fAd K dd_wrong.at_) (fd_wrong c) := (c.def_ 21 (d := dd_wrong) rfl).choose_spec
theorem bd_wrong (c : He.SaysD faL fnL K) : Binds K (fd_wrong c) P_wrong [] := (fu_wrong c).bindsN fun _ _ _ _ _ _ us hl => match us, hl with | [_, _], _ => rfl
theorem le_wrong (ds : List D) (M : Mp) (Q : DK) (E : XQ) (h : cc "wrong" ds M Q E) : ds.length = P_wrong.length := by
  rw [cc_wrong] at h
  unfold spWrong at h
  repeat (obtain ⟨_, h⟩ := h)
  all_goals (subst_vars; rfl)
theorem wk_wrong (ds : List D) (M : Mp) (Q : DK) (E : XQ) (h : cc "wrong" ds M Q E) : Dy.wB E (b_wrong cc) (Dy.endsOf Q) (Dy.startD N_wrong ds) M := by
  rw [cc_wrong] at h
  exact w_wrong cc cc_led_to cc_led_with cc_steps_of cc_first_standing ds M Q E h
theorem fn_wrong (X : K.In h) (G : h.Ns mainGlobals mg) (c : He.SaysD faL fnL K) (t : (tsL.all fun t => He.tupB K t.1 t.2) = true) : FnOk P w K mg base (L2.CX P w) 7 (He.fAd K dd_wrong.at_) (fd_wrong c) P_wrong (lSp ⟨P, w, K⟩ (cc "wrong")) := by
  have c_led_to : CallOk ⟨P, w, K, mg, base, 6⟩ "led_to" (cc "led_to") := (ok_led_to X G c t).mono (by decide)
  have c_led_with : CallOk ⟨P, w, K, mg, base, 6⟩ "led_with" (cc "led_with") := (ok_led_with X G c t).mono (by decide)
  have c_steps_of : CallOk ⟨P, w, K, mg, base, 6⟩ "steps_of" (cc "steps_of") := (ok_steps_of X G c t).mono (by decide)
  have c_first_standing : CallOk ⟨P, w, K, mg, base, 6⟩ "first_standing" (cc "first_standing") := (ok_first_standing X G c t).mono (by decide)
  have f_len : mg "len" = none := He.free_ok X G (c.fact 49 (f := .free "len") rfl)
  refine def_ok (fu_wrong c) sc_wrong le_wrong (ck_wrong cc) ?_ wk_wrong
  simp only [b_wrong, b_wrong_1, b_wrong_2, b_wrong_3, b_wrong_4, b_wrong_5, b_wrong_6, b_wrong_7, b_wrong_8, b_wrong_9, b_wrong_10, b_wrong_11, b_wrong_12, WfB, WfS, WfE, WfEs, WfIt, Bif.name, true_and, and_true]
  all_goals first | trivial | (and_intros <;> first | assumption | trivial)
theorem ok_wrong (X : K.In h) (G : h.Ns mainGlobals mg) (c : He.SaysD faL fnL K) (t : (tsL.all fun t => He.tupB K t.1 t.2) = true) : CallOk ⟨P, w, K, mg, base, 7⟩ "wrong" (cc "wrong") :=
  ⟨_, _, _, He.glo_ok X G (c.fact 20 (f := .glo "wrong") rfl), (fu_wrong c).kp, fn_wrong X G c t, bd_wrong c⟩
noncomputable def fd_law_draws (c : He.SaysD faL fnL K) : FuncData := (c.def_ 22 (d := dd_law_draws) rfl).choose
theorem fu_law_draws (c : He.SaysD faL fnL K) : FunD K "_law_draws" "_law_draws" (defArgs st_law_draws) (defBody st_law_draws) (defScope st_law_draws) [] [] (He.fAd K dd_law_draws.at_) (fd_law_draws c) := (c.def_ 22 (d := dd_law_draws) rfl).choose_spec
theorem bd_law_draws (c : He.SaysD faL fnL K) : Binds K (fd_law_draws c) P_law_draws [] := (fu_law_draws c).bindsN fun _ _ _ _ _ _ us hl => match us, hl with | [_], _ => rfl
theorem le_law_draws (ds : List D) (M : Mp) (Q : DK) (E : XQ) (h : cc "_law_draws" ds M Q E) : ds.length = P_law_draws.length := by
  rw [cc_law_draws] at h
  unfold spDraws at h
  repeat (obtain ⟨_, h⟩ := h)
  all_goals (subst_vars; rfl)
theorem wk_law_draws (ds : List D) (M : Mp) (Q : DK) (E : XQ) (h : cc "_law_draws" ds M Q E) : Dy.wB E (b_law_draws cc) (Dy.endsOf Q) (Dy.startD N_law_draws ds) M := by
  rw [cc_law_draws] at h
  exact w_draws cc  ds M Q E h
theorem fn_law_draws (X : K.In h) (G : h.Ns mainGlobals mg) (c : He.SaysD faL fnL K) (t : (tsL.all fun t => He.tupB K t.1 t.2) = true) : FnOk P w K mg base (L2.CX P w) 1 (He.fAd K dd_law_draws.at_) (fd_law_draws c) P_law_draws (lSp ⟨P, w, K⟩ (cc "_law_draws")) := by
  have f_list : mg "list" = none := He.free_ok X G (c.fact 75 (f := .free "list") rfl)
  refine def_ok (fu_law_draws c) sc_law_draws le_law_draws (ck_law_draws cc) ?_ wk_law_draws
  simp only [b_law_draws, WfB, WfS, WfE, WfEs, WfIt, Bif.name, true_and, and_true]
  all_goals first | trivial | (and_intros <;> first | assumption | trivial)
theorem ok_law_draws (X : K.In h) (G : h.Ns mainGlobals mg) (c : He.SaysD faL fnL K) (t : (tsL.all fun t => He.tupB K t.1 t.2) = true) : CallOk ⟨P, w, K, mg, base, 1⟩ "_law_draws" (cc "_law_draws") :=
  ⟨_, _, _, He.glo_ok X G (c.fact 21 (f := .glo "_law_draws") rfl), (fu_law_draws c).kp, fn_law_draws X G c t, bd_law_draws c⟩
noncomputable def fd_law_pick (c : He.SaysD faL fnL K) : FuncData := (c.def_ 23 (d := dd_law_pick) rfl).choose
theorem fu_law_pick (c : He.SaysD faL fnL K) : FunD K "_law_pick" "_law_pick" (defArgs st_law_pick) (defBody st_law_pick) (defScope st_law_pick) [] [] (He.fAd K dd_law_pick.at_) (fd_law_pick c) := (c.def_ 23 (d := dd_law_pick) rfl).choose_spec
theorem bd_law_pick (c : He.SaysD faL fnL K) : Binds K (fd_law_pick c) P_law_pick [] := (fu_law_pick c).bindsN fun _ _ _ _ _ _ us hl => match us, hl with | [_, _], _ => rfl
theorem le_law_pick (ds : List D) (M : Mp) (Q : DK) (E : XQ) (h : cc "_law_pick" ds M Q E) : ds.length = P_law_pick.length := by
  rw [cc_law_pick] at h
  unfold spPick at h
  repeat (obtain ⟨_, h⟩ := h)
  all_goals (subst_vars; rfl)
theorem wk_law_pick (ds : List D) (M : Mp) (Q : DK) (E : XQ) (h : cc "_law_pick" ds M Q E) : Dy.wB E (b_law_pick cc) (Dy.endsOf Q) (Dy.startD N_law_pick ds) M := by
  rw [cc_law_pick] at h
  exact w_pick cc  ds M Q E h
theorem fn_law_pick (X : K.In h) (G : h.Ns mainGlobals mg) (c : He.SaysD faL fnL K) (t : (tsL.all fun t => He.tupB K t.1 t.2) = true) : FnOk P w K mg base (L2.CX P w) 1 (He.fAd K dd_law_pick.at_) (fd_law_pick c) P_law_pick (lSp ⟨P, w, K⟩ (cc "_law_pick")) := by
  have f_int : mg "int" = none := He.free_ok X G (c.fact 42 (f := .free "int") rfl)
  have f_len : mg "len" = none := He.free_ok X G (c.fact 49 (f := .free "len") rfl)
  refine def_ok (fu_law_pick c) sc_law_pick le_law_pick (ck_law_pick cc) ?_ wk_law_pick
  simp only [b_law_pick, b_law_pick_1, b_law_pick_2, b_law_pick_3, b_law_pick_4, b_law_pick_5, b_law_pick_6, b_law_pick_7, b_law_pick_8, b_law_pick_9, b_law_pick_10, b_law_pick_11, b_law_pick_12, WfB, WfS, WfE, WfEs, WfIt, Bif.name, true_and, and_true]
  all_goals first | trivial | (and_intros <;> first | assumption | trivial)
theorem ok_law_pick (X : K.In h) (G : h.Ns mainGlobals mg) (c : He.SaysD faL fnL K) (t : (tsL.all fun t => He.tupB K t.1 t.2) = true) : CallOk ⟨P, w, K, mg, base, 1⟩ "_law_pick" (cc "_law_pick") :=
  ⟨_, _, _, He.glo_ok X G (c.fact 22 (f := .glo "_law_pick") rfl), (fu_law_pick c).kp, fn_law_pick X G c t, bd_law_pick c⟩
noncomputable def fd_law_part (c : He.SaysD faL fnL K) : FuncData := (c.def_ 24 (d := dd_law_part) rfl).choose
theorem fu_law_part (c : He.SaysD faL fnL K) : FunD K "_law_part" "_law_part" (defArgs st_law_part) (defBody st_law_part) (defScope st_law_part) [] [] (He.fAd K dd_law_part.at_) (fd_law_part c) := (c.def_ 24 (d := dd_law_part) rfl).choose_spec
theorem bd_law_part (c : He.SaysD faL fnL K) : Binds K (fd_law_part c) P_law_part [] := (fu_law_part c).bindsN fun _ _ _ _ _ _ us hl => match us, hl with | [_, _, _, _], _ => rfl
theorem le_law_part (ds : List D) (M : Mp) (Q : DK) (E : XQ) (h : cc "_law_part" ds M Q E) : ds.length = P_law_part.length := by
  rw [cc_law_part] at h
  unfold spPart at h
  repeat (obtain ⟨_, h⟩ := h)
  all_goals (subst_vars; rfl)
theorem wk_law_part (ds : List D) (M : Mp) (Q : DK) (E : XQ) (h : cc "_law_part" ds M Q E) : Dy.wB E (b_law_part cc) (Dy.endsOf Q) (Dy.startD N_law_part ds) M := by
  rw [cc_law_part] at h
  exact w_part cc cc_law_pick ds M Q E h
theorem fn_law_part (X : K.In h) (G : h.Ns mainGlobals mg) (c : He.SaysD faL fnL K) (t : (tsL.all fun t => He.tupB K t.1 t.2) = true) : FnOk P w K mg base (L2.CX P w) 2 (He.fAd K dd_law_part.at_) (fd_law_part c) P_law_part (lSp ⟨P, w, K⟩ (cc "_law_part")) := by
  have c_law_pick : CallOk ⟨P, w, K, mg, base, 1⟩ "_law_pick" (cc "_law_pick") := (ok_law_pick X G c t).mono (by decide)
  have f_len : mg "len" = none := He.free_ok X G (c.fact 49 (f := .free "len") rfl)
  have f_list : mg "list" = none := He.free_ok X G (c.fact 75 (f := .free "list") rfl)
  have f_sorted : mg "sorted" = none := He.free_ok X G (c.fact 53 (f := .free "sorted") rfl)
  refine def_ok (fu_law_part c) sc_law_part le_law_part (ck_law_part cc) ?_ wk_law_part
  simp only [b_law_part, b_law_part_1, b_law_part_2, b_law_part_3, b_law_part_4, b_law_part_5, WfB, WfS, WfE, WfEs, WfIt, Bif.name, true_and, and_true]
  all_goals first | trivial | (and_intros <;> first | assumption | trivial)
theorem ok_law_part (X : K.In h) (G : h.Ns mainGlobals mg) (c : He.SaysD faL fnL K) (t : (tsL.all fun t => He.tupB K t.1 t.2) = true) : CallOk ⟨P, w, K, mg, base, 2⟩ "_law_part" (cc "_law_part") :=
  ⟨_, _, _, He.glo_ok X G (c.fact 23 (f := .glo "_law_part") rfl), (fu_law_part c).kp, fn_law_part X G c t, bd_law_part c⟩
noncomputable def fd_law_ground (c : He.SaysD faL fnL K) : FuncData := (c.def_ 25 (d := dd_law_ground) rfl).choose
theorem fu_law_ground (c : He.SaysD faL fnL K) : FunD K "_law_ground" "_law_ground" (defArgs st_law_ground) (defBody st_law_ground) (defScope st_law_ground) [] [] (He.fAd K dd_law_ground.at_) (fd_law_ground c) := (c.def_ 25 (d := dd_law_ground) rfl).choose_spec
theorem bd_law_ground (c : He.SaysD faL fnL K) : Binds K (fd_law_ground c) P_law_ground [] := (fu_law_ground c).bindsN fun _ _ _ _ _ _ us hl => match us, hl with | [_, _, _, _], _ => rfl
theorem le_law_ground (ds : List D) (M : Mp) (Q : DK) (E : XQ) (h : cc "_law_ground" ds M Q E) : ds.length = P_law_ground.length := by
  rw [cc_law_ground] at h
  unfold spGround at h
  repeat (obtain ⟨_, h⟩ := h)
  all_goals (subst_vars; rfl)
theorem wk_law_ground (ds : List D) (M : Mp) (Q : DK) (E : XQ) (h : cc "_law_ground" ds M Q E) : Dy.wB E (b_law_ground cc) (Dy.endsOf Q) (Dy.startD N_law_ground ds) M := by
  rw [cc_law_ground] at h
  exact w_ground cc cc_law_pick cc_law_part ds M Q E h
theorem fn_law_ground (X : K.In h) (G : h.Ns mainGlobals mg) (c : He.SaysD faL fnL K) (t : (tsL.all fun t => He.tupB K t.1 t.2) = true) : FnOk P w K mg base (L2.CX P w) 3 (He.fAd K dd_law_ground.at_) (fd_law_ground c) P_law_ground (lSp ⟨P, w, K⟩ (cc "_law_ground")) := by
  have c_law_part : CallOk ⟨P, w, K, mg, base, 2⟩ "_law_part" (cc "_law_part") := (ok_law_part X G c t).mono (by decide)
  have c_law_pick : CallOk ⟨P, w, K, mg, base, 2⟩ "_law_pick" (cc "_law_pick") := (ok_law_pick X G c t).mono (by decide)
  have f_range : mg "range" = none := He.free_ok X G (c.fact 77 (f := .free "range") rfl)
  refine def_ok (fu_law_ground c) sc_law_ground le_law_ground (ck_law_ground cc) ?_ wk_law_ground
  simp only [b_law_ground, b_law_ground_1, b_law_ground_2, b_law_ground_3, b_law_ground_4, b_law_ground_5, WfB, WfS, WfE, WfEs, WfIt, Bif.name, true_and, and_true]
  all_goals first | trivial | (and_intros <;> first | assumption | trivial)
theorem ok_law_ground (X : K.In h) (G : h.Ns mainGlobals mg) (c : He.SaysD faL fnL K) (t : (tsL.all fun t => He.tupB K t.1 t.2) = true) : CallOk ⟨P, w, K, mg, base, 3⟩ "_law_ground" (cc "_law_ground") :=
  ⟨_, _, _, He.glo_ok X G (c.fact 24 (f := .glo "_law_ground") rfl), (fu_law_ground c).kp, fn_law_ground X G c t, bd_law_ground c⟩
noncomputable def fd_law_stay (c : He.SaysD faL fnL K) : FuncData := (c.def_ 26 (d := dd_law_stay) rfl).choose
theorem fu_law_stay (c : He.SaysD faL fnL K) : FunD K "_law_stay" "_law_stay" (defArgs st_law_stay) (defBody st_law_stay) (defScope st_law_stay) [] [] (He.fAd K dd_law_stay.at_) (fd_law_stay c) := (c.def_ 26 (d := dd_law_stay) rfl).choose_spec
theorem bd_law_stay (c : He.SaysD faL fnL K) : Binds K (fd_law_stay c) P_law_stay [] := (fu_law_stay c).bindsN fun _ _ _ _ _ _ us hl => match us, hl with | [_, _], _ => rfl
theorem le_law_stay (ds : List D) (M : Mp) (Q : DK) (E : XQ) (h : cc "_law_stay" ds M Q E) : ds.length = P_law_stay.length := by
  rw [cc_law_stay] at h
  unfold spStay at h
  repeat (obtain ⟨_, h⟩ := h)
  all_goals (subst_vars; rfl)
theorem wk_law_stay (ds : List D) (M : Mp) (Q : DK) (E : XQ) (h : cc "_law_stay" ds M Q E) : Dy.wB E (b_law_stay cc) (Dy.endsOf Q) (Dy.startD N_law_stay ds) M := by
  rw [cc_law_stay] at h
  exact w_stay cc cc_law_pick ds M Q E h
theorem fn_law_stay (X : K.In h) (G : h.Ns mainGlobals mg) (c : He.SaysD faL fnL K) (t : (tsL.all fun t => He.tupB K t.1 t.2) = true) : FnOk P w K mg base (L2.CX P w) 2 (He.fAd K dd_law_stay.at_) (fd_law_stay c) P_law_stay (lSp ⟨P, w, K⟩ (cc "_law_stay")) := by
  have c_law_pick : CallOk ⟨P, w, K, mg, base, 1⟩ "_law_pick" (cc "_law_pick") := (ok_law_pick X G c t).mono (by decide)
  have f_len : mg "len" = none := He.free_ok X G (c.fact 49 (f := .free "len") rfl)
  have f_list : mg "list" = none := He.free_ok X G (c.fact 75 (f := .free "list") rfl)
  have f_sorted : mg "sorted" = none := He.free_ok X G (c.fact 53 (f := .free "sorted") rfl)
  refine def_ok (fu_law_stay c) sc_law_stay le_law_stay (ck_law_stay cc) ?_ wk_law_stay
  simp only [b_law_stay, b_law_stay_1, b_law_stay_2, b_law_stay_3, b_law_stay_4, b_law_stay_5, WfB, WfS, WfE, WfEs, WfIt, Bif.name, true_and, and_true]
  all_goals first | trivial | (and_intros <;> first | assumption | trivial)
theorem ok_law_stay (X : K.In h) (G : h.Ns mainGlobals mg) (c : He.SaysD faL fnL K) (t : (tsL.all fun t => He.tupB K t.1 t.2) = true) : CallOk ⟨P, w, K, mg, base, 2⟩ "_law_stay" (cc "_law_stay") :=
  ⟨_, _, _, He.glo_ok X G (c.fact 25 (f := .glo "_law_stay") rfl), (fu_law_stay c).kp, fn_law_stay X G c t, bd_law_stay c⟩
noncomputable def fd_law_drawn (c : He.SaysD faL fnL K) : FuncData := (c.def_ 27 (d := dd_law_drawn) rfl).choose
theorem fu_law_drawn (c : He.SaysD faL fnL K) : FunD K "_law_drawn" "_law_drawn" (defArgs st_law_drawn) (defBody st_law_drawn) (defScope st_law_drawn) [] [] (He.fAd K dd_law_drawn.at_) (fd_law_drawn c) := (c.def_ 27 (d := dd_law_drawn) rfl).choose_spec
theorem bd_law_drawn (c : He.SaysD faL fnL K) : Binds K (fd_law_drawn c) P_law_drawn [] := (fu_law_drawn c).bindsN fun _ _ _ _ _ _ us hl => match us, hl with | [_, _, _, _], _ => rfl
theorem le_law_drawn (ds : List D) (M : Mp) (Q : DK) (E : XQ) (h : cc "_law_drawn" ds M Q E) : ds.length = P_law_drawn.length := by
  rw [cc_law_drawn] at h
  unfold spDrawn at h
  repeat (obtain ⟨_, h⟩ := h)
  all_goals (subst_vars; rfl)
theorem wk_law_drawn (ds : List D) (M : Mp) (Q : DK) (E : XQ) (h : cc "_law_drawn" ds M Q E) : Dy.wB E (b_law_drawn cc) (Dy.endsOf Q) (Dy.startD N_law_drawn ds) M := by
  rw [cc_law_drawn] at h
  exact w_drawn cc cc_law_pick cc_law_ground cc_law_stay ds M Q E h
theorem fn_law_drawn (X : K.In h) (G : h.Ns mainGlobals mg) (c : He.SaysD faL fnL K) (t : (tsL.all fun t => He.tupB K t.1 t.2) = true) : FnOk P w K mg base (L2.CX P w) 4 (He.fAd K dd_law_drawn.at_) (fd_law_drawn c) P_law_drawn (lSp ⟨P, w, K⟩ (cc "_law_drawn")) := by
  have c_law_ground : CallOk ⟨P, w, K, mg, base, 3⟩ "_law_ground" (cc "_law_ground") := (ok_law_ground X G c t).mono (by decide)
  have c_law_stay : CallOk ⟨P, w, K, mg, base, 3⟩ "_law_stay" (cc "_law_stay") := (ok_law_stay X G c t).mono (by decide)
  have c_law_pick : CallOk ⟨P, w, K, mg, base, 3⟩ "_law_pick" (cc "_law_pick") := (ok_law_pick X G c t).mono (by decide)
  refine def_ok (fu_law_drawn c) sc_law_drawn le_law_drawn (ck_law_drawn cc) ?_ wk_law_drawn
  simp only [b_law_drawn, b_law_drawn_1, b_law_drawn_2, b_law_drawn_3, b_law_drawn_4, b_law_drawn_5, b_law_drawn_6, WfB, WfS, WfE, WfEs, WfIt, Bif.name, true_and, and_true]
  all_goals first | trivial | (and_intros <;> first | assumption | trivial)
theorem ok_law_drawn (X : K.In h) (G : h.Ns mainGlobals mg) (c : He.SaysD faL fnL K) (t : (tsL.all fun t => He.tupB K t.1 t.2) = true) : CallOk ⟨P, w, K, mg, base, 4⟩ "_law_drawn" (cc "_law_drawn") :=
  ⟨_, _, _, He.glo_ok X G (c.fact 26 (f := .glo "_law_drawn") rfl), (fu_law_drawn c).kp, fn_law_drawn X G c t, bd_law_drawn c⟩
noncomputable def fd_law_made (c : He.SaysD faL fnL K) : FuncData := (c.def_ 28 (d := dd_law_made) rfl).choose
theorem fu_law_made (c : He.SaysD faL fnL K) : FunD K "_law_made" "_law_made" (defArgs st_law_made) (defBody st_law_made) (defScope st_law_made) [] [] (He.fAd K dd_law_made.at_) (fd_law_made c) := (c.def_ 28 (d := dd_law_made) rfl).choose_spec
theorem bd_law_made (c : He.SaysD faL fnL K) : Binds K (fd_law_made c) P_law_made [] := (fu_law_made c).bindsN fun _ _ _ _ _ _ us hl => match us, hl with | [_], _ => rfl
theorem le_law_made (ds : List D) (M : Mp) (Q : DK) (E : XQ) (h : cc "_law_made" ds M Q E) : ds.length = P_law_made.length := by
  rw [cc_law_made] at h
  unfold spMade at h
  repeat (obtain ⟨_, h⟩ := h)
  all_goals (subst_vars; rfl)
theorem wk_law_made (ds : List D) (M : Mp) (Q : DK) (E : XQ) (h : cc "_law_made" ds M Q E) : Dy.wB E (b_law_made cc) (Dy.endsOf Q) (Dy.startD N_law_made ds) M := by
  rw [cc_law_made] at h
  exact w_made cc cc_Book__init ds M Q E h
theorem fn_law_made (X : K.In h) (G : h.Ns mainGlobals mg) (c : He.SaysD faL fnL K) (t : (tsL.all fun t => He.tupB K t.1 t.2) = true) : FnOk P w K mg base (L2.CX P w) 7 (He.fAd K dd_law_made.at_) (fd_law_made c) P_law_made (lSp ⟨P, w, K⟩ (cc "_law_made")) := by
  have m_Book : MkOk ⟨P, w, K, mg, base, 6⟩ "Book" (cc "Book.__init__") := Dj.mk_of (j := 5) X G (c.fact 78 (f := .glo "Book") rfl) (c.fact 79 (f := .mkr "Book") rfl) ((fn_Book__init X G c t).mono (by decide)) (bd_Book__init c)
  refine def_ok (fu_law_made c) sc_law_made le_law_made (ck_law_made cc) ?_ wk_law_made
  simp only [b_law_made, WfB, WfS, WfE, WfEs, WfIt, Bif.name, true_and, and_true]
  all_goals first | trivial | (and_intros <;> first | assumption | trivial)
theorem ok_law_made (X : K.In h) (G : h.Ns mainGlobals mg) (c : He.SaysD faL fnL K) (t : (tsL.all fun t => He.tupB K t.1 t.2) = true) : CallOk ⟨P, w, K, mg, base, 7⟩ "_law_made" (cc "_law_made") :=
  ⟨_, _, _, He.glo_ok X G (c.fact 27 (f := .glo "_law_made") rfl), (fu_law_made c).kp, fn_law_made X G c t, bd_law_made c⟩
noncomputable def fd_law_deeds (c : He.SaysD faL fnL K) : FuncData := (c.def_ 29 (d := dd_law_deeds) rfl).choose
theorem fu_law_deeds (c : He.SaysD faL fnL K) : FunD K "_law_deeds" "_law_deeds" (defArgs st_law_deeds) (defBody st_law_deeds) (defScope st_law_deeds) [] [] (He.fAd K dd_law_deeds.at_) (fd_law_deeds c) := (c.def_ 29 (d := dd_law_deeds) rfl).choose_spec
theorem bd_law_deeds (c : He.SaysD faL fnL K) : Binds K (fd_law_deeds c) P_law_deeds [] := (fu_law_deeds c).bindsN fun _ _ _ _ _ _ us hl => match us, hl with | [_], _ => rfl
theorem le_law_deeds (ds : List D) (M : Mp) (Q : DK) (E : XQ) (h : cc "_law_deeds" ds M Q E) : ds.length = P_law_deeds.length := by
  rw [cc_law_deeds] at h
  unfold spDeeds at h
  repeat (obtain ⟨_, h⟩ := h)
  all_goals (subst_vars; rfl)
theorem wk_law_deeds (ds : List D) (M : Mp) (Q : DK) (E : XQ) (h : cc "_law_deeds" ds M Q E) : Dy.wB E (b_law_deeds cc) (Dy.endsOf Q) (Dy.startD N_law_deeds ds) M := by
  rw [cc_law_deeds] at h
  exact w_deeds cc  ds M Q E h
theorem fn_law_deeds (X : K.In h) (G : h.Ns mainGlobals mg) (c : He.SaysD faL fnL K) (t : (tsL.all fun t => He.tupB K t.1 t.2) = true) : FnOk P w K mg base (L2.CX P w) 1 (He.fAd K dd_law_deeds.at_) (fd_law_deeds c) P_law_deeds (lSp ⟨P, w, K⟩ (cc "_law_deeds")) := by
  have f_list : mg "list" = none := He.free_ok X G (c.fact 75 (f := .free "list") rfl)
  have f_sorted : mg "sorted" = none := He.free_ok X G (c.fact 53 (f := .free "sorted") rfl)
  refine def_ok (fu_law_deeds c) sc_law_deeds le_law_deeds (ck_law_deeds cc) ?_ wk_law_deeds
  simp only [b_law_deeds, WfB, WfS, WfE, WfEs, WfIt, Bif.name, true_and, and_true]
  all_goals first | trivial | (and_intros <;> first | assumption | trivial)
theorem ok_law_deeds (X : K.In h) (G : h.Ns mainGlobals mg) (c : He.SaysD faL fnL K) (t : (tsL.all fun t => He.tupB K t.1 t.2) = true) : CallOk ⟨P, w, K, mg, base, 1⟩ "_law_deeds" (cc "_law_deeds") :=
  ⟨_, _, _, He.glo_ok X G (c.fact 28 (f := .glo "_law_deeds") rfl), (fu_law_deeds c).kp, fn_law_deeds X G c t, bd_law_deeds c⟩
noncomputable def fd_law_names (c : He.SaysD faL fnL K) : FuncData := (c.def_ 30 (d := dd_law_names) rfl).choose
theorem fu_law_names (c : He.SaysD faL fnL K) : FunD K "_law_names" "_law_names" (defArgs st_law_names) (defBody st_law_names) (defScope st_law_names) [] [] (He.fAd K dd_law_names.at_) (fd_law_names c) := (c.def_ 30 (d := dd_law_names) rfl).choose_spec
theorem bd_law_names (c : He.SaysD faL fnL K) : Binds K (fd_law_names c) P_law_names [] := (fu_law_names c).bindsN fun _ _ _ _ _ _ us hl => match us, hl with | [_], _ => rfl
theorem le_law_names (ds : List D) (M : Mp) (Q : DK) (E : XQ) (h : cc "_law_names" ds M Q E) : ds.length = P_law_names.length := by
  rw [cc_law_names] at h
  unfold spNames at h
  repeat (obtain ⟨_, h⟩ := h)
  all_goals (subst_vars; rfl)
theorem wk_law_names (ds : List D) (M : Mp) (Q : DK) (E : XQ) (h : cc "_law_names" ds M Q E) : Dy.wB E (b_law_names cc) (Dy.endsOf Q) (Dy.startD N_law_names ds) M := by
  rw [cc_law_names] at h
  exact w_names cc  ds M Q E h
theorem fn_law_names (X : K.In h) (G : h.Ns mainGlobals mg) (c : He.SaysD faL fnL K) (t : (tsL.all fun t => He.tupB K t.1 t.2) = true) : FnOk P w K mg base (L2.CX P w) 1 (He.fAd K dd_law_names.at_) (fd_law_names c) P_law_names (lSp ⟨P, w, K⟩ (cc "_law_names")) := by
  have f_list : mg "list" = none := He.free_ok X G (c.fact 75 (f := .free "list") rfl)
  have f_sorted : mg "sorted" = none := He.free_ok X G (c.fact 53 (f := .free "sorted") rfl)
  refine def_ok (fu_law_names c) sc_law_names le_law_names (ck_law_names cc) ?_ wk_law_names
  simp only [b_law_names, WfB, WfS, WfE, WfEs, WfIt, Bif.name, true_and, and_true]
  all_goals first | trivial | (and_intros <;> first | assumption | trivial)
theorem ok_law_names (X : K.In h) (G : h.Ns mainGlobals mg) (c : He.SaysD faL fnL K) (t : (tsL.all fun t => He.tupB K t.1 t.2) = true) : CallOk ⟨P, w, K, mg, base, 1⟩ "_law_names" (cc "_law_names") :=
  ⟨_, _, _, He.glo_ok X G (c.fact 29 (f := .glo "_law_names") rfl), (fu_law_names c).kp, fn_law_names X G c t, bd_law_names c⟩
noncomputable def fd_law_every (c : He.SaysD faL fnL K) : FuncData := (c.def_ 31 (d := dd_law_every) rfl).choose
theorem fu_law_every (c : He.SaysD faL fnL K) : FunD K "_law_every" "_law_every" (defArgs st_law_every) (defBody st_law_every) (defScope st_law_every) [] [] (He.fAd K dd_law_every.at_) (fd_law_every c) := (c.def_ 31 (d := dd_law_every) rfl).choose_spec
theorem bd_law_every (c : He.SaysD faL fnL K) : Binds K (fd_law_every c) P_law_every [] := (fu_law_every c).bindsN fun _ _ _ _ _ _ us hl => match us, hl with | [_], _ => rfl
theorem le_law_every (ds : List D) (M : Mp) (Q : DK) (E : XQ) (h : cc "_law_every" ds M Q E) : ds.length = P_law_every.length := by
  rw [cc_law_every] at h
  unfold spEvery at h
  repeat (obtain ⟨_, h⟩ := h)
  all_goals (subst_vars; rfl)
theorem wk_law_every (ds : List D) (M : Mp) (Q : DK) (E : XQ) (h : cc "_law_every" ds M Q E) : Dy.wB E (b_law_every cc) (Dy.endsOf Q) (Dy.startD N_law_every ds) M := by
  rw [cc_law_every] at h
  exact w_every cc cc_law_deeds ds M Q E h
theorem fn_law_every (X : K.In h) (G : h.Ns mainGlobals mg) (c : He.SaysD faL fnL K) (t : (tsL.all fun t => He.tupB K t.1 t.2) = true) : FnOk P w K mg base (L2.CX P w) 2 (He.fAd K dd_law_every.at_) (fd_law_every c) P_law_every (lSp ⟨P, w, K⟩ (cc "_law_every")) := by
  have c_law_deeds : CallOk ⟨P, w, K, mg, base, 1⟩ "_law_deeds" (cc "_law_deeds") := (ok_law_deeds X G c t).mono (by decide)
  refine def_ok (fu_law_every c) sc_law_every le_law_every (ck_law_every cc) ?_ wk_law_every
  simp only [b_law_every, b_law_every_1, WfB, WfS, WfE, WfEs, WfIt, Bif.name, true_and, and_true]
  all_goals first | trivial | (and_intros <;> first | assumption | trivial)
theorem ok_law_every (X : K.In h) (G : h.Ns mainGlobals mg) (c : He.SaysD faL fnL K) (t : (tsL.all fun t => He.tupB K t.1 t.2) = true) : CallOk ⟨P, w, K, mg, base, 2⟩ "_law_every" (cc "_law_every") :=
  ⟨_, _, _, He.glo_ok X G (c.fact 30 (f := .glo "_law_every") rfl), (fu_law_every c).kp, fn_law_every X G c t, bd_law_every c⟩
noncomputable def fd_law_begin (c : He.SaysD faL fnL K) : FuncData := (c.def_ 32 (d := dd_law_begin) rfl).choose
theorem fu_law_begin (c : He.SaysD faL fnL K) : FunD K "_law_begin" "_law_begin" (defArgs st_law_begin) (defBody st_law_begin) (defScope st_law_begin) [] [] (He.fAd K dd_law_begin.at_) (fd_law_begin c) := (c.def_ 32 (d := dd_law_begin) rfl).choose_spec
theorem bd_law_begin (c : He.SaysD faL fnL K) : Binds K (fd_law_begin c) P_law_begin [] := (fu_law_begin c).bindsN fun _ _ _ _ _ _ us hl => match us, hl with | [_], _ => rfl
theorem le_law_begin (ds : List D) (M : Mp) (Q : DK) (E : XQ) (h : cc "_law_begin" ds M Q E) : ds.length = P_law_begin.length := by
  rw [cc_law_begin] at h
  unfold spBegin at h
  repeat (obtain ⟨_, h⟩ := h)
  all_goals (subst_vars; rfl)
theorem wk_law_begin (ds : List D) (M : Mp) (Q : DK) (E : XQ) (h : cc "_law_begin" ds M Q E) : Dy.wB E (b_law_begin cc) (Dy.endsOf Q) (Dy.startD N_law_begin ds) M := by
  rw [cc_law_begin] at h
  exact w_begin cc cc_law_deeds ds M Q E h
theorem fn_law_begin (X : K.In h) (G : h.Ns mainGlobals mg) (c : He.SaysD faL fnL K) (t : (tsL.all fun t => He.tupB K t.1 t.2) = true) : FnOk P w K mg base (L2.CX P w) 2 (He.fAd K dd_law_begin.at_) (fd_law_begin c) P_law_begin (lSp ⟨P, w, K⟩ (cc "_law_begin")) := by
  have c_law_deeds : CallOk ⟨P, w, K, mg, base, 1⟩ "_law_deeds" (cc "_law_deeds") := (ok_law_deeds X G c t).mono (by decide)
  refine def_ok (fu_law_begin c) sc_law_begin le_law_begin (ck_law_begin cc) ?_ wk_law_begin
  simp only [b_law_begin, b_law_begin_1, b_law_begin_2, b_law_begin_3, WfB, WfS, WfE, WfEs, WfIt, Bif.name, true_and, and_true]
  all_goals first | trivial | (and_intros <;> first | assumption | trivial)
theorem ok_law_begin (X : K.In h) (G : h.Ns mainGlobals mg) (c : He.SaysD faL fnL K) (t : (tsL.all fun t => He.tupB K t.1 t.2) = true) : CallOk ⟨P, w, K, mg, base, 2⟩ "_law_begin" (cc "_law_begin") :=
  ⟨_, _, _, He.glo_ok X G (c.fact 31 (f := .glo "_law_begin") rfl), (fu_law_begin c).kp, fn_law_begin X G c t, bd_law_begin c⟩
noncomputable def fd_law_is (c : He.SaysD faL fnL K) : FuncData := (c.def_ 33 (d := dd_law_is) rfl).choose
theorem fu_law_is (c : He.SaysD faL fnL K) : FunD K "_law_is" "_law_is" (defArgs st_law_is) (defBody st_law_is) (defScope st_law_is) [] [] (He.fAd K dd_law_is.at_) (fd_law_is c) := (c.def_ 33 (d := dd_law_is) rfl).choose_spec
theorem bd_law_is (c : He.SaysD faL fnL K) : Binds K (fd_law_is c) P_law_is [] := (fu_law_is c).bindsN fun _ _ _ _ _ _ us hl => match us, hl with | [_, _], _ => rfl
theorem le_law_is (ds : List D) (M : Mp) (Q : DK) (E : XQ) (h : cc "_law_is" ds M Q E) : ds.length = P_law_is.length := by
  rw [cc_law_is] at h
  unfold spIs at h
  repeat (obtain ⟨_, h⟩ := h)
  all_goals (subst_vars; rfl)
theorem wk_law_is (ds : List D) (M : Mp) (Q : DK) (E : XQ) (h : cc "_law_is" ds M Q E) : Dy.wB E (b_law_is cc) (Dy.endsOf Q) (Dy.startD N_law_is ds) M := by
  rw [cc_law_is] at h
  exact w_is cc  ds M Q E h
theorem fn_law_is (X : K.In h) (G : h.Ns mainGlobals mg) (c : He.SaysD faL fnL K) (t : (tsL.all fun t => He.tupB K t.1 t.2) = true) : FnOk P w K mg base (L2.CX P w) 1 (He.fAd K dd_law_is.at_) (fd_law_is c) P_law_is (lSp ⟨P, w, K⟩ (cc "_law_is")) := by
  refine def_ok (fu_law_is c) sc_law_is le_law_is (ck_law_is cc) ?_ wk_law_is
  simp only [b_law_is, b_law_is_1, b_law_is_2, b_law_is_3, b_law_is_4, WfB, WfS, WfE, WfEs, WfIt, Bif.name, true_and, and_true]
  all_goals first | trivial | (and_intros <;> first | assumption | trivial)
theorem ok_law_is (X : K.In h) (G : h.Ns mainGlobals mg) (c : He.SaysD faL fnL K) (t : (tsL.all fun t => He.tupB K t.1 t.2) = true) : CallOk ⟨P, w, K, mg, base, 1⟩ "_law_is" (cc "_law_is") :=
  ⟨_, _, _, He.glo_ok X G (c.fact 32 (f := .glo "_law_is") rfl), (fu_law_is c).kp, fn_law_is X G c t, bd_law_is c⟩
noncomputable def fd_law_grounded (c : He.SaysD faL fnL K) : FuncData := (c.def_ 34 (d := dd_law_grounded) rfl).choose
theorem fu_law_grounded (c : He.SaysD faL fnL K) : FunD K "_law_grounded" "_law_grounded" (defArgs st_law_grounded) (defBody st_law_grounded) (defScope st_law_grounded) [] [] (He.fAd K dd_law_grounded.at_) (fd_law_grounded c) := (c.def_ 34 (d := dd_law_grounded) rfl).choose_spec
theorem bd_law_grounded (c : He.SaysD faL fnL K) : Binds K (fd_law_grounded c) P_law_grounded [] := (fu_law_grounded c).bindsN fun _ _ _ _ _ _ us hl => match us, hl with | [_, _, _], _ => rfl
theorem le_law_grounded (ds : List D) (M : Mp) (Q : DK) (E : XQ) (h : cc "_law_grounded" ds M Q E) : ds.length = P_law_grounded.length := by
  rw [cc_law_grounded] at h
  unfold spGrounded at h
  repeat (obtain ⟨_, h⟩ := h)
  all_goals (subst_vars; rfl)
theorem wk_law_grounded (ds : List D) (M : Mp) (Q : DK) (E : XQ) (h : cc "_law_grounded" ds M Q E) : Dy.wB E (b_law_grounded cc) (Dy.endsOf Q) (Dy.startD N_law_grounded ds) M := by
  rw [cc_law_grounded] at h
  exact w_grounded cc cc_law_is ds M Q E h
theorem fn_law_grounded (X : K.In h) (G : h.Ns mainGlobals mg) (c : He.SaysD faL fnL K) (t : (tsL.all fun t => He.tupB K t.1 t.2) = true) : FnOk P w K mg base (L2.CX P w) 2 (He.fAd K dd_law_grounded.at_) (fd_law_grounded c) P_law_grounded (lSp ⟨P, w, K⟩ (cc "_law_grounded")) := by
  have c_law_is : CallOk ⟨P, w, K, mg, base, 1⟩ "_law_is" (cc "_law_is") := (ok_law_is X G c t).mono (by decide)
  refine def_ok (fu_law_grounded c) sc_law_grounded le_law_grounded (ck_law_grounded cc) ?_ wk_law_grounded
  simp only [b_law_grounded, WfB, WfS, WfE, WfEs, WfIt, Bif.name, true_and, and_true]
  all_goals first | trivial | (and_intros <;> first | assumption | trivial)
theorem ok_law_grounded (X : K.In h) (G : h.Ns mainGlobals mg) (c : He.SaysD faL fnL K) (t : (tsL.all fun t => He.tupB K t.1 t.2) = true) : CallOk ⟨P, w, K, mg, base, 2⟩ "_law_grounded" (cc "_law_grounded") :=
  ⟨_, _, _, He.glo_ok X G (c.fact 33 (f := .glo "_law_grounded") rfl), (fu_law_grounded c).kp, fn_law_grounded X G c t, bd_law_grounded c⟩
noncomputable def fd_law_look (c : He.SaysD faL fnL K) : FuncData := (c.def_ 35 (d := dd_law_look) rfl).choose
theorem fu_law_look (c : He.SaysD faL fnL K) : FunD K "_law_look" "_law_look" (defArgs st_law_look) (defBody st_law_look) (defScope st_law_look) [] [] (He.fAd K dd_law_look.at_) (fd_law_look c) := (c.def_ 35 (d := dd_law_look) rfl).choose_spec
theorem bd_law_look (c : He.SaysD faL fnL K) : Binds K (fd_law_look c) P_law_look [] := (fu_law_look c).bindsN fun _ _ _ _ _ _ us hl => match us, hl with | [_, _, _], _ => rfl
theorem le_law_look (ds : List D) (M : Mp) (Q : DK) (E : XQ) (h : cc "_law_look" ds M Q E) : ds.length = P_law_look.length := by
  rw [cc_law_look] at h
  unfold spLook at h
  repeat (obtain ⟨_, h⟩ := h)
  all_goals (subst_vars; rfl)
theorem wk_law_look (ds : List D) (M : Mp) (Q : DK) (E : XQ) (h : cc "_law_look" ds M Q E) : Dy.wB E (b_law_look cc) (Dy.endsOf Q) (Dy.startD N_law_look ds) M := by
  rw [cc_law_look] at h
  exact w_look cc_law_grounded ds h
theorem fn_law_look (X : K.In h) (G : h.Ns mainGlobals mg) (c : He.SaysD faL fnL K) (t : (tsL.all fun t => He.tupB K t.1 t.2) = true) : FnOk P w K mg base (L2.CX P w) 3 (He.fAd K dd_law_look.at_) (fd_law_look c) P_law_look (lSp ⟨P, w, K⟩ (cc "_law_look")) := by
  have c_law_grounded : CallOk ⟨P, w, K, mg, base, 2⟩ "_law_grounded" (cc "_law_grounded") := (ok_law_grounded X G c t).mono (by decide)
  have f_sorted : mg "sorted" = none := He.free_ok X G (c.fact 53 (f := .free "sorted") rfl)
  refine def_ok (fu_law_look c) sc_law_look le_law_look (ck_law_look cc) ?_ wk_law_look
  simp only [b_law_look, b_law_look_1, b_law_look_2, b_law_look_3, b_law_look_4, b_law_look_5, b_law_look_6, b_law_look_7, b_law_look_8, b_law_look_9, b_law_look_10, b_law_look_11, b_law_look_12, b_law_look_13, b_law_look_14, b_law_look_15, b_law_look_16, WfB, WfS, WfE, WfEs, WfIt, Bif.name, true_and, and_true]
  all_goals first | trivial | (and_intros <;> first | assumption | trivial)
theorem ok_law_look (X : K.In h) (G : h.Ns mainGlobals mg) (c : He.SaysD faL fnL K) (t : (tsL.all fun t => He.tupB K t.1 t.2) = true) : CallOk ⟨P, w, K, mg, base, 3⟩ "_law_look" (cc "_law_look") :=
  ⟨_, _, _, He.glo_ok X G (c.fact 34 (f := .glo "_law_look") rfl), (fu_law_look c).kp, fn_law_look X G c t, bd_law_look c⟩
noncomputable def fd_law_count (c : He.SaysD faL fnL K) : FuncData := (c.def_ 36 (d := dd_law_count) rfl).choose
theorem fu_law_count (c : He.SaysD faL fnL K) : FunD K "_law_count" "_law_count" (defArgs st_law_count) (defBody st_law_count) (defScope st_law_count) [] [] (He.fAd K dd_law_count.at_) (fd_law_count c) := (c.def_ 36 (d := dd_law_count) rfl).choose_spec
theorem bd_law_count (c : He.SaysD faL fnL K) : Binds K (fd_law_count c) P_law_count [] := (fu_law_count c).bindsN fun _ _ _ _ _ _ us hl => match us, hl with | [_, _, _], _ => rfl
theorem le_law_count (ds : List D) (M : Mp) (Q : DK) (E : XQ) (h : cc "_law_count" ds M Q E) : ds.length = P_law_count.length := by
  rw [cc_law_count] at h
  unfold spCount at h
  repeat (obtain ⟨_, h⟩ := h)
  all_goals (subst_vars; rfl)
theorem wk_law_count (ds : List D) (M : Mp) (Q : DK) (E : XQ) (h : cc "_law_count" ds M Q E) : Dy.wB E (b_law_count cc) (Dy.endsOf Q) (Dy.startD N_law_count ds) M := by
  rw [cc_law_count] at h
  exact w_count cc cc_law_deeds ds M Q E h
theorem fn_law_count (X : K.In h) (G : h.Ns mainGlobals mg) (c : He.SaysD faL fnL K) (t : (tsL.all fun t => He.tupB K t.1 t.2) = true) : FnOk P w K mg base (L2.CX P w) 2 (He.fAd K dd_law_count.at_) (fd_law_count c) P_law_count (lSp ⟨P, w, K⟩ (cc "_law_count")) := by
  have c_law_deeds : CallOk ⟨P, w, K, mg, base, 1⟩ "_law_deeds" (cc "_law_deeds") := (ok_law_deeds X G c t).mono (by decide)
  have f_sorted : mg "sorted" = none := He.free_ok X G (c.fact 53 (f := .free "sorted") rfl)
  refine def_ok (fu_law_count c) sc_law_count le_law_count (ck_law_count cc) ?_ wk_law_count
  simp only [b_law_count, b_law_count_1, b_law_count_2, b_law_count_3, b_law_count_4, b_law_count_5, b_law_count_6, b_law_count_7, b_law_count_8, b_law_count_9, b_law_count_10, b_law_count_11, b_law_count_12, b_law_count_13, b_law_count_14, b_law_count_15, b_law_count_16, b_law_count_17, b_law_count_18, WfB, WfS, WfE, WfEs, WfIt, Bif.name, true_and, and_true]
  all_goals first | trivial | (and_intros <;> first | assumption | trivial)
theorem ok_law_count (X : K.In h) (G : h.Ns mainGlobals mg) (c : He.SaysD faL fnL K) (t : (tsL.all fun t => He.tupB K t.1 t.2) = true) : CallOk ⟨P, w, K, mg, base, 2⟩ "_law_count" (cc "_law_count") :=
  ⟨_, _, _, He.glo_ok X G (c.fact 35 (f := .glo "_law_count") rfl), (fu_law_count c).kp, fn_law_count X G c t, bd_law_count c⟩
noncomputable def fd_law_after (c : He.SaysD faL fnL K) : FuncData := (c.def_ 37 (d := dd_law_after) rfl).choose
theorem fu_law_after (c : He.SaysD faL fnL K) : FunD K "_law_after" "_law_after" (defArgs st_law_after) (defBody st_law_after) (defScope st_law_after) [] [] (He.fAd K dd_law_after.at_) (fd_law_after c) := (c.def_ 37 (d := dd_law_after) rfl).choose_spec
theorem bd_law_after (c : He.SaysD faL fnL K) : Binds K (fd_law_after c) P_law_after [] := (fu_law_after c).bindsN fun _ _ _ _ _ _ us hl => match us, hl with | [_, _, _, _], _ => rfl
theorem le_law_after (ds : List D) (M : Mp) (Q : DK) (E : XQ) (h : cc "_law_after" ds M Q E) : ds.length = P_law_after.length := by
  rw [cc_law_after] at h
  unfold spAfter at h
  repeat (obtain ⟨_, h⟩ := h)
  all_goals (subst_vars; rfl)
theorem wk_law_after (ds : List D) (M : Mp) (Q : DK) (E : XQ) (h : cc "_law_after" ds M Q E) : Dy.wB E (b_law_after cc) (Dy.endsOf Q) (Dy.startD N_law_after ds) M := by
  rw [cc_law_after] at h
  exact w_after cc cc_law_count cc_law_look ds M Q E h
theorem fn_law_after (X : K.In h) (G : h.Ns mainGlobals mg) (c : He.SaysD faL fnL K) (t : (tsL.all fun t => He.tupB K t.1 t.2) = true) : FnOk P w K mg base (L2.CX P w) 4 (He.fAd K dd_law_after.at_) (fd_law_after c) P_law_after (lSp ⟨P, w, K⟩ (cc "_law_after")) := by
  have c_law_look : CallOk ⟨P, w, K, mg, base, 3⟩ "_law_look" (cc "_law_look") := (ok_law_look X G c t).mono (by decide)
  have c_law_count : CallOk ⟨P, w, K, mg, base, 3⟩ "_law_count" (cc "_law_count") := (ok_law_count X G c t).mono (by decide)
  have f_dict : mg "dict" = none := He.free_ok X G (c.fact 52 (f := .free "dict") rfl)
  have f_sorted : mg "sorted" = none := He.free_ok X G (c.fact 53 (f := .free "sorted") rfl)
  refine def_ok (fu_law_after c) sc_law_after le_law_after (ck_law_after cc) ?_ wk_law_after
  simp only [b_law_after, b_law_after_1, b_law_after_2, b_law_after_3, b_law_after_4, b_law_after_5, b_law_after_6, b_law_after_7, b_law_after_8, WfB, WfS, WfE, WfEs, WfIt, Bif.name, true_and, and_true]
  all_goals first | trivial | (and_intros <;> first | assumption | trivial)
theorem ok_law_after (X : K.In h) (G : h.Ns mainGlobals mg) (c : He.SaysD faL fnL K) (t : (tsL.all fun t => He.tupB K t.1 t.2) = true) : CallOk ⟨P, w, K, mg, base, 4⟩ "_law_after" (cc "_law_after") :=
  ⟨_, _, _, He.glo_ok X G (c.fact 36 (f := .glo "_law_after") rfl), (fu_law_after c).kp, fn_law_after X G c t, bd_law_after c⟩
noncomputable def fd_law_led (c : He.SaysD faL fnL K) : FuncData := (c.def_ 38 (d := dd_law_led) rfl).choose
theorem fu_law_led (c : He.SaysD faL fnL K) : FunD K "_law_led" "_law_led" (defArgs st_law_led) (defBody st_law_led) (defScope st_law_led) [] [] (He.fAd K dd_law_led.at_) (fd_law_led c) := (c.def_ 38 (d := dd_law_led) rfl).choose_spec
theorem bd_law_led (c : He.SaysD faL fnL K) : Binds K (fd_law_led c) P_law_led [] := (fu_law_led c).bindsN fun _ _ _ _ _ _ us hl => match us, hl with | [_, _, _], _ => rfl
theorem le_law_led (ds : List D) (M : Mp) (Q : DK) (E : XQ) (h : cc "_law_led" ds M Q E) : ds.length = P_law_led.length := by
  rw [cc_law_led] at h
  unfold spLed at h
  repeat (obtain ⟨_, h⟩ := h)
  all_goals (subst_vars; rfl)
theorem wk_law_led (ds : List D) (M : Mp) (Q : DK) (E : XQ) (h : cc "_law_led" ds M Q E) : Dy.wB E (b_law_led cc) (Dy.endsOf Q) (Dy.startD N_law_led ds) M := by
  rw [cc_law_led] at h
  exact w_led cc cc_law_after cc_law_names ds M Q E h
theorem fn_law_led (X : K.In h) (G : h.Ns mainGlobals mg) (c : He.SaysD faL fnL K) (t : (tsL.all fun t => He.tupB K t.1 t.2) = true) : FnOk P w K mg base (L2.CX P w) 5 (He.fAd K dd_law_led.at_) (fd_law_led c) P_law_led (lSp ⟨P, w, K⟩ (cc "_law_led")) := by
  have c_law_after : CallOk ⟨P, w, K, mg, base, 4⟩ "_law_after" (cc "_law_after") := (ok_law_after X G c t).mono (by decide)
  have c_law_names : CallOk ⟨P, w, K, mg, base, 4⟩ "_law_names" (cc "_law_names") := (ok_law_names X G c t).mono (by decide)
  refine def_ok (fu_law_led c) sc_law_led le_law_led (ck_law_led cc) ?_ wk_law_led
  simp only [b_law_led, WfB, WfS, WfE, WfEs, WfIt, Bif.name, true_and, and_true]
  all_goals first | trivial | (and_intros <;> first | assumption | trivial)
theorem ok_law_led (X : K.In h) (G : h.Ns mainGlobals mg) (c : He.SaysD faL fnL K) (t : (tsL.all fun t => He.tupB K t.1 t.2) = true) : CallOk ⟨P, w, K, mg, base, 5⟩ "_law_led" (cc "_law_led") :=
  ⟨_, _, _, He.glo_ok X G (c.fact 37 (f := .glo "_law_led") rfl), (fu_law_led c).kp, fn_law_led X G c t, bd_law_led c⟩
noncomputable def fd_law_tuple (c : He.SaysD faL fnL K) : FuncData := (c.def_ 39 (d := dd_law_tuple) rfl).choose
theorem fu_law_tuple (c : He.SaysD faL fnL K) : FunD K "_law_tuple" "_law_tuple" (defArgs st_law_tuple) (defBody st_law_tuple) (defScope st_law_tuple) [] [] (He.fAd K dd_law_tuple.at_) (fd_law_tuple c) := (c.def_ 39 (d := dd_law_tuple) rfl).choose_spec
theorem bd_law_tuple (c : He.SaysD faL fnL K) : Binds K (fd_law_tuple c) P_law_tuple [] := (fu_law_tuple c).bindsN fun _ _ _ _ _ _ us hl => match us, hl with | [_, _], _ => rfl
theorem le_law_tuple (ds : List D) (M : Mp) (Q : DK) (E : XQ) (h : cc "_law_tuple" ds M Q E) : ds.length = P_law_tuple.length := by
  rw [cc_law_tuple] at h
  unfold spTuple at h
  repeat (obtain ⟨_, h⟩ := h)
  all_goals (subst_vars; rfl)
theorem wk_law_tuple (ds : List D) (M : Mp) (Q : DK) (E : XQ) (h : cc "_law_tuple" ds M Q E) : Dy.wB E (b_law_tuple cc) (Dy.endsOf Q) (Dy.startD N_law_tuple ds) M := by
  rw [cc_law_tuple] at h
  exact w_tuple cc cc_law_deeds ds M Q E h
theorem fn_law_tuple (X : K.In h) (G : h.Ns mainGlobals mg) (c : He.SaysD faL fnL K) (t : (tsL.all fun t => He.tupB K t.1 t.2) = true) : FnOk P w K mg base (L2.CX P w) 2 (He.fAd K dd_law_tuple.at_) (fd_law_tuple c) P_law_tuple (lSp ⟨P, w, K⟩ (cc "_law_tuple")) := by
  have c_law_deeds : CallOk ⟨P, w, K, mg, base, 1⟩ "_law_deeds" (cc "_law_deeds") := (ok_law_deeds X G c t).mono (by decide)
  have f_tuple : mg "tuple" = none := He.free_ok X G (c.fact 58 (f := .free "tuple") rfl)
  refine def_ok (fu_law_tuple c) sc_law_tuple le_law_tuple (ck_law_tuple cc) ?_ wk_law_tuple
  simp only [b_law_tuple, b_law_tuple_1, WfB, WfS, WfE, WfEs, WfIt, Bif.name, true_and, and_true]
  all_goals first | trivial | (and_intros <;> first | assumption | trivial)
theorem ok_law_tuple (X : K.In h) (G : h.Ns mainGlobals mg) (c : He.SaysD faL fnL K) (t : (tsL.all fun t => He.tupB K t.1 t.2) = true) : CallOk ⟨P, w, K, mg, base, 2⟩ "_law_tuple" (cc "_law_tuple") :=
  ⟨_, _, _, He.glo_ok X G (c.fact 38 (f := .glo "_law_tuple") rfl), (fu_law_tuple c).kp, fn_law_tuple X G c t, bd_law_tuple c⟩
noncomputable def fd_law_small (c : He.SaysD faL fnL K) : FuncData := (c.def_ 40 (d := dd_law_small) rfl).choose
theorem fu_law_small (c : He.SaysD faL fnL K) : FunD K "_law_small" "_law_small" (defArgs st_law_small) (defBody st_law_small) (defScope st_law_small) [] [] (He.fAd K dd_law_small.at_) (fd_law_small c) := (c.def_ 40 (d := dd_law_small) rfl).choose_spec
theorem bd_law_small (c : He.SaysD faL fnL K) : Binds K (fd_law_small c) P_law_small [] := (fu_law_small c).bindsN fun _ _ _ _ _ _ us hl => match us, hl with | [_], _ => rfl
theorem le_law_small (ds : List D) (M : Mp) (Q : DK) (E : XQ) (h : cc "_law_small" ds M Q E) : ds.length = P_law_small.length := by
  rw [cc_law_small] at h
  unfold spSmallB at h
  repeat (obtain ⟨_, h⟩ := h)
  all_goals (subst_vars; rfl)
theorem wk_law_small (ds : List D) (M : Mp) (Q : DK) (E : XQ) (h : cc "_law_small" ds M Q E) : Dy.wB E (b_law_small cc) (Dy.endsOf Q) (Dy.startD N_law_small ds) M := by
  rw [cc_law_small] at h
  exact w_smallB cc cc_law_pick cc_law_drawn ds M Q E h
theorem fn_law_small (X : K.In h) (G : h.Ns mainGlobals mg) (c : He.SaysD faL fnL K) (t : (tsL.all fun t => He.tupB K t.1 t.2) = true) : FnOk P w K mg base (L2.CX P w) 5 (He.fAd K dd_law_small.at_) (fd_law_small c) P_law_small (lSp ⟨P, w, K⟩ (cc "_law_small")) := by
  have c_law_drawn : CallOk ⟨P, w, K, mg, base, 4⟩ "_law_drawn" (cc "_law_drawn") := (ok_law_drawn X G c t).mono (by decide)
  have c_law_pick : CallOk ⟨P, w, K, mg, base, 4⟩ "_law_pick" (cc "_law_pick") := (ok_law_pick X G c t).mono (by decide)
  refine def_ok (fu_law_small c) sc_law_small le_law_small (ck_law_small cc) ?_ wk_law_small
  simp only [b_law_small, b_law_small_1, b_law_small_2, WfB, WfS, WfE, WfEs, WfIt, Bif.name, true_and, and_true]
  all_goals first | trivial | (and_intros <;> first | assumption | trivial)
theorem ok_law_small (X : K.In h) (G : h.Ns mainGlobals mg) (c : He.SaysD faL fnL K) (t : (tsL.all fun t => He.tupB K t.1 t.2) = true) : CallOk ⟨P, w, K, mg, base, 5⟩ "_law_small" (cc "_law_small") :=
  ⟨_, _, _, He.glo_ok X G (c.fact 39 (f := .glo "_law_small") rfl), (fu_law_small c).kp, fn_law_small X G c t, bd_law_small c⟩
noncomputable def fd_law_least (c : He.SaysD faL fnL K) : FuncData := (c.def_ 41 (d := dd_law_least) rfl).choose
theorem fu_law_least (c : He.SaysD faL fnL K) : FunD K "_law_least" "_law_least" (defArgs st_law_least) (defBody st_law_least) (defScope st_law_least) [] [] (He.fAd K dd_law_least.at_) (fd_law_least c) := (c.def_ 41 (d := dd_law_least) rfl).choose_spec
theorem bd_law_least (c : He.SaysD faL fnL K) : Binds K (fd_law_least c) P_law_least [] := (fu_law_least c).bindsN fun _ _ _ _ _ _ us hl => match us, hl with | [_, _], _ => rfl
theorem le_law_least (ds : List D) (M : Mp) (Q : DK) (E : XQ) (h : cc "_law_least" ds M Q E) : ds.length = P_law_least.length := by
  rw [cc_law_least] at h
  unfold spLeast at h
  repeat (obtain ⟨_, h⟩ := h)
  all_goals (subst_vars; rfl)
theorem wk_law_least (ds : List D) (M : Mp) (Q : DK) (E : XQ) (h : cc "_law_least" ds M Q E) : Dy.wB E (b_law_least cc) (Dy.endsOf Q) (Dy.startD N_law_least ds) M := by
  rw [cc_law_least] at h
  exact w_least cc cc_law_names cc_law_led cc_law_after cc_law_tuple cc_law_every cc_law_begin ds M Q E h
theorem fn_law_least (X : K.In h) (G : h.Ns mainGlobals mg) (c : He.SaysD faL fnL K) (t : (tsL.all fun t => He.tupB K t.1 t.2) = true) : FnOk P w K mg base (L2.CX P w) 6 (He.fAd K dd_law_least.at_) (fd_law_least c) P_law_least (lSp ⟨P, w, K⟩ (cc "_law_least")) := by
  have c_law_tuple : CallOk ⟨P, w, K, mg, base, 5⟩ "_law_tuple" (cc "_law_tuple") := (ok_law_tuple X G c t).mono (by decide)
  have c_law_led : CallOk ⟨P, w, K, mg, base, 5⟩ "_law_led" (cc "_law_led") := (ok_law_led X G c t).mono (by decide)
  have c_law_after : CallOk ⟨P, w, K, mg, base, 5⟩ "_law_after" (cc "_law_after") := (ok_law_after X G c t).mono (by decide)
  have c_law_names : CallOk ⟨P, w, K, mg, base, 5⟩ "_law_names" (cc "_law_names") := (ok_law_names X G c t).mono (by decide)
  have c_law_every : CallOk ⟨P, w, K, mg, base, 5⟩ "_law_every" (cc "_law_every") := (ok_law_every X G c t).mono (by decide)
  have c_law_begin : CallOk ⟨P, w, K, mg, base, 5⟩ "_law_begin" (cc "_law_begin") := (ok_law_begin X G c t).mono (by decide)
  refine def_ok (fu_law_least c) sc_law_least le_law_least (ck_law_least cc) ?_ wk_law_least
  simp only [b_law_least, b_law_least_1, b_law_least_2, b_law_least_3, b_law_least_4, b_law_least_5, b_law_least_6, b_law_least_7, b_law_least_8, b_law_least_9, b_law_least_10, b_law_least_11, b_law_least_12, b_law_least_13, b_law_least_14, b_law_least_15, b_law_least_16, WfB, WfS, WfE, WfEs, WfIt, Bif.name, true_and, and_true]
  all_goals first | trivial | (and_intros <;> first | assumption | trivial)
theorem ok_law_least (X : K.In h) (G : h.Ns mainGlobals mg) (c : He.SaysD faL fnL K) (t : (tsL.all fun t => He.tupB K t.1 t.2) = true) : CallOk ⟨P, w, K, mg, base, 6⟩ "_law_least" (cc "_law_least") :=
  ⟨_, _, _, He.glo_ok X G (c.fact 40 (f := .glo "_law_least") rfl), (fu_law_least c).kp, fn_law_least X G c t, bd_law_least c⟩
noncomputable def fd_law (c : He.SaysD faL fnL K) : FuncData := (c.def_ 42 (d := dd_law) rfl).choose
theorem fu_law (c : He.SaysD faL fnL K) : FunD K "law" "law" (defArgs st_law) (defBody st_law) (defScope st_law) [] [] (He.fAd K dd_law.at_) (fd_law c) := (c.def_ 42 (d := dd_law) rfl).choose_spec
theorem bd_law (c : He.SaysD faL fnL K) : Binds K (fd_law c) P_law [] := (fu_law c).bindsN fun _ _ _ _ _ _ us hl => match us, hl with | [_], _ => rfl
theorem le_law (ds : List D) (M : Mp) (Q : DK) (E : XQ) (h : cc "law" ds M Q E) : ds.length = P_law.length := by
  rw [cc_law] at h
  unfold spLaw at h
  repeat (obtain ⟨_, h⟩ := h)
  all_goals (subst_vars; rfl)
theorem wk_law (ds : List D) (M : Mp) (Q : DK) (E : XQ) (h : cc "law" ds M Q E) : Dy.wB E (b_law cc) (Dy.endsOf Q) (Dy.startD N_law ds) M := by
  rw [cc_law] at h
  exact w_law cc_law_pick cc_law_draws cc_law_small cc_law_made cc_law_names cc_law_every cc_wrong cc_law_least ds M h
theorem fn_law (X : K.In h) (G : h.Ns mainGlobals mg) (c : He.SaysD faL fnL K) (t : (tsL.all fun t => He.tupB K t.1 t.2) = true) : FnOk P w K mg base (L2.CX P w) 8 (He.fAd K dd_law.at_) (fd_law c) P_law (lSp ⟨P, w, K⟩ (cc "law")) := by
  have c_wrong : CallOk ⟨P, w, K, mg, base, 7⟩ "wrong" (cc "wrong") := (ok_wrong X G c t).mono (by decide)
  have c_law_every : CallOk ⟨P, w, K, mg, base, 7⟩ "_law_every" (cc "_law_every") := (ok_law_every X G c t).mono (by decide)
  have c_law_least : CallOk ⟨P, w, K, mg, base, 7⟩ "_law_least" (cc "_law_least") := (ok_law_least X G c t).mono (by decide)
  have c_law_pick : CallOk ⟨P, w, K, mg, base, 7⟩ "_law_pick" (cc "_law_pick") := (ok_law_pick X G c t).mono (by decide)
  have c_law_made : CallOk ⟨P, w, K, mg, base, 7⟩ "_law_made" (cc "_law_made") := (ok_law_made X G c t).mono (by decide)
  have c_law_names : CallOk ⟨P, w, K, mg, base, 7⟩ "_law_names" (cc "_law_names") := (ok_law_names X G c t).mono (by decide)
  have c_law_small : CallOk ⟨P, w, K, mg, base, 7⟩ "_law_small" (cc "_law_small") := (ok_law_small X G c t).mono (by decide)
  have c_law_draws : CallOk ⟨P, w, K, mg, base, 7⟩ "_law_draws" (cc "_law_draws") := (ok_law_draws X G c t).mono (by decide)
  have f_range : mg "range" = none := He.free_ok X G (c.fact 77 (f := .free "range") rfl)
  have f_tuple : mg "tuple" = none := He.free_ok X G (c.fact 58 (f := .free "tuple") rfl)
  refine def_ok (fu_law c) sc_law le_law (ck_law cc) ?_ wk_law
  simp only [b_law, b_law_1, b_law_2, b_law_3, b_law_4, b_law_5, b_law_6, b_law_7, b_law_8, b_law_9, b_law_10, b_law_11, b_law_12, b_law_13, WfB, WfS, WfE, WfEs, WfIt, Bif.name, true_and, and_true]
  all_goals first | trivial | (and_intros <;> first | assumption | trivial)
theorem ok_law (X : K.In h) (G : h.Ns mainGlobals mg) (c : He.SaysD faL fnL K) (t : (tsL.all fun t => He.tupB K t.1 t.2) = true) : CallOk ⟨P, w, K, mg, base, 8⟩ "law" (cc "law") :=
  ⟨_, _, _, He.glo_ok X G (c.fact 41 (f := .glo "law") rfl), (fu_law c).kp, fn_law X G c t, bd_law c⟩
end
abbrev RR : PySem.W.OpenRow := PySem.W.OpenLaw.row PySem.Challenge.rw_marksheld_k13_whole_wrong_touches
abbrev hkL : PySem.W.Hook := Dj.hookT 6 faL fnL tsL
def obL (s : PySem.W.SharedT) : hkL.α := Dj.obsTG 6 faL fnL tsL (HandSHeadRun.getT s)
theorem ob_eq (s : PySem.W.SharedT) : obL s = hkL.obs s.abs := Dj.obsTG_eq (HandSHeadRun.getT_eq s)
theorem run (w : World) : HandSHeadRun.RunEq RR (PySem.W.view RR.prog [69]) hkL obL 6000 looseL w := by
  intro os
  kernel_rfl
end Dg
open PySem PySem.W PySem.Calls PyProof.Rows
theorem PySem.Challenge.cw_marksheld_k13_whole_wrong_touches_holds : PySem.Challenge.rw_marksheld_k13_whole_wrong_touches.Holds := by
  w_on; o_law
  refine HandSHeadRun.head_any (r := OpenLaw.row PySem.Challenge.rw_marksheld_k13_whole_wrong_touches) (q := view (OpenLaw.row PySem.Challenge.rw_marksheld_k13_whole_wrong_touches).prog [69]) (H := Dg.hkL) (ob := Dg.obL) (M := 6000) (loose := Dg.looseL) (d := HandSHeadRun.topDef (OpenLaw.row PySem.Challenge.rw_marksheld_k13_whole_wrong_touches).prog 69) (kwd := []) Dg.ob_eq
    (by kernel_rfl) (fun s => by kernel_rfl) Dg.run (by kernel_rfl) (by kernel_rfl) (by kernel_rfl) (by rfl) (by first | assumption | decide +kernel) (by decide +kernel) ⟨rfl, rfl, rfl, rfl, rfl, by decide +kernel⟩ ?hw ?hc
  case hw => w_witness2
  case hc =>
    refine Dj.walk_law (l := PySem.Challenge.rw_marksheld_k13_whole_wrong_touches) (n := 63) (k := 8) (x := "_law_script") rfl (by decide) (by kernel_rfl) ⟨rfl, by decide, by decide⟩ ?F
    intro w mg fa h Y G hmg0
    obtain ⟨K, KX, c, t⟩ := Y
    have hmg : mg ("law" : PySem.Str) = some (.ref fa) := by
      have e : (HandSHeadRun.topDef (OpenLaw.row PySem.Challenge.rw_marksheld_k13_whole_wrong_touches).prog 69).name = ("law" : PySem.Str) := by kernel_rfl
      rw [← e]
      exact hmg0
    have e := hmg.symm.trans (He.glo_ok KX G (c.fact 41 (f := .glo "law") rfl))
    cases e
    have b := L2.FunD.bindsA (ps := ["_law_script"]) (Dg.fu_law c) fun _ _ _ _ _ _ us hl => match us, hl with | [_], _ => rfl
    exact ⟨K, _, Dg.cc "law", KX, fun s v => b s [v] rfl, fun ns => by rw [Dg.cc_law]; exact ⟨ns, rfl, fun _ => rfl⟩, fun base _ _ => Dg.fn_law KX G c t⟩
end
