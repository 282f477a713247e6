import PyProof.Rows.All
import Wide.All
import OpenK.AllK
import Wide.FinOn
import PyProof.EqAt
import PyProof.EqKinds
import PyProof.TupleCall
import HandS.ForMost
import HandS.ForExc
import HandS.TryMany
import HandS.SortKw
import HandS.Wide
import HandS.ExcIs
import HandS.IsInst
import HandS.EndBits
import HandS.More
import KE.SortData
import HandS.Lambda
import HandS.Style
import KE.SortKeyHeap
import KE.KSortKey
import HandS.Conv
import HandS.EndTab
import KE.KNestM
import KE.GoesEnum
import KE.GoesZip
import KE.GoesMore
import HandS.RevTup
import HandS.Rev
import HandS.Deep
import HandS.SetFor
import HandS.Zip
import HandS.TupLe
import HandS.TupAny
import HandS.Strs
import KE.DataFind
import HandS.RaiseMore
import PySem.Challenge.RW_tallyweb_k60_numbers_read
set_option Elab.async false
set_option linter.all false
set_option autoImplicit false
set_option maxRecDepth 100000
set_option maxHeartbeats 4000000
/-! DL: readings without a heap. A value of the heap is told by data (PyData); what a def owns and may change is told apart from what stands still. -/
namespace DL
open PySem PySem.Spec PyProof.Rows L2
variable {T : List (Addr × Str)}

abbrev D := PyData
def keyD : Key → D
  | .inl i => .int i
  | .inr x => .str x
def keyT (k : List Key) : D := .tuple (k.map keyD)
/-- a dict by tuples -/
def dctT (kds : List (List Key × D)) : D := .dict (kds.map fun p => (keyT p.1, p.2))
/-- a dict by ints and texts (a mark ahead tells it from the other kind) -/
def dctK (kds : List (Key × D)) : D := .dict ((.none, .none) :: kds.map fun p => (keyD p.1, p.2))
theorem keyD_inj {a b : Key} (h : keyD a = keyD b) : a = b := by
  cases a <;> cases b <;> simp [keyD] at h <;> rw [h]
theorem map_inj' {α β : Type} {f : α → β} (hf : ∀ a b, f a = f b → a = b) : ∀ {xs ys : List α}, xs.map f = ys.map f → xs = ys
  | [], [], _ => rfl
  | [], _ :: _, h => by simp at h
  | _ :: _, [], h => by simp at h
  | x :: xs, y :: ys, h => by
    simp only [List.map_cons, List.cons.injEq] at h
    rw [hf _ _ h.1, map_inj' hf h.2]
theorem keyT_inj {a b : List Key} (h : keyT a = keyT b) : a = b := by
  simp only [keyT, PyData.tuple.injEq] at h
  exact map_inj' (fun _ _ => keyD_inj) h
theorem dctT_inj {a b : List (List Key × D)} (h : dctT a = dctT b) : a = b := by
  simp only [dctT, PyData.dict.injEq] at h
  refine map_inj' (fun x y h => ?_) h
  simp only [Prod.mk.injEq] at h
  exact Prod.ext (keyT_inj h.1) h.2
theorem dctK_inj {a b : List (Key × D)} (h : dctK a = dctK b) : a = b := by
  simp only [dctK, PyData.dict.injEq, List.cons.injEq, true_and] at h
  refine map_inj' (fun x y h => ?_) h
  simp only [Prod.mk.injEq] at h
  exact Prod.ext (keyD_inj h.1) h.2
/-- a dict by tuples that is locked for good: only read, and walked -/
def lkT (kds : List (List Key × D)) : D := .dict ((.bool true, .none) :: kds.map fun p => (keyT p.1, p.2))
/-- .. one by ints and texts -/
def lkK (kds : List (Key × D)) : D := .dict ((.bool false, .none) :: kds.map fun p => (keyD p.1, p.2))
def lkB : D → Bool
  | .dict ((.bool _, .none) :: _) => true
  | _ => false
theorem lkT_inj {a b : List (List Key × D)} (h : lkT a = lkT b) : a = b := by
  simp only [lkT, PyData.dict.injEq, List.cons.injEq, true_and] at h
  refine map_inj' (fun x y h => ?_) h
  simp only [Prod.mk.injEq] at h
  exact Prod.ext (keyT_inj h.1) h.2
theorem dctT_lk {a b : List (List Key × D)} (h : dctT a = lkT b) : False := by
  simp only [dctT, lkT, PyData.dict.injEq] at h
  cases a with
  | nil => simp at h
  | cons p r => simp [keyT] at h
theorem dctK_lk {a : List (Key × D)} {b : List (List Key × D)} (h : dctK a = lkT b) : False := by
  simp only [dctK, lkT, PyData.dict.injEq, List.cons.injEq, Prod.mk.injEq] at h
  simp at h
theorem lkK_inj {a b : List (Key × D)} (h : lkK a = lkK b) : a = b := by
  simp only [lkK, PyData.dict.injEq, List.cons.injEq, true_and] at h
  refine map_inj' (fun x y h => ?_) h
  simp only [Prod.mk.injEq] at h
  exact Prod.ext (keyD_inj h.1) h.2
theorem dctT_lkK {a : List (List Key × D)} {b : List (Key × D)} (h : dctT a = lkK b) : False := by
  simp only [dctT, lkK, PyData.dict.injEq] at h
  cases a with
  | nil => simp at h
  | cons p r => simp [keyT] at h
theorem dctK_lkK {a b : List (Key × D)} (h : dctK a = lkK b) : False := by
  simp only [dctK, lkK, PyData.dict.injEq, List.cons.injEq, Prod.mk.injEq] at h
  simp at h
theorem lkT_lkK {a : List (List Key × D)} {b : List (Key × D)} (h : lkT a = lkK b) : False := by
  simp only [lkT, lkK, PyData.dict.injEq, List.cons.injEq, Prod.mk.injEq] at h
  simp at h
theorem dctT_ne {a : List (List Key × D)} {b : List (Key × D)} (h : dctT a = dctK b) : False := by
  simp only [dctT, dctK, PyData.dict.injEq] at h
  cases a with
  | nil => simp at h
  | cons p r => simp [keyT] at h

mutual
/-- v stands for the data d by objects that stand still (those of F) -/
inductive Dq (F : Hp) : V → D → Prop
  | non : Dq F .non .none
  | bl (b : Bool) : Dq F (.bl b) (.bool b)
  | int (i : Int) : Dq F (.int i) (.int i)
  | str (x : Str) : Dq F (.str x) (.str x)
  | lst {a : Addr} {xs : List V} {ds : List D} : F a = some (.lst xs) → DqA F xs ds → Dq F (.ref a) (.list ds)
  | tup {a : Addr} {xs : List V} {ds : List D} : F a = some (.tup xs) → DqA F xs ds → Dq F (.ref a) (.tuple ds)
  | dT {a : Addr} {kvs : List (List Key × V)} {kds : List (List Key × D)} : F a = some (.dT kvs) → kvs.map (·.1) = kds.map (·.1) → DqA F (kvs.map (·.2)) (kds.map (·.2)) → Dq F (.ref a) (.dict (kds.map fun p => (keyT p.1, p.2)))
  | dK {a : Addr} {kvs : List (Key × V)} {kds : List (Key × D)} : F a = some (.dK kvs) → kvs.map (·.1) = kds.map (·.1) → DqA F (kvs.map (·.2)) (kds.map (·.2)) → Dq F (.ref a) (.dict ((.none, .none) :: kds.map fun p => (keyD p.1, p.2)))
  | dL {a : Addr} {o : Obj} {kvs : List (List Key × V)} {kds : List (List Key × D)} : F a = some (.frz o (.dT kvs)) → kvs.map (·.1) = kds.map (·.1) → DqA F (kvs.map (·.2)) (kds.map (·.2)) → Dq F (.ref a) (.dict ((.bool true, .none) :: kds.map fun p => (keyT p.1, p.2)))
  | dM {a : Addr} {o : Obj} {kvs : List (Key × V)} {kds : List (Key × D)} : F a = some (.frz o (.dK kvs)) → kvs.map (·.1) = kds.map (·.1) → DqA F (kvs.map (·.2)) (kds.map (·.2)) → Dq F (.ref a) (.dict ((.bool false, .none) :: kds.map fun p => (keyD p.1, p.2)))
inductive DqA (F : Hp) : List V → List D → Prop
  | nil : DqA F [] []
  | cons {v : V} {vs : List V} {d : D} {ds : List D} : Dq F v d → DqA F vs ds → DqA F (v :: vs) (d :: ds)
end

mutual
theorem Dq.mono {F F' : Hp} (h : Same F F') : ∀ {v : V} {d : D}, Dq F v d → Dq F' v d
  | _, _, .non => .non
  | _, _, .bl b => .bl b
  | _, _, .int i => .int i
  | _, _, .str x => .str x
  | _, _, .lst e q => .lst (h _ _ e) (DqA.mono h q)
  | _, _, .tup e q => .tup (h _ _ e) (DqA.mono h q)
  | _, _, .dT e k q => .dT (h _ _ e) k (DqA.mono h q)
  | _, _, .dK e k q => .dK (h _ _ e) k (DqA.mono h q)
  | _, _, .dL e k q => .dL (h _ _ e) k (DqA.mono h q)
  | _, _, .dM e k q => .dM (h _ _ e) k (DqA.mono h q)
theorem DqA.mono {F F' : Hp} (h : Same F F') : ∀ {vs : List V} {ds : List D}, DqA F vs ds → DqA F' vs ds
  | _, _, .nil => .nil
  | _, _, .cons a b => .cons (Dq.mono h a) (DqA.mono h b)
end
theorem DqA.length {F : Hp} : ∀ {vs : List V} {ds : List D}, DqA F vs ds → vs.length = ds.length
  | _, _, .nil => rfl
  | _, _, .cons _ q => congrArg (· + 1) (DqA.length q)
theorem DqA.get {F : Hp} : ∀ {vs : List V} {ds : List D} {k : Nat} {d : D}, DqA F vs ds → ds[k]? = some d → ∃ v, vs[k]? = some v ∧ Dq F v d
  | _, _, _, _, .nil, h => by simp at h
  | _, _, 0, d, .cons a _, h => by
    simp at h
    subst h
    exact ⟨_, rfl, a⟩
  | _, _, k + 1, d, .cons _ b, h => by
    obtain ⟨v, h1, h2⟩ := DqA.get (k := k) b (by simpa using h)
    exact ⟨v, by simpa using h1, h2⟩
theorem DqA.get' {F : Hp} : ∀ {vs : List V} {ds : List D} {k : Nat} {v : V}, DqA F vs ds → vs[k]? = some v → ∃ d, ds[k]? = some d ∧ Dq F v d
  | _, _, _, _, .nil, h => by simp at h
  | _, _, 0, d, .cons a _, h => by
    simp at h
    subst h
    exact ⟨_, rfl, a⟩
  | _, _, k + 1, d, .cons _ b, h => by
    obtain ⟨v, h1, h2⟩ := DqA.get' (k := k) b (by simpa using h)
    exact ⟨v, by simpa using h1, h2⟩
theorem DqA.append {F : Hp} : ∀ {vs ws : List V} {ds es : List D}, DqA F vs ds → DqA F ws es → DqA F (vs ++ ws) (ds ++ es)
  | _, _, _, _, .nil, q => q
  | _, _, _, _, .cons a b, q => .cons a (DqA.append b q)
theorem DqA.snoc {F : Hp} {vs : List V} {v : V} {ds : List D} {d : D} (a : DqA F vs ds) (b : Dq F v d) : DqA F (vs ++ [v]) (ds ++ [d]) := a.append (.cons b .nil)
theorem DqA.take {F : Hp} : ∀ {vs : List V} {ds : List D} (n : Nat), DqA F vs ds → DqA F (vs.take n) (ds.take n)
  | _, _, 0, _ => .nil
  | _, _, _ + 1, .nil => .nil
  | _, _, n + 1, .cons a b => .cons a (DqA.take n b)
theorem DqA.drop {F : Hp} : ∀ {vs : List V} {ds : List D} (n : Nat), DqA F vs ds → DqA F (vs.drop n) (ds.drop n)
  | _, _, 0, q => q
  | _, _, _ + 1, .nil => .nil
  | _, _, n + 1, .cons _ b => DqA.drop n b
theorem DqA.set {F : Hp} : ∀ {vs : List V} {ds : List D} {v : V} {d : D} (k : Nat), DqA F vs ds → Dq F v d → DqA F (vs.set k v) (ds.set k d)
  | _, _, _, _, _, .nil, _ => .nil
  | _, _, _, _, 0, .cons _ b, q => .cons q b
  | _, _, _, _, k + 1, .cons a b, q => .cons a (DqA.set k b q)
theorem DqA.reverse {F : Hp} : ∀ {vs : List V} {ds : List D}, DqA F vs ds → DqA F vs.reverse ds.reverse
  | _, _, .nil => .nil
  | _, _, .cons a b => by
    rw [List.reverse_cons, List.reverse_cons]
    exact DqA.append (DqA.reverse b) (.cons a .nil)
theorem DqA.eraseIdx {F : Hp} : ∀ {vs : List V} {ds : List D} (k : Nat), DqA F vs ds → DqA F (vs.eraseIdx k) (ds.eraseIdx k)
  | _, _, _, .nil => .nil
  | _, _, 0, .cons _ b => b
  | _, _, k + 1, .cons a b => .cons a (DqA.eraseIdx k b)
theorem DqA.insertIdx {F : Hp} {v : V} {d : D} (q : Dq F v d) : ∀ {vs : List V} {ds : List D} (k : Nat), DqA F vs ds → DqA F (vs.insertIdx k v) (ds.insertIdx k d)
  | _, _, 0, h => .cons q h
  | _, _, _ + 1, .nil => .nil
  | _, _, k + 1, .cons a b => .cons a (DqA.insertIdx q k b)

/-! ### tracked objects stay, tables of code objects grow well -/
def NoT (F : Hp) : Prop := ∀ a ps, F a ≠ some (.tbl ps)
def IsD (o : HO) : Prop := match o with
  | .lst _ => True
  | .tup _ => True
  | .dT _ => True
  | .dK _ => True
  | _ => False
/-- nothing but a table is told of a -/
def Nn (H : Hp) (a : Addr) : Prop := ∀ u, H a = some u → ∃ ps, u = HO.tbl ps
theorem nn_of {H : Hp} {a : Addr} (h : H a = none) : Nn H a := fun u e => by
  rw [h] at e
  cases e
theorem nn_ne {H : Hp} {a c : Addr} {u : HO} (h : Nn H a) (e : H c = some u) (n : ∀ ps, u ≠ .tbl ps) : c ≠ a := fun z => by
  subst z
  obtain ⟨ps, q⟩ := h u e
  exact n ps q
structure Ext (T : List (Addr × Str)) (H H' : Hp) : Prop where
  e : LamX.ExtN H H'
  t : LamX.Tabs T H → LamX.Tabs T H'
theorem Ext.refl (H : Hp) : Ext T H H := ⟨LamX.ExtN.refl H, fun h => h⟩
theorem Ext.trans {H H1 H2 : Hp} (a : Ext T H H1) (b : Ext T H1 H2) : Ext T H H2 := ⟨a.e.trans b.e, fun h => b.t (a.t h)⟩
theorem Ext.nn {H H' : Hp} (x : Ext T H H') {a : Addr} (h : Nn H' a) : Nn H a := fun u e => by
  refine Classical.byContradiction fun c => ?_
  obtain ⟨ps, q⟩ := h u (x.e a u e fun ps z => c ⟨ps, z⟩)
  exact c ⟨ps, q⟩
theorem Ext.free {H H' : Hp} (x : Ext T H H') {a : Addr} (h : H' a = none) : Nn H a := x.nn (nn_of h)
theorem Ext.ap {H H' : Hp} (x : Ext T H H') {a : Addr} {o : HO} (h : H a = some o) (n : ∀ ps, o ≠ .tbl ps := by intro ps z; cases z) : H' a = some o := x.e a o h n
theorem Ext.new {H : Hp} {p : Addr} {o : HO} (h : H p = none) : Ext T H (upd H p o) := by
  have e : ∀ b u, H b = some u → upd H p o b = some u := fun b u q => by
    rw [upd_ne (ne_of_none q h)]
    exact q
  exact ⟨LamX.ExtN.of e, fun t => t.ext e⟩
theorem Ext.put {H H1 : Hp} (x : Ext T H H1) {p : Addr} (o : HO) (hp : Nn H p) (hd : ∀ u, H1 p = some u → IsD u) : Ext T H (upd H1 p o) := by
  refine ⟨fun b u q n => ?_, fun t => ?_⟩
  · rw [upd_ne (nn_ne hp q n)]
    exact x.e b u q n
  · intro r hr
    obtain ⟨ps, h1, h2, h3⟩ := x.t t r hr
    have n1 : r.1 ≠ p := fun z => by
      rw [z] at h1
      exact hd _ h1
    refine ⟨ps, by rw [upd_ne n1]; exact h1, h2, fun pos cv hc => ?_⟩
    obtain ⟨c, e1, e2⟩ := h3 pos cv hc
    refine ⟨c, e1, ?_⟩
    have n2 : c ≠ p := fun z => by
      rw [z] at e2
      exact hd _ e2
    rw [upd_ne n2]
    exact e2
theorem tabs_put {H1 : Hp} {T : List (Addr × Str)} (t : LamX.Tabs T H1) {p : Addr} (o : HO) (hd : ∀ u, H1 p = some u → IsD u) : LamX.Tabs T (upd H1 p o) := by
  intro r hr
  obtain ⟨ps, h1, h2, h3⟩ := t r hr
  have n1 : r.1 ≠ p := fun z => by
    rw [z] at h1
    exact hd _ h1
  refine ⟨ps, by rw [upd_ne n1]; exact h1, h2, fun pos cv hc => ?_⟩
  obtain ⟨c, e1, e2⟩ := h3 pos cv hc
  refine ⟨c, e1, ?_⟩
  have n2 : c ≠ p := fun z => by
    rw [z] at e2
    exact hd _ e2
  rw [upd_ne n2]
  exact e2
theorem seqE {K : PySem.W.Frag} {H H' : Hp} {a : Addr} {xs : List V} (x : Ext T H H') (h : SqL K H a xs) : SqL K H' a xs := by
  rcases h with (h | ⟨o, h⟩) | h
  · exact .inl (.inl (x.ap h))
  · exact .inl (.inr ⟨o, x.ap h⟩)
  · exact .inr h
/-- an own root: what it holds stands still -/
def Own (F H : Hp) (p : Addr) : D → Prop
  | .list ds => ∃ xs, H p = some (.lst xs) ∧ DqA F xs ds
  | .dict ps => (∃ (kvs : List (List Key × V)) (kds : List (List Key × D)), ps = (kds.map fun p => (keyT p.1, p.2)) ∧ H p = some (.dT kvs) ∧ kvs.map (·.1) = kds.map (·.1) ∧ DqA F (kvs.map (·.2)) (kds.map (·.2))) ∨
      (∃ (kvs : List (Key × V)) (kds : List (Key × D)), ps = ((.none, .none) :: kds.map fun p => (keyD p.1, p.2)) ∧ H p = some (.dK kvs) ∧ kvs.map (·.1) = kds.map (·.1) ∧ DqA F (kvs.map (·.2)) (kds.map (·.2)))
  | _ => False
/-- a root that may be read -/
def Rdb (K : PySem.W.Frag) (F H : Hp) (p : Addr) : D → Prop
  | .list ds => ∃ xs, SqL K H p xs ∧ DqA F xs ds
  | .tuple ds => ∃ xs, SqT K H p xs ∧ DqA F xs ds
  | .dict kds => Own F H p (.dict kds)
  | _ => False
theorem SqT.same {K : PySem.W.Frag} {H H' : Hp} {a : Addr} {xs : List V} (e : Ext T H H') (h : SqT K H a xs) : SqT K H' a xs := by
  rcases h with (h | ⟨o, h⟩) | h
  · exact .inl (.inl (e.ap h))
  · exact .inl (.inr ⟨o, e.ap h⟩)
  · exact .inr h
theorem Own.mono {F F' H H' : Hp} (f : Same F F') {p : Addr} (h : H' p = H p) : ∀ {d : D}, Own F H p d → Own F' H' p d
  | .list ds, ⟨xs, e, q⟩ => ⟨xs, h.trans e, q.mono f⟩
  | .dict kds, .inl ⟨kvs, ds, e1, e, k, q⟩ => .inl ⟨kvs, ds, e1, h.trans e, k, q.mono f⟩
  | .dict kds, .inr ⟨kvs, ds, e1, e, k, q⟩ => .inr ⟨kvs, ds, e1, h.trans e, k, q.mono f⟩
theorem Own.some {F H : Hp} {p : Addr} : ∀ {d : D}, Own F H p d → ∃ o, H p = some o ∧ IsD o
  | .list ds, ⟨xs, e, q⟩ => ⟨_, e, trivial⟩
  | .dict kds, .inl ⟨kvs, ds, e1, e, k, q⟩ => ⟨_, e, trivial⟩
  | .dict kds, .inr ⟨kvs, ds, e1, e, k, q⟩ => ⟨_, e, trivial⟩
theorem Own.notup {F H : Hp} {p : Addr} {d : D} (o : Own F H p d) (k : List Key) (z : H p = Option.some (.tup (k.map kV))) : False := by
  cases d with
  | list ds => obtain ⟨xs, e, q⟩ := o; rw [z] at e; cases e
  | dict ds =>
    rcases o with ⟨_, _, _, e, _⟩ | ⟨_, _, _, e, _⟩
    · rw [z] at e; cases e
    · rw [z] at e; cases e
  | _ => exact o.elim
theorem isD_n {o : HO} (h : IsD o) : ∀ ps, o ≠ .tbl ps := fun ps e => by
  subst e
  exact h
theorem Own.same {F F' H H' : Hp} (f : Same F F') (hh : Ext T H H') {p : Addr} {d : D} (o : Own F H p d) : Own F' H' p d := by
  obtain ⟨u, e, i⟩ := o.some
  exact o.mono f ((hh.ap e (isD_n i)).trans e.symm)
theorem Own.dq {F : Hp} {p : Addr} : ∀ {d : D}, Own F F p d → Dq F (.ref p) d
  | .list ds, ⟨xs, e, q⟩ => .lst e q
  | .dict kds, .inl ⟨kvs, ds, e1, e, k, q⟩ => by
    subst e1
    exact .dT e k q
  | .dict kds, .inr ⟨kvs, ds, e1, e, k, q⟩ => by
    subst e1
    exact .dK e k q
theorem Own.rdb {K : PySem.W.Frag} {F H : Hp} {p : Addr} : ∀ {d : D}, Own F H p d → Rdb K F H p d
  | .list ds, ⟨xs, e, q⟩ => ⟨xs, .of e, q⟩
  | .dict kds, h => h
theorem Rdb.same {K : PySem.W.Frag} {F F' H H' : Hp} (f : Same F F') (h : Ext T H H') {p : Addr} : ∀ {d : D}, Rdb K F H p d → Rdb K F' H' p d
  | .list ds, ⟨xs, e, q⟩ => ⟨xs, seqE h e, q.mono f⟩
  | .tuple ds, ⟨xs, e, q⟩ => ⟨xs, SqT.same h e, q.mono f⟩
  | .dict kds, o => Own.same (d := .dict kds) f h o

/-! ### how a heap grows -/
theorem same_new {H : Hp} {p : Addr} {o : HO} (h : H p = none) : Same H (upd H p o) := fun a u e => by
  rw [upd_ne (ne_of_none e h)]
  exact e
/-- the tuples of ints and texts stand still -/
def KTs (F H : Hp) : Prop := ∀ (a : Addr) (k : List Key), H a = some (.tup (k.map kV)) → F a = some (.tup (k.map kV))
/-- what stood still stays; what stands still anew is new altogether -/
structure Grow (T : List (Addr × Str)) (F H F' H' : Hp) : Prop where
  h : Ext T H H'
  f : Same F F'
  s : Same F' H'
  k : ∀ a o, H a = some o → (∀ ps, o ≠ .tbl ps) → F' a = F a
  n : NoT F'
  c : KTs F' H'
theorem Grow.refl {F0 H0 F H : Hp} (g : Grow T F0 H0 F H) : Grow T F H F H := ⟨.refl _, Same.refl _, g.s, fun _ _ _ _ => rfl, g.n, g.c⟩
theorem Grow.trans {F H F1 H1 F2 H2 : Hp} (a : Grow T F H F1 H1) (b : Grow T F1 H1 F2 H2) : Grow T F H F2 H2 :=
  ⟨a.h.trans b.h, a.f.trans b.f, b.s, fun x o e n => (b.k x o (a.h.ap e n) n).trans (a.k x o e n), b.n, b.c⟩
/-- a new object that stands still -/
theorem Grow.new {F0 H0 F H : Hp} (g : Grow T F0 H0 F H) {p : Addr} (o : HO) (h : H p = none) (hn : ∀ ps, o ≠ .tbl ps := by intro ps z; cases z) : Grow T F H (upd F p o) (upd H p o) := by
  have s := g.s
  have hf : F p = none := s.free h
  refine ⟨.new h, same_new hf, fun a u e => ?_, fun a u e _ => upd_ne (ne_of_none e h), fun a ps e => ?_, fun a k e => ?_⟩
  · by_cases q : a = p
    · subst q
      rw [upd_same] at e ⊢
      exact e
    · rw [upd_ne q] at e ⊢
      exact s a u e
  · by_cases q : a = p
    · subst q
      rw [upd_same] at e
      exact hn ps (Option.some.inj e)
    · rw [upd_ne q] at e
      exact g.n a ps e
  · by_cases q : a = p
    · subst q
      rw [upd_same] at e ⊢
      exact e
    · rw [upd_ne q] at e ⊢
      exact g.c a k e
/-- a new object that does not -/
theorem Grow.own {F0 H0 F H : Hp} (g : Grow T F0 H0 F H) {p : Addr} (o : HO) (h : H p = none) (hk : ∀ k : List Key, o ≠ .tup (k.map kV) := by intro k z; cases z) : Grow T F H F (upd H p o) :=
  ⟨.new h, Same.refl _, g.s.trans (same_new h), fun _ _ _ _ => rfl, g.n, fun a k e => by
    by_cases q : a = p
    · subst q
      rw [upd_same] at e
      exact absurd (Option.some.inj e) (hk k)
    · rw [upd_ne q] at e
      exact g.c a k e⟩
/-- the heap behind that is not told -/
theorem Grow.put {F H F1 H1 : Hp} (g : Grow T F H F1 H1) {p : Addr} (o : HO) (h : Nn H p) (hf : F1 p = none) (hd : ∀ u, H1 p = some u → IsD u) (hk : ∀ k : List Key, o ≠ .tup (k.map kV) := by intro k z; cases z) : Grow T F H F1 (upd H1 p o) := by
  refine ⟨g.h.put o h hd, g.f, fun a u e => ?_, g.k, g.n, fun a k e => ?_⟩
  rotate_left
  · by_cases q : a = p
    · subst q
      rw [upd_same] at e
      exact absurd (Option.some.inj e) (hk k)
    · rw [upd_ne q] at e
      exact g.c a k e
  rw [upd_ne (ne_of_none e hf)]
  exact g.s a u e

/-! ### atoms, trees (a root and children that may be changed) -/
/-- no address -/
def Atm (v : V) (d : D) : Prop := Dq (fun _ => none) v d
theorem Atm.dq {F : Hp} {v : V} {d : D} (h : Atm v d) : Dq F v d := Dq.mono (fun _ _ e => by cases e) h
def atmB : D → Bool
  | .list _ => false
  | .tuple _ => false
  | .dict _ => false
  | _ => true
theorem atm_of {F : Hp} {v : V} {d : D} (h : Dq F v d) (a : atmB d = true) : Atm v d := by
  cases h <;> first | (simp [atmB] at a; done) | constructor
theorem atm_list {v : V} {ds : List D} (h : Atm v (.list ds)) : False := by
  unfold Atm at h
  cases h with
  | lst e _ => cases e
theorem atm_tuple {v : V} {ds : List D} (h : Atm v (.tuple ds)) : False := by
  unfold Atm at h
  cases h with
  | tup e _ => cases e
theorem atm_dict {v : V} {ds : List (D × D)} (h : Atm v (.dict ds)) : False := by
  unfold Atm at h
  cases h with
  | dT e _ _ => cases e
  | dK e _ _ => cases e
  | dL e _ _ => cases e
  | dM e _ _ => cases e
theorem atm_ref {p : Addr} {d : D} (h : Atm (.ref p) d) : False := by
  unfold Atm at h
  cases h with
  | lst e _ => cases e
  | tup e _ => cases e
  | dT e _ _ => cases e
  | dK e _ _ => cases e
  | dL e _ _ => cases e
  | dM e _ _ => cases e
/-- the children of a tree, and where those stand that may be changed -/
inductive Kids (F H : Hp) : List V → List D → List Addr → Prop
  | nil : Kids F H [] [] []
  | own {q : Addr} {d : D} {vs : List V} {ds : List D} {A : List Addr} : F q = none → Own F H q d → Kids F H vs ds A → q ∉ A → Kids F H (.ref q :: vs) (d :: ds) (q :: A)
  | atm {v : V} {d : D} {vs : List V} {ds : List D} {A : List Addr} : Atm v d → Kids F H vs ds A → Kids F H (v :: vs) (d :: ds) A
/-- .. its root -/
def TrR (F H : Hp) (p : Addr) : D → List Addr → Prop
  | .list ds, A => ∃ xs, H p = some (.lst xs) ∧ Kids F H xs ds A
  | .tuple ds, A => ∃ xs, H p = some (.tup xs) ∧ Kids F H xs ds A
  | .dict ps, A => ∃ (kvs : List (List Key × V)) (kds : List (List Key × D)), ps = (kds.map fun p => (keyT p.1, p.2)) ∧ H p = some (.dT kvs) ∧ kvs.map (·.1) = kds.map (·.1) ∧ Kids F H (kvs.map (·.2)) (kds.map (·.2)) A
  | _, _ => False
/-- a tree: A its places -/
def Tr (F H : Hp) (v : V) (d : D) (A : List Addr) : Prop := ∃ p A', v = .ref p ∧ F p = none ∧ A = p :: A' ∧ p ∉ A' ∧ TrR F H p d A'
theorem Own.inv {F H : Hp} {p : Addr} {d : D} (o : Own F H p d) : (∃ ds, d = .list ds) ∨ ∃ ps, d = .dict ps := by
  cases d with
  | list ds => exact .inl ⟨_, rfl⟩
  | dict ds => exact .inr ⟨_, rfl⟩
  | _ => exact o.elim
theorem Own.noatm {F H : Hp} {p : Addr} {v : V} {d : D} (o : Own F H p d) (a : Atm v d) : False := by
  rcases o.inv with ⟨_, rfl⟩ | ⟨_, rfl⟩
  · exact atm_list a
  · exact atm_dict a
theorem Kids.nn {F H : Hp} : ∀ {vs : List V} {ds : List D} {A : List Addr}, Kids F H vs ds A → ∀ a ∈ A, F a = none ∧ ∃ u, H a = some u ∧ IsD u
  | _, _, _, .nil, a, h => by simp at h
  | _, _, _, .own n o k _, a, h => by
    rcases List.mem_cons.mp h with rfl | h
    · exact ⟨n, o.some⟩
    · exact k.nn a h
  | _, _, _, .atm _ k, a, h => k.nn a h
theorem Kids.len {F H : Hp} : ∀ {vs : List V} {ds : List D} {A : List Addr}, Kids F H vs ds A → vs.length = ds.length
  | _, _, _, .nil => rfl
  | _, _, _, .own _ _ k _ => congrArg (· + 1) k.len
  | _, _, _, .atm _ k => congrArg (· + 1) k.len
/-- the places stand in the list -/
theorem Kids.uniq {F F2 H H2 : Hp} : ∀ {vs : List V} {ds : List D} {A B : List Addr}, Kids F H vs ds A → Kids F2 H2 vs ds B → A = B
  | _, _, _, _, .nil, .nil => rfl
  | _, _, _, _, .own _ _ k _, .own _ _ k2 _ => by rw [k.uniq k2]
  | _, _, _, _, .own _ o _ _, .atm a _ => (o.noatm a).elim
  | _, _, _, _, .atm a _, .own _ o _ _ => (o.noatm a).elim
  | _, _, _, _, .atm _ k, .atm _ k2 => k.uniq k2
theorem Kids.mono {F F' H H' : Hp} (f : Same F F') : ∀ {vs : List V} {ds : List D} {A : List Addr}, Kids F H vs ds A → (∀ a ∈ A, F' a = none ∧ H' a = H a) → Kids F' H' vs ds A
  | _, _, _, .nil, _ => .nil
  | _, _, _, .own n o k q, h => .own (h _ (by simp)).1 (o.mono f (h _ (by simp)).2) (k.mono f fun a ha => h a (by simp [ha])) q
  | _, _, _, .atm a k, h => .atm a (k.mono f h)
theorem Kids.append {F H : Hp} : ∀ {vs ws : List V} {ds es : List D} {A B : List Addr}, Kids F H vs ds A → Kids F H ws es B → (∀ a ∈ A, a ∉ B) → Kids F H (vs ++ ws) (ds ++ es) (A ++ B)
  | _, _, _, _, _, _, .nil, q, _ => q
  | _, _, _, _, _, _, .own n o k m, q, h => .own n o (k.append q fun a ha => h a (by simp [ha])) (by
      intro z
      rcases List.mem_append.mp z with z | z
      · exact m z
      · exact h _ (by simp) z)
  | _, _, _, _, _, _, .atm a k, q, h => .atm a (k.append q h)
theorem TrR.som {F H : Hp} {p : Addr} {d : D} {A : List Addr} (t : TrR F H p d A) : ∃ o, H p = some o ∧ IsD o := by
  cases d with
  | list ds => obtain ⟨xs, e, _⟩ := t; exact ⟨_, e, trivial⟩
  | tuple ds => obtain ⟨xs, e, _⟩ := t; exact ⟨_, e, trivial⟩
  | dict ds => obtain ⟨xs, _, _, e, _⟩ := t; exact ⟨_, e, trivial⟩
  | _ => exact t.elim
theorem TrR.kids {F H : Hp} {p : Addr} {d : D} {A : List Addr} (t : TrR F H p d A) : ∀ a ∈ A, F a = none ∧ ∃ u, H a = some u ∧ IsD u := by
  cases d with
  | list ds => obtain ⟨xs, e, k⟩ := t; exact k.nn
  | tuple ds => obtain ⟨xs, e, k⟩ := t; exact k.nn
  | dict ds => obtain ⟨xs, _, _, e, _, k⟩ := t; exact k.nn
  | _ => exact t.elim
theorem Tr.nn {F H : Hp} {v : V} {d : D} {A : List Addr} (t : Tr F H v d A) : ∀ a ∈ A, F a = none ∧ ∃ u, H a = some u ∧ IsD u := by
  obtain ⟨p, A', rfl, n, rfl, h, t⟩ := t
  intro a ha
  rcases List.mem_cons.mp ha with rfl | ha
  · exact ⟨n, t.som⟩
  · exact t.kids a ha
theorem TrR.mono {F F' H H' : Hp} (f : Same F F') {p : Addr} {d : D} {A : List Addr} (t : TrR F H p d A) (hp : H' p = H p) (h : ∀ a ∈ A, F' a = none ∧ H' a = H a) : TrR F' H' p d A := by
  cases d with
  | list ds => obtain ⟨xs, e, k⟩ := t; exact ⟨xs, hp.trans e, k.mono f h⟩
  | tuple ds => obtain ⟨xs, e, k⟩ := t; exact ⟨xs, hp.trans e, k.mono f h⟩
  | dict ds => obtain ⟨kvs, kds, e1, e, e2, k⟩ := t; exact ⟨kvs, kds, e1, hp.trans e, e2, k.mono f h⟩
  | _ => exact t.elim
theorem Tr.mono {F F' H H' : Hp} (f : Same F F') {v : V} {d : D} {A : List Addr} (t : Tr F H v d A) (h : ∀ a ∈ A, F' a = none ∧ H' a = H a) : Tr F' H' v d A := by
  obtain ⟨p, A', rfl, n, rfl, q, t⟩ := t
  exact ⟨p, A', rfl, (h p (by simp)).1, rfl, q, t.mono f (h p (by simp)).2 fun a ha => h a (by simp [ha])⟩
theorem TrR.uniq {F F2 H H2 : Hp} (s : ∀ a o, H a = some o → (∀ ps, o ≠ .tbl ps) → H2 a = some o) {p : Addr} {d : D} {A B : List Addr} (t : TrR F H p d A) (t2 : TrR F2 H2 p d B) : A = B := by
  cases d with
  | list ds =>
    obtain ⟨xs, e, k⟩ := t
    obtain ⟨ys, e2, k2⟩ := t2
    have := s _ _ e (by intro ps z; cases z)
    rw [e2] at this
    cases this
    exact k.uniq k2
  | tuple ds =>
    obtain ⟨xs, e, k⟩ := t
    obtain ⟨ys, e2, k2⟩ := t2
    have := s _ _ e (by intro ps z; cases z)
    rw [e2] at this
    cases this
    exact k.uniq k2
  | dict ds =>
    obtain ⟨kvs, kds, e1, e, e3, k⟩ := t
    obtain ⟨kws, kes, f1, e2, f3, k2⟩ := t2
    have := s _ _ e (by intro ps z; cases z)
    rw [e2] at this
    cases this
    have q : kds = kes := dctT_inj (congrArg PyData.dict (e1.symm.trans f1))
    subst q
    exact k.uniq k2
  | _ => exact t.elim
theorem Tr.uniq {F F2 H H2 : Hp} (s : ∀ a o, H a = some o → (∀ ps, o ≠ .tbl ps) → H2 a = some o) {v : V} {d : D} {A B : List Addr} (t : Tr F H v d A) (t2 : Tr F2 H2 v d B) : A = B := by
  obtain ⟨p, A', rfl, n, rfl, q, t⟩ := t
  obtain ⟨p2, A2, e, n2, rfl, q2, t2⟩ := t2
  cases e
  rw [t.uniq s t2]
/-! trees that are read -/
inductive RKids (K : PySem.W.Frag) (F H : Hp) : List V → List D → Prop
  | nil : RKids K F H [] []
  | cons {v : V} {d : D} {vs : List V} {ds : List D} : (Dq F v d ∨ ∃ p, v = .ref p ∧ Rdb K F H p d) → RKids K F H vs ds → RKids K F H (v :: vs) (d :: ds)
/-- a tree that may be read -/
def RTr (K : PySem.W.Frag) (F H : Hp) (v : V) (d : D) : Prop := (Dq F v d ∨ ∃ p, v = .ref p ∧ Rdb K F H p d) ∨ ∃ p, v = .ref p ∧ match d with
  | .list ds => ∃ xs, SqL K H p xs ∧ RKids K F H xs ds
  | .tuple ds => ∃ xs, SqT K H p xs ∧ RKids K F H xs ds
  | _ => False
theorem RKids.same {K : PySem.W.Frag} {F F' H H' : Hp} (f : Same F F') (h : Ext T H H') : ∀ {vs : List V} {ds : List D}, RKids K F H vs ds → RKids K F' H' vs ds
  | _, _, .nil => .nil
  | _, _, .cons a q => .cons (by
      rcases a with a | ⟨p, e, a⟩
      · exact .inl (a.mono f)
      · exact .inr ⟨p, e, a.same f h⟩) (q.same f h)
theorem RTr.same {K : PySem.W.Frag} {F F' H H' : Hp} (f : Same F F') (h : Ext T H H') {v : V} {d : D} (r : RTr K F H v d) : RTr K F' H' v d := by
  rcases r with (a | ⟨p, e, a⟩) | ⟨p, e, a⟩
  · exact .inl (.inl (a.mono f))
  · exact .inl (.inr ⟨p, e, a.same f h⟩)
  · refine .inr ⟨p, e, ?_⟩
    cases d with
    | list ds => obtain ⟨xs, s, k⟩ := a; exact ⟨xs, seqE h s, k.same f h⟩
    | tuple ds => obtain ⟨xs, s, k⟩ := a; exact ⟨xs, SqT.same h s, k.same f h⟩
    | _ => exact a.elim
theorem Kids.rd {K : PySem.W.Frag} {F H : Hp} : ∀ {vs : List V} {ds : List D} {A : List Addr}, Kids F H vs ds A → RKids K F H vs ds
  | _, _, _, .nil => .nil
  | _, _, _, .own _ o k _ => .cons (.inr ⟨_, rfl, o.rdb⟩) k.rd
  | _, _, _, .atm a k => .cons (.inl a.dq) k.rd
def isLT : D → Bool
  | .list _ => true
  | .tuple _ => true
  | _ => false
theorem Tr.rd {K : PySem.W.Frag} {F H : Hp} {v : V} {d : D} {A : List Addr} (t : Tr F H v d A) (hd : isLT d = true) : RTr K F H v d := by
  obtain ⟨p, A', rfl, n, rfl, q, t⟩ := t
  refine .inr ⟨p, rfl, ?_⟩
  cases d with
  | list ds => obtain ⟨xs, e, k⟩ := t; exact ⟨xs, .of e, k.rd⟩
  | tuple ds => obtain ⟨xs, e, k⟩ := t; exact ⟨xs, .of e, k.rd⟩
  | _ => simp [isLT] at hd

/-! ### modes -/
/-- fz: stands still; st: may be read as long as the def runs; rd: may be read now; nw: a new root, or an atom; rt: a tree, read now; n2: a new tree -/
inductive Md where
  | fz | st | rd | nw | rt | n2
def Md.sh : Md → Bool
  | .rt => false
  | .n2 => false
  | _ => true
structure B where
  F : Hp
  H : Hp
  T : List (Addr × Str)
def VR (m : Md) (K : PySem.W.Frag) (b : B) (F H : Hp) (v : V) (d : D) : Prop := match m with
  | .fz => Dq F v d
  | .st => Dq F v d ∨ ∃ p, v = .ref p ∧ Rdb K b.F b.H p d
  | .rd => Dq F v d ∨ ∃ p, v = .ref p ∧ Rdb K F H p d
  | .nw => (∃ p, v = .ref p ∧ F p = none ∧ Own F H p d) ∨ Atm v d
  | .rt => RTr K F H v d
  | .n2 => ∃ A, Tr F H v d A
def Fr (m : Md) (H F' H' : Hp) (v : V) (d : D) : Prop := match m with
  | .nw => ∀ p, v = .ref p → Nn H p
  | .n2 => ∀ A, Tr F' H' v d A → ∀ a ∈ A, Nn H a
  | _ => True
theorem Tr.grow {F H F' H' : Hp} (g : Grow T F H F' H') {v : V} {d : D} {A : List Addr} (t : Tr F H v d A) : Tr F' H' v d A :=
  t.mono g.f fun a ha => by
    obtain ⟨n, u, e, i⟩ := t.nn a ha
    exact ⟨(g.k a u e (isD_n i)).trans n, (g.h.ap e (isD_n i)).trans e.symm⟩
theorem VR.grow {m : Md} {K : PySem.W.Frag} {b : B} {F H F' H' : Hp} {v : V} {d : D} (g : Grow b.T F H F' H') (r : VR m K b F H v d) : VR m K b F' H' v d := by
  cases m with
  | fz => exact Dq.mono g.f r
  | st =>
    rcases r with r | r
    · exact .inl (r.mono g.f)
    · exact .inr r
  | rd =>
    rcases r with r | ⟨p, e, r⟩
    · exact .inl (r.mono g.f)
    · exact .inr ⟨p, e, r.same g.f g.h⟩
  | nw =>
    rcases r with ⟨p, e, n, o⟩ | r
    · obtain ⟨u, eu, iu⟩ := o.some
      exact .inl ⟨p, e, (g.k p u eu (isD_n iu)).trans n, o.same g.f g.h⟩
    · exact .inr r
  | rt => exact RTr.same g.f g.h r
  | n2 =>
    obtain ⟨A, t⟩ := r
    exact ⟨A, t.grow g⟩
theorem VR.rd {m : Md} {K : PySem.W.Frag} {b : B} {F H : Hp} {v : V} {d : D} (hm : m.sh = true) (g : Grow b.T b.F b.H F H) (r : VR m K b F H v d) : VR .rd K b F H v d := by
  cases m with
  | fz => exact .inl r
  | st =>
    rcases r with r | ⟨p, e, r⟩
    · exact .inl r
    · exact .inr ⟨p, e, r.same g.f g.h⟩
  | rd => exact r
  | nw =>
    rcases r with ⟨p, e, n, o⟩ | r
    · exact .inr ⟨p, e, o.rdb⟩
    · exact .inl r.dq
  | rt => cases hm
  | n2 => cases hm
theorem VR.rt {m : Md} {K : PySem.W.Frag} {b : B} {F H : Hp} {v : V} {d : D} (g : Grow b.T b.F b.H F H) (r : VR m K b F H v d) (hd : m = .n2 → isLT d = true) : VR .rt K b F H v d := by
  cases m with
  | rt => exact r
  | n2 =>
    obtain ⟨A, t⟩ := r
    exact t.rd (hd rfl)
  | fz => exact .inl (VR.rd (m := .fz) rfl g r)
  | st => exact .inl (VR.rd (m := .st) rfl g r)
  | rd => exact .inl (VR.rd (m := .rd) rfl g r)
  | nw => exact .inl (VR.rd (m := .nw) rfl g r)
theorem Fr.back {m : Md} {H H' F2 H2 : Hp} {v : V} {d : D} (e : Ext T H H') (h : Fr m H' F2 H2 v d) : Fr m H F2 H2 v d := by
  cases m with
  | nw => exact fun p q => e.nn (h p q)
  | n2 => exact fun A t a ha => e.nn (h A t a ha)
  | _ => trivial

/-! what a readable value is -/
section
variable {K : PySem.W.Frag} {b : B} {F H : Hp} {v : V}
theorem vr_int {i : Int} (r : VR .rd K b F H v (.int i)) : v = .int i := by
  rcases r with r | ⟨p, e, r⟩
  · cases r
    rfl
  · exact r.elim
theorem vr_bl {i : Bool} (r : VR .rd K b F H v (.bool i)) : v = .bl i := by
  rcases r with r | ⟨p, e, r⟩
  · cases r
    rfl
  · exact r.elim
theorem vr_str {i : Str} (r : VR .rd K b F H v (.str i)) : v = .str i := by
  rcases r with r | ⟨p, e, r⟩
  · cases r
    rfl
  · exact r.elim
theorem vr_non (r : VR .rd K b F H v .none) : v = .non := by
  rcases r with r | ⟨p, e, r⟩
  · cases r
    rfl
  · exact r.elim
theorem vr_lst {ds : List D} (s : Same F H) (r : VR .rd K b F H v (.list ds)) : ∃ p xs, v = .ref p ∧ SqL K H p xs ∧ DqA F xs ds := by
  rcases r with r | ⟨p, e, xs, r, q⟩
  · cases r with
    | lst e q => exact ⟨_, _, rfl, .of (s _ _ e), q⟩
  · exact ⟨p, xs, e, r, q⟩
theorem vr_tup {ds : List D} (s : Same F H) (r : VR .rd K b F H v (.tuple ds)) : ∃ p xs, v = .ref p ∧ SqT K H p xs ∧ DqA F xs ds := by
  rcases r with r | ⟨p, e, xs, r, q⟩
  · cases r with
    | tup e q => exact ⟨_, _, rfl, .of (s _ _ e), q⟩
  · exact ⟨p, xs, e, r, q⟩
/-- a locked dict -/
def LkD (F H : Hp) (p : Addr) (ps : List (D × D)) : Prop := (∃ (o : Obj) (kvs : List (List Key × V)) (kds : List (List Key × D)), ps = ((.bool true, .none) :: kds.map fun p => (keyT p.1, p.2)) ∧ H p = some (.frz o (.dT kvs)) ∧ kvs.map (·.1) = kds.map (·.1) ∧ DqA F (kvs.map (·.2)) (kds.map (·.2))) ∨
  ∃ (o : Obj) (kvs : List (Key × V)) (kds : List (Key × D)), ps = ((.bool false, .none) :: kds.map fun p => (keyD p.1, p.2)) ∧ H p = some (.frz o (.dK kvs)) ∧ kvs.map (·.1) = kds.map (·.1) ∧ DqA F (kvs.map (·.2)) (kds.map (·.2))
theorem vr_dict {kds : List (D × D)} (s : Same F H) (r : VR .rd K b F H v (.dict kds)) : ∃ p, v = .ref p ∧ (Own F H p (.dict kds) ∨ LkD F H p kds) := by
  rcases r with r | ⟨p, e, r⟩
  · cases r with
    | dT e k q => exact ⟨_, rfl, .inl (.inl ⟨_, _, rfl, s _ _ e, k, q⟩)⟩
    | dK e k q => exact ⟨_, rfl, .inl (.inr ⟨_, _, rfl, s _ _ e, k, q⟩)⟩
    | dL e k q => exact ⟨_, rfl, .inr (.inl ⟨_, _, _, rfl, s _ _ e, k, q⟩)⟩
    | dM e k q => exact ⟨_, rfl, .inr (.inr ⟨_, _, _, rfl, s _ _ e, k, q⟩)⟩
  · exact ⟨p, e, .inl r⟩
end
mutual
/-- data without dicts -/
def flat : D → Bool
  | .list ds => flatA ds
  | .tuple ds => flatA ds
  | .dict _ => false
  | _ => true
def flatA : List D → Bool
  | [] => true
  | d :: ds => flat d && flatA ds
end
mutual
theorem Dq.dp {K : PySem.W.Frag} {F H : Hp} (s : Same F H) : ∀ {d : D} {v : V}, Dq F v d → flat d = true → Dp K H v d
  | .none, _, h, _ => by cases h; exact .non
  | .bool _, _, h, _ => by cases h; exact .bl _
  | .int _, _, h, _ => by cases h; exact .int _
  | .str _, _, h, _ => by cases h; exact .str _
  | .list ds, _, h, f => by
    cases h with
    | lst e q => exact .lst (.of (s _ _ e)) (DqA.dp s q (by simpa [flat] using f))
  | .tuple ds, _, h, f => by
    cases h with
    | tup e q => exact .tup (.of (s _ _ e)) (DqA.dp s q (by simpa [flat] using f))
  | .dict _, _, _, f => by simp [flat] at f
theorem DqA.dp {K : PySem.W.Frag} {F H : Hp} (s : Same F H) : ∀ {ds : List D} {vs : List V}, DqA F vs ds → flatA ds = true → DpAll K H vs ds
  | [], _, h, _ => by cases h; exact .nil
  | d :: ds, _, h, f => by
    simp only [flatA, Bool.and_eq_true] at f
    cases h with
    | cons a q => exact .cons (Dq.dp s a f.1) (DqA.dp s q f.2)
end
theorem VR.dp {K : PySem.W.Frag} {b : B} {F H : Hp} {v : V} {d : D} (s : Same F H) (r : VR .rd K b F H v d) (f : flat d = true) : Dp K H v d := by
  rcases r with r | ⟨p, e, r⟩
  · exact r.dp s f
  · subst e
    cases d with
    | list ds =>
      obtain ⟨xs, e, q⟩ := r
      exact .lst e (q.dp s (by simpa [flat] using f))
    | tuple ds =>
      obtain ⟨xs, e, q⟩ := r
      exact .tup e (q.dp s (by simpa [flat] using f))
    | dict _ => simp [flat] at f
    | _ => exact r.elim

/-! ### the slots -/
inductive Sl where
  | un | fz (d : D) | ow (d : D) | ln (d : D) | at (a : Addr) | tr (v : V) (d : D) | lt (d : D)
/-- what a slot holds; A: the places that may be changed through it -/
def SlF (K : PySem.W.Frag) (b : B) (F H : Hp) (x : Option (Option V)) (s : Sl) (A : List Addr) : Prop := match s with
  | .un => A = []
  | .fz d => A = [] ∧ ∃ v, x = some (some v) ∧ Dq F v d
  | .ow d => ∃ v, x = some (some v) ∧ ((A = [] ∧ Atm v d) ∨ ∃ p, v = .ref p ∧ A = [p] ∧ F p = none ∧ Nn b.H p ∧ Own F H p d)
  | .ln d => A = [] ∧ ∃ v, x = some (some v) ∧ VR .st K b F H v d
  | .at a => A = [] ∧ x = some (some (.ref a))
  | .tr v d => x = some (some v) ∧ Tr F H v d A ∧ ∀ a ∈ A, Nn b.H a
  | .lt d => A = [] ∧ ∃ v, x = some (some v) ∧ RTr K b.F b.H v d
def SlOk (K : PySem.W.Frag) (b : B) (F H : Hp) (x : Option (Option V)) : Sl → Prop
  | .un => True
  | .fz d => ∃ v, x = some (some v) ∧ Dq F v d
  | .ow d => ∃ v, x = some (some v) ∧ ((∃ p, v = .ref p ∧ F p = none ∧ Nn b.H p ∧ Own F H p d) ∨ Atm v d)
  | .ln d => ∃ v, x = some (some v) ∧ VR .st K b F H v d
  | .at a => x = some (some (.ref a))
  | .tr v d => x = some (some v) ∧ ∃ A, Tr F H v d A ∧ ∀ a ∈ A, Nn b.H a
  | .lt d => ∃ v, x = some (some v) ∧ RTr K b.F b.H v d
def ovr (fp : Nat → List Addr) (p : Nat → Bool) (A : List Addr) : Nat → List Addr := fun j => if p j = true then A else fp j
theorem ovr_pos {fp : Nat → List Addr} {p : Nat → Bool} {A : List Addr} {j : Nat} (h : p j = true) : ovr fp p A j = A := by unfold ovr; rw [if_pos h]
theorem ovr_neg {fp : Nat → List Addr} {p : Nat → Bool} {A : List Addr} {j : Nat} (h : ¬ p j = true) : ovr fp p A j = fp j := by unfold ovr; rw [if_neg h]
structure Rep (K : PySem.W.Frag) (b : B) (F H : Hp) (σ : L2.St) (ρ : List Sl) : Prop where
  g : Grow b.T b.F b.H F H
  tt : LamX.Tabs b.T H
  len : σ.length = ρ.length
  ex : ∃ fp : Nat → List Addr, (∀ (i : Nat) (s : Sl), ρ[i]? = some s → SlF K b F H σ[i]? s (fp i)) ∧ (∀ i, ρ[i]? = none → fp i = []) ∧ ∀ i j a, i ≠ j → a ∈ fp i → a ∉ fp j
section
variable {K : PySem.W.Frag} {b : B} {F H F' H' : Hp} {σ : L2.St} {ρ : List Sl}
theorem SlF.ok {x : Option (Option V)} {s : Sl} {A : List Addr} (h : SlF K b F H x s A) : SlOk K b F H x s := by
  cases s with
  | un => trivial
  | fz d => exact h.2
  | ow d =>
    obtain ⟨v, e, h⟩ := h
    refine ⟨v, e, ?_⟩
    rcases h with ⟨_, h⟩ | ⟨p, e1, _, h⟩
    · exact .inr h
    · exact .inl ⟨p, e1, h⟩
  | ln d => exact h.2
  | «at» a => exact h.2
  | tr v d => exact ⟨h.1, A, h.2⟩
  | lt d => exact h.2
theorem SlF.mem {x : Option (Option V)} {s : Sl} {A : List Addr} (h : SlF K b F H x s A) : ∀ a ∈ A, F a = none ∧ Nn b.H a ∧ ∃ u, H a = some u ∧ IsD u := by
  intro a ha
  cases s with
  | un => rw [h] at ha; simp at ha
  | fz d => rw [h.1] at ha; simp at ha
  | ow d =>
    obtain ⟨v, e, h⟩ := h
    rcases h with ⟨h, _⟩ | ⟨p, e1, e2, n, n2, o⟩
    · rw [h] at ha; simp at ha
    · rw [e2, List.mem_singleton] at ha
      subst ha
      exact ⟨n, n2, o.some⟩
  | ln d => rw [h.1] at ha; simp at ha
  | «at» a => rw [h.1] at ha; simp at ha
  | tr v d =>
    obtain ⟨n, u⟩ := h.2.1.nn a ha
    exact ⟨n, h.2.2 a ha, u⟩
  | lt d => rw [h.1] at ha; simp at ha
theorem Rep.sl (R : Rep K b F H σ ρ) (i : Nat) (s : Sl) (h : ρ[i]? = some s) : SlOk K b F H σ[i]? s := by
  obtain ⟨fp, f1, _, _⟩ := R.ex
  exact (f1 i s h).ok
/-- what a slot holds stays where its places stay -/
theorem SlF.mono {x : Option (Option V)} {s : Sl} {A : List Addr} (h : SlF K b F H x s A) (f : Same F F') (hA : ∀ a ∈ A, F' a = none ∧ H' a = H a) : SlF K b F' H' x s A := by
  cases s with
  | un => exact h
  | fz d =>
    obtain ⟨e, v, e1, q⟩ := h
    exact ⟨e, v, e1, q.mono f⟩
  | ow d =>
    obtain ⟨v, e, h⟩ := h
    refine ⟨v, e, ?_⟩
    rcases h with h | ⟨p, e1, e2, n, n2, o⟩
    · exact .inl h
    · subst e2
      exact .inr ⟨p, e1, rfl, (hA p (by simp)).1, n2, o.mono f (hA p (by simp)).2⟩
  | ln d =>
    obtain ⟨e, v, e1, q⟩ := h
    refine ⟨e, v, e1, ?_⟩
    rcases q with q | q
    · exact .inl (q.mono f)
    · exact .inr q
  | «at» a => exact h
  | tr v d => exact ⟨h.1, h.2.1.mono f hA, h.2.2⟩
  | lt d => exact h
theorem SlF.grow {x : Option (Option V)} {s : Sl} {A : List Addr} (h : SlF K b F H x s A) (g : Grow b.T F H F' H') : SlF K b F' H' x s A :=
  h.mono g.f fun a ha => by
    obtain ⟨n, _, u, e, i⟩ := h.mem a ha
    exact ⟨(g.k a u e (isD_n i)).trans n, (g.h.ap e (isD_n i)).trans e.symm⟩
theorem Rep.grow (R : Rep K b F H σ ρ) (g : Grow b.T F H F' H') : Rep K b F' H' σ ρ := by
  obtain ⟨fp, f1, f2, f3⟩ := R.ex
  exact ⟨R.g.trans g, g.h.t R.tt, R.len, fp, fun i s e => (f1 i s e).grow g, f2, f3⟩
theorem Rep.same (R : Rep K b F H σ ρ) : Same F H := R.g.s
/-- an object that a slot may change is written -/
theorem Rep.chg (R : Rep K b F H σ ρ) (g : Grow b.T F H F' H') {i : Nat} {q : Addr} {s s' : Sl} {o : HO} (h : ρ[i]? = some s)
    (hn : ∀ A, SlF K b F H σ[i]? s A → SlF K b F' H' σ[i]? s A → q ∈ A ∧ ∃ A', SlF K b F' (upd H' q o) σ[i]? s' A' ∧ ∀ a ∈ A', a ∈ A ∨ Nn H a) (hk : ∀ k : List Key, o ≠ .tup (k.map kV) := by intro k z; cases z) : Rep K b F' (upd H' q o) σ (ρ.set i s') := by
  obtain ⟨fp, f1, f2, f3⟩ := R.ex
  obtain ⟨hq, A', ok, hA⟩ := hn _ (f1 i s h) ((f1 i s h).grow g)
  have hi : i < ρ.length := (List.getElem?_eq_some_iff.mp h).1
  obtain ⟨n, n2, u, eu, iu⟩ := (f1 i s h).mem q hq
  have eu' : H' q = some u := g.h.ap eu (isD_n iu)
  have n' : F' q = none := (g.k q u eu (isD_n iu)).trans n
  have hd : ∀ w, H' q = some w → IsD w := fun w e => by rw [eu'] at e; cases e; exact iu
  refine ⟨(R.g.trans g).put o n2 n' hd hk, tabs_put (g.h.t R.tt) _ hd, by rw [List.length_set]; exact R.len, ovr fp (fun j => decide (j = i)) A', fun j t e => ?_, fun j e => ?_, fun j k a hjk h1 h2 => ?_⟩
  · by_cases hj : j = i
    · subst hj
      rw [List.getElem?_set_self hi] at e
      cases e
      rw [ovr_pos (by simp)]
      exact ok
    · rw [List.getElem?_set_ne (Ne.symm hj)] at e
      rw [ovr_neg (by simpa using hj)]
      have q0 := (f1 j t e).grow g
      refine q0.mono (Same.refl _) fun a ha => ⟨(q0.mem a ha).1, ?_⟩
      rw [upd_ne]
      rintro rfl
      exact f3 j i a hj ha hq
  · have hj : j ≠ i := by
      rintro rfl
      rw [List.getElem?_set_self hi] at e
      cases e
    rw [List.getElem?_set_ne (Ne.symm hj)] at e
    rw [ovr_neg (by simpa using hj)]
    exact f2 j e
  · have out : ∀ m, m ≠ i → a ∈ fp m → a ∈ A' → False := fun m hm h1 h2 => by
      rcases hA a h2 with h2 | h2
      · exact f3 m i a hm h1 h2
      · cases e : ρ[m]? with
        | none => rw [f2 m e] at h1; simp at h1
        | some t =>
          obtain ⟨_, _, u, e, i⟩ := (f1 m t e).mem a h1
          obtain ⟨ps, z⟩ := h2 u e
          exact isD_n i ps z
    by_cases hj : j = i
    · rw [ovr_pos (by simpa using hj)] at h1
      by_cases hk : k = i
      · exact hjk (hj.trans hk.symm)
      · rw [ovr_neg (by simpa using hk)] at h2
        exact out k hk h2 h1
    · rw [ovr_neg (by simpa using hj)] at h1
      by_cases hk : k = i
      · rw [ovr_pos (by simpa using hk)] at h2
        exact out j hj h1 h2
      · rw [ovr_neg (by simpa using hk)] at h2
        exact f3 j k a hjk h1 h2
/-- an own root is written -/
theorem Rep.write (R : Rep K b F H σ ρ) {i : Nat} {p : Addr} {d e : D} {o : HO} (h : ρ[i]? = some (.ow d)) (hs : σ[i]? = some (some (.ref p))) (hn : Own F (upd H p o) p e) : Rep K b F (upd H p o) σ (ρ.set i (.ow e)) := by
  refine R.chg (hk := fun k z => hn.notup k (by rw [upd_same, z])) (Grow.refl R.g) h fun A q _ => ?_
  obtain ⟨v, e1, q⟩ := q
  rw [hs] at e1
  cases e1
  rcases q with ⟨_, q⟩ | ⟨p', e2, rfl, n, n2, ow⟩
  · exact (atm_ref q).elim
  · cases e2
    exact ⟨by simp, [p], ⟨_, hs, .inr ⟨p, rfl, rfl, n, n2, hn⟩⟩, fun a ha => .inl ha⟩
/-- an own list, an own dict -/
theorem Rep.ow (R : Rep K b F H σ ρ) {i : Nat} {d : D} (h : ρ[i]? = some (.ow d)) (ha : atmB d = false) : ∃ p, σ[i]? = some (some (.ref p)) ∧ F p = none ∧ Nn b.H p ∧ Own F H p d := by
  obtain ⟨v, e, q⟩ := R.sl i _ h
  rcases q with ⟨p, rfl, q⟩ | q
  · exact ⟨p, e, q⟩
  · unfold Atm at q
    cases q <;> first | (simp [atmB] at ha; done) | (rename_i z _; cases z) | (rename_i z _ _; cases z)
/-- an object that no slot owns is written -/
theorem Rep.aside (R : Rep K b F H σ ρ) {p : Addr} {o : HO} (n : F p = none) (n2 : Nn b.H p) (hd : ∀ u, H p = some u → IsD u) (hn : ∀ fp : Nat → List Addr, (∀ (i : Nat) (s : Sl), ρ[i]? = some s → SlF K b F H σ[i]? s (fp i)) → ∀ (i : Nat) (s : Sl), ρ[i]? = some s → p ∉ fp i) (hk : ∀ k : List Key, o ≠ .tup (k.map kV) := by intro k z; cases z) : Rep K b F (upd H p o) σ ρ := by
  obtain ⟨fp, f1, f2, f3⟩ := R.ex
  refine ⟨R.g.put o n2 n hd hk, tabs_put R.tt _ hd, R.len, fp, fun j s e => ?_, f2, f3⟩
  refine (f1 j s e).mono (Same.refl _) fun a ha => ⟨((f1 j s e).mem a ha).1, upd_ne ?_⟩
  rintro rfl
  exact hn fp f1 j s e ha
/-- two tellings of a slot's places are one -/
theorem SlF.uniq {F2 H2 : Hp} (s : ∀ a o, H a = some o → (∀ ps, o ≠ .tbl ps) → H2 a = some o) {x : Option (Option V)} {t : Sl} {A A' : List Addr} (h : SlF K b F H x t A) (h2 : SlF K b F2 H2 x t A') : A = A' := by
  cases t with
  | un => rw [h, h2]
  | fz d => rw [h.1, h2.1]
  | ow d =>
    obtain ⟨v, e, h⟩ := h
    obtain ⟨v2, e2, h2⟩ := h2
    rw [e] at e2
    cases e2
    rcases h with ⟨h, a1⟩ | ⟨p, e1, h, _, _, o⟩ <;> rcases h2 with ⟨h2, a2⟩ | ⟨p2, e2, h2, _, _, o2⟩
    · rw [h, h2]
    · exact (o2.noatm a1).elim
    · exact (o.noatm a2).elim
    · subst e1
      cases e2
      rw [h, h2]
  | ln d => rw [h.1, h2.1]
  | «at» a => rw [h.1, h2.1]
  | tr v d => exact h.2.1.uniq s h2.2.1
  | lt d => rw [h.1, h2.1]
/-- what is new in H is no place of a slot -/
theorem Rep.owner (R : Rep K b F H σ ρ) {p : Addr} (h : Nn H p) {F' H' : Hp} (g : Ext b.T H H') : ∀ fp : Nat → List Addr, (∀ (i : Nat) (s : Sl), ρ[i]? = some s → SlF K b F' H' σ[i]? s (fp i)) → ∀ (i : Nat) (s : Sl), ρ[i]? = some s → p ∉ fp i := fun fp hf i s e hp => by
  obtain ⟨fp0, f1, _, _⟩ := R.ex
  have q := (f1 i s e).uniq (fun a o h n => g.ap h n) (hf i s e)
  rw [← q] at hp
  obtain ⟨_, _, u, eu, iu⟩ := (f1 i s e).mem p hp
  obtain ⟨ps, z⟩ := h u eu
  exact isD_n iu ps z
/-- a slot is stored -/
theorem Rep.store (R : Rep K b F H σ ρ) (g : Grow b.T F H F' H') (i : Nat) (v : Option V) (s : Sl) {A : List Addr} (ok : SlF K b F' H' (some v) s A) (fr : ∀ a ∈ A, Nn H a) : Rep K b F' H' (σ.set i v) (ρ.set i s) := by
  obtain ⟨fp, f1, f2, f3⟩ := R.ex
  by_cases hi : i < ρ.length
  · refine ⟨R.g.trans g, g.h.t R.tt, by rw [List.length_set, List.length_set]; exact R.len, ovr fp (fun j => decide (j = i)) A, fun j t e => ?_, fun j e => ?_, fun j k a hjk h1 h2 => ?_⟩
    · by_cases hj : j = i
      · subst hj
        rw [List.getElem?_set_self hi] at e
        cases e
        rw [ovr_pos (by simp), List.getElem?_set_self (by rw [R.len]; exact hi)]
        exact ok
      · rw [List.getElem?_set_ne (Ne.symm hj)] at e ⊢
        rw [ovr_neg (by simpa using hj)]
        exact (f1 j t e).grow g
    · have hj : j ≠ i := by
        rintro rfl
        rw [List.getElem?_set_self hi] at e
        cases e
      rw [List.getElem?_set_ne (Ne.symm hj)] at e
      rw [ovr_neg (by simpa using hj)]
      exact f2 j e
    · have out : ∀ m, a ∈ fp m → a ∈ A → False := fun m h1 h2 => by
        cases e : ρ[m]? with
        | none => rw [f2 m e] at h1; simp at h1
        | some t =>
          obtain ⟨_, _, u, e, i⟩ := (f1 m t e).mem a h1
          obtain ⟨ps, z⟩ := fr a h2 u e
          exact isD_n i ps z
      by_cases hj : j = i
      · rw [ovr_pos (by simpa using hj)] at h1
        by_cases hk : k = i
        · exact hjk (hj.trans hk.symm)
        · rw [ovr_neg (by simpa using hk)] at h2
          exact out k h2 h1
      · rw [ovr_neg (by simpa using hj)] at h1
        by_cases hk : k = i
        · rw [ovr_pos (by simpa using hk)] at h2
          exact out j h1 h2
        · rw [ovr_neg (by simpa using hk)] at h2
          exact f3 j k a hjk h1 h2
  · rw [List.set_eq_of_length_le (by rw [R.len]; omega), List.set_eq_of_length_le (by omega)]
    exact R.grow g
/-- .. one that may not be changed -/
theorem Rep.setX (R : Rep K b F H σ ρ) (i : Nat) (v : Option V) (s : Sl) (ok : SlF K b F H (some v) s []) : Rep K b F H (σ.set i v) (ρ.set i s) :=
  R.store (.refl R.g) i v s ok fun _ h => by simp at h
/-- .. data that stands still -/
theorem Rep.setF (R : Rep K b F H σ ρ) {v : V} {d : D} (i : Nat) (q : Dq F v d) : Rep K b F H (σ.set i (some v)) (ρ.set i (.fz d)) := R.setX i _ _ ⟨rfl, v, rfl, q⟩
/-- slot states alone -/
theorem Rep.slot (R : Rep K b F H σ ρ) (g : Same F F') (gg : Grow b.T b.F b.H F' H) {i : Nat} {s s' : Sl} (h : ρ[i]? = some s)
    (hn : ∀ A, SlF K b F H σ[i]? s A → (∀ a, a ∉ A → F' a = F a) ∧ SlF K b F' H σ[i]? s' []) : Rep K b F' H σ (ρ.set i s') := by
  obtain ⟨fp, f1, f2, f3⟩ := R.ex
  have hi : i < ρ.length := (List.getElem?_eq_some_iff.mp h).1
  obtain ⟨ho, ok⟩ := hn _ (f1 i s h)
  refine ⟨gg, R.tt, by rw [List.length_set]; exact R.len, ovr fp (fun j => decide (j = i)) [], fun j t e => ?_, fun j e => ?_, fun j k a hjk h1 h2 => ?_⟩
  · by_cases hj : j = i
    · subst hj
      rw [List.getElem?_set_self hi] at e
      cases e
      rw [ovr_pos (by simp)]
      exact ok
    · rw [List.getElem?_set_ne (Ne.symm hj)] at e
      rw [ovr_neg (by simpa using hj)]
      refine (f1 j t e).mono g fun a ha => ⟨?_, rfl⟩
      rw [ho a fun q => f3 j i a hj ha q]
      exact ((f1 j t e).mem a ha).1
  · have hj : j ≠ i := by
      rintro rfl
      rw [List.getElem?_set_self hi] at e
      cases e
    rw [List.getElem?_set_ne (Ne.symm hj)] at e
    rw [ovr_neg (by simpa using hj)]
    exact f2 j e
  · by_cases hj : j = i
    · rw [ovr_pos (by simpa using hj)] at h1
      simp at h1
    · rw [ovr_neg (by simpa using hj)] at h1
      by_cases hk : k = i
      · rw [ovr_pos (by simpa using hk)] at h2
        simp at h2
      · rw [ovr_neg (by simpa using hk)] at h2
        exact f3 j k a hjk h1 h2
/-- some places stand still from now on -/
def sealA (F H : Hp) (A : List Addr) : Hp := fun a => if a ∈ A then H a else F a
theorem seal_in {A : List Addr} {a : Addr} (h : a ∈ A) : sealA F H A a = H a := by unfold sealA; rw [if_pos h]
theorem seal_out {A : List Addr} {a : Addr} (h : a ∉ A) : sealA F H A a = F a := by unfold sealA; rw [if_neg h]
theorem seal_same {A : List Addr} (h : ∀ a ∈ A, F a = none) : Same F (sealA F H A) := fun a u e => by
  rw [seal_out fun ha => by
    rw [h a ha] at e
    cases e]
  exact e
theorem seal_grow {F0 H0 : Hp} {T : List (Addr × Str)} (g : Grow T F0 H0 F H) {A : List Addr} (h : ∀ a ∈ A, F a = none ∧ Nn H0 a ∧ ∃ u, H a = some u ∧ IsD u) : Grow T F0 H0 (sealA F H A) H := by
  have sf := seal_same (H := H) fun a ha => (h a ha).1
  refine ⟨g.h, g.f.trans sf, fun a x e => ?_, fun a x e nt => ?_, fun a ps e => ?_, fun a k e => ?_⟩
  rotate_right
  · by_cases q : a ∈ A
    · rw [seal_in q]
      exact e
    · rw [seal_out q]
      exact g.c a k e
  · by_cases q : a ∈ A
    · rw [seal_in q] at e
      exact e
    · rw [seal_out q] at e
      exact g.s a x e
  · rw [seal_out fun q => by
      obtain ⟨ps, z⟩ := (h a q).2.1 x e
      exact nt ps z]
    exact g.k a x e nt
  · by_cases q : a ∈ A
    · rw [seal_in q] at e
      obtain ⟨_, _, u, e2, i⟩ := h a q
      rw [e2] at e
      exact isD_n i ps (Option.some.inj e)
    · rw [seal_out q] at e
      exact g.n a ps e
theorem Own.seal {p : Addr} {d : D} (o : Own F H p d) (s : Same F F') (e : F' p = H p) : Dq F' (.ref p) d := (o.mono (F' := F') (H' := F') s e).dq
theorem Kids.seal (s : Same F F') : ∀ {vs : List V} {ds : List D} {A : List Addr}, Kids F H vs ds A → (∀ a ∈ A, F' a = H a) → DqA F' vs ds
  | _, _, _, .nil, _ => .nil
  | _, _, _, .own _ o k _, h => .cons (o.seal s (h _ (by simp))) (k.seal s fun a ha => h a (by simp [ha]))
  | _, _, _, .atm a k, h => .cons a.dq (k.seal s h)
theorem Tr.seal (s : Same F F') {v : V} {d : D} {A : List Addr} (t : Tr F H v d A) (h : ∀ a ∈ A, F' a = H a) : Dq F' v d := by
  obtain ⟨p, A', rfl, n, rfl, q, t⟩ := t
  have hp := h p (by simp)
  have hk : ∀ a ∈ A', F' a = H a := fun a ha => h a (by simp [ha])
  cases d with
  | list ds => obtain ⟨xs, e, k⟩ := t; exact .lst (hp.trans e) (k.seal s hk)
  | tuple ds => obtain ⟨xs, e, k⟩ := t; exact .tup (hp.trans e) (k.seal s hk)
  | dict ds =>
    obtain ⟨kvs, kds, rfl, e, e2, k⟩ := t
    exact .dT (hp.trans e) e2 (k.seal s hk)
  | _ => exact t.elim
/-- an own root, or a tree, is to stand still from now on -/
theorem Rep.freeze (R : Rep K b F H σ ρ) {i : Nat} {d : D} {s : Sl} (h : ρ[i]? = some s) (hs : s = .ow d ∨ ∃ v, s = .tr v d) : ∃ F', Same F F' ∧ Rep K b F' H σ (ρ.set i (.fz d)) := by
  obtain ⟨fp, f1, f2, f3⟩ := R.ex
  have q := f1 i s h
  have hm := q.mem
  have sf := seal_same (H := H) fun a ha => (hm a ha).1
  refine ⟨sealA F H (fp i), sf, R.slot sf (seal_grow R.g hm) h fun A hA => ?_⟩
  have eA : A = fp i := hA.uniq (fun a o e _ => e) q
  subst eA
  refine ⟨fun a ha => seal_out ha, rfl, ?_⟩
  rcases hs with rfl | ⟨v, rfl⟩
  · obtain ⟨v, e, q⟩ := q
    refine ⟨v, e, ?_⟩
    rcases q with ⟨_, q⟩ | ⟨p, rfl, e2, n, n2, o⟩
    · exact q.dq
    · exact o.seal sf (seal_in (by rw [e2]; simp))
  · exact ⟨v, q.1, q.2.1.seal sf fun a ha => seal_in ha⟩
/-- slots forgotten -/
def fgt : List Nat → List Sl → List Sl
  | [], ρ => ρ
  | i :: is, ρ => (fgt is ρ).set i .un
theorem fgt_len : ∀ (is : List Nat) (ρ : List Sl), (fgt is ρ).length = ρ.length
  | [], _ => rfl
  | i :: is, ρ => by
    unfold fgt
    rw [List.length_set]
    exact fgt_len is ρ
theorem fgt_some : ∀ {is : List Nat} {ρ : List Sl} {j : Nat} {s : Sl}, (fgt is ρ)[j]? = some s → s = .un ∨ (ρ[j]? = some s ∧ j ∉ is)
  | [], _, _, _, h => .inr ⟨h, by simp⟩
  | i :: is, ρ, j, s, h => by
    unfold fgt at h
    by_cases hj : i = j
    · subst hj
      by_cases hi : i < (fgt is ρ).length
      · rw [List.getElem?_set_self hi] at h
        cases h
        exact .inl rfl
      · rw [List.getElem?_eq_none (by rw [List.length_set]; omega)] at h
        cases h
    · rw [List.getElem?_set_ne hj] at h
      rcases fgt_some h with a | ⟨a, c⟩
      · exact .inl a
      · exact .inr ⟨a, by simp only [List.mem_cons, not_or]; exact ⟨fun e => hj e.symm, c⟩⟩
theorem fgt_in : ∀ {is : List Nat} {ρ : List Sl} {j : Nat} {s : Sl}, (fgt is ρ)[j]? = some s → j ∈ is → s = .un
  | i :: is, ρ, j, s, h, hj => by
    unfold fgt at h
    by_cases e : i = j
    · subst e
      by_cases hi : i < (fgt is ρ).length
      · rw [List.getElem?_set_self hi] at h
        cases h
        rfl
      · rw [List.getElem?_eq_none (by rw [List.length_set]; omega)] at h
        cases h
    · rw [List.getElem?_set_ne e] at h
      exact fgt_in h (by simpa [Ne.symm e] using hj)
/-- .. whatever they hold -/
theorem Rep.lose (R : Rep K b F H σ ρ) (is : List Nat) {τ : L2.St} (hl : τ.length = σ.length) (ht : ∀ j, j ∉ is → τ[j]? = σ[j]?) : Rep K b F H τ (DL.fgt is ρ) := by
  obtain ⟨fp, f1, f2, f3⟩ := R.ex
  refine ⟨R.g, R.tt, by rw [hl, fgt_len]; exact R.len, ovr fp (fun j => decide (j ∈ is)) [], fun j s e => ?_, fun j e => ?_, fun j k a hjk h1 h2 => ?_⟩
  · by_cases hj : j ∈ is
    · rw [ovr_pos (by simpa using hj)]
      have := fgt_in e hj
      subst this
      rfl
    · rw [ovr_neg (by simpa using hj), ht j hj]
      rcases fgt_some e with a | ⟨a, _⟩
      · subst a
        cases e2 : ρ[j]? with
        | none => exact f2 j e2
        | some s' =>
          have hlt : j < ρ.length := (List.getElem?_eq_some_iff.mp e2).1
          have : (DL.fgt is ρ)[j]? = ρ[j]? := by
            clear e hl ht R f1 f2 f3
            induction is with
            | nil => rfl
            | cons m is ih =>
              simp only [List.mem_cons, not_or] at hj
              unfold DL.fgt
              rw [List.getElem?_set_ne (Ne.symm hj.1)]
              exact ih hj.2
          rw [this, e2] at e
          cases e
          exact f1 j _ e2
      · exact f1 j s a
  · by_cases hj : j ∈ is
    · rw [ovr_pos (by simpa using hj)]
    · rw [ovr_neg (by simpa using hj)]
      refine f2 j ?_
      rw [List.getElem?_eq_none_iff] at e ⊢
      rw [fgt_len] at e
      exact e
  · by_cases hj : j ∈ is
    · rw [ovr_pos (by simpa using hj)] at h1
      simp at h1
    · by_cases hk : k ∈ is
      · rw [ovr_pos (by simpa using hk)] at h2
        simp at h2
      · rw [ovr_neg (by simpa using hj)] at h1
        rw [ovr_neg (by simpa using hk)] at h2
        exact f3 j k a hjk h1 h2
theorem Rep.fgt (R : Rep K b F H σ ρ) (is : List Nat) : Rep K b F H σ (fgt is ρ) := R.lose is rfl fun _ _ => rfl
/-- a comprehension's block begins -/
theorem Rep.wipe (R : Rep K b F H σ ρ) (is : List Nat) : Rep K b F H (L2.wipe σ is) (DL.fgt is ρ) := R.lose is (wipe_length ..) fun _ hj => L2.wipe_out hj
end
end DL
set_option maxRecDepth 100000
set_option maxHeartbeats 4000000
namespace DL
open PySem PySem.Spec PyProof.Rows L2
variable {T : List (Addr × Str)}

/-! ### judgements -/
/-- what is wanted of exceptions, and the tables of code objects that are known -/
structure WT where
  w : WX
  T : List (Addr × Str)
/-- what is wanted of an exception, by its class's name -/
abbrev Zs := List Sl → String → Prop
abbrev DT := List Sl → (D → Prop) → Zs → Prop
abbrev DTt := List Sl → (Bool → Prop) → Zs → Prop
abbrev DTa := List Sl → (List D → Prop) → Zs → Prop
structure DEnds where
  nx : List Sl → Prop
  rt : D → Prop
  bk : List Sl → Prop := fun _ => False
  ct : List Sl → Prop := fun _ => False
abbrev DS := DEnds → Zs → List Sl → Prop
/-- what is wanted of an exception -/
structure ZOk (mg : Str → Option Value) (K : PySem.W.Frag) (b : B) (F : Hp) (Z : Zs) (W : WT) : Prop where
  t : b.T = W.T
  z : ∀ ρ F' H σ (x : String) C, Same F F' → mg (x : Str) = some (.ref C) → Rep K b F' H σ ρ → Z ρ x → W.w (.ref C) none σ H
theorem ZOk.mono {mg : Str → Option Value} {K : PySem.W.Frag} {b : B} {F F' : Hp} {Z : Zs} {W : WT} (z : ZOk mg K b F Z W) (s : Same F F') : ZOk mg K b F' Z W := ⟨z.t, fun ρ F2 H σ x C s2 => z.z ρ F2 H σ x C (s.trans s2)⟩
/-- what a value rule goes on with -/
def Goes (m : Md) (K : PySem.W.Frag) (b : B) (F H : Hp) (P : D → Prop) (Q : VK) : Prop := ∀ d v F' H', P d → Grow b.T F H F' H' → VR m K b F' H' v d → Fr m H F' H' v d → Q v H'
structure DE (X : Cx) (W : WT) (m : Md) (e : Expr) (t : DT) : Prop where
  ok : ∃ te : TE, PE X e te ∧ ∀ (b : B) (F H : Hp) (σ : L2.St) (ρ : List Sl) (Q : VK) (P : D → Prop) (Z : Zs), Rep X.K b F H σ ρ → ZOk X.mg X.K b F Z W → t ρ P Z → Goes m X.K b F H P Q → te σ H Q
structure DEt (X : Cx) (W : WT) (e : Expr) (t : DTt) : Prop where
  ok : ∃ te : TT, PT X e te ∧ ∀ (b : B) (F H : Hp) (σ : L2.St) (ρ : List Sl) (Q : Bool → Hp → Prop) (P : Bool → Prop) (Z : Zs), Rep X.K b F H σ ρ → ZOk X.mg X.K b F Z W → t ρ P Z → (∀ c F' H', P c → Grow b.T F H F' H' → Q c H') → te σ H Q
/-- a test of whatever whole (and, or) -/
structure DEw (X : Cx) (W : WT) (e : Expr) (t : DTt) : Prop where
  ok : ∃ te : TT, PW X e te ∧ ∀ (b : B) (F H : Hp) (σ : L2.St) (ρ : List Sl) (Q : Bool → Hp → Prop) (P : Bool → Prop) (Z : Zs), Rep X.K b F H σ ρ → ZOk X.mg X.K b F Z W → t ρ P Z → (∀ c F' H', P c → Grow b.T F H F' H' → Q c H') → te σ H Q
/-- a list of values in a heap, by modes -/
inductive VRs (K : PySem.W.Frag) (b : B) (F H : Hp) : List Md → List V → List D → Prop
  | nil : VRs K b F H [] [] []
  | cons {m ms v vs d ds} : VR m K b F H v d → VRs K b F H ms vs ds → VRs K b F H (m :: ms) (v :: vs) (d :: ds)
structure DA (X : Cx) (W : WT) (ms : List Md) (es : List Expr) (t : DTa) : Prop where
  ok : ∃ ta : TA, PA X es ta ∧ ∀ (b : B) (F H : Hp) (σ : L2.St) (ρ : List Sl) (Q : List V → Hp → Prop) (P : List D → Prop) (Z : Zs), Rep X.K b F H σ ρ → ZOk X.mg X.K b F Z W → t ρ P Z →
    (∀ ds vs F' H', P ds → Grow b.T F H F' H' → VRs X.K b F' H' ms vs ds → Q vs H') → ta σ H Q
structure Conn (K : PySem.W.Frag) (b : B) (rm : Md) (F : Hp) (d : DEnds) (D : Ends) : Prop where
  nx : ∀ ρ F' H σ, Same F F' → Rep K b F' H σ ρ → d.nx ρ → D.nx σ H
  bk : ∀ ρ F' H σ, Same F F' → Rep K b F' H σ ρ → d.bk ρ → D.bk σ H
  ct : ∀ ρ F' H σ, Same F F' → Rep K b F' H σ ρ → d.ct ρ → D.ct σ H
  rt : ∀ x v F' H, Grow b.T b.F b.H F' H → VR rm K b F' H v x → Fr rm b.H F' H v x → d.rt x → D.rt v H
theorem Conn.mono {K : PySem.W.Frag} {b : B} {rm : Md} {F F' : Hp} {d : DEnds} {D : Ends} (c : Conn K b rm F d D) (s : Same F F') : Conn K b rm F' d D :=
  ⟨fun ρ F2 H σ s2 => c.nx ρ F2 H σ (s.trans s2), fun ρ F2 H σ s2 => c.bk ρ F2 H σ (s.trans s2), fun ρ F2 H σ s2 => c.ct ρ F2 H σ (s.trans s2), c.rt⟩
structure DS1 (X : Cx) (W : WT) (rm : Md) (st : Stmt) (t : DS) : Prop where
  ok : ∃ ts : TS, PS X st ts ∧ ∀ (b : B) (F H : Hp) (σ : L2.St) (ρ : List Sl) (D : Ends) (d : DEnds) (Z : Zs), Rep X.K b F H σ ρ → ZOk X.mg X.K b F Z W → t d Z ρ → Conn X.K b rm F d D → ts D σ H
structure DSs (X : Cx) (W : WT) (rm : Md) (sts : List Stmt) (t : DS) : Prop where
  ok : ∃ ts : TS, PSs X sts ts ∧ ∀ (b : B) (F H : Hp) (σ : L2.St) (ρ : List Sl) (D : Ends) (d : DEnds) (Z : Zs), Rep X.K b F H σ ρ → ZOk X.mg X.K b F Z W → t d Z ρ → Conn X.K b rm F d D → ts D σ H

/-! ### expressions: names, constants -/
section
variable {X : Cx} {W : WT}
theorem DE.rd {m : Md} {e : Expr} {t : DT} (h : DE X W m e t) (hm : m.sh = true := by rfl) : DE X W .rd e t := by
  obtain ⟨te, pe, s⟩ := h.ok
  exact ⟨te, pe, fun b F H σ ρ Q P Z R z q k => s b F H σ ρ Q P Z R z q fun d v F' H' p g r _ => k d v F' H' p g (r.rd hm (R.g.trans g)) trivial⟩
theorem DE.st {e : Expr} {t : DT} (h : DE X W .fz e t) : DE X W .st e t := by
  obtain ⟨te, pe, s⟩ := h.ok
  exact ⟨te, pe, fun b F H σ ρ Q P Z R z q k => s b F H σ ρ Q P Z R z q fun d v F' H' p g r _ => k d v F' H' p g (.inl r) trivial⟩
/-- a new root is left to stand still -/
theorem DE.fz {e : Expr} {t : DT} (h : DE X W .nw e t) : DE X W .fz e t := by
  obtain ⟨te, pe, s⟩ := h.ok
  refine ⟨te, pe, fun b F H σ ρ Q P Z R z q k => s b F H σ ρ Q P Z R z q fun d v F' H' p g r f => ?_⟩
  rcases r with ⟨a, e1, n, o⟩ | r
  rotate_left
  · exact k d v F' H' p g r.dq trivial
  have ha := f a e1
  obtain ⟨u, eu, iu⟩ := o.some
  have sf : Same F' (upd F' a u) := same_new n
  refine k d v (upd F' a u) H' p ⟨g.h, g.f.trans sf, fun c x e => ?_, fun c x e nt => ?_, fun c ps e => ?_, fun c k e => ?_⟩ ?_ trivial
  · by_cases q : c = a
    · subst q
      rw [upd_same] at e
      cases e
      exact eu
    · rw [upd_ne q] at e
      exact g.s c x e
  · rw [upd_ne (nn_ne ha e nt)]
    exact g.k c x e nt
  · by_cases q : c = a
    · subst q
      rw [upd_same] at e
      exact isD_n iu ps (Option.some.inj e)
    · rw [upd_ne q] at e
      exact g.n c ps e
  · by_cases q : c = a
    · subst q
      rw [upd_same, ← eu]
      exact e
    · rw [upd_ne q]
      exact g.c c k e
  · subst e1
    exact (o.mono (F' := upd F' a u) (H' := upd F' a u) sf (upd_same.trans eu.symm)).dq
/-- an atom is as good as a new root -/
def dAtm (t : DT) : DT := fun ρ P Z => t ρ (fun x => atmB x = true ∧ P x) Z
theorem DE.atm {e : Expr} {t : DT} (h : DE X W .fz e t) : DE X W .nw e (dAtm t) := by
  obtain ⟨te, pe, s⟩ := h.ok
  refine ⟨te, pe, fun b F H σ ρ Q P Z R z q k => s b F H σ ρ _ _ Z R z q fun d v F' H' p g r _ => ?_⟩
  have a : Atm v d := atm_of r p.1
  exact k d v F' H' p.2 g (.inr a) fun q e => by subst e; exact (atm_ref a).elim
/-- a tree is read -/
def dTr (t : DT) : DT := fun ρ P Z => t ρ (fun x => isLT x = true ∧ P x) Z
theorem DE.rt {m : Md} {e : Expr} {t : DT} (h : DE X W m e t) (hm : m ≠ .n2 := by intro z; cases z) : DE X W .rt e t := by
  obtain ⟨te, pe, s⟩ := h.ok
  exact ⟨te, pe, fun b F H σ ρ Q P Z R z q k => s b F H σ ρ _ _ Z R z q fun d v F' H' p g r _ => k d v F' H' p g (r.rt (R.g.trans g) fun z => absurd z hm) trivial⟩
theorem DE.rt2 {e : Expr} {t : DT} (h : DE X W .n2 e t) : DE X W .rt e (dTr t) := by
  obtain ⟨te, pe, s⟩ := h.ok
  exact ⟨te, pe, fun b F H σ ρ Q P Z R z q k => s b F H σ ρ _ _ Z R z q fun d v F' H' p g r _ => k d v F' H' p.2 g (r.rt (R.g.trans g) fun _ => p.1) trivial⟩
/-- a new tree is left to stand still -/
theorem DE.fz2 {e : Expr} {t : DT} (h : DE X W .n2 e t) : DE X W .fz e t := by
  obtain ⟨te, pe, s⟩ := h.ok
  refine ⟨te, pe, fun b F H σ ρ Q P Z R z q k => s b F H σ ρ Q P Z R z q fun d v F' H' p g r f => ?_⟩
  obtain ⟨A, t⟩ := r
  have hm : ∀ a ∈ A, F' a = none ∧ Nn H a ∧ ∃ u, H' a = some u ∧ IsD u := fun a ha => ⟨(t.nn a ha).1, f A t a ha, (t.nn a ha).2⟩
  have sf := seal_same (H := H') fun a ha => (hm a ha).1
  exact k d v _ H' p (seal_grow g hm) (t.seal sf fun a ha => seal_in ha) trivial
def dV (i : Nat) : DT := fun ρ P _ => ∃ d, ρ[i]? = some (.fz d) ∧ P d
def Sl.st : Sl → Option D
  | .fz d => some d
  | .ln d => some d
  | _ => none
def Sl.rd : Sl → Option D
  | .fz d => some d
  | .ln d => some d
  | .ow d => some d
  | _ => none
def dVs (i : Nat) : DT := fun ρ P _ => ∃ d, ρ[i]?.bind Sl.st = some d ∧ P d
def dVr (i : Nat) : DT := fun ρ P _ => ∃ d, ρ[i]?.bind Sl.rd = some d ∧ P d
theorem goes_now {m : Md} {K : PySem.W.Frag} {b : B} {F H F0 H0 : Hp} {P : D → Prop} {Q : VK} (k : Goes m K b F H P Q) (s : Grow b.T F0 H0 F H) {d : D} {v : V} (p : P d) (r : VR m K b F H v d) (f : Fr m H F H v d) : Q v H := k d v F H p (.refl s) r f
theorem de_v (i : Nat) {x : Str} {pos : Pos} (hN : X.N[i]? = some x := by rfl) (hv : Vis X.env.scope x := by first | exact Or.inl rfl | exact Or.inr (Or.inl rfl) | exact Or.inr (Or.inr rfl)) (hd : (x == ("__debug__" : Str)) = false := by decide)
    (hcd : (x == ("__classdict__" : Str)) = false := by decide) : DE X W .fz (.Name x pos) (dV i) := by
  refine ⟨_, pe_var hN hv hd hcd, fun b F H σ ρ Q P Z R z q k => ?_⟩
  obtain ⟨d, e, p⟩ := q
  obtain ⟨v, e1, r⟩ := R.sl i _ e
  exact ⟨v, e1, goes_now k R.g p r trivial⟩
theorem de_vs (i : Nat) {x : Str} {pos : Pos} (hN : X.N[i]? = some x := by rfl) (hv : Vis X.env.scope x := by first | exact Or.inl rfl | exact Or.inr (Or.inl rfl) | exact Or.inr (Or.inr rfl)) (hd : (x == ("__debug__" : Str)) = false := by decide)
    (hcd : (x == ("__classdict__" : Str)) = false := by decide) : DE X W .st (.Name x pos) (dVs i) := by
  refine ⟨_, pe_var hN hv hd hcd, fun b F H σ ρ Q P Z R z q k => ?_⟩
  obtain ⟨d, e, p⟩ := q
  obtain ⟨s, es, e⟩ := Option.bind_eq_some_iff.mp e
  have q := R.sl i _ es
  cases s with
  | «at» _ => cases e
  | un => cases e
  | tr _ _ => cases e
  | lt _ => cases e
  | ow d' => cases e
  | fz d' =>
    cases e
    obtain ⟨v, e1, r⟩ := q
    exact ⟨v, e1, goes_now k R.g p (.inl r) trivial⟩
  | ln d' =>
    cases e
    obtain ⟨v, e1, r⟩ := q
    exact ⟨v, e1, goes_now k R.g p r trivial⟩
theorem de_vr (i : Nat) {x : Str} {pos : Pos} (hN : X.N[i]? = some x := by rfl) (hv : Vis X.env.scope x := by first | exact Or.inl rfl | exact Or.inr (Or.inl rfl) | exact Or.inr (Or.inr rfl)) (hd : (x == ("__debug__" : Str)) = false := by decide)
    (hcd : (x == ("__classdict__" : Str)) = false := by decide) : DE X W .rd (.Name x pos) (dVr i) := by
  refine ⟨_, pe_var hN hv hd hcd, fun b F H σ ρ Q P Z R z q k => ?_⟩
  obtain ⟨d, e, p⟩ := q
  obtain ⟨s, es, e⟩ := Option.bind_eq_some_iff.mp e
  have q := R.sl i _ es
  cases s with
  | «at» _ => cases e
  | un => cases e
  | tr _ _ => cases e
  | lt _ => cases e
  | ow d' =>
    cases e
    obtain ⟨v, e1, q⟩ := q
    refine ⟨_, e1, goes_now k R.g p ?_ trivial⟩
    rcases q with ⟨a, e2, n, n2, o⟩ | q
    · exact .inr ⟨a, e2, o.rdb⟩
    · exact .inl q.dq
  | fz d' =>
    cases e
    obtain ⟨v, e1, r⟩ := q
    exact ⟨v, e1, goes_now k R.g p (.inl r) trivial⟩
  | ln d' =>
    cases e
    obtain ⟨v, e1, r⟩ := q
    exact ⟨v, e1, goes_now k R.g p (VR.rd rfl R.g r) trivial⟩
def dC (d : D) : DT := fun _ P _ => P d
theorem de_int {i j pos} : DE X W .fz (.Constant (.int i) j pos) (dC (.int i)) := ⟨_, pe_int, fun b F H σ ρ Q P Z R z q k => goes_now k R.g q (Dq.int i) trivial⟩
theorem de_bl {i j pos} : DE X W .fz (.Constant (.bool i) j pos) (dC (.bool i)) := ⟨_, pe_bl, fun b F H σ ρ Q P Z R z q k => goes_now k R.g q (Dq.bl i) trivial⟩
theorem de_str {i j pos} : DE X W .fz (.Constant (.str i) j pos) (dC (.str i)) := ⟨_, pe_str, fun b F H σ ρ Q P Z R z q k => goes_now k R.g q (Dq.str i) trivial⟩
theorem de_non {j pos} : DE X W .fz (.Constant .none j pos) (dC .none) := ⟨_, pe_non, fun b F H σ ρ Q P Z R z q k => goes_now k R.g q Dq.non trivial⟩
/-- a module's constant -/
theorem de_glob {x : Str} {v : V} {d : D} {u : Value} {pos : Pos} (hg : Gl X x) (hm : X.mg x = some u) (r : RelV v u) (q : ∀ F, Dq F v d) (hd : (x == ("__debug__" : Str)) = false := by decide) : DE X W .fz (.Name x pos) (dC d) :=
  ⟨_, pe_glob hg hm r hd, fun b F H σ ρ Q P Z R z p k => goes_now k R.g p (q F) trivial⟩

/-! ### a rule on two values, on one, on a list -/
def R2ok (K : PySem.W.Frag) (ma mb m : Md) (r : R2) (rd : D → D → (D → Prop) → Prop) : Prop :=
  ∀ (b : B) (F H : Hp) (x y : V) (dx dy : D) (Q : VK) (P : D → Prop), Grow b.T b.F b.H F H → VR ma K b F H x dx → VR mb K b F H y dy → rd dx dy P → Goes m K b F H P Q → r x y H Q
def R1ok (K : PySem.W.Frag) (ma m : Md) (r : V → Hp → VK → Prop) (rd : D → (D → Prop) → Prop) : Prop :=
  ∀ (b : B) (F H : Hp) (x : V) (dx : D) (Q : VK) (P : D → Prop), Grow b.T b.F b.H F H → VR ma K b F H x dx → rd dx P → Goes m K b F H P Q → r x H Q
def RAok (K : PySem.W.Frag) (ms : List Md) (m : Md) (r : List V → Hp → VK → Prop) (rd : List D → (D → Prop) → Prop) : Prop :=
  ∀ (b : B) (F H : Hp) (xs : List V) (ds : List D) (Q : VK) (P : D → Prop), Grow b.T b.F b.H F H → VRs K b F H ms xs ds → rd ds P → Goes m K b F H P Q → r xs H Q
def d2 (rd : D → D → (D → Prop) → Prop) (ta tb : DT) : DT := fun ρ P Z => ta ρ (fun x => tb ρ (fun y => rd x y P) Z) Z
def d1 (rd : D → (D → Prop) → Prop) (ta : DT) : DT := fun ρ P Z => ta ρ (fun x => rd x P) Z
def dA (rd : List D → (D → Prop) → Prop) (ta : DTa) : DT := fun ρ P Z => ta ρ (fun xs => rd xs P) Z
theorem Goes.after {m : Md} {K : PySem.W.Frag} {b : B} {F H F1 H1 : Hp} {P : D → Prop} {Q : VK} (k : Goes m K b F H P Q) (g : Grow b.T F H F1 H1) : Goes m K b F1 H1 P Q := fun d v F' H' p g' r f => k d v F' H' p (g.trans g') r (f.back g.h)
theorem sem2 {ma mb m : Md} {ea eb : Expr} {ta tb : DT} {r : R2} {rd : D → D → (D → Prop) → Prop} {te1 te2 : TE} (hr : R2ok X.K ma mb m r rd)
    (s1 : ∀ (b : B) (F H : Hp) (σ : L2.St) (ρ : List Sl) (Q : VK) (P : D → Prop) (Z : Zs), Rep X.K b F H σ ρ → ZOk X.mg X.K b F Z W → ta ρ P Z → Goes ma X.K b F H P Q → te1 σ H Q)
    (s2 : ∀ (b : B) (F H : Hp) (σ : L2.St) (ρ : List Sl) (Q : VK) (P : D → Prop) (Z : Zs), Rep X.K b F H σ ρ → ZOk X.mg X.K b F Z W → tb ρ P Z → Goes mb X.K b F H P Q → te2 σ H Q) :
    ∀ (b : B) (F H : Hp) (σ : L2.St) (ρ : List Sl) (Q : VK) (P : D → Prop) (Z : Zs), Rep X.K b F H σ ρ → ZOk X.mg X.K b F Z W → d2 rd ta tb ρ P Z → Goes m X.K b F H P Q → tOp r te1 te2 σ H Q :=
  fun b F H σ ρ Q P Z R z q k => s1 b F H σ ρ _ _ Z R z q fun d v F1 H1 p g r1 _ => s2 b F1 H1 σ ρ _ _ Z (R.grow g) (z.mono g.f) p fun d' v' F2 H2 p2 g2 r2 _ =>
    hr b F2 H2 v v' d d' Q P (R.g.trans (g.trans g2)) (r1.grow g2) r2 p2 (k.after (g.trans g2))
theorem de_op {ma mb m : Md} {op : Operator} {ea eb : Expr} {ta tb : DT} {r : R2} {rd : D → D → (D → Prop) → Prop} {pos : Pos} (ho : OpR X (binaryOp op) r) (hr : R2ok X.K ma mb m r rd) (ha : DE X W ma ea ta) (hb : DE X W mb eb tb) :
    DE X W m (.BinOp ea op eb pos) (d2 rd ta tb) := by
  obtain ⟨te1, p1, s1⟩ := ha.ok
  obtain ⟨te2, p2, s2⟩ := hb.ok
  exact ⟨_, pe_op ho p1 p2, sem2 (ea := ea) (eb := eb) hr s1 s2⟩
theorem de_cmp {ma mb m : Md} {op : CmpOp} {ea eb : Expr} {ta tb : DT} {r : R2} {rd : D → D → (D → Prop) → Prop} {pos : Pos} (ho : OpR X (compareOp op) r) (hr : R2ok X.K ma mb m r rd) (ha : DE X W ma ea ta) (hb : DE X W mb eb tb) (hm : behindInMarks op eb = false) :
    DE X W m (.Compare ea [op] [eb] pos) (d2 rd ta tb) := by
  obtain ⟨te1, p1, s1⟩ := ha.ok
  obtain ⟨te2, p2, s2⟩ := hb.ok
  exact ⟨_, pe_cmpR ho p1 p2 hm, sem2 (ea := ea) (eb := eb) hr s1 s2⟩
theorem de_ix {ma mb m : Md} {ea eb : Expr} {ta tb : DT} {r : R2} {rd : D → D → (D → Prop) → Prop} {pos : Pos} (ho : IxR X r) (hr : R2ok X.K ma mb m r rd) (ha : DE X W ma ea ta) (hb : DE X W mb eb tb) (hs : PlainIx eb) :
    DE X W m (.Subscript ea eb pos) (d2 rd ta tb) := by
  obtain ⟨te1, p1, s1⟩ := ha.ok
  obtain ⟨te2, p2, s2⟩ := hb.ok
  exact ⟨_, pe_ix ho p1 p2 hs, sem2 (ea := ea) (eb := eb) hr s1 s2⟩
theorem de_un {ma m : Md} {op : UnaryOp} {ea : Expr} {ta : DT} {r : V → Hp → VK → Prop} {rd : D → (D → Prop) → Prop} {pos : Pos} (ho : UnR X (unaryOp op) r) (hr : R1ok X.K ma m r rd) (ha : DE X W ma ea ta) : DE X W m (.UnaryOp op ea pos) (d1 rd ta) := by
  obtain ⟨te1, p1, s1⟩ := ha.ok
  exact ⟨_, pe_un ho p1, fun b F H σ ρ Q P Z R z q k => s1 b F H σ ρ _ _ Z R z q fun d v F1 H1 p g r1 _ => hr b F1 H1 v d Q P (R.g.trans g) r1 p (k.after g)⟩

/-! ### arguments -/
def dNil : DTa := fun _ P _ => P []
def dCons (ta : DT) (tr : DTa) : DTa := fun ρ P Z => ta ρ (fun x => tr ρ (fun xs => P (x :: xs)) Z) Z
theorem da_nil : DA X W [] [] dNil := ⟨_, pa_nil, fun b F H σ ρ Q P Z R z q k => k [] [] F H q (.refl R.g) .nil⟩
theorem da_cons {m : Md} {ms : List Md} {e : Expr} {es : List Expr} {ta : DT} {tr : DTa} (ha : DE X W m e ta) (hr : DA X W ms es tr) (hs : starEach (e :: es) X.env = (false, eval e X.env) :: starEach es X.env := by rfl) : DA X W (m :: ms) (e :: es) (dCons ta tr) := by
  obtain ⟨te1, p1, s1⟩ := ha.ok
  obtain ⟨te2, p2, s2⟩ := hr.ok
  exact ⟨_, pa_cons p1 p2 hs, fun b F H σ ρ Q P Z R z q k => s1 b F H σ ρ _ _ Z R z q fun d v F1 H1 p g r1 _ => s2 b F1 H1 σ ρ _ _ Z (R.grow g) (z.mono g.f) p fun ds vs F2 H2 p2 g2 r2 =>
    k (d :: ds) (v :: vs) F2 H2 p2 (g.trans g2) (.cons (r1.grow g2) r2)⟩
theorem semA {ms : List Md} {m : Md} {ta : DTa} {te : TA} {r : List V → Hp → VK → Prop} {rd : List D → (D → Prop) → Prop} (hr : RAok X.K ms m r rd)
    (s1 : ∀ (b : B) (F H : Hp) (σ : L2.St) (ρ : List Sl) (Q : List V → Hp → Prop) (P : List D → Prop) (Z : Zs), Rep X.K b F H σ ρ → ZOk X.mg X.K b F Z W → ta ρ P Z → (∀ ds vs F' H', P ds → Grow b.T F H F' H' → VRs X.K b F' H' ms vs ds → Q vs H') → te σ H Q) :
    ∀ (b : B) (F H : Hp) (σ : L2.St) (ρ : List Sl) (Q : VK) (P : D → Prop) (Z : Zs), Rep X.K b F H σ ρ → ZOk X.mg X.K b F Z W → dA rd ta ρ P Z → Goes m X.K b F H P Q → tCB r te σ H Q :=
  fun b F H σ ρ Q P Z R z q k => s1 b F H σ ρ _ _ Z R z q fun ds vs F1 H1 p g r1 => hr b F1 H1 vs ds Q P (R.g.trans g) r1 p (k.after g)
theorem de_bi {ms : List Md} {m : Md} {x : Str} {id : String} {e : Expr} {es : List Expr} {ta : DTa} {r : List V → Hp → VK → Prop} {rd : List D → (D → Prop) → Prop} {p pos : Pos} (hc : CallR X (.builtin id) r) (hr : RAok X.K ms m r rd) (hg : Gl X x) (hm : X.mg x = none) (hv : bootBuiltins x = some (.builtin id))
    (ha : DA X W ms (e :: es) ta) (hn : x ≠ "__name__" := by decide) (hdb : (x == ("__debug__" : Str)) = false := by decide) (he : starEach (e :: es) X.env = (false, eval e X.env) :: starEach es X.env := by rfl) (hpl : (backTo pos (starEach es X.env)).any (·.1) = false := by rfl) : DE X W m (.Call (.Name x p) (e :: es) [] pos) (dA rd ta) := by
  obtain ⟨te, p1, s1⟩ := ha.ok
  exact ⟨_, pe_callB hc hg hm hv p1 hn hdb he hpl, semA hr s1⟩
theorem de_ty {ms : List Md} {m : Md} {x : Str} {T : String} {e : Expr} {es : List Expr} {ta : DTa} {r : List V → Hp → VK → Prop} {rd : List D → (D → Prop) → Prop} {p pos : Pos} (hc : CallR X (.type T) r) (hr : RAok X.K ms m r rd) (hg : Gl X x) (hm : X.mg x = none) (hv : bootBuiltins x = some (.type T))
    (ha : DA X W ms (e :: es) ta) (hn : x ≠ "__name__" := by decide) (hdb : (x == ("__debug__" : Str)) = false := by decide) (he : starEach (e :: es) X.env = (false, eval e X.env) :: starEach es X.env := by rfl) (hpl : (backTo pos (starEach es X.env)).any (·.1) = false := by rfl) : DE X W m (.Call (.Name x p) (e :: es) [] pos) (dA rd ta) := by
  obtain ⟨te, p1, s1⟩ := ha.ok
  exact ⟨_, pe_callTy hc hg hm hv p1 hn hdb he hpl, semA hr s1⟩
theorem vrs_len {K : PySem.W.Frag} {b : B} {F H : Hp} : ∀ {ms : List Md} {vs : List V} {ds : List D}, VRs K b F H ms vs ds → vs.length = ms.length ∧ ds.length = ms.length
  | _, _, _, .nil => ⟨rfl, rfl⟩
  | _, _, _, .cons _ q => ⟨congrArg (· + 1) (vrs_len q).1, congrArg (· + 1) (vrs_len q).2⟩
/-- all of them stand still -/
theorem vrs_fz {K : PySem.W.Frag} {b : B} {F H : Hp} : ∀ {n : Nat} {vs : List V} {ds : List D}, VRs K b F H (List.replicate n .fz) vs ds → DqA F vs ds
  | 0, _, _, .nil => .nil
  | n + 1, _, _, .cons a q => .cons a (vrs_fz q)
def dTup (ta : DTa) : DT := dA (fun ds P => ds.length ≤ 100000 ∧ P (.tuple ds)) ta
def dLst (ta : DTa) : DT := dA (fun ds P => ds.length ≤ 100000 ∧ P (.list ds)) ta
theorem sz5 {n : Nat} (h : n ≤ 100000) : n ≤ sizeLine := Nat.le_trans h (by decide)
theorem de_tup {n : Nat} {es : List Expr} {x1} {pos : Pos} {ta : DTa} (h : DA X W (List.replicate n .fz) es ta) : DE X W .fz (.Tuple es x1 pos) (dTup ta) := by
  obtain ⟨te, p1, s1⟩ := h.ok
  refine ⟨_, pe_tup p1, fun b F H σ ρ Q P Z R z q k => s1 b F H σ ρ _ _ Z R z q fun ds vs F1 H1 p g r1 => ?_⟩
  have hl := vrs_fz r1
  refine ⟨sz5 (by rw [hl.length]; exact p.1), fun a na => ?_⟩
  have g2 := Grow.new (R.grow g).g (HO.tup vs) na
  exact k _ _ _ _ p.2 (g.trans g2) (Dq.tup upd_same (hl.mono g2.f)) trivial
theorem de_lst {n : Nat} {es : List Expr} {pos : Pos} {ta : DTa} (h : DA X W (List.replicate n .fz) es ta) : DE X W .nw (.List es pos) (dLst ta) := by
  obtain ⟨te, p1, s1⟩ := h.ok
  refine ⟨_, pe_lst p1, fun b F H σ ρ Q P Z R z q k => s1 b F H σ ρ _ _ Z R z q fun ds vs F1 H1 p g r1 => ?_⟩
  have hl := vrs_fz r1
  refine ⟨sz5 (by rw [hl.length]; exact p.1), fun a na => ?_⟩
  have g2 := Grow.own (R.grow g).g (HO.lst vs) na
  refine k _ _ _ _ p.2 (g.trans g2) (.inl ⟨a, rfl, (R.grow g).same.free na, vs, upd_same, hl⟩) fun q e => ?_
  cases e
  exact g.h.free na
/-! the empty dict: its keys will be tuples, or ints and texts -/
theorem de_dnewT {pos : Pos} : DE X W .nw (.Dict [] [] pos) (dC (dctT [])) := ⟨_, pe_dnewT, fun b F H σ ρ Q P Z R z q k a na =>
  k _ _ _ _ q (.own R.g (HO.dT []) na) (.inl ⟨a, rfl, R.same.free na, .inl ⟨[], [], rfl, upd_same, rfl, .nil⟩⟩) fun q e => by cases e; exact nn_of na⟩
theorem de_dnewK {pos : Pos} : DE X W .nw (.Dict [] [] pos) (dC (dctK [])) := ⟨_, pe_dnewK, fun b F H σ ρ Q P Z R z q k a na =>
  k _ _ _ _ q (.own R.g (HO.dK []) na) (.inl ⟨a, rfl, R.same.free na, .inr ⟨[], [], rfl, upd_same, rfl, .nil⟩⟩) fun q e => by cases e; exact nn_of na⟩

/-! ### tests -/
def dB (t : DT) : DTt := fun ρ P Z => t ρ (fun d => ∃ c, d = .bool c ∧ P c) Z
theorem dt_val {m : Md} {e : Expr} {t : DT} (h : DE X W m e t) (hsh : m.sh = true := by rfl) (he : ∀ whole, isTrue e X.env whole = (do let v ← whole; standAt e.pos; holding [v] (truthy v)) := by intro _; rfl) : DEt X W e (dB t) := by
  obtain ⟨te, p1, s1⟩ := (h.rd hsh).ok
  refine ⟨_, pt_val p1 he, fun b F H σ ρ Q P Z R z q k => s1 b F H σ ρ _ _ Z R z q fun d v F1 H1 p g r1 _ => ?_⟩
  obtain ⟨c, rfl, p⟩ := p
  exact ⟨c, vr_bl r1, k c F1 H1 p g⟩
theorem dt_cmp {ma mb m : Md} {op : CmpOp} {ea eb : Expr} {ta tb : DT} {r : R2} {rd : D → D → (D → Prop) → Prop} {pos : Pos} (ho : OpR X (compareOp op) r) (hr : R2ok X.K ma mb m r rd) (ha : DE X W ma ea ta) (hb : DE X W mb eb tb) (hm : behindInMarks op eb = false) (hsh : m.sh = true := by rfl) :
    DEt X W (.Compare ea [op] [eb] pos) (dB (d2 rd ta tb)) := by
  obtain ⟨te1, p1, s1⟩ := ha.ok
  obtain ⟨te2, p2, s2⟩ := hb.ok
  refine ⟨_, pt_cmpR ho p1 p2 hm, fun b F H σ ρ Q P Z R z q k => ?_⟩
  refine sem2 (ea := ea) (eb := eb) hr s1 s2 b F H σ ρ _ _ Z R z q fun d v F1 H1 p g r1 _ => ?_
  obtain ⟨c, rfl, p⟩ := p
  exact ⟨c, vr_bl (r1.rd hsh (R.g.trans g)), k c F1 H1 p g⟩
def dNot (t : DTt) : DTt := fun ρ P Z => t ρ (fun c => P (!c)) Z
theorem dt_not {e : Expr} {t : DTt} {pos : Pos} (h : DEt X W e t) : DEt X W (.UnaryOp .Not e pos) (dNot t) := by
  obtain ⟨te, p1, s1⟩ := h.ok
  exact ⟨_, pt_not p1, fun b F H σ ρ Q P Z R z q k => s1 b F H σ ρ _ _ Z R z q fun c F1 H1 p g => k _ F1 H1 p g⟩
theorem DEw.dt {e : Expr} {t : DTt} (h : DEw X W e t) : DEt X W e t := by
  obtain ⟨te, p1, s1⟩ := h.ok
  exact ⟨te, p1.pt, s1⟩
def dAnd (t u : DTt) : DTt := fun ρ P Z => t ρ (fun c => (c = true → u ρ P Z) ∧ (c = false → P false)) Z
def dOr (t u : DTt) : DTt := fun ρ P Z => t ρ (fun c => (c = true → P true) ∧ (c = false → u ρ P Z)) Z
theorem dw_and1 {e : Expr} {t : DTt} {pos : Pos} (h : DEt X W e t) : DEw X W (.BoolOp .And [e] pos) t := by
  obtain ⟨te, p1, s1⟩ := h.ok
  exact ⟨te, pw_and1 p1, s1⟩
theorem dw_or1 {e : Expr} {t : DTt} {pos : Pos} (h : DEt X W e t) : DEw X W (.BoolOp .Or [e] pos) t := by
  obtain ⟨te, p1, s1⟩ := h.ok
  exact ⟨te, pw_or1 p1, s1⟩
theorem dw_and {e f : Expr} {rest : List Expr} {t u : DTt} {pos : Pos} (h : DEt X W e t) (h2 : DEw X W (.BoolOp .And (f :: rest) pos) u) : DEw X W (.BoolOp .And (e :: f :: rest) pos) (dAnd t u) := by
  obtain ⟨te, p1, s1⟩ := h.ok
  obtain ⟨te2, p2, s2⟩ := h2.ok
  refine ⟨_, pw_and p1 p2, fun b F H σ ρ Q P Z R z q k => s1 b F H σ ρ _ _ Z R z q fun c F1 H1 p g => ?_⟩
  cases c with
  | true => exact s2 b F1 H1 σ ρ _ _ Z (R.grow g) (z.mono g.f) (p.1 rfl) fun c F2 H2 p2 g2 => k c F2 H2 p2 (g.trans g2)
  | false => exact k false F1 H1 (p.2 rfl) g
theorem dw_or {e f : Expr} {rest : List Expr} {t u : DTt} {pos : Pos} (h : DEt X W e t) (h2 : DEw X W (.BoolOp .Or (f :: rest) pos) u) : DEw X W (.BoolOp .Or (e :: f :: rest) pos) (dOr t u) := by
  obtain ⟨te, p1, s1⟩ := h.ok
  obtain ⟨te2, p2, s2⟩ := h2.ok
  refine ⟨_, pw_or p1 p2, fun b F H σ ρ Q P Z R z q k => s1 b F H σ ρ _ _ Z R z q fun c F1 H1 p g => ?_⟩
  cases c with
  | true => exact k true F1 H1 (p.1 rfl) g
  | false => exact s2 b F1 H1 σ ρ _ _ Z (R.grow g) (z.mono g.f) (p.2 rfl) fun c F2 H2 p2 g2 => k c F2 H2 p2 (g.trans g2)
/-! .. as values -/
def dAndV (t u : DT) : DT := fun ρ P Z => t ρ (fun d => ∃ c, d = .bool c ∧ (c = true → u ρ P Z) ∧ (c = false → P (.bool false))) Z
def dOrV (t u : DT) : DT := fun ρ P Z => t ρ (fun d => ∃ c, d = .bool c ∧ (c = true → P (.bool true)) ∧ (c = false → u ρ P Z)) Z
def dNotV (t : DT) : DT := fun ρ P Z => t ρ (fun d => ∃ c, d = .bool c ∧ P (.bool (!c))) Z
theorem de_one {op} {e : Expr} {t : DT} {pos : Pos} (h : DE X W .fz e t) : DE X W .fz (.BoolOp op [e] pos) t := by
  obtain ⟨te, p1, s1⟩ := h.ok
  exact ⟨te, pe_one p1, s1⟩
theorem de_and {m : Md} {e f : Expr} {rest : List Expr} {t u : DT} {pos : Pos} (h : DE X W m e t) (h2 : DE X W .fz (.BoolOp .And (f :: rest) pos) u) (hsh : m.sh = true := by rfl) : DE X W .fz (.BoolOp .And (e :: f :: rest) pos) (dAndV t u) := by
  obtain ⟨te, p1, s1⟩ := (h.rd hsh).ok
  obtain ⟨te2, p2, s2⟩ := h2.ok
  refine ⟨_, pe_and p1 p2, fun b F H σ ρ Q P Z R z q k => s1 b F H σ ρ _ _ Z R z q fun d v F1 H1 p g r1 _ => ?_⟩
  obtain ⟨c, rfl, p⟩ := p
  refine ⟨c, vr_bl r1, ?_⟩
  cases c with
  | true => exact s2 b F1 H1 σ ρ _ _ Z (R.grow g) (z.mono g.f) (p.1 rfl) (k.after g)
  | false => exact k _ _ F1 H1 (p.2 rfl) g (Dq.bl _) trivial
theorem de_or {m : Md} {e f : Expr} {rest : List Expr} {t u : DT} {pos : Pos} (h : DE X W m e t) (h2 : DE X W .fz (.BoolOp .Or (f :: rest) pos) u) (hsh : m.sh = true := by rfl) : DE X W .fz (.BoolOp .Or (e :: f :: rest) pos) (dOrV t u) := by
  obtain ⟨te, p1, s1⟩ := (h.rd hsh).ok
  obtain ⟨te2, p2, s2⟩ := h2.ok
  refine ⟨_, pe_or p1 p2, fun b F H σ ρ Q P Z R z q k => s1 b F H σ ρ _ _ Z R z q fun d v F1 H1 p g r1 _ => ?_⟩
  obtain ⟨c, rfl, p⟩ := p
  refine ⟨c, vr_bl r1, ?_⟩
  cases c with
  | true => exact k _ _ F1 H1 (p.1 rfl) g (Dq.bl _) trivial
  | false => exact s2 b F1 H1 σ ρ _ _ Z (R.grow g) (z.mono g.f) (p.2 rfl) (k.after g)
theorem de_not {m : Md} {e : Expr} {t : DT} {pos : Pos} (h : DE X W m e t) (hsh : m.sh = true := by rfl) : DE X W .fz (.UnaryOp .Not e pos) (dNotV t) := by
  obtain ⟨te, p1, s1⟩ := (h.rd hsh).ok
  refine ⟨_, pe_not p1, fun b F H σ ρ Q P Z R z q k => s1 b F H σ ρ _ _ Z R z q fun d v F1 H1 p g r1 _ => ?_⟩
  obtain ⟨c, rfl, p⟩ := p
  exact ⟨c, vr_bl r1, k _ _ F1 H1 p g (Dq.bl _) trivial⟩
def dIfE (t : DTt) (u w : DT) : DT := fun ρ P Z => t ρ (fun c => (c = true → u ρ P Z) ∧ (c = false → w ρ P Z)) Z
theorem de_ife {m : Md} {c e f : Expr} {t : DTt} {u w : DT} {pos : Pos} (h : DEt X W c t) (h1 : DE X W m e u) (h2 : DE X W m f w) : DE X W m (.IfExp c e f pos) (dIfE t u w) := by
  obtain ⟨te, p1, s1⟩ := h.ok
  obtain ⟨te2, p2, s2⟩ := h1.ok
  obtain ⟨te3, p3, s3⟩ := h2.ok
  refine ⟨_, pe_ifExp p1 p2 p3, fun b F H σ ρ Q P Z R z q k => s1 b F H σ ρ _ _ Z R z q fun c F1 H1 p g => ?_⟩
  cases c with
  | true => exact s2 b F1 H1 σ ρ _ _ Z (R.grow g) (z.mono g.f) (p.1 rfl) (k.after g)
  | false => exact s3 b F1 H1 σ ρ _ _ Z (R.grow g) (z.mono g.f) (p.2 rfl) (k.after g)
end
end DL
set_option maxRecDepth 100000
set_option maxHeartbeats 4000000
/-! DL2: statements, targets, loops, comprehensions, calls, a def's contract. -/
namespace DL
open PySem PySem.Spec PyProof.Rows L2
variable {T : List (Addr × Str)}

/-! ### readings that hang on K alone -/
def cE (mg : Str → Option Value) (K : PySem.W.Frag) (W : WT) (m : Md) (t : DT) : TE := fun σ H Q => ∃ (b : B) (F : Hp) (ρ : List Sl) (P : D → Prop) (Z : Zs), Rep K b F H σ ρ ∧ ZOk mg K b F Z W ∧ t ρ P Z ∧ Goes m K b F H P Q
def cT (mg : Str → Option Value) (K : PySem.W.Frag) (W : WT) (t : DTt) : TT := fun σ H Q => ∃ (b : B) (F : Hp) (ρ : List Sl) (P : Bool → Prop) (Z : Zs), Rep K b F H σ ρ ∧ ZOk mg K b F Z W ∧ t ρ P Z ∧ ∀ c F' H', P c → Grow b.T F H F' H' → Q c H'
def cS (mg : Str → Option Value) (K : PySem.W.Frag) (W : WT) (rm : Md) (t : DS) : TS := fun D σ H => ∃ (b : B) (F : Hp) (ρ : List Sl) (d : DEnds) (Z : Zs), Rep K b F H σ ρ ∧ ZOk mg K b F Z W ∧ t d Z ρ ∧ Conn K b rm F d D
section
variable {X : Cx} {W : WT}
theorem DE.pe {m : Md} {e : Expr} {t : DT} (h : DE X W m e t) : PE X e (cE X.mg X.K W m t) := by
  obtain ⟨te, p, s⟩ := h.ok
  exact ⟨fun pins s0 σ H Q I ⟨b, F, ρ, P, Z, R, z, q, k⟩ => p.run pins s0 σ H Q I (s b F H σ ρ Q P Z R z q k)⟩
theorem DEt.pt {e : Expr} {t : DTt} (h : DEt X W e t) : PT X e (cT X.mg X.K W t) := by
  obtain ⟨te, p, s⟩ := h.ok
  exact ⟨fun pins s0 σ H Q I ⟨b, F, ρ, P, Z, R, z, q, k⟩ => p.run pins s0 σ H Q I (s b F H σ ρ Q P Z R z q k)⟩
theorem DSs.ps {rm : Md} {sts : List Stmt} {t : DS} (h : DSs X W rm sts t) : PSs X sts (cS X.mg X.K W rm t) := by
  obtain ⟨te, p, s⟩ := h.ok
  exact ⟨fun pins s0 σ H D I ⟨b, F, ρ, d, Z, R, z, q, c⟩ => p.run pins s0 σ H D I (s b F H σ ρ D d Z R z q c)⟩
theorem DE.of_pe {m : Md} {e : Expr} {t : DT} (h : PE X e (cE X.mg X.K W m t)) : DE X W m e t := ⟨_, h, fun b F H σ ρ Q P Z R z q k => ⟨b, F, ρ, P, Z, R, z, q, k⟩⟩

/-! ### blocks -/
def dNext : DS := fun d _ ρ => d.nx ρ
def dSeq (t u : DS) : DS := fun d Z ρ => t { d with nx := fun ρ' => u d Z ρ' } Z ρ
variable {rm : Md} {pos : Pos}
theorem dss_nil : DSs X W rm [] dNext := ⟨_, pss_nil, fun b F H σ ρ D d Z R z q c => c.nx ρ F H σ (Same.refl _) R q⟩
theorem dss_cons {st : Stmt} {sts : List Stmt} {t u : DS} (h : DS1 X W rm st t) (h2 : DSs X W rm sts u) : DSs X W rm (st :: sts) (dSeq t u) := by
  obtain ⟨te1, p1, s1⟩ := h.ok
  obtain ⟨te2, p2, s2⟩ := h2.ok
  exact ⟨_, pss_cons p1 p2, fun b F H σ ρ D d Z R z q c => s1 b F H σ ρ _ _ Z R z q ⟨fun ρ' F' H' σ' s R' q' => s2 b F' H' σ' ρ' D d Z R' (z.mono s) q' (c.mono s), c.bk, c.ct, c.rt⟩⟩
theorem dss_one {st : Stmt} {t : DS} (h : DS1 X W rm st t) : DSs X W rm [st] t := by
  obtain ⟨te1, p1, s1⟩ := h.ok
  exact ⟨_, pss_one p1, s1⟩
/-- an own root stands still from here on -/
def frz (i : Nat) (ρ : List Sl) : List Sl := match ρ[i]? with
  | some (.ow x) => ρ.set i (.fz x)
  | some (.tr _ x) => ρ.set i (.fz x)
  | _ => ρ
def dFrz (i : Nat) (t : DS) : DS := fun d Z ρ => t d Z (frz i ρ)
theorem dss_frz (i : Nat) {sts : List Stmt} {t : DS} (h : DSs X W rm sts t) : DSs X W rm sts (dFrz i t) := by
  obtain ⟨te1, p1, s1⟩ := h.ok
  refine ⟨_, p1, fun b F H σ ρ D d Z R z q c => ?_⟩
  unfold dFrz frz at q
  split at q
  · rename_i x e
    obtain ⟨F', s, R'⟩ := R.freeze e (.inl rfl)
    exact s1 b F' H σ _ D d Z R' (z.mono s) q (c.mono s)
  · rename_i v x e
    obtain ⟨F', s, R'⟩ := R.freeze e (.inr ⟨v, rfl⟩)
    exact s1 b F' H σ _ D d Z R' (z.mono s) q (c.mono s)
  · exact s1 b F H σ ρ D d Z R z q c
theorem ds_pass : DS1 X W rm (.Pass pos) dNext := ⟨_, ps_pass, fun b F H σ ρ D d Z R z q c => c.nx ρ F H σ (Same.refl _) R q⟩
theorem ds_break : DS1 X W rm (.Break pos) (fun d _ ρ => d.bk ρ) := ⟨_, ps_break, fun b F H σ ρ D d Z R z q c => c.bk ρ F H σ (Same.refl _) R q⟩
theorem ds_continue : DS1 X W rm (.Continue pos) (fun d _ ρ => d.ct ρ) := ⟨_, ps_continue, fun b F H σ ρ D d Z R z q c => c.ct ρ F H σ (Same.refl _) R q⟩
def dDrop (t : DT) : DS := fun d Z ρ => t ρ (fun _ => d.nx ρ) Z
theorem ds_drop {m : Md} {e : Expr} {t : DT} (h : DE X W m e t) (hs : swapsWith e none pos.line X.env = pure false := by rfl) : DS1 X W rm (.Expr e pos) (dDrop t) := by
  obtain ⟨te, p, s⟩ := h.ok
  exact ⟨_, ps_expr p hs, fun b F H σ ρ D d Z R z q c => s b F H σ ρ _ _ Z R z q fun x v F' H' p g r f => c.nx ρ F' H' σ g.f (R.grow g) p⟩
def dRet (t : DT) : DS := fun d Z ρ => t ρ d.rt Z
theorem ds_ret {e : Expr} {t : DT} (h : DE X W rm e t) : DS1 X W rm (.Return (some e) pos) (dRet t) := by
  obtain ⟨te, p, s⟩ := h.ok
  exact ⟨_, ps_ret p, fun b F H σ ρ D d Z R z q c => s b F H σ ρ _ _ Z R z q fun x v F' H' p g r f => c.rt x v F' H' (R.g.trans g) r (f.back R.g.h) p⟩
/-- an own root goes out -/
def dRetO (i : Nat) : DS := fun d _ ρ => ∃ x, ρ[i]? = some (.ow x) ∧ d.rt x
theorem ds_retO (i : Nat) {x : Str} {p0 : Pos} (hN : X.N[i]? = some x := by rfl) (hv : Vis X.env.scope x := by first | exact Or.inl rfl | exact Or.inr (Or.inl rfl) | exact Or.inr (Or.inr rfl)) (hd : (x == ("__debug__" : Str)) = false := by decide)
    (hcd : (x == ("__classdict__" : Str)) = false := by decide) : DS1 X W .nw (.Return (some (.Name x p0)) pos) (dRetO i) := by
  refine ⟨_, ps_ret (pe_var hN hv hd hcd), fun b F H σ ρ D d Z R z q c => ?_⟩
  obtain ⟨y, e, p⟩ := q
  obtain ⟨v, e1, q⟩ := R.sl i _ e
  refine ⟨_, e1, ?_⟩
  rcases q with ⟨a, rfl, n, n2, o⟩ | q
  · exact c.rt y _ F H R.g (.inl ⟨a, rfl, n, o⟩) (fun q e => by cases e; exact n2) p
  · exact c.rt y _ F H R.g (.inr q) (fun q' e => by subst e; exact (atm_ref q).elim) p
/-- a tree goes out -/
def dRetT (i : Nat) : DS := fun d _ ρ => ∃ v x, ρ[i]? = some (.tr v x) ∧ d.rt x
theorem ds_retT (i : Nat) {x : Str} {p0 : Pos} (hN : X.N[i]? = some x := by rfl) (hv : Vis X.env.scope x := by first | exact Or.inl rfl | exact Or.inr (Or.inl rfl) | exact Or.inr (Or.inr rfl)) (hd : (x == ("__debug__" : Str)) = false := by decide)
    (hcd : (x == ("__classdict__" : Str)) = false := by decide) : DS1 X W .n2 (.Return (some (.Name x p0)) pos) (dRetT i) := by
  refine ⟨_, ps_ret (pe_var hN hv hd hcd), fun b F H σ ρ D d Z R z q c => ?_⟩
  obtain ⟨v, y, e, p⟩ := q
  obtain ⟨e1, A, t, n⟩ := R.sl i _ e
  exact ⟨_, e1, c.rt y _ F H R.g ⟨A, t⟩ (fun A2 t2 => by rw [← t.uniq (fun _ _ e _ => e) t2]; exact n) p⟩
/-- .. and stands still for the caller -/
theorem ds_retF (i : Nat) {x : Str} {p0 : Pos} (hN : X.N[i]? = some x := by rfl) (hv : Vis X.env.scope x := by first | exact Or.inl rfl | exact Or.inr (Or.inl rfl) | exact Or.inr (Or.inr rfl)) (hd : (x == ("__debug__" : Str)) = false := by decide)
    (hcd : (x == ("__classdict__" : Str)) = false := by decide) : DS1 X W .fz (.Return (some (.Name x p0)) pos) (dRetO i) := by
  refine ⟨_, ps_ret (pe_var hN hv hd hcd), fun b F H σ ρ D d Z R z q c => ?_⟩
  obtain ⟨y, e, p⟩ := q
  obtain ⟨F', s, R'⟩ := R.freeze e (.inl rfl)
  have hi : i < ρ.length := (List.getElem?_eq_some_iff.mp e).1
  obtain ⟨v, e1, r⟩ := R'.sl i (.fz y) (List.getElem?_set_self hi)
  exact ⟨v, e1, c.rt y v F' H R'.g r trivial p⟩
theorem ds_retN : DS1 X W rm (.Return none pos) (fun d _ _ => d.rt .none ∧ rm = .fz) := ⟨_, ps_retN, fun b F H σ ρ D d Z R z q c => by
  obtain ⟨q, rfl⟩ := q
  exact c.rt _ _ F H R.g (Dq.non) trivial q⟩
def dIf (t : DTt) (u w : DS) : DS := fun d Z ρ => t ρ (fun c => (c = true → u d Z ρ) ∧ (c = false → w d Z ρ)) Z
theorem ds_if {c : Expr} {a b : List Stmt} {t : DTt} {u w : DS} (h : DEt X W c t) (h1 : DSs X W rm a u) (h2 : DSs X W rm b w) : DS1 X W rm (.If c a b pos) (dIf t u w) := by
  obtain ⟨te, p, s⟩ := h.ok
  obtain ⟨te1, p1, s1⟩ := h1.ok
  obtain ⟨te2, p2, s2⟩ := h2.ok
  refine ⟨_, ps_if p p1 p2, fun b F H σ ρ D d Z R z q c => s b F H σ ρ _ _ Z R z q fun k F' H' p g => ?_⟩
  cases k with
  | true => exact s1 b F' H' σ ρ D d Z (R.grow g) (z.mono g.f) (p.1 rfl) (c.mono g.f)
  | false => exact s2 b F' H' σ ρ D d Z (R.grow g) (z.mono g.f) (p.2 rfl) (c.mono g.f)

/-! ### names stored -/
def dSet (i : Nat) (t : DT) : DS := fun d Z ρ => t ρ (fun x => d.nx (ρ.set i (.fz x))) Z
def dSetN (i : Nat) (t : DT) : DS := fun d Z ρ => t ρ (fun x => d.nx (ρ.set i (.ow x))) Z
def dSetS (i : Nat) (t : DT) : DS := fun d Z ρ => t ρ (fun x => d.nx (ρ.set i (.ln x))) Z
theorem Rep.setS {K : PySem.W.Frag} {b : B} {F H : Hp} {σ : L2.St} {ρ : List Sl} (R : Rep K b F H σ ρ) {v : V} {d : D} (i : Nat) (q : VR .st K b F H v d) : Rep K b F H (σ.set i (some v)) (ρ.set i (.ln d)) := R.setX i _ _ ⟨rfl, v, rfl, q⟩
/-- a value just told is stored -/
theorem Rep.put {K : PySem.W.Frag} {b : B} {F H F' H' : Hp} {σ : L2.St} {ρ : List Sl} (R : Rep K b F H σ ρ) (g : Grow b.T F H F' H') {v : V} {d : D} (i : Nat) (r : VR .nw K b F' H' v d) (f : Fr .nw H F' H' v d) : Rep K b F' H' (σ.set i (some v)) (ρ.set i (.ow d)) := by
  rcases r with ⟨p, rfl, n, o⟩ | r
  · exact R.store g i _ _ (A := [p]) ⟨_, rfl, .inr ⟨p, rfl, rfl, n, R.g.h.nn (f p rfl), o⟩⟩ fun a ha => by
      rw [List.mem_singleton] at ha
      subst ha
      exact f _ rfl
  · exact R.store g i _ _ (A := []) ⟨_, rfl, .inl ⟨rfl, r⟩⟩ fun a ha => by simp at ha
theorem Rep.putT {K : PySem.W.Frag} {b : B} {F H F' H' : Hp} {σ : L2.St} {ρ : List Sl} (R : Rep K b F H σ ρ) (g : Grow b.T F H F' H') {v : V} {d : D} (i : Nat) (r : VR .n2 K b F' H' v d) (f : Fr .n2 H F' H' v d) : Rep K b F' H' (σ.set i (some v)) (ρ.set i (.tr v d)) := by
  obtain ⟨A, t⟩ := r
  exact R.store g i _ _ (A := A) ⟨rfl, t, fun a ha => R.g.h.nn (f A t a ha)⟩ (f A t)
/-- .. a tree -/
def dSetT (i : Nat) (t : DT) : DS := fun d Z ρ => t ρ (fun x => ∀ v, d.nx (ρ.set i (.tr v x))) Z
section
variable {i : Nat} {x : Str} {e : Expr} {t : DT} {pos' : Pos}
theorem ds_set (i : Nat) (hN : X.N.Nodup) (h : DE X W .fz e t) (hi : X.N[i]? = some x := by rfl) (hx : Loc X.env.scope x := by first | exact Or.inl rfl | exact Or.inr rfl) (hs : swapsWith e (some (.Name x pos')) pos.line X.env = pure false := by rfl)
    (hf : X.fn x = true ∨ X.env.scope.names.lookup x = some .local := by first | exact .inl rfl | exact .inr rfl) : DS1 X W rm (.Assign [.Name x pos'] e pos) (dSet i t) := by
  obtain ⟨te, p, s⟩ := h.ok
  exact ⟨_, ps_set hN hi hx p hs hf, fun b F H σ ρ D d Z R z q c => s b F H σ ρ _ _ Z R z q fun y v F' H' p g r f => c.nx _ F' H' _ g.f ((R.grow g).setF i r) p⟩
theorem ds_setN (i : Nat) (hN : X.N.Nodup) (h : DE X W .nw e t) (hi : X.N[i]? = some x := by rfl) (hx : Loc X.env.scope x := by first | exact Or.inl rfl | exact Or.inr rfl) (hs : swapsWith e (some (.Name x pos')) pos.line X.env = pure false := by rfl)
    (hf : X.fn x = true ∨ X.env.scope.names.lookup x = some .local := by first | exact .inl rfl | exact .inr rfl) : DS1 X W rm (.Assign [.Name x pos'] e pos) (dSetN i t) := by
  obtain ⟨te, p, s⟩ := h.ok
  exact ⟨_, ps_set hN hi hx p hs hf, fun b F H σ ρ D d Z R z q c => s b F H σ ρ _ _ Z R z q fun y v F' H' p g r f => c.nx _ F' H' _ g.f (R.put g i r f) p⟩
theorem ds_setT (i : Nat) (hN : X.N.Nodup) (h : DE X W .n2 e t) (hi : X.N[i]? = some x := by rfl) (hx : Loc X.env.scope x := by first | exact Or.inl rfl | exact Or.inr rfl) (hs : swapsWith e (some (.Name x pos')) pos.line X.env = pure false := by rfl)
    (hf : X.fn x = true ∨ X.env.scope.names.lookup x = some .local := by first | exact .inl rfl | exact .inr rfl) : DS1 X W rm (.Assign [.Name x pos'] e pos) (dSetT i t) := by
  obtain ⟨te, p, s⟩ := h.ok
  exact ⟨_, ps_set hN hi hx p hs hf, fun b F H σ ρ D d Z R z q c => s b F H σ ρ _ _ Z R z q fun y v F' H' p g r f => c.nx _ F' H' _ g.f (R.putT g i r f) (p v)⟩
theorem ds_setS (i : Nat) (hN : X.N.Nodup) (h : DE X W .st e t) (hi : X.N[i]? = some x := by rfl) (hx : Loc X.env.scope x := by first | exact Or.inl rfl | exact Or.inr rfl) (hs : swapsWith e (some (.Name x pos')) pos.line X.env = pure false := by rfl)
    (hf : X.fn x = true ∨ X.env.scope.names.lookup x = some .local := by first | exact .inl rfl | exact .inr rfl) : DS1 X W rm (.Assign [.Name x pos'] e pos) (dSetS i t) := by
  obtain ⟨te, p, s⟩ := h.ok
  exact ⟨_, ps_set hN hi hx p hs hf, fun b F H σ ρ D d Z R z q c => s b F H σ ρ _ _ Z R z q fun y v F' H' p g r f => c.nx _ F' H' _ g.f ((R.grow g).setS i r) p⟩
end

/-! ### targets -/
abbrev DGt := D → List Sl → (List Sl → Prop) → Prop
abbrev DGts := List D → List Sl → (List Sl → Prop) → Prop
def Outs (vs : List Nat) (σ σ' : L2.St) : Prop := ∀ is : List Nat, (∀ i ∈ vs, i ∈ is) → L2.wipe σ' is = L2.wipe σ is
def cG (K : PySem.W.Frag) (vs : List Nat) (g : DGt) : TG := fun v σ H Q => ∃ (b : B) (F : Hp) (ρ : List Sl) (x : D) (P : List Sl → Prop), Rep K b F H σ ρ ∧ Dq F v x ∧ g x ρ P ∧ ∀ ρ' σ', Rep K b F H σ' ρ' → Outs vs σ σ' → P ρ' → Q σ' H
def cGs (K : PySem.W.Frag) (vs : List Nat) (g : DGts) : TGs := fun us σ H Q => ∃ (b : B) (F : Hp) (ρ : List Sl) (xs : List D) (P : List Sl → Prop), Rep K b F H σ ρ ∧ DqA F us xs ∧ g xs ρ P ∧ ∀ ρ' σ', Rep K b F H σ' ρ' → Outs vs σ σ' → P ρ' → Q σ' H
structure DG (X : Cx) (vs : List Nat) (tg : Expr) (g : DGt) : Prop where
  ok : PG X tg (cG X.K vs g)
structure DGs (X : Cx) (vs : List Nat) (tgs : List Expr) (g : DGts) : Prop where
  ok : PGs X tgs (cGs X.K vs g)
theorem PG.imp {tg : Expr} {t t' : TG} (h : PG X tg t) (k : ∀ v σ H Q, t' v σ H Q → t v σ H Q) : PG X tg t' := ⟨fun pins s σ H v u Q I r q => h.run pins s σ H v u Q I r (k _ _ _ _ q)⟩
theorem PGs.imp {tg : List Expr} {t t' : TGs} (h : PGs X tg t) (k : ∀ v σ H Q, t' v σ H Q → t v σ H Q) : PGs X tg t' := ⟨fun pins s σ H v u Q I r q => h.run pins s σ H v u Q I r (k _ _ _ _ q)⟩
theorem wipe_set {σ : L2.St} {i : Nat} {v : Option V} : ∀ {is : List Nat}, i ∈ is → L2.wipe (σ.set i v) is = L2.wipe σ is := by
  intro is hi
  refine List.ext_getElem? fun j => ?_
  by_cases hj : j ∈ is
  · have e : ∀ τ : L2.St, τ.length = σ.length → (L2.wipe τ is)[j]? = if j < σ.length then some none else none := fun τ hl => by
      cases h : (L2.wipe τ is)[j]? with
      | none =>
        rw [List.getElem?_eq_none_iff, L2.wipe_length, hl] at h
        rw [if_neg (by omega)]
      | some o =>
        have h1 : j < (L2.wipe τ is).length := (List.getElem?_eq_some_iff.mp h).1
        rw [L2.wipe_length, hl] at h1
        rw [if_pos h1]
        cases o with
        | none => rfl
        | some x => exact absurd hj (L2.wipe_some h).2
    rw [e _ (by rw [List.length_set]), e _ rfl]
  · have ne : i ≠ j := fun e => hj (e ▸ hi)
    rw [L2.wipe_out hj, L2.wipe_out hj, List.getElem?_set_ne ne]
def gNm (i : Nat) : DGt := fun x ρ P => P (ρ.set i (.fz x))
def gNil : DGts := fun xs ρ P => xs = [] ∧ P ρ
def gCns (g : DGt) (gs : DGts) : DGts := fun xs ρ P => ∃ x r, xs = x :: r ∧ g x ρ (fun ρ' => gs r ρ' P)
def gTp (n : Nat) (gs : DGts) : DGt := fun x ρ P => ∃ xs, x = .tuple xs ∧ xs.length = n ∧ gs xs ρ P
theorem dg_name (i : Nat) {x : Str} (hN : X.N.Nodup) (hi : X.N[i]? = some x := by rfl) (hx : Loc X.env.scope x := by first | exact Or.inl rfl | exact Or.inr rfl)
    (hf : X.fn x = true ∨ X.env.scope.names.lookup x = some .local := by first | exact .inl rfl | exact .inr rfl) : DG X [i] (.Name x pos) (gNm i) :=
  ⟨PG.imp (pg_name hN hi hx hf) fun v σ H Q ⟨b, F, ρ, y, P, R, q, p, k⟩ => k _ _ (R.setF i q) (fun is h => wipe_set (h i (by simp))) p⟩
theorem dgs_nil : DGs X [] [] gNil := ⟨PGs.imp pgs_nil fun v σ H Q ⟨b, F, ρ, y, P, R, q, p, k⟩ => by
  obtain ⟨rfl, p⟩ := p
  cases q
  exact ⟨rfl, k _ _ R (fun _ _ => rfl) p⟩⟩
theorem dgs_cons {vs ws : List Nat} {e : Expr} {es : List Expr} {g : DGt} {gs : DGts} (h : DG X vs e g) (h2 : DGs X ws es gs) (hs : (assignEach (e :: es) X.env).map (·.2) = assign e X.env :: (assignEach es X.env).map (·.2) := by rfl) : DGs X (vs ++ ws) (e :: es) (gCns g gs) :=
  ⟨PGs.imp (pgs_cons h.ok h2.ok hs) fun us σ H Q ⟨b, F, ρ, xs, P, R, q, p, k⟩ => by
    obtain ⟨x, r, rfl, p⟩ := p
    cases q with
    | cons q1 q2 =>
      refine ⟨_, _, rfl, b, F, ρ, x, _, R, q1, p, fun ρ1 σ1 R1 o1 p1 => ⟨b, F, ρ1, r, P, R1, q2, p1, fun ρ2 σ2 R2 o2 p2 => k ρ2 σ2 R2 (fun is hi => ?_) p2⟩⟩
      rw [o2 is fun i m => hi i (List.mem_append_right _ m), o1 is fun i m => hi i (List.mem_append_left _ m)]⟩
theorem dg_tup {vs : List Nat} {es : List Expr} {k n : Nat} {gs : DGts} (hc : X.calm = true) (h : DGs X vs es gs) (hn : (assignEach es X.env).length = n := by rfl) (hst : (assignEach es X.env).findIdx? (·.1) = none := by rfl) : DG X vs (.Tuple es k pos) (gTp n gs) :=
  ⟨PG.imp (pg_tup hc h.ok hn hst) fun v σ H Q ⟨b, F, ρ, y, P, R, q, p, k⟩ => by
    obtain ⟨xs, rfl, hl, p⟩ := p
    cases q with
    | tup e q => exact ⟨_, _, rfl, .of (R.same _ _ e), q.length.trans hl, b, F, ρ, xs, P, R, q, p, k⟩⟩
def dAsg (t : DT) (g : DGt) : DS := fun d Z ρ => t ρ (fun x => g x ρ d.nx) Z
theorem ds_asg {vs : List Nat} {tg e : Expr} {t : DT} {g : DGt} (h : DE X W .fz e t) (hg : DG X vs tg g) (hs : swapsWithSole [tg] e pos.line X.env = pure false := by rfl) (hw : swappedStores [tg] e X.env = pure none := by rfl)
    (h1 : (assignEach [tg] X.env).map (·.2) = [assign tg X.env] := by rfl) : DS1 X W rm (.Assign [tg] e pos) (dAsg t g) := by
  obtain ⟨te, p, s⟩ := h.ok
  exact ⟨_, ps_asg p hg.ok hs hw h1, fun b F H σ ρ D d Z R z q c => s b F H σ ρ _ _ Z R z q fun y v F' H' p g r f =>
    ⟨b, F', ρ, y, _, R.grow g, r, p, fun ρ' σ' R' _ p' => c.nx ρ' F' H' σ' g.f R' p'⟩⟩
end
end DL
set_option maxRecDepth 100000
set_option maxHeartbeats 4000000
/-! DL3: own roots changed, loops, comprehensions, calls, a def's contract. -/
namespace DL
open PySem PySem.Spec PyProof.Rows L2
variable {T : List (Addr × Str)}

/-! ### dicts by data -/
def OV (F : Hp) : Option V → Option D → Prop
  | none, none => True
  | some v, some d => Dq F v d
  | _, _ => False
theorem OV.is {F : Hp} {o : Option V} {r : Option D} (h : OV F o r) : o.isSome = r.isSome := by
  cases o <;> cases r <;> first | rfl | exact h.elim
theorem OV.val {F : Hp} {o : Option V} {d : D} (h : OV F o (some d)) : ∃ v, o = some v ∧ Dq F v d := by
  cases o with
  | none => exact h.elim
  | some v => exact ⟨v, rfl, h⟩
section
variable {κ : Type} [DecidableEq κ]
def valD (kds : List (κ × D)) (k : κ) : Option D := (kds.find? fun p => decide (p.1 = k)).map (·.2)
def putD (kds : List (κ × D)) (k : κ) (x : D) : List (κ × D) := if (kds.any fun p => decide (p.1 = k)) = true then kds.map (fun p => if p.1 = k then (p.1, x) else p) else kds ++ [(k, x)]
theorem kd_any {kvs : List (κ × V)} {kds : List (κ × D)} (h : kvs.map (·.1) = kds.map (·.1)) (k : κ) : (kvs.any fun p => decide (p.1 = k)) = kds.any fun p => decide (p.1 = k) := by
  have e : ∀ {β : Type} (l : List (κ × β)), (l.any fun p => decide (p.1 = k)) = (l.map (·.1)).any fun y => decide (y = k) := fun l => by rw [List.any_map]; rfl
  rw [e, e, h]
theorem kd_val {F : Hp} : ∀ {kvs : List (κ × V)} {kds : List (κ × D)} (k : κ), kvs.map (·.1) = kds.map (·.1) → DqA F (kvs.map (·.2)) (kds.map (·.2)) → OV F (valV kvs k) (valD kds k)
  | [], [], _, _, _ => by simp [valD, valV, OV]
  | [], _ :: _, _, h, _ => by simp at h
  | _ :: _, [], _, h, _ => by simp at h
  | p :: kvs, q :: kds, k, h, a => by
    simp only [List.map_cons, List.cons.injEq] at h
    cases a with
    | cons a1 a2 =>
      have ih := kd_val k h.2 a2
      by_cases e : q.1 = k
      · have e' : p.1 = k := h.1.trans e
        rw [show valD (q :: kds) k = some q.2 by simp [valD, List.find?_cons, e], valV_pos e']
        exact a1
      · have e' : ¬ p.1 = k := fun z => e (h.1.symm.trans z)
        rw [show valD (q :: kds) k = valD kds k by simp [valD, List.find?_cons, e], valV_neg e']
        exact ih
theorem kd_put_keys {kvs : List (κ × V)} {kds : List (κ × D)} (h : kvs.map (·.1) = kds.map (·.1)) (k : κ) (v : V) (x : D) : (putK kvs k v).map (·.1) = (putD kds k x).map (·.1) := by
  unfold putK putD
  rw [kd_any h k]
  split
  · rw [List.map_map, List.map_map]
    have e : ∀ {β : Type} (l : List (κ × β)) (y : β), l.map ((·.1) ∘ fun p => if p.1 = k then (p.1, y) else p) = l.map (·.1) := fun l y => by
      refine List.map_congr_left fun p _ => ?_
      show (if p.1 = k then (p.1, y) else p).1 = p.1
      split <;> rfl
    rw [e, e, h]
  · rw [List.map_append, List.map_append, h]
    rfl
theorem kd_put_vals {F : Hp} {v : V} {x : D} (hv : Dq F v x) (k : κ) : ∀ {kvs : List (κ × V)} {kds : List (κ × D)}, kvs.map (·.1) = kds.map (·.1) → DqA F (kvs.map (·.2)) (kds.map (·.2)) →
    DqA F ((kvs.map fun p => if p.1 = k then (p.1, v) else p).map (·.2)) ((kds.map fun p => if p.1 = k then (p.1, x) else p).map (·.2))
  | [], [], _, _ => .nil
  | [], _ :: _, h, _ => by simp at h
  | _ :: _, [], h, _ => by simp at h
  | p :: kvs, q :: kds, h, a => by
    simp only [List.map_cons, List.cons.injEq] at h
    cases a with
    | cons a1 a2 =>
      refine .cons ?_ (kd_put_vals hv k h.2 a2)
      by_cases e : q.1 = k
      · show Dq F (if p.1 = k then (p.1, v) else p).2 (if q.1 = k then (q.1, x) else q).2
        rw [if_pos (h.1.trans e), if_pos e]
        exact hv
      · show Dq F (if p.1 = k then (p.1, v) else p).2 (if q.1 = k then (q.1, x) else q).2
        rw [if_neg (fun z => e (h.1.symm.trans z)), if_neg e]
        exact a1
theorem kd_put {F : Hp} {kvs : List (κ × V)} {kds : List (κ × D)} {v : V} {x : D} (h : kvs.map (·.1) = kds.map (·.1)) (a : DqA F (kvs.map (·.2)) (kds.map (·.2))) (hv : Dq F v x) (k : κ) : DqA F ((putK kvs k v).map (·.2)) ((putD kds k x).map (·.2)) := by
  have e := kd_any h k
  unfold putK putD
  by_cases c : (kds.any fun p => decide (p.1 = k)) = true
  · rw [if_pos c, if_pos (e.trans c)]
    exact kd_put_vals hv k h a
  · rw [if_neg c, if_neg (by rw [e]; exact c), List.map_append, List.map_append]
    exact a.append (.cons hv .nil)
theorem kd_len {kvs : List (κ × V)} {kds : List (κ × D)} (h : kvs.map (·.1) = kds.map (·.1)) : kvs.length = kds.length := by
  have := congrArg List.length h
  simpa using this
end
theorem key_dq {F : Hp} : ∀ {ks : List Key} {vs : List V}, DqA F vs (ks.map keyD) → vs = ks.map kV
  | [], _, h => by cases h; rfl
  | k :: ks, _, h => by
    cases h with
    | cons a b =>
      rw [key_dq b]
      cases k with
      | inl i => cases a; rfl
      | inr x => cases a; rfl
theorem key1_dq {F : Hp} {k : Key} {v : V} (h : Dq F v (keyD k)) : v = kV k := by
  cases k with
  | inl i => cases h; rfl
  | inr x => cases h; rfl
theorem keyT_dq {F : Hp} {ks : List Key} {v : V} (h : Dq F v (keyT ks)) : ∃ a, v = .ref a ∧ F a = some (.tup (ks.map kV)) := by
  unfold keyT at h
  cases h with
  | tup e q =>
    rw [key_dq q] at e
    exact ⟨_, rfl, e⟩

section
variable {X : Cx} {W : WT} {rm : Md} {pos : Pos}
theorem lt5 {n : Nat} (h : n ≤ 100000) : n < sizeLine := Nat.lt_of_le_of_lt h (by decide)

/-! ### own roots changed -/
theorem own_mkL {F H : Hp} {p : Addr} {xs : List V} {ds : List D} (e : H p = some (.lst xs)) (q : DqA F xs ds) : Own F H p (.list ds) := ⟨xs, e, q⟩
theorem own_mkT {F H : Hp} {p : Addr} {kvs : List (List Key × V)} {kds : List (List Key × D)} (e : H p = some (.dT kvs)) (k : kvs.map (·.1) = kds.map (·.1)) (q : DqA F (kvs.map (·.2)) (kds.map (·.2))) : Own F H p (DL.dctT kds) := .inl ⟨kvs, kds, rfl, e, k, q⟩
theorem own_mkK {F H : Hp} {p : Addr} {kvs : List (Key × V)} {kds : List (Key × D)} (e : H p = some (.dK kvs)) (k : kvs.map (·.1) = kds.map (·.1)) (q : DqA F (kvs.map (·.2)) (kds.map (·.2))) : Own F H p (DL.dctK kds) := .inr ⟨kvs, kds, rfl, e, k, q⟩
section
variable {e : Expr} {x : Str} {p0 apos cpos : Pos} {t : DT}
def dApp (i : Nat) (t : DT) : DS := fun d Z ρ => ∃ ds, ρ[i]? = some (.ow (.list ds)) ∧ ds.length ≤ 100000 ∧ t ρ (fun y => d.nx (ρ.set i (.ow (.list (ds ++ [y]))))) Z
theorem ds_app (i : Nat) (hx : PE X (.Name x p0) (tVar i)) (h : DE X W .fz e t) (hs0 : swapsWith (.Call (.Attribute (.Name x p0) "append" apos) [e] [] cpos) none pos.line X.env = pure false := by rfl)
    (hbase : attributeBase (.Name x p0) "append" X.env (eval (.Name x p0) X.env) = eval (.Name x p0) X.env := by rfl)
    (hfew : ((backTo cpos (starEach (e :: []) X.env)).all (fun x => !x.1) && (backToKw cpos (keywordEach [] X.env)).all (fun x => x.1.isSome)
      && decide ((e :: []).length + ([] : List Keyword).length + (if ([] : List Keyword).isEmpty then 0 else 1) < 30)) = true := by rfl)
    (hline : (apos.endLine == cpos.line) = true := by rfl) (hs : starEach (e :: []) X.env = (false, eval e X.env) :: starEach [] X.env := by rfl) (hplain : (backTo cpos (starEach [] X.env)).any (·.1) = false := by rfl) :
    DS1 X W rm (.Expr (.Call (.Attribute (.Name x p0) "append" apos) [e] [] cpos) pos) (dApp i t) := by
  obtain ⟨te, p, s⟩ := h.ok
  refine ⟨_, ps_expr (pe_bm PySem.F.plainAttrs_list PySem.F.slot_list_append PySem.F.type_list_append mt_append hx (pa_cons p pa_nil hs) hbase hfew hline hs hplain) hs0, fun b F H σ ρ D d Z R z q c => ?_⟩
  obtain ⟨ds, e1, hl, q⟩ := q
  obtain ⟨a, es, n, n2, xs, hH, hq⟩ := R.ow e1 rfl
  refine ⟨.ref a, es, .inl ⟨rfl, _, SqL.of hH⟩, s b F H σ ρ _ _ Z R z q fun y v F1 H1 p1 g r f => ?_⟩
  refine ⟨a, xs, v, rfl, rfl, g.h.ap hH, by rw [hq.length]; exact lt5 hl, ?_⟩
  exact c.nx _ F1 _ σ g.f ((R.grow g).write e1 es (own_mkL upd_same ((hq.mono g.f).snoc r))) p1
def dExt (i : Nat) (t : DT) : DS := fun d Z ρ => ∃ ds, ρ[i]? = some (.ow (.list ds)) ∧ t ρ (fun y => ∃ es, y = .list es ∧ ds.length + es.length ≤ 100000 ∧ d.nx (ρ.set i (.ow (.list (ds ++ es))))) Z
theorem ds_ext (i : Nat) (hx : PE X (.Name x p0) (tVar i)) (h : DE X W .fz e t) (hs0 : swapsWith (.Call (.Attribute (.Name x p0) "extend" apos) [e] [] cpos) none pos.line X.env = pure false := by rfl)
    (hbase : attributeBase (.Name x p0) "extend" X.env (eval (.Name x p0) X.env) = eval (.Name x p0) X.env := by rfl)
    (hfew : ((backTo cpos (starEach (e :: []) X.env)).all (fun x => !x.1) && (backToKw cpos (keywordEach [] X.env)).all (fun x => x.1.isSome)
      && decide ((e :: []).length + ([] : List Keyword).length + (if ([] : List Keyword).isEmpty then 0 else 1) < 30)) = true := by rfl)
    (hline : (apos.endLine == cpos.line) = true := by rfl) (hs : starEach (e :: []) X.env = (false, eval e X.env) :: starEach [] X.env := by rfl) (hplain : (backTo cpos (starEach [] X.env)).any (·.1) = false := by rfl) :
    DS1 X W rm (.Expr (.Call (.Attribute (.Name x p0) "extend" apos) [e] [] cpos) pos) (dExt i t) := by
  obtain ⟨te, p, s⟩ := h.ok
  refine ⟨_, ps_expr (pe_bm PySem.F.plainAttrs_list PySem.F.slot_list_extend PySem.F.type_list_extend mt_extend hx (pa_cons p pa_nil hs) hbase hfew hline hs hplain) hs0, fun b F H σ ρ D d Z R z q c => ?_⟩
  obtain ⟨ds, e1, q⟩ := q
  obtain ⟨a, es, n, n2, xs, hH, hq⟩ := R.ow e1 rfl
  refine ⟨.ref a, es, .inl ⟨rfl, _, SqL.of hH⟩, s b F H σ ρ _ _ Z R z q fun y v F1 H1 p1 g r f => ?_⟩
  obtain ⟨ls, rfl, hl, p1⟩ := p1
  cases r with
  | lst eF qF =>
    rename_i a2 ys
    refine ⟨a, a2, xs, ys, rfl, rfl, g.h.ap hH, g.s _ _ eF, by rw [hq.length, qF.length]; exact sz5 hl, ?_⟩
    exact c.nx _ F1 _ σ g.f ((R.grow g).write e1 es (own_mkL upd_same ((hq.mono g.f).append qF))) p1
def dRev (i : Nat) : DS := fun d Z ρ => ∃ ds, ρ[i]? = some (.ow (.list ds)) ∧ d.nx (ρ.set i (.ow (.list ds.reverse)))
theorem ds_rev (i : Nat) (hx : PE X (.Name x p0) (tVar i)) (hs0 : swapsWith (.Call (.Attribute (.Name x p0) "reverse" apos) [] [] cpos) none pos.line X.env = pure false := by rfl)
    (hbase : attributeBase (.Name x p0) "reverse" X.env (eval (.Name x p0) X.env) = eval (.Name x p0) X.env := by rfl) (hline : (apos.endLine == cpos.line) = true := by rfl) :
    DS1 X W rm (.Expr (.Call (.Attribute (.Name x p0) "reverse" apos) [] [] cpos) pos) (dRev i) := by
  refine ⟨_, ps_expr (pe_bm0 PySem.F.plainAttrs_list PySem.F.slot_list_reverse PySem.F.type_list_reverse mt_reverse hx hbase hline) hs0, fun b F H σ ρ D d Z R z q c => ?_⟩
  obtain ⟨ds, e1, q⟩ := q
  obtain ⟨a, es, n, n2, xs, hH, hq⟩ := R.ow e1 rfl
  refine ⟨.ref a, es, .inl ⟨rfl, _, SqL.of hH⟩, a, xs, rfl, rfl, hH, ?_⟩
  exact c.nx _ F _ σ (Same.refl _) (R.write e1 es (own_mkL upd_same hq.reverse)) q
end
/-- xs[k] = e -/
def dPutL (i : Nat) (tk t : DT) : DS := fun d Z ρ => ∃ ds, ρ[i]? = some (.ow (.list ds)) ∧ t ρ (fun y => tk ρ (fun k => ∃ n j, k = .int n ∧ ixN ds.length n = some j ∧ d.nx (ρ.set i (.ow (.list (ds.set j y))))) Z) Z
theorem ds_putL (i : Nat) {x : Str} {p0 tpos : Pos} {k e : Expr} {tk t : DT} (hx : PE X (.Name x p0) (tVar i)) (hk : DE X W .fz k tk) (h : DE X W .fz e t)
    (ha : ∀ v, assign (.Subscript (.Name x p0) k tpos) X.env v = (do
      let ov ← holding [v] (eval (.Name x p0) X.env)
      let iv ← holding [v, ov] (eval k X.env)
      standAt tpos
      holding [v, ov, iv] (setItem ov iv v)
      release [v, ov, iv] []) := by intro _; rfl)
    (hs : swapsWithSole [.Subscript (.Name x p0) k tpos] e pos.line X.env = pure false := by rfl) (hw : swappedStores [.Subscript (.Name x p0) k tpos] e X.env = pure none := by rfl)
    (h1 : (assignEach [.Subscript (.Name x p0) k tpos] X.env).map (·.2) = [assign (.Subscript (.Name x p0) k tpos) X.env] := by rfl) : DS1 X W rm (.Assign [.Subscript (.Name x p0) k tpos] e pos) (dPutL i tk t) := by
  obtain ⟨te, p, s⟩ := h.ok
  obtain ⟨tek, pk, sk⟩ := hk.ok
  refine ⟨_, ps_asg p (pg_sub hx pk set_list ha) hs hw h1, fun b F H σ ρ D d Z R z q c => ?_⟩
  obtain ⟨ds, e1, q⟩ := q
  obtain ⟨a, es, n, n2, xs, hH, hq⟩ := R.ow e1 rfl
  refine s b F H σ ρ _ _ Z R z q fun y v F1 H1 p1 g r f => ⟨.ref a, es, sk b F1 H1 σ ρ _ _ Z (R.grow g) (z.mono g.f) p1 fun y2 v2 F2 H2 p2 g2 r2 f2 => ?_⟩
  obtain ⟨m, j, rfl, hj, p2⟩ := p2
  cases r2
  have hl : xs.length = ds.length := hq.length
  refine ⟨a, xs, m, j, rfl, rfl, g2.h.ap (g.h.ap hH), by rw [hl]; exact hj, ?_⟩
  exact c.nx _ F2 _ σ (g.f.trans g2.f) (((R.grow g).grow g2).write e1 es (own_mkL upd_same (((hq.mono g.f).mono g2.f).set j (r.mono g2.f)))) p2
/-- d[k] = e: keys are tuples -/
def dPutT (i : Nat) (tk t : DT) : DS := fun d Z ρ => ∃ kds, ρ[i]? = some (.ow (dctT kds)) ∧ kds.length ≤ 100000 ∧ t ρ (fun y => tk ρ (fun k => ∃ ks, k = keyT ks ∧ d.nx (ρ.set i (.ow (dctT (putD kds ks y))))) Z) Z
theorem own_T {F H : Hp} {p : Addr} {kds : List (List Key × D)} (o : Own F H p (dctT kds)) : ∃ kvs : List (List Key × V), H p = some (.dT kvs) ∧ kvs.map (·.1) = kds.map (·.1) ∧ DqA F (kvs.map (·.2)) (kds.map (·.2)) := by
  rcases o with ⟨kvs, kds', e1, e, k, q⟩ | ⟨kvs, kds', e1, e, k, q⟩
  · have h : kds = kds' := dctT_inj (congrArg PyData.dict e1)
    subst h
    exact ⟨kvs, e, k, q⟩
  · exact (dctT_ne (congrArg PyData.dict e1)).elim
theorem own_K {F H : Hp} {p : Addr} {kds : List (Key × D)} (o : Own F H p (dctK kds)) : ∃ kvs : List (Key × V), H p = some (.dK kvs) ∧ kvs.map (·.1) = kds.map (·.1) ∧ DqA F (kvs.map (·.2)) (kds.map (·.2)) := by
  rcases o with ⟨kvs, kds', e1, e, k, q⟩ | ⟨kvs, kds', e1, e, k, q⟩
  · exact (dctT_ne (congrArg PyData.dict e1).symm).elim
  · have h : kds = kds' := dctK_inj (congrArg PyData.dict e1)
    subst h
    exact ⟨kvs, e, k, q⟩
theorem ds_putT (i : Nat) {x : Str} {p0 tpos : Pos} {k e : Expr} {tk t : DT} (hu : X.A.units + 1 < cLine) (hx : PE X (.Name x p0) (tVar i)) (hk : DE X W .fz k tk) (h : DE X W .fz e t)
    (hs : swapsWith e (some (.Subscript (.Name x p0) k tpos)) pos.line X.env = pure false := by rfl) : DS1 X W rm (.Assign [.Subscript (.Name x p0) k tpos] e pos) (dPutT i tk t) := by
  obtain ⟨te, p, s⟩ := h.ok
  obtain ⟨tek, pk, sk⟩ := hk.ok
  refine ⟨_, ps_dput hu hx pk p hs, fun b F H σ ρ D d Z R z q c => ?_⟩
  obtain ⟨kds, e1, hl, q⟩ := q
  obtain ⟨a, es, n, n2, o⟩ := R.ow e1 rfl
  obtain ⟨kvs, hH, hk1, hq⟩ := own_T o
  refine s b F H σ ρ _ _ Z R z q fun y v F1 H1 p1 g r f => ⟨.ref a, es, sk b F1 H1 σ ρ _ _ Z (R.grow g) (z.mono g.f) p1 fun y2 v2 F2 H2 p2 g2 r2 f2 => ?_⟩
  obtain ⟨ks, rfl, p2⟩ := p2
  obtain ⟨c2, rfl, ec⟩ := keyT_dq r2
  refine ⟨a, _, rfl, DPut.t (g2.h.ap (g.h.ap hH)) (g2.s _ _ ec) (by rw [kd_len hk1]; exact lt5 hl), ?_⟩
  exact c.nx _ F2 _ σ (g.f.trans g2.f) (((R.grow g).grow g2).write e1 es (own_mkT upd_same (kd_put_keys hk1 ks v y) (kd_put hk1 ((hq.mono g.f).mono g2.f) (r.mono g2.f) ks))) p2
/-- .. ints or texts -/
def dPutK (i : Nat) (tk t : DT) : DS := fun d Z ρ => ∃ kds, ρ[i]? = some (.ow (dctK kds)) ∧ kds.length ≤ 100000 ∧ t ρ (fun y => tk ρ (fun k => ∃ ks, k = keyD ks ∧ d.nx (ρ.set i (.ow (dctK (putD kds ks y))))) Z) Z
theorem ds_putK (i : Nat) {x : Str} {p0 tpos : Pos} {k e : Expr} {tk t : DT} (hu : X.A.units + 1 < cLine) (hx : PE X (.Name x p0) (tVar i)) (hk : DE X W .fz k tk) (h : DE X W .fz e t)
    (hs : swapsWith e (some (.Subscript (.Name x p0) k tpos)) pos.line X.env = pure false := by rfl) : DS1 X W rm (.Assign [.Subscript (.Name x p0) k tpos] e pos) (dPutK i tk t) := by
  obtain ⟨te, p, s⟩ := h.ok
  obtain ⟨tek, pk, sk⟩ := hk.ok
  refine ⟨_, ps_dput hu hx pk p hs, fun b F H σ ρ D d Z R z q c => ?_⟩
  obtain ⟨kds, e1, hl, q⟩ := q
  obtain ⟨a, es, n, n2, o⟩ := R.ow e1 rfl
  obtain ⟨kvs, hH, hk1, hq⟩ := own_K o
  refine s b F H σ ρ _ _ Z R z q fun y v F1 H1 p1 g r f => ⟨.ref a, es, sk b F1 H1 σ ρ _ _ Z (R.grow g) (z.mono g.f) p1 fun y2 v2 F2 H2 p2 g2 r2 f2 => ?_⟩
  obtain ⟨ks, rfl, p2⟩ := p2
  have ec := key1_dq r2
  subst ec
  refine ⟨a, _, rfl, DPut.k (g2.h.ap (g.h.ap hH)) (by rw [kd_len hk1]; exact lt5 hl), ?_⟩
  exact c.nx _ F2 _ σ (g.f.trans g2.f) (((R.grow g).grow g2).write e1 es (own_mkK upd_same (kd_put_keys hk1 ks v y) (kd_put hk1 ((hq.mono g.f).mono g2.f) (r.mono g2.f) ks))) p2
end
end DL
set_option maxRecDepth 100000
set_option maxHeartbeats 4000000
/-! DL4: loops, comprehensions, calls, a def's contract. -/
namespace DL
open PySem PySem.Spec PyProof.Rows L2
variable {T : List (Addr × Str)}

/-! ### what is walked -/
/-- c: no own root is written while it is walked (a comprehension) -/
structure ItOk (c : Bool) (b : B) (F0 H0 : Hp) (J : It) (L : List D) : Prop where
  go : ∀ i F H, i < L.length → Same F0 F → Grow b.T b.F b.H F H → (c = true → Ext b.T H0 H) → J.go i H
  stop : ∀ F H, Same F0 F → Grow b.T b.F b.H F H → (c = true → Ext b.T H0 H) → J.stop L.length H
  yld : ∀ i F H x H' d, L[i]? = some d → Same F0 F → Grow b.T b.F b.H F H → (c = true → Ext b.T H0 H) → J.yld i H x H' → ∃ F', Grow b.T F H F' H' ∧ Dq F' x d
abbrev DTi := List Sl → (List D → Prop) → Zs → Prop
structure DI (X : Cx) (W : WT) (c : Bool) (tg iter : Expr) (t : DTi) : Prop where
  ok : ∃ wi : TI, PI X tg iter wi ∧ ∀ (b : B) (F H : Hp) (σ : L2.St) (ρ : List Sl) (R : It → Hp → Prop) (P : List D → Prop) (Z : Zs), Rep X.K b F H σ ρ → ZOk X.mg X.K b F Z W → t ρ P Z →
    (∀ L J F' H', P L → Grow b.T F H F' H' → ItOk c b F' H' J L → R J H') → wi σ H R
section
variable {X : Cx} {W : WT} {tg : Expr}
/-- a list or a tuple -/
theorem pi_seq {l : Expr} {tl : TE} (hl : PE X l tl) : PI X tg l (fun σ H R => tl σ H fun x H1 => ∃ a, x = .ref a ∧ (((∃ xs, SqL X.K H1 a xs) ∧ R (Itl X.K a) H1) ∨ ((∃ xs, SqT X.K H1 a xs) ∧ R (Itt X.K a) H1))) := by
  refine ⟨fun pins s σ H R I h => ?_⟩
  refine thn (hl.run pins s σ H _ I h) fun v s1 ⟨x, H1, I1, r1, q1⟩ => ?_
  obtain ⟨a, e, q1⟩ := q1
  subst e
  cases r1
  rcases q1 with ⟨⟨xs, hq⟩, q⟩ | ⟨⟨xs, hq⟩, q⟩
  · obtain ⟨its, rv, p, hz⟩ := I1.list hq
    refine wpAny_pyIter_list p.isList ?_
    refine ⟨s1.heap.objs.size, [s1.heap.objs.size], _, _, H1, rfl, I1.kept (t' := s1.toks) fun b o e => Heap.get?_push_of_some _ e, turn_list a _, ⟨_, Heap.get?_push_size _ rfl, rfl, rfl⟩, fun b hb => ?_, q⟩
    have e : b = s1.heap.objs.size := by simpa using hb
    subst e
    exact I1.fpOk (Nat.le_refl _) (I1.hok.fresh (Nat.le_refl _))
  · obtain ⟨its, rv, p, hz⟩ := I1.tuple hq
    refine wpAny_pyIter_tuple (show s1.heap.IsTuple a its.toArray from p) ?_
    refine ⟨s1.heap.objs.size, [s1.heap.objs.size], _, _, H1, rfl, I1.kept (t' := s1.toks) fun b o e => Heap.get?_push_of_some _ e, turn_tuple a _, ⟨_, Heap.get?_push_size _ rfl, rfl, rfl⟩, fun b hb => ?_, q⟩
    have e : b = s1.heap.objs.size := by simpa using hb
    subst e
    exact I1.fpOk (Nat.le_refl _) (I1.hok.fresh (Nat.le_refl _))
/-- a list is only one -/
theorem sqL_inj {K : PySem.W.Frag} {H : Hp} {a : Addr} {xs ys : List V} (h : ∀ zs, SqL K H a zs → zs = xs) (h2 : SqL K H a ys) : ys = xs := h ys h2
/-- what is readable for good, now -/
theorem vr_now {K : PySem.W.Frag} {b : B} {F H F' H' : Hp} {v : V} {d : D} (r : VR .st K b F H v d) (s : Same F F') (g : Grow b.T b.F b.H F' H') : VR .rd K b F' H' v d := by
  rcases r with r | ⟨p, e, r⟩
  · exact .inl (r.mono s)
  · exact .inr ⟨p, e, r.same g.f g.h⟩
def dIt (t : DT) : DTi := fun ρ P Z => t ρ (fun x => ∃ ds, (x = .list ds ∨ x = .tuple ds) ∧ P ds) Z
theorem itl_ok {c : Bool} {K : PySem.W.Frag} {b : B} {F0 H0 : Hp} {a : Addr} {ds : List D} (get : ∀ F H, Same F0 F → Grow b.T b.F b.H F H → (c = true → Ext b.T H0 H) → ∃ xs, SqL K H a xs ∧ DqA F xs ds) : ItOk c b F0 H0 (Itl K a) ds := by
  refine ⟨fun i F H hi s g hc => ?_, fun F H s g hc => ?_, fun i F H x H' d hd s g hc y => ?_⟩
  · obtain ⟨xs, q, dq⟩ := get F H s g hc
    have hx : i < xs.length := by rw [dq.length]; exact hi
    exact ⟨xs, xs[i], q, List.getElem?_eq_getElem hx⟩
  · obtain ⟨xs, q, dq⟩ := get F H s g hc
    exact ⟨xs, q, by rw [dq.length]; exact Nat.le_refl _⟩
  · obtain ⟨xs, q, dq⟩ := get F H s g hc
    obtain ⟨rfl, y⟩ := y
    obtain ⟨d', h1, h2⟩ := dq.get' (y xs q)
    rw [hd] at h1
    cases h1
    exact ⟨F, .refl g, h2⟩
theorem itt_ok {c : Bool} {K : PySem.W.Frag} {b : B} {F0 H0 : Hp} {a : Addr} {ds : List D} (get : ∀ F H, Same F0 F → Grow b.T b.F b.H F H → (c = true → Ext b.T H0 H) → ∃ xs, SqT K H a xs ∧ DqA F xs ds) : ItOk c b F0 H0 (Itt K a) ds := by
  refine ⟨fun i F H hi s g hc => ?_, fun F H s g hc => ?_, fun i F H x H' d hd s g hc y => ?_⟩
  · obtain ⟨xs, q, dq⟩ := get F H s g hc
    have hx : i < xs.length := by rw [dq.length]; exact hi
    exact ⟨xs, xs[i], q, List.getElem?_eq_getElem hx⟩
  · obtain ⟨xs, q, dq⟩ := get F H s g hc
    exact ⟨xs, q, by rw [dq.length]; exact Nat.le_refl _⟩
  · obtain ⟨xs, q, dq⟩ := get F H s g hc
    obtain ⟨rfl, y⟩ := y
    obtain ⟨d', h1, h2⟩ := dq.get' (y xs q)
    rw [hd] at h1
    cases h1
    exact ⟨F, .refl g, h2⟩
theorem getL {c : Bool} {K : PySem.W.Frag} {b : B} {F0 H0 : Hp} {v : V} {ds : List D} (r : ∀ F H, Same F0 F → Grow b.T b.F b.H F H → (c = true → Ext b.T H0 H) → VR .rd K b F H v (.list ds)) {a : Addr} (e : v = .ref a) : ∀ F H, Same F0 F → Grow b.T b.F b.H F H → (c = true → Ext b.T H0 H) → ∃ xs, SqL K H a xs ∧ DqA F xs ds := fun F H s g hc => by
  obtain ⟨p, xs, e2, q, dq⟩ := vr_lst g.s (r F H s g hc)
  rw [e] at e2
  cases e2
  exact ⟨xs, q, dq⟩
theorem getT {c : Bool} {K : PySem.W.Frag} {b : B} {F0 H0 : Hp} {v : V} {ds : List D} (r : ∀ F H, Same F0 F → Grow b.T b.F b.H F H → (c = true → Ext b.T H0 H) → VR .rd K b F H v (.tuple ds)) {a : Addr} (e : v = .ref a) : ∀ F H, Same F0 F → Grow b.T b.F b.H F H → (c = true → Ext b.T H0 H) → ∃ xs, SqT K H a xs ∧ DqA F xs ds := fun F H s g hc => by
  obtain ⟨p, xs, e2, q, dq⟩ := vr_tup g.s (r F H s g hc)
  rw [e] at e2
  cases e2
  exact ⟨xs, q, dq⟩
/-- readable as long as it is walked -/
def Wkb (c : Bool) (m : Md) : Prop := m = .st ∨ (c = true ∧ m = .rd)
theorem wk_vr {c : Bool} {m : Md} (hm : Wkb c m) {K : PySem.W.Frag} {b : B} {F0 H0 : Hp} {v : V} {d : D} (r : VR m K b F0 H0 v d) : ∀ F H, Same F0 F → Grow b.T b.F b.H F H → (c = true → Ext b.T H0 H) → VR .rd K b F H v d := fun F H s g hc => by
  rcases hm with rfl | ⟨hc1, rfl⟩
  · exact vr_now r s g
  · rcases r with r | ⟨p, e, r⟩
    · exact .inl (r.mono s)
    · exact .inr ⟨p, e, r.same s (hc hc1)⟩
theorem di_seq {c : Bool} {m : Md} {e : Expr} {t : DT} (h : DE X W m e t) (hm : Wkb c m := by first | exact .inl rfl | exact .inr ⟨rfl, rfl⟩) : DI X W c tg e (dIt t) := by
  obtain ⟨te, p, s⟩ := h.ok
  refine ⟨_, pi_seq p, fun b F H σ ρ R P Z R1 z q k => s b F H σ ρ _ _ Z R1 z q fun x v F' H' p g r f => ?_⟩
  obtain ⟨ds, e, p⟩ := p
  have g0 := R1.g.trans g
  have w := wk_vr hm r
  rcases e with rfl | rfl
  · obtain ⟨a, xs, e, q, dq⟩ := vr_lst g0.s (w F' H' (Same.refl _) g0 fun _ => Ext.refl _)
    exact ⟨a, e, .inl ⟨⟨xs, q⟩, k ds _ F' H' p g (itl_ok (getL w e))⟩⟩
  · obtain ⟨a, xs, e, q, dq⟩ := vr_tup g0.s (w F' H' (Same.refl _) g0 fun _ => Ext.refl _)
    exact ⟨a, e, .inr ⟨⟨xs, q⟩, k ds _ F' H' p g (itt_ok (getT w e))⟩⟩
def rangeD (lo : Int) (n : Nat) : List D := (List.range n).map fun i => .int (lo + (i : Nat))
theorem itr_ok {c : Bool} {b : B} {F0 H0 : Hp} {lo : Int} {n : Nat} : ItOk c b F0 H0 (Itr lo n) (rangeD lo n) := by
  have hl : (rangeD lo n).length = n := by unfold rangeD; rw [List.length_map, List.length_range]
  refine ⟨fun i F H hi s g _ => by rw [hl] at hi; exact hi, fun F H s g _ => by rw [hl]; exact Nat.le_refl _, fun i F H x H' d hd s g _ y => ?_⟩
  obtain ⟨rfl, rfl⟩ := y
  unfold rangeD at hd
  rw [List.getElem?_map] at hd
  obtain ⟨j, hj, rfl⟩ := Option.map_eq_some_iff.mp hd
  have : j = i := by
    obtain ⟨hlt, e⟩ := List.getElem?_eq_some_iff.mp hj
    rw [List.getElem_range] at e
    exact e.symm
  subst this
  exact ⟨F, .refl g, .int _⟩
def dRng1 (ta : DTa) : DTi := fun ρ P Z => ta ρ (fun ds => ∃ j : Int, ds = [.int j] ∧ -(2 ^ 62) ≤ j ∧ j < 2 ^ 62 ∧ P (rangeD 0 j.toNat)) Z
def dRng2 (ta : DTa) : DTi := fun ρ P Z => ta ρ (fun ds => ∃ i j : Int, ds = [.int i, .int j] ∧ (-(2 ^ 62) ≤ i ∧ i < 2 ^ 62 ∧ -(2 ^ 62) ≤ j ∧ j < 2 ^ 62) ∧ P (rangeD i (j - i).toNat)) Z
theorem di_range1 {c : Bool} {a : Expr} {ta : DTa} {p pos : Pos} (hm : X.mg "range" = none) (ha : DA X W [.fz] [a] ta) (hg : Gl X "range" := by rfl) (hs : starEach [a] X.env = [(false, eval a X.env)] := by rfl) : DI X W c tg (.Call (.Name "range" p) [a] [] pos) (dRng1 ta) := by
  obtain ⟨te, p, s⟩ := ha.ok
  refine ⟨_, pi_range1 hg hm p hs, fun b F H σ ρ R P Z R1 z q k => s b F H σ ρ _ _ Z R1 z q fun ds vs F' H' p g r => ?_⟩
  obtain ⟨j, rfl, h1, h2, p⟩ := p
  cases r with
  | cons r rr =>
    cases rr
    cases r
    exact ⟨j, rfl, h1, h2, k _ _ F' H' p g itr_ok⟩
theorem di_range2 {cc : Bool} {a c : Expr} {ta : DTa} {p pos : Pos} (hm : X.mg "range" = none) (ha : DA X W [.fz, .fz] [a, c] ta) (hg : Gl X "range" := by rfl) (hs : starEach [a, c] X.env = [(false, eval a X.env), (false, eval c X.env)] := by rfl) (hs2 : starEach [c] X.env = [(false, eval c X.env)] := by rfl) : DI X W cc tg (.Call (.Name "range" p) [a, c] [] pos) (dRng2 ta) := by
  obtain ⟨te, p, s⟩ := ha.ok
  refine ⟨_, pi_range2 hg hm p hs hs2, fun b F H σ ρ R P Z R1 z q k => s b F H σ ρ _ _ Z R1 z q fun ds vs F' H' p g r => ?_⟩
  obtain ⟨i, j, rfl, h1, p⟩ := p
  cases r with
  | cons r rr =>
    cases r
    cases rr with
    | cons r rr =>
      cases r
      cases rr
      exact ⟨i, j, rfl, h1, k _ _ F' H' p g itr_ok⟩
/-- enumerate -/
def enumD (ds : List D) : List D := ds.mapIdx fun i x => .tuple [.int (i : Nat), x]
def dEnum (ta : DTa) : DTi := fun ρ P Z => ta ρ (fun ds => ∃ xs, ds = [.list xs] ∧ P (enumD xs)) Z
theorem ite_ok {c : Bool} {K : PySem.W.Frag} {b : B} {F0 H0 : Hp} {a : Addr} {ds : List D} (get : ∀ F H, Same F0 F → Grow b.T b.F b.H F H → (c = true → Ext b.T H0 H) → ∃ xs, SqL K H a xs ∧ DqA F xs ds) : ItOk c b F0 H0 (Ite K a) (enumD ds) := by
  have hl : (enumD ds).length = ds.length := by unfold enumD; rw [List.length_mapIdx]
  refine ⟨fun i F H hi s g hc => ?_, fun F H s g hc => ?_, fun i F H x H' d hd s g hc y => ?_⟩
  · obtain ⟨xs, q, dq⟩ := get F H s g hc
    have hx : i < xs.length := by rw [dq.length, ← hl]; exact hi
    exact ⟨xs, xs[i], q, List.getElem?_eq_getElem hx⟩
  · obtain ⟨xs, q, dq⟩ := get F H s g hc
    exact ⟨xs, q, by rw [dq.length, hl]; exact Nat.le_refl _⟩
  · obtain ⟨xs, q, dq⟩ := get F H s g hc
    obtain ⟨T, w, rfl, nT, rfl, y⟩ := y
    obtain ⟨d', h1, h2⟩ := dq.get' (y xs q)
    unfold enumD at hd
    rw [List.getElem?_mapIdx, h1] at hd
    cases hd
    have g2 := Grow.new g (HO.tup [.int (i : Nat), w]) nT
    exact ⟨_, g2, .tup upd_same (.cons (.int _) (.cons (h2.mono g2.f) .nil))⟩
theorem di_enum {c : Bool} {m : Md} {elts : List Expr} {kk : Nat} {tpos p pos : Pos} {e : Expr} {ta : DTa} (hm : X.mg "enumerate" = none) (ha : DA X W [m] [e] ta) (hw : Wkb c m := by first | exact .inl rfl | exact .inr ⟨rfl, rfl⟩) (hg : Gl X "enumerate" := by rfl) (hs : starEach [e] X.env = [(false, eval e X.env)] := by rfl) : DI X W c (.Tuple elts kk tpos) (.Call (.Name "enumerate" p) [e] [] pos) (dEnum ta) := by
  obtain ⟨te, p, s⟩ := ha.ok
  refine ⟨_, pi_enum hg hm p hs, fun b F H σ ρ R P Z R1 z q k => s b F H σ ρ _ _ Z R1 z q fun ds vs F' H' p g r => ?_⟩
  obtain ⟨xs, rfl, p⟩ := p
  cases r with
  | cons r rr =>
    cases rr
    have g0 := R1.g.trans g
    have w := wk_vr hw r
    obtain ⟨a, ys, e, q, dq⟩ := vr_lst g0.s (w F' H' (Same.refl _) g0 fun _ => Ext.refl _)
    exact ⟨a, ys, by rw [e], q, k _ _ F' H' p g (ite_ok (getL w e))⟩

/-! ### for -/
variable {rm : Md} {pos : Pos}
/-- fs: the slots that a turn leaves behind -/
def dFor (fs : List Nat) (ti : DTi) (g : DGt) (tb : DS) : DS := fun d Z ρ => ti ρ (fun L => ∃ I : Nat → List Sl → Prop, I 0 (fgt fs ρ) ∧ (∀ ρ', I L.length ρ' → d.nx ρ') ∧
  ∀ i x ρ', L[i]? = some x → I i ρ' → g x ρ' (fun ρ2 => tb { d with nx := fun ρ3 => I (i + 1) (fgt fs ρ3), ct := fun ρ3 => I (i + 1) (fgt fs ρ3), bk := d.nx } Z ρ2)) Z
theorem ds_for (fs : List Nat) {vs : List Nat} {iter : Expr} {body : List Stmt} {ti : DTi} {g : DGt} {tb : DS} (hp : PassesOwn (model X.prog X.w) X.A X.env X.xe) (hc : X.calm = true) (hi : DI X W false tg iter ti) (hg : DG X vs tg g) (hb : DSs X W rm body tb)
    (hs : ∀ x, foldedSetIterable iter X.env x = pure x := by intro _; rfl) : DS1 X W rm (.For tg iter body [] pos) (dFor fs ti g tb) := by
  obtain ⟨wi, pi, si⟩ := hi.ok
  obtain ⟨tbb, pb, sb⟩ := hb.ok
  refine ⟨_, ps_for hp hc pi hg.ok pb hs, fun b F H σ ρ D d Z R z q c => si b F H σ ρ _ _ Z R z q fun L J F1 H1 p g1 ok => ?_⟩
  obtain ⟨I, i0, ie, it⟩ := p
  refine ⟨fun i m σ' H' => i + m = L.length ∧ ∃ F' ρ', Same F1 F' ∧ Rep X.K b F' H' σ' ρ' ∧ I i ρ', ⟨L.length, by omega, F1, _, Same.refl _, (R.grow g1).fgt fs, i0⟩, ?_⟩
  rintro i m σ' H' ⟨em, F', ρ', s, R', hI⟩
  by_cases hi : i < L.length
  · refine .inr ⟨ok.go i F' H' hi s R'.g (fun z => nomatch z), fun σ2 H2 => ∃ F2 ρ2, Same F1 F2 ∧ Rep X.K b F2 H2 σ2 ρ2 ∧ I (i + 1) ρ2, fun σ2 H2 hN => ⟨m - 1, by omega, by omega, hN⟩, fun x H2 hy => ?_⟩
    obtain ⟨F2, g2, dq⟩ := ok.yld i F' H' x H2 _ (List.getElem?_eq_getElem hi) s R'.g (fun z => nomatch z) hy
    refine ⟨b, F2, ρ', _, _, R'.grow g2, dq, it i _ ρ' (List.getElem?_eq_getElem hi) hI, fun ρ3 σ3 R3 _ p3 => ?_⟩
    have s2 : Same F1 F2 := s.trans g2.f
    refine sb b F2 H2 σ3 ρ3 _ _ Z R3 (z.mono (g1.f.trans s2)) p3 ⟨fun ρ4 F4 H4 σ4 s4 R4 p4 => ⟨F4, _, s2.trans s4, R4.fgt fs, p4⟩, fun ρ4 F4 H4 σ4 s4 R4 p4 => c.nx ρ4 F4 H4 σ4 (g1.f.trans (s2.trans s4)) R4 p4, fun ρ4 F4 H4 σ4 s4 R4 p4 => ⟨F4, _, s2.trans s4, R4.fgt fs, p4⟩, c.rt⟩
  · have e : i = L.length := by omega
    subst e
    exact .inl ⟨ok.stop F' H' s R'.g (fun z => nomatch z), c.nx ρ' F' H' σ' (g1.f.trans s) R' (ie ρ' hI)⟩
/-- while: the invariant by a measure -/
def dWhile (fs : List Nat) (t : DTt) (tb : DS) : DS := fun d Z ρ => ∃ I : Nat → List Sl → Prop, (∃ m, I m (fgt fs ρ)) ∧ ∀ m ρ', I m ρ' →
  t ρ' (fun c => (c = true → tb { d with nx := fun ρ3 => ∃ m', m' < m ∧ I m' (fgt fs ρ3), ct := fun ρ3 => ∃ m', m' < m ∧ I m' (fgt fs ρ3), bk := d.nx } Z ρ') ∧ (c = false → d.nx ρ')) Z
theorem ds_while (fs : List Nat) {c : Expr} {body : List Stmt} {t : DTt} {tb : DS} (hp : PassesOwn (model X.prog X.w) X.A X.env X.xe) (hc : DEt X W c t) (hb : DSs X W rm body tb) : DS1 X W rm (.While c body [] pos) (dWhile fs t tb) := by
  obtain ⟨tt, pt, st⟩ := hc.ok
  obtain ⟨tbb, pb, sb⟩ := hb.ok
  refine ⟨_, ps_while hp pt pb, fun b F H σ ρ D d Z R z q cn => ?_⟩
  obtain ⟨I, ⟨m0, i0⟩, it⟩ := q
  refine ⟨fun m σ' H' => ∃ F' ρ', Same F F' ∧ Rep X.K b F' H' σ' ρ' ∧ I m ρ', ⟨m0, F, _, Same.refl _, R.fgt fs, i0⟩, ?_⟩
  rintro m σ' H' ⟨F', ρ', s, R', hI⟩
  refine st b F' H' σ' ρ' _ _ Z R' (z.mono s) (it m ρ' hI) fun k F2 H2 p2 g2 => ?_
  have s2 : Same F F2 := s.trans g2.f
  cases k with
  | true =>
    refine ⟨fun σ3 H3 => ∃ F3 ρ3, Same F F3 ∧ Rep X.K b F3 H3 σ3 ρ3 ∧ ∃ m', m' < m ∧ I m' ρ3, fun σ3 H3 ⟨F3, ρ3, s3, R3, m', hm, p⟩ => ⟨m', hm, F3, ρ3, s3, R3, p⟩, ?_⟩
    exact sb b F2 H2 σ' ρ' _ _ Z (R'.grow g2) (z.mono s2) (p2.1 rfl) ⟨fun ρ4 F4 H4 σ4 s4 R4 ⟨m', hm, p4⟩ => ⟨F4, _, s2.trans s4, R4.fgt fs, m', hm, p4⟩, fun ρ4 F4 H4 σ4 s4 R4 p4 => cn.nx ρ4 F4 H4 σ4 (s2.trans s4) R4 p4, fun ρ4 F4 H4 σ4 s4 R4 ⟨m', hm, p4⟩ => ⟨F4, _, s2.trans s4, R4.fgt fs, m', hm, p4⟩, cn.rt⟩
  | false => exact cn.nx ρ' F2 H2 σ' s2 (R'.grow g2) (p2.2 rfl)

/-! ### comprehensions -/
abbrev W0 (T : List (Addr × Str)) : WT := ⟨fun _ _ _ _ => False, T⟩
abbrev Z0 : Zs := fun _ _ => False
theorem zok0 {mg : Str → Option Value} {K : PySem.W.Frag} {b : B} {F : Hp} {T : List (Addr × Str)} (h : b.T = T) : ZOk mg K b F Z0 (W0 T) := ⟨h, fun _ _ _ _ _ _ _ _ _ h => h⟩
def dYes : DTt := fun _ P _ => P true
structure DTs (X : Cx) (W : WT) (ifs : List Expr) (t : DTt) : Prop where
  ok : PTs X ifs (cT X.mg X.K W t)
theorem PTs.imp {ifs : List Expr} {t t' : TT} (h : PTs X ifs t) (k : ∀ σ H Q, t' σ H Q → t σ H Q) : PTs X ifs t' := ⟨fun pins s σ H Q I q => h.run pins s σ H Q I (k _ _ _ q)⟩
theorem dts_nil : DTs X W [] dYes := ⟨PTs.imp pts_nil fun σ H Q ⟨b, F, ρ, P, Z, R, z, q, k⟩ => k true F H q (.refl R.g)⟩
theorem dts_one {c : Expr} {t : DTt} (h : DEt X W c t) : DTs X W [c] t := ⟨pts_one h.pt⟩
/-- M i: what is made before turn i -/
def dLc (vs : List Nat) (ti : DTi) (g : DGt) (tt : DTt) (te : DT) : DT := fun ρ P Z => ti ρ (fun L => ∃ M : Nat → List D, M 0 = [] ∧ P (.list (M L.length)) ∧
  ∀ i x, L[i]? = some x → g x (fgt vs ρ) (fun ρ2 => tt ρ2 (fun c => (c = true → te ρ2 (fun y => M (i + 1) = M i ++ [y] ∧ (M i).length ≤ 100000) Z0) ∧ (c = false → M (i + 1) = M i)) Z0)) Z
theorem lc_sem {gv vs : List Nat} {wi : TI} {ti : DTi} {g : DGt} {tt : DTt} {te : DT} (hv : ∀ i ∈ gv, i ∈ vs)
    (si : ∀ (b : B) (F H : Hp) (σ : L2.St) (ρ : List Sl) (R : It → Hp → Prop) (P : List D → Prop) (Z : Zs), Rep X.K b F H σ ρ → ZOk X.mg X.K b F Z W → ti ρ P Z → (∀ L J F' H', P L → Grow b.T F H F' H' → ItOk true b F' H' J L → R J H') → wi σ H R) :
    ∀ (b : B) (F H : Hp) (σ : L2.St) (ρ : List Sl) (Q : VK) (P : D → Prop) (Z : Zs), Rep X.K b F H σ ρ → ZOk X.mg X.K b F Z W → dLc vs ti g tt te ρ P Z → Goes .nw X.K b F H P Q → tLc wi (cG X.K gv g) (cT X.mg X.K (W0 W.T) tt) (cE X.mg X.K (W0 W.T) .fz te) vs σ H Q := by
  refine fun b F H σ ρ Q P Z R z q k => si b F H σ ρ _ _ Z R z q fun L J F1 H1 p g1 ok => ?_
  obtain ⟨M, m0, mP, it⟩ := p
  intro A na
  have R1 := R.grow g1
  have nA : Nn H A := g1.h.free na
  have nF : F1 A = none := R1.same.free na
  have nb : Nn b.H A := R.g.h.nn nA
  have gA : Grow b.T F1 H1 F1 (upd H1 A (.lst [])) := Grow.own R1.g _ na
  -- what stands before turn i
  refine ⟨fun i m H' => i + m = L.length ∧ ∃ F' acc, Grow b.T F H F' H' ∧ (Same F1 F' ∧ Ext b.T H1 H') ∧ Rep X.K b F' H' σ ρ ∧ F' A = none ∧ H' A = some (.lst acc) ∧ DqA F' acc (M i),
    ⟨L.length, by omega, F1, [], g1.trans gA, ⟨Same.refl _, gA.h⟩, R1.grow gA, nF, upd_same, by rw [m0]; exact .nil⟩, ?_⟩
  rintro i m H' ⟨em, F', acc, g', ⟨s', sH⟩, R', nF', hA, dq⟩
  by_cases hi : i < L.length
  · refine .inr ⟨ok.go i F' H' hi s' R'.g (fun _ => sH), fun H2 => ∃ F2 acc, Grow b.T F H F2 H2 ∧ (Same F1 F2 ∧ Ext b.T H1 H2) ∧ Rep X.K b F2 H2 σ ρ ∧ F2 A = none ∧ H2 A = some (.lst acc) ∧ DqA F2 acc (M (i + 1)), fun H2 hN => ⟨m - 1, by omega, by omega, hN⟩, fun x H2 hy => ?_⟩
    obtain ⟨F2, g2, dx⟩ := ok.yld i F' H' x H2 _ (List.getElem?_eq_getElem hi) s' R'.g (fun _ => sH) hy
    have R2 := R'.grow g2
    have nF2 : F2 A = none := (g2.k A _ hA (fun ps z => by cases z)).trans nF'
    have hA2 : H2 A = some (.lst acc) := g2.h.ap hA
    refine ⟨b, F2, _, _, _, R2.wipe (vs), dx, it i _ (List.getElem?_eq_getElem hi), fun ρ3 σ3 R3 o3 p3 => ?_⟩
    refine ⟨(o3 (vs) fun i hi => hv i hi).trans ?_, b, F2, ρ3, _, Z0, R3, zok0 z.t, p3, fun c F3 H3 p4 g3 => ?_⟩
    · refine List.ext_getElem? fun j => ?_
      by_cases hj : j ∈ vs
      · have e : ∀ τ : L2.St, τ.length = σ.length → (L2.wipe τ (vs))[j]? = if j < σ.length then some none else none := fun τ hl => by
          cases h : (L2.wipe τ (vs))[j]? with
          | none =>
            rw [List.getElem?_eq_none_iff, L2.wipe_length, hl] at h
            rw [if_neg (by omega)]
          | some o =>
            have h1 : j < (L2.wipe τ (vs)).length := (List.getElem?_eq_some_iff.mp h).1
            rw [L2.wipe_length, hl] at h1
            rw [if_pos h1]
            cases o with
            | none => rfl
            | some x => exact absurd hj (L2.wipe_some h).2
        rw [e _ (by rw [L2.wipe_length]), e _ rfl]
      · rw [L2.wipe_out hj]
    · have R4 := R2.grow g3
      have nF3 : F3 A = none := (g3.k A _ hA2 (fun ps z => by cases z)).trans nF2
      have hA3 := g3.h.ap hA2
      cases c with
      | false =>
        refine iteF ?_
        refine ⟨F3, acc, g'.trans (g2.trans g3), ⟨s'.trans (g2.f.trans g3.f), sH.trans (g2.h.trans g3.h)⟩, R4, nF3, hA3, ?_⟩
        rw [p4.2 rfl]
        exact (dq.mono g2.f).mono g3.f
      | true =>
        refine iteT ?_
        refine ⟨b, F3, ρ3, _, Z0, R3.grow g3, zok0 z.t, p4.1 rfl, fun y v F4 H4 p5 g4 r4 _ => ?_⟩
        have hA4 := g4.h.ap hA3
        have nF4 : F4 A = none := (g4.k A _ hA3 (fun ps z => by cases z)).trans nF3
        have dq4 := ((dq.mono g2.f).mono g3.f).mono g4.f
        refine ⟨acc, hA4, by rw [dq4.length]; exact lt5 p5.2, F4, acc ++ [v], ?_, ⟨s'.trans (g2.f.trans (g3.f.trans g4.f)), ?_⟩, (R4.grow g4).aside nF4 nb (fun u e => by rw [hA4] at e; cases e; trivial) (R.owner nA (g'.trans (g2.trans (g3.trans g4))).h), nF4, upd_same, ?_⟩
        · exact (g'.trans (g2.trans (g3.trans g4))).put _ nA nF4 (fun u e => by rw [hA4] at e; cases e; trivial)
        · exact (sH.trans (g2.h.trans (g3.h.trans g4.h))).put _ (nn_of na) (fun u e => by rw [hA4] at e; cases e; trivial)
        · rw [p5.1]
          exact dq4.snoc r4
  · have e : i = L.length := by omega
    subst e
    exact .inl ⟨ok.stop F' H' s' R'.g (fun _ => sH), k _ _ F' H' mP g' (.inl ⟨A, rfl, nF', acc, hA, dq⟩) fun p e => by cases e; exact nA⟩
/-- .. whose items are new roots -/
theorem lc_sem2 {gv vs : List Nat} {wi : TI} {ti : DTi} {g : DGt} {tt : DTt} {te : DT} (hv : ∀ i ∈ gv, i ∈ vs)
    (si : ∀ (b : B) (F H : Hp) (σ : L2.St) (ρ : List Sl) (R : It → Hp → Prop) (P : List D → Prop) (Z : Zs), Rep X.K b F H σ ρ → ZOk X.mg X.K b F Z W → ti ρ P Z → (∀ L J F' H', P L → Grow b.T F H F' H' → ItOk true b F' H' J L → R J H') → wi σ H R) :
    ∀ (b : B) (F H : Hp) (σ : L2.St) (ρ : List Sl) (Q : VK) (P : D → Prop) (Z : Zs), Rep X.K b F H σ ρ → ZOk X.mg X.K b F Z W → dLc vs ti g tt te ρ P Z → Goes .n2 X.K b F H P Q → tLc wi (cG X.K gv g) (cT X.mg X.K (W0 W.T) tt) (cE X.mg X.K (W0 W.T) .nw te) vs σ H Q := by
  refine fun b F H σ ρ Q P Z R z q k => si b F H σ ρ _ _ Z R z q fun L J F1 H1 p g1 ok => ?_
  obtain ⟨M, m0, mP, it⟩ := p
  intro A na
  have R1 := R.grow g1
  have nA : Nn H A := g1.h.free na
  have nF : F1 A = none := R1.same.free na
  have nb : Nn b.H A := R.g.h.nn nA
  have gA : Grow b.T F1 H1 F1 (upd H1 A (.lst [])) := Grow.own R1.g _ na
  refine ⟨fun i m H' => i + m = L.length ∧ ∃ F' acc C, Grow b.T F H F' H' ∧ (Same F1 F' ∧ Ext b.T H1 H') ∧ Rep X.K b F' H' σ ρ ∧ F' A = none ∧ H' A = some (.lst acc) ∧ Kids F' H' acc (M i) C ∧ A ∉ C ∧ ∀ a ∈ C, Nn H a,
    ⟨L.length, by omega, F1, [], [], g1.trans gA, ⟨Same.refl _, gA.h⟩, R1.grow gA, nF, upd_same, by rw [m0]; exact .nil, by simp, fun a h => by simp at h⟩, ?_⟩
  rintro i m H' ⟨em, F', acc, C, g', ⟨s', sH⟩, R', nF', hA, dq, hC, nC⟩
  by_cases hi : i < L.length
  · refine .inr ⟨ok.go i F' H' hi s' R'.g (fun _ => sH), fun H2 => ∃ F2 acc C, Grow b.T F H F2 H2 ∧ (Same F1 F2 ∧ Ext b.T H1 H2) ∧ Rep X.K b F2 H2 σ ρ ∧ F2 A = none ∧ H2 A = some (.lst acc) ∧ Kids F2 H2 acc (M (i + 1)) C ∧ A ∉ C ∧ ∀ a ∈ C, Nn H a, fun H2 hN => ⟨m - 1, by omega, by omega, hN⟩, fun x H2 hy => ?_⟩
    obtain ⟨F2, g2, dx⟩ := ok.yld i F' H' x H2 _ (List.getElem?_eq_getElem hi) s' R'.g (fun _ => sH) hy
    have R2 := R'.grow g2
    have nF2 : F2 A = none := (g2.k A _ hA (fun ps z => by cases z)).trans nF'
    have hA2 : H2 A = some (.lst acc) := g2.h.ap hA
    have kg : ∀ {F H F' H' : Hp} {vs : List V} {ds : List D} {C : List Addr}, Grow b.T F H F' H' → Kids F H vs ds C → Kids F' H' vs ds C := fun g k => k.mono g.f fun a ha => by
      obtain ⟨n, u, e, i⟩ := k.nn a ha
      exact ⟨(g.k a u e (isD_n i)).trans n, (g.h.ap e (isD_n i)).trans e.symm⟩
    have kids_put : ∀ {F H : Hp} {vs : List V} {ds : List D} {C : List Addr} {o : HO}, Kids F H vs ds C → A ∉ C → Kids F (upd H A o) vs ds C := fun k h => k.mono (Same.refl _) fun a ha => ⟨(k.nn a ha).1, upd_ne (by rintro rfl; exact h ha)⟩
    refine ⟨b, F2, _, _, _, R2.wipe (vs), dx, it i _ (List.getElem?_eq_getElem hi), fun ρ3 σ3 R3 o3 p3 => ?_⟩
    refine ⟨(o3 (vs) fun i hi => hv i hi).trans ?_, b, F2, ρ3, _, Z0, R3, zok0 z.t, p3, fun c F3 H3 p4 g3 => ?_⟩
    · refine List.ext_getElem? fun j => ?_
      by_cases hj : j ∈ vs
      · have e : ∀ τ : L2.St, τ.length = σ.length → (L2.wipe τ (vs))[j]? = if j < σ.length then some none else none := fun τ hl => by
          cases h : (L2.wipe τ (vs))[j]? with
          | none =>
            rw [List.getElem?_eq_none_iff, L2.wipe_length, hl] at h
            rw [if_neg (by omega)]
          | some o =>
            have h1 : j < (L2.wipe τ (vs)).length := (List.getElem?_eq_some_iff.mp h).1
            rw [L2.wipe_length, hl] at h1
            rw [if_pos h1]
            cases o with
            | none => rfl
            | some x => exact absurd hj (L2.wipe_some h).2
        rw [e _ (by rw [L2.wipe_length]), e _ rfl]
      · rw [L2.wipe_out hj]
    · have R4 := R2.grow g3
      have nF3 : F3 A = none := (g3.k A _ hA2 (fun ps z => by cases z)).trans nF2
      have hA3 := g3.h.ap hA2
      cases c with
      | false =>
        refine iteF ?_
        refine ⟨F3, acc, C, g'.trans (g2.trans g3), ⟨s'.trans (g2.f.trans g3.f), sH.trans (g2.h.trans g3.h)⟩, R4, nF3, hA3, ?_, hC, nC⟩
        rw [p4.2 rfl]
        exact kg g3 (kg g2 dq)
      | true =>
        refine iteT ?_
        refine ⟨b, F3, ρ3, _, Z0, R3.grow g3, zok0 z.t, p4.1 rfl, fun y v F4 H4 p5 g4 r4 f4 => ?_⟩
        have hA4 := g4.h.ap hA3
        have nF4 : F4 A = none := (g4.k A _ hA3 (fun ps z => by cases z)).trans nF3
        have gg := g2.trans (g3.trans g4)
        have dq4 := kg gg dq
        have hl : acc.length < sizeLine := by rw [dq4.len]; exact lt5 p5.2
        have fin : ∀ C4, Kids F4 H4 (acc ++ [v]) (M i ++ [y]) C4 → A ∉ C4 → (∀ a ∈ C4, Nn H a) → ∃ F2 acc' C, Grow b.T F H F2 (upd H4 A (.lst (acc ++ [v]))) ∧ (Same F1 F2 ∧ Ext b.T H1 (upd H4 A (.lst (acc ++ [v])))) ∧ Rep X.K b F2 (upd H4 A (.lst (acc ++ [v]))) σ ρ ∧ F2 A = none ∧ (upd H4 A (.lst (acc ++ [v]))) A = some (.lst acc') ∧ Kids F2 (upd H4 A (.lst (acc ++ [v]))) acc' (M (i + 1)) C ∧ A ∉ C ∧ (∀ a ∈ C, Nn H a) := fun C4 k4 h4 n4 => by
          refine ⟨F4, acc ++ [v], C4, ?_, ⟨s'.trans gg.f, ?_⟩, (R4.grow g4).aside nF4 nb (fun u e => by rw [hA4] at e; cases e; trivial) (R.owner nA (g'.trans gg).h), nF4, upd_same, ?_, h4, n4⟩
          · exact (g'.trans gg).put _ nA nF4 (fun u e => by rw [hA4] at e; cases e; trivial)
          · exact (sH.trans gg.h).put _ (nn_of na) (fun u e => by rw [hA4] at e; cases e; trivial)
          · rw [p5.1]
            exact kids_put k4 h4
        refine ⟨acc, hA4, hl, ?_⟩
        rcases r4 with ⟨q, rfl, nq, oq⟩ | r4
        · have hq := f4 q rfl
          have qC : ∀ a ∈ C, a ∉ [q] := fun a ha hq2 => by
            rw [List.mem_singleton] at hq2
            subst hq2
            obtain ⟨_, u, e, i⟩ := (kg (g2.trans g3) dq).nn a ha
            obtain ⟨ps, z⟩ := hq u e
            exact isD_n i ps z
          refine fin (C ++ [q]) (dq4.append (.own nq oq .nil (by simp)) qC) ?_ fun a ha => ?_
          · rw [List.mem_append, not_or]
            refine ⟨hC, fun h => ?_⟩
            rw [List.mem_singleton] at h
            subst h
            obtain ⟨ps, z⟩ := hq _ hA3
            cases z
          · rcases List.mem_append.mp ha with ha | ha
            · exact nC a ha
            · rw [List.mem_singleton] at ha
              subst ha
              exact (g'.trans (g2.trans g3)).h.nn hq
        · have := dq4.append (.atm r4 .nil) (fun a _ h => by simp at h)
          rw [List.append_nil] at this
          exact fin C this hC nC
  · have e : i = L.length := by omega
    subst e
    have hm : ∀ B, Tr F' H' (.ref A) (.list (M L.length)) B → ∀ a ∈ B, Nn H a := fun B t a ha => by
      have t0 : Tr F' H' (.ref A) (.list (M L.length)) (A :: C) := ⟨A, C, rfl, nF', rfl, hC, acc, hA, dq⟩
      rw [← t0.uniq (fun _ _ e _ => e) t] at ha
      rcases List.mem_cons.mp ha with rfl | ha
      · exact nA
      · exact nC a ha
    exact .inl ⟨ok.stop F' H' s' R'.g (fun _ => sH), k _ _ F' H' mP g' ⟨_, A, C, rfl, nF', rfl, hC, acc, hA, dq⟩ hm⟩
theorem de_lc2 {gv : List Nat} {elt iter : Expr} {ifs : List Expr} {scope : Scope} {own : List (Str × Nat)} {ti : DTi} {g : DGt} {tt : DTt} {te : DT} (hc : X.calm = true) (hN : X.N.Nodup) (hi : DI X W true tg iter ti) (ok : BlkOk X.N X.env.scope scope own)
    (hv : ∀ i ∈ gv, i ∈ own.map (·.2))
    (hg : ∀ (s : Shared) (H : Hp) (C : Addr) (cl : List (Str × Addr)) (fp : List Addr), DG (X.blk s H scope (compEnvC scope cl C X.env) fp) gv tg g)
    (ht : ∀ (s : Shared) (H : Hp) (C : Addr) (cl : List (Str × Addr)) (fp : List Addr), DTs (X.blk s H scope (compEnvC scope cl C X.env) fp) (W0 W.T) ifs tt)
    (he : ∀ (s : Shared) (H : Hp) (C : Addr) (cl : List (Str × Addr)) (fp : List Addr), DE (X.blk s H scope (compEnvC scope cl C X.env) fp) (W0 W.T) .nw elt te)
    (hs : ∀ x, foldedSetIterable iter X.env x = pure x := by intro _; rfl) : DE X W .n2 (.ListComp elt [⟨tg, iter, ifs, 0⟩] scope pos) (dLc (own.map (·.2)) ti g tt te) := by
  obtain ⟨wi, pi, si⟩ := hi.ok
  exact ⟨_, pe_lc hc hN pi ok (g := cG X.K gv g) (tt := cT X.mg X.K (W0 W.T) tt) (te := cE X.mg X.K (W0 W.T) .nw te) (fun s H C cl fp => (hg s H C cl fp).ok) (fun s H C cl fp => (ht s H C cl fp).ok) (fun s H C cl fp => (he s H C cl fp).pe) hs, lc_sem2 hv si⟩
theorem de_lc {gv : List Nat} {elt iter : Expr} {ifs : List Expr} {scope : Scope} {own : List (Str × Nat)} {ti : DTi} {g : DGt} {tt : DTt} {te : DT} (hc : X.calm = true) (hN : X.N.Nodup) (hi : DI X W true tg iter ti) (ok : BlkOk X.N X.env.scope scope own)
    (hv : ∀ i ∈ gv, i ∈ own.map (·.2))
    (hg : ∀ (s : Shared) (H : Hp) (C : Addr) (cl : List (Str × Addr)) (fp : List Addr), DG (X.blk s H scope (compEnvC scope cl C X.env) fp) gv tg g)
    (ht : ∀ (s : Shared) (H : Hp) (C : Addr) (cl : List (Str × Addr)) (fp : List Addr), DTs (X.blk s H scope (compEnvC scope cl C X.env) fp) (W0 W.T) ifs tt)
    (he : ∀ (s : Shared) (H : Hp) (C : Addr) (cl : List (Str × Addr)) (fp : List Addr), DE (X.blk s H scope (compEnvC scope cl C X.env) fp) (W0 W.T) .fz elt te)
    (hs : ∀ x, foldedSetIterable iter X.env x = pure x := by intro _; rfl) : DE X W .nw (.ListComp elt [⟨tg, iter, ifs, 0⟩] scope pos) (dLc (own.map (·.2)) ti g tt te) := by
  obtain ⟨wi, pi, si⟩ := hi.ok
  exact ⟨_, pe_lc hc hN pi ok (g := cG X.K gv g) (tt := cT X.mg X.K (W0 W.T) tt) (te := cE X.mg X.K (W0 W.T) .fz te) (fun s H C cl fp => (hg s H C cl fp).ok) (fun s H C cl fp => (ht s H C cl fp).ok) (fun s H C cl fp => (he s H C cl fp).pe) hs, lc_sem hv si⟩
end
end DL
set_option maxRecDepth 100000
set_option maxHeartbeats 4000000
/-! DL5: calls, a def's contract, raise. -/
namespace DL
open PySem PySem.Spec PyProof.Rows L2
variable {T : List (Addr × Str)}

def Md.sl : Md → D → Sl
  | .fz, d => .fz d
  | .st, d => .ln d
  | .rd, d => .ln d
  | .rt, d => .lt d
  | .nw, _ => .un
  | .n2, _ => .un
def initD (n : Nat) (ms : List Md) (ds : List D) : List Sl := List.zipWith Md.sl ms ds ++ List.replicate (n - ms.length) .un
abbrev CW := List D → (D → Prop) → (String → Prop) → Prop
/-- what a def asks and tells, by data -/
def spD (mg : Str → Option Value) (K : PySem.W.Frag) (T : List (Addr × Str)) (ms : List Md) (rm : Md) (w : CW) : Sp := fun vs H Q E => ∃ (F : Hp) (ds : List D) (P : D → Prop) (Z : String → Prop), Grow T F H F H ∧ LamX.Tabs T H ∧ VRs K ⟨F, H, T⟩ F H ms vs ds ∧ w ds P Z ∧
  (∀ d v F' H', P d → Grow T F H F' H' → VR rm K ⟨F, H, T⟩ F' H' v d → Fr rm H F' H' v d → Q v H') ∧ ∀ (x : String) C F' H', mg (x : Str) = some (.ref C) → Z x → Grow T F H F' H' → E (.ref C) none H'
theorem vrs_sl {K : PySem.W.Frag} {F H : Hp} {T : List (Addr × Str)} : ∀ {ms : List Md} {vs : List V} {ds : List D}, VRs K ⟨F, H, T⟩ F H ms vs ds → ∀ (i : Nat) (s : Sl), (List.zipWith Md.sl ms ds)[i]? = some s → SlF K ⟨F, H, T⟩ F H (vs.map some)[i]? s []
  | _, _, _, .nil, i, s, h => by simp at h
  | _, _, _, .cons (m := m) (v := v) (d := d) r q, 0, s, h => by
    simp only [List.zipWith_cons_cons, List.getElem?_cons_zero, Option.some.injEq] at h
    subst h
    cases m with
    | fz => exact ⟨rfl, v, rfl, r⟩
    | st => exact ⟨rfl, v, rfl, r⟩
    | rd => exact ⟨rfl, v, rfl, r⟩
    | rt => exact ⟨rfl, v, rfl, r⟩
    | nw => rfl
    | n2 => rfl
  | _, _, _, .cons r q, i + 1, s, h => by
    simp only [List.zipWith_cons_cons, List.getElem?_cons_succ] at h
    exact vrs_sl q i s h
theorem rep_start {K : PySem.W.Frag} {F H : Hp} {T : List (Addr × Str)} {N : List Str} {ms : List Md} {vs : List V} {ds : List D} (s : Grow T F H F H) (tt : LamX.Tabs T H) (r : VRs K ⟨F, H, T⟩ F H ms vs ds) : Rep K ⟨F, H, T⟩ F H (L2.start N vs) (initD N.length ms ds) := by
  obtain ⟨l1, l2⟩ := vrs_len r
  have lz : (List.zipWith Md.sl ms ds).length = vs.length := by rw [List.length_zipWith]; omega
  have main : ∀ (i : Nat) (s : Sl), (initD N.length ms ds)[i]? = some s → SlF K ⟨F, H, T⟩ F H (L2.start N vs)[i]? s [] := fun i s h => by
    unfold initD at h
    unfold L2.start
    by_cases hi : i < vs.length
    · rw [List.getElem?_append_left (by rw [lz]; exact hi)] at h
      rw [List.getElem?_append_left (by rw [List.length_map]; exact hi)]
      exact vrs_sl r i s h
    · rw [List.getElem?_append_right (by rw [lz]; omega), List.getElem?_replicate] at h
      split at h
      · cases h
        rfl
      · cases h
  refine ⟨s, tt, ?_, fun _ => [], main, fun _ _ => rfl, fun _ _ _ _ h => by simp at h⟩
  unfold L2.start initD
  rw [List.length_append, List.length_append, List.length_map, List.length_replicate, List.length_replicate, lz, l1]
def endN (rm : Md) (P : D → Prop) : Prop := match rm with
  | .n2 => False
  | _ => P .none
/-- the reading of a body as a promise -/
def bodyW (n : Nat) (ms : List Md) (rm : Md) (t : DS) : CW := fun ds P Z => t { nx := fun _ => endN rm P, rt := P } (fun _ x => Z x) (initD n ms ds)
def bodyW0 (n : Nat) (ms : List Md) (rm : Md) (t : DS) : CW := fun ds P _ => t { nx := fun _ => endN rm P, rt := P } Z0 (initD n ms ds)
section
variable {P : Program} {w : World} {K : PySem.W.Frag} {mg : Str → Option Value} {base : Heap}
theorem conn_body {F H : Hp} {T : List (Addr × Str)} {rm : Md} {Pd : D → Prop} {Q : VK} (k : ∀ d v F' H', Pd d → Grow T F H F' H' → VR rm K ⟨F, H, T⟩ F' H' v d → Fr rm H F' H' v d → Q v H') :
    Conn K ⟨F, H, T⟩ rm F { nx := fun _ => endN rm Pd, rt := Pd } { nx := fun _ H' => Q .non H', rt := Q } := by
  refine ⟨fun ρ F' H' σ s R q => ?_, fun _ _ _ _ _ _ q => q.elim, fun _ _ _ _ _ _ q => q.elim, fun x v F' H' g r f p => k x v F' H' p g r f⟩
  cases rm with
  | n2 => exact q.elim
  | nw => exact k _ _ F' H' q R.g (.inr .non) (fun p e => by cases e)
  | rt => exact k _ _ F' H' q R.g (.inl (.inl .non)) trivial
  | fz => exact k _ _ F' H' q R.g .non trivial
  | st => exact k _ _ F' H' q R.g (.inl .non) trivial
  | rd => exact k _ _ F' H' q R.g (.inl .non) trivial
theorem fnok0 {x qual : Str} {st : Stmt} {f : Addr} {fd : FuncData} {N ps : List Str} {k : Nat} {ms : List Md} {rm : Md} {t : DS} {T : List (Addr × Str)} (F : Fun K x qual st f fd) (S : FnScope N ps (defScope st)) (hl : ms.length = ps.length)
    (hb : ∀ (cdv : Value) (A : Around) (outer : List Env) (s : Shared) (H : Hp) (E : XK), Room k (A.deeper (envOfC qual (defScope st) s.heap.objs.size f cdv)) → DSs (cxOf CX0 P w K mg base N qual (defScope st) f cdv A outer s H E).nox (W0 T) rm (defBody st) t) :
    FnOk P w K mg base CX0 (k + 1) f fd ps (spD mg K T ms rm (bodyW0 N.length ms rm t)) := by
  refine F.ok S (fun vs H Q E h => ?_) fun cdv A outer s H vs Q E hr h => ?_
  · obtain ⟨_, ds, _, _, _, _, r, _⟩ := h
    rw [← hl]
    exact (vrs_len r).1
  · obtain ⟨F0, ds, Pd, Z, sm, tt, r, hw, k1, k2⟩ := h
    obtain ⟨ts, p, sem⟩ := (hb cdv A outer s H E hr).ok
    exact ⟨ts, p, sem ⟨F0, H, T⟩ F0 H _ _ _ _ Z0 (rep_start sm tt r) (zok0 rfl) hw (conn_body k1)⟩
theorem fnokX {x qual : Str} {st : Stmt} {f : Addr} {fd : FuncData} {N ps : List Str} {k : Nat} {ms : List Md} {rm : Md} {t : DS} {T : List (Addr × Str)} (F : Fun K x qual st f fd) (S : FnScope N ps (defScope st)) (hl : ms.length = ps.length)
    (hb : ∀ (cdv : Value) (A : Around) (outer : List Env) (s : Shared) (H : Hp) (E : XK), Room k (A.deeper (envOfC qual (defScope st) s.heap.objs.size f cdv)) → DSs (cxOf (L2.CX P w) P w K mg base N qual (defScope st) f cdv A outer s H E) ⟨fun cls d _ H => E cls d H, T⟩ rm (defBody st) t) :
    FnOk P w K mg base (L2.CX P w) (k + 1) f fd ps (spD mg K T ms rm (bodyW N.length ms rm t)) := by
  refine F.okX S (fun vs H Q E h => ?_) fun cdv A outer s H vs Q E hr h => ?_
  · obtain ⟨_, ds, _, _, _, _, r, _⟩ := h
    rw [← hl]
    exact (vrs_len r).1
  · obtain ⟨F0, ds, Pd, Z, sm, tt, r, hw, k1, k2⟩ := h
    obtain ⟨ts, p, sem⟩ := (hb cdv A outer s H E hr).ok
    exact ⟨ts, p, sem ⟨F0, H, T⟩ F0 H _ _ _ _ (fun _ x => Z x) (rep_start sm tt r) ⟨rfl, fun ρ F' H' σ x C _ hm R q => k2 x C F' H' hm q R.g⟩ hw (conn_body k1)⟩
end
/-- a def that may be called -/
structure Df (P : Program) (w : World) (K : PySem.W.Frag) (mg : Str → Option Value) (base : Heap) (T : List (Addr × Str)) (CX : CXT) (k : Nat) (x : Str) (ms : List Md) (rm : Md) (W : CW) : Prop where
  ex : ∃ (f : Addr) (fd : FuncData) (ps : List Str), FnOk P w K mg base CX k f fd ps (spD mg K T ms rm W) ∧ mg x = some (.ref f) ∧ PySem.W.keepIn K (.ref f) = true ∧ Binds K fd ps []
section
variable {X : Cx} {W : WT}
def dCall (w : CW) (ta : DTa) : DT := fun ρ P Z => ta ρ (fun ds => w ds P (fun _ => False)) Z
def dCallX (w : CW) (ta : DTa) : DT := fun ρ P Z => ta ρ (fun ds => w ds P (Z ρ)) Z
theorem vr_b {rm : Md} {K : PySem.W.Frag} {b b' : B} {F H : Hp} {v : V} {d : D} (h : rm ≠ .st) (r : VR rm K b F H v d) : VR rm K b' F H v d := by
  cases rm with
  | fz => exact r
  | st => exact absurd rfl h
  | rd => exact r
  | nw => exact r
  | rt => exact r
  | n2 => exact r
theorem vrs_b {K : PySem.W.Frag} {b b' : B} {F H : Hp} : ∀ {ms : List Md} {vs : List V} {ds : List D}, (∀ m ∈ ms, m ≠ .st) → VRs K b F H ms vs ds → VRs K b' F H ms vs ds
  | _, _, _, _, .nil => .nil
  | _, _, _, h, .cons a q => .cons (vr_b (h _ (by simp)) a) (vrs_b (fun m hm => h m (by simp [hm])) q)
section
variable {k : Nat} {x : Str} {ms : List Md} {rm : Md} {w : CW} {e : Expr} {es : List Expr} {ta : DTa} {p pos : Pos}
theorem grow_t {T T' : List (Addr × Str)} (e : T = T') {F H F' H' : Hp} (g : Grow T F H F' H') : Grow T' F H F' H' := e ▸ g
theorem de_call {CX : CXT} (G : Df X.prog X.w X.K X.mg X.base W.T CX k x ms rm w) (hx : Passes CX X E0) (hr : Room k X.A) (ha : DA X W ms (e :: es) ta) (hms : ∀ m ∈ ms, m ≠ .st := by simp) (hrm : rm ≠ .st := by simp) (hg : Gl X x := by rfl) (hdb : (x == ("__debug__" : Str)) = false := by decide)
    (he : starEach (e :: es) X.env = (false, eval e X.env) :: starEach es X.env := by rfl) (hpl : (backTo pos (starEach es X.env)).any (·.1) = false := by rfl) : DE X W rm (.Call (.Name x p) (e :: es) [] pos) (dCall w ta) := by
  obtain ⟨f, fd, ps, F, hm, hk, hb⟩ := G.ex
  obtain ⟨te, pa, s⟩ := ha.ok
  refine ⟨_, pe_call F hr hg hm hk hb .nil hx pa hdb he hpl, fun b F0 H σ ρ Q P Z R z q kk => s b F0 H σ ρ _ _ Z R z q fun ds vs F1 H1 p1 g r => ?_⟩
  rw [List.append_nil]
  exact ⟨F1, ds, P, _, grow_t z.t (.refl (R.grow g).g), z.t ▸ (R.grow g).tt, vrs_b hms r, p1, fun d v F' H' pd g' r' f' => kk d v F' H' pd (g.trans (grow_t z.t.symm g')) (vr_b hrm r') (f'.back g.h), fun _ _ _ _ _ h => h.elim⟩
theorem de_callX (tk : Takes X W.w) (G : Df X.prog X.w X.K X.mg X.base W.T (L2.CX X.prog X.w) k x ms rm w) (hr : Room k X.A) (ha : DA X W ms (e :: es) ta) (hms : ∀ m ∈ ms, m ≠ .st := by simp) (hrm : rm ≠ .st := by simp) (hg : Gl X x := by rfl) (hdb : (x == ("__debug__" : Str)) = false := by decide)
    (he : starEach (e :: es) X.env = (false, eval e X.env) :: starEach es X.env := by rfl) (hpl : (backTo pos (starEach es X.env)).any (·.1) = false := by rfl) : DE X W rm (.Call (.Name x p) (e :: es) [] pos) (dCallX w ta) := by
  obtain ⟨f, fd, ps, F, hm, hk, hb⟩ := G.ex
  obtain ⟨te, pa, s⟩ := ha.ok
  refine ⟨_, pe_callS F hr hg hm hk hb (fun σ => passAt tk σ) pa hdb he hpl, fun b F0 H σ ρ Q P Z R z q kk => s b F0 H σ ρ _ _ Z R z q fun ds vs F1 H1 p1 g r => ?_⟩
  exact ⟨F1, ds, P, _, grow_t z.t (.refl (R.grow g).g), z.t ▸ (R.grow g).tt, vrs_b hms r, p1, fun d v F' H' pd g' r' f' => kk d v F' H' pd (g.trans (grow_t z.t.symm g')) (vr_b hrm r') (f'.back g.h), fun y C F' H' hy h g' => z.z ρ F' H' σ y C (g.f.trans g'.f) hy ((R.grow g).grow (grow_t z.t.symm g')) h⟩
end
/-! ### raise -/
/-- an own class over ValueError, without __init__ -/
structure Exd (K : PySem.W.Frag) (mg : Str → Option Value) (x : String) : Prop where
  ex : ∃ C : Addr, mg (x : Str) = some (.ref C) ∧ PySem.W.excIn K C [.type "ValueError", .type "Exception", .type "BaseException", .type "object"] "ValueError.__new__" = true ∧ PySem.W.keepIn K (.ref C) = true ∧
    PySem.W.subIn K (.ref C) (.type "BaseException") = some true ∧ PySem.W.typeIn K (.ref C) = some (.type "type")
def dRaise (x : String) : DS := fun _ Z ρ => Z ρ x
theorem ds_raise {rm : Md} {pos pos2 p p2 : Pos} {x : String} {m : Str} {j : Nat} (tk : Takes X W.w) (hc : X.calm = true) (G : Exd X.K X.mg x) (hg : Gl X (x : Str) := by rfl) (hdb : ((x : Str) == ("__debug__" : Str)) = false := by decide) :
    DS1 X W rm (.Raise (some (.Call (.Name (x : Str) p) [.Constant (.str m) j p2] [] pos)) none pos2) (dRaise x) := by
  obtain ⟨C, gC, xC, kC, bC, tC⟩ := G.ex
  exact ⟨_, ps_raise hc tk (pmk_own PySem.F.excBase_ValueError xC gC kC (raises_own bC tC) hg hdb), fun b F H σ ρ D d Z R z q c => z.z ρ F H σ x C (Same.refl _) gC R q⟩
end
end DL
set_option maxRecDepth 100000
set_option maxHeartbeats 4000000
/-! DL6: operators and built-in calls by data. -/
namespace DL
open PySem PySem.Spec PyProof.Rows L2
variable {T : List (Addr × Str)}

/-! ### shapes -/
def Shp : Nat → D → Prop
  | _, .none => True
  | _, .bool _ => True
  | _, .int _ => True
  | _, .str x => PyData.strOk x = true
  | n + 1, .list ds => ∀ d ∈ ds, Shp n d
  | n + 1, .tuple ds => ∀ d ∈ ds, Shp n d
  | _, _ => False
theorem shpA {n : Nat} (ih : ∀ d, Shp n d → d.canLay0 = true ∧ d.depth ≤ n ∧ flat d = true) : ∀ ds : List D, (∀ d ∈ ds, Shp n d) → PyData.canLayAll0 ds = true ∧ PyData.depthAll ds ≤ n ∧ flatA ds = true
  | [], _ => ⟨rfl, Nat.zero_le _, rfl⟩
  | d :: ds, h => by
    obtain ⟨a1, a2, a3⟩ := ih d (h d (by simp))
    obtain ⟨b1, b2, b3⟩ := shpA ih ds (fun x hx => h x (by simp [hx]))
    exact ⟨by simp [PyData.canLayAll0, a1, b1], by simp only [PyData.depthAll]; omega, by simp [flatA, a3, b3]⟩
theorem shp_ok : ∀ (n : Nat) (d : D), Shp n d → d.canLay0 = true ∧ d.depth ≤ n ∧ flat d = true
  | _, .none, _ => ⟨by simp [PyData.canLay0], by simp [PyData.depth], by simp [flat]⟩
  | _, .bool _, _ => ⟨by simp [PyData.canLay0], by simp [PyData.depth], by simp [flat]⟩
  | _, .int _, _ => ⟨by simp [PyData.canLay0], by simp [PyData.depth], by simp [flat]⟩
  | n, .str x, h => ⟨by cases n <;> simpa [PyData.canLay0, Shp] using h, by simp [PyData.depth], by simp [flat]⟩
  | 0, .list ds, h => by simp [Shp] at h
  | 0, .tuple ds, h => by simp [Shp] at h
  | 0, .dict ds, h => by simp [Shp] at h
  | n + 1, .list ds, h => by
    obtain ⟨b1, b2, b3⟩ := shpA (shp_ok n) ds (by simpa [Shp] using h)
    exact ⟨by simp [PyData.canLay0, b1], by simp only [PyData.depth]; omega, by simp [flat, b3]⟩
  | n + 1, .tuple ds, h => by
    obtain ⟨b1, b2, b3⟩ := shpA (shp_ok n) ds (by simpa [Shp] using h)
    exact ⟨by simp [PyData.canLay0, b1], by simp only [PyData.depth]; omega, by simp [flat, b3]⟩
  | n + 1, .dict ds, h => by simp [Shp] at h
theorem shp_sh {d : D} (h : Shp 8 d) : SeqAt.shaped d = true := by
  obtain ⟨a, b, _⟩ := shp_ok 8 d h
  simp [SeqAt.shaped, a]
  omega
/-- no bools -/
def Nb : Nat → D → Prop
  | _, .none => True
  | _, .int _ => True
  | _, .str _ => True
  | n + 1, .list ds => ∀ d ∈ ds, Nb n d
  | n + 1, .tuple ds => ∀ d ∈ ds, Nb n d
  | _, _ => False
theorem nbA {n m : Nat} (ih : ∀ d e, Nb n d → Nb m e → (PyData.eqv d e = true ↔ d = e)) : ∀ ds es : List D, (∀ d ∈ ds, Nb n d) → (∀ d ∈ es, Nb m d) → (PyData.eqvAll ds es = true ↔ ds = es)
  | [], [], _, _ => by simp [PyData.eqvAll]
  | [], _ :: _, _, _ => by simp [PyData.eqvAll]
  | _ :: _, [], _, _ => by simp [PyData.eqvAll]
  | d :: ds, e :: es, h, k => by
    have a := ih d e (h d (by simp)) (k e (by simp))
    have b := nbA ih ds es (fun x hx => h x (by simp [hx])) (fun x hx => k x (by simp [hx]))
    simp only [PyData.eqvAll, Bool.and_eq_true, a, b, List.cons.injEq]
theorem nb_eqv : ∀ (n m : Nat) (d e : D), Nb n d → Nb m e → (PyData.eqv d e = true ↔ d = e)
  | 0, 0, d, e, h, k => by cases d <;> simp only [Nb] at h <;> cases e <;> simp only [Nb] at k <;> simp [PyData.eqv]
  | 0, m + 1, d, e, h, k => by cases d <;> simp only [Nb] at h <;> cases e <;> simp only [Nb] at k <;> simp [PyData.eqv]
  | n + 1, 0, d, e, h, k => by cases d <;> simp only [Nb] at h <;> cases e <;> simp only [Nb] at k <;> simp [PyData.eqv]
  | n + 1, m + 1, d, e, h, k => by
    have q := nbA (nb_eqv n m)
    cases d <;> simp only [Nb] at h <;> cases e <;> simp only [Nb] at k <;> simp [PyData.eqv]
    · exact q _ _ h k
    · exact q _ _ h k
theorem eqv_nb {n m : Nat} {d e : D} (h : Nb n d) (k : Nb m e) [Decidable (d = e)] : PyData.eqv d e = decide (d = e) := by
  have q := nb_eqv n m d e h k
  by_cases c : d = e
  · rw [q.mpr c, decide_eq_true c]
  · rw [decide_eq_false c]
    cases z : PyData.eqv d e with
    | false => rfl
    | true => exact absurd (q.mp z) c

section
variable {K : PySem.W.Frag} {ma mb m : Md}
/-! ### ints -/
def d2I (g : Int → Int → D) : D → D → (D → Prop) → Prop := fun x y P => ∃ i j, x = .int i ∧ y = .int j ∧ P (g i j)
def d2C (C : Int → Int → Prop) (g : Int → Int → D) : D → D → (D → Prop) → Prop := fun x y P => ∃ i j, x = .int i ∧ y = .int j ∧ C i j ∧ P (g i j)
theorem r2_int {g : Int → Int → Int} (ha : ma.sh = true := by rfl) (hb : mb.sh = true := by rfl) : R2ok K ma mb .fz (rI0 fun i j => .int (g i j)) (d2I fun i j => .int (g i j)) := fun b F H x y dx dy Q P g0 rx ry h k => by
  obtain ⟨i, j, rfl, rfl, p⟩ := h
  exact ⟨i, j, vr_int (rx.rd ha g0), vr_int (ry.rd hb g0), k _ _ F H p (.refl g0) (Dq.int _) trivial⟩
theorem r2_intB {g : Int → Int → Bool} (ha : ma.sh = true := by rfl) (hb : mb.sh = true := by rfl) : R2ok K ma mb .fz (rI0 fun i j => .bl (g i j)) (d2I fun i j => .bool (g i j)) := fun b F H x y dx dy Q P g0 rx ry h k => by
  obtain ⟨i, j, rfl, rfl, p⟩ := h
  exact ⟨i, j, vr_int (rx.rd ha g0), vr_int (ry.rd hb g0), k _ _ F H p (.refl g0) (Dq.bl _) trivial⟩
theorem r2_intC {C : Int → Int → Prop} {g : Int → Int → Int} (ha : ma.sh = true := by rfl) (hb : mb.sh = true := by rfl) : R2ok K ma mb .fz (rI C fun i j => .int (g i j)) (d2C C fun i j => .int (g i j)) := fun b F H x y dx dy Q P g0 rx ry h k => by
  obtain ⟨i, j, rfl, rfl, c, p⟩ := h
  exact ⟨i, j, vr_int (rx.rd ha g0), vr_int (ry.rd hb g0), c, k _ _ F H p (.refl g0) (Dq.int _) trivial⟩
def CMulD (i j : Int) : Prop := CMul i j ∨ CMulW i j
theorem op_mulD {X : Cx} : OpR X (binaryOp .Mult) (rI CMulD fun i j => .int (i * j)) := opI fun _ _ _ _ _ _ _ hc q => mul_int q (hc.elim CMul.ok CMulW.ok)
def d1I (g : Int → Int) : D → (D → Prop) → Prop := fun x P => ∃ i, x = .int i ∧ P (.int (g i))
theorem r1_int {g : Int → Int} (ha : ma.sh = true := by rfl) : R1ok K ma .fz (rU fun i => .int (g i)) (d1I g) := fun b F H x dx Q P g0 rx h k => by
  obtain ⟨i, rfl, p⟩ := h
  exact ⟨i, vr_int (rx.rd ha g0), k _ _ F H p (.refl g0) (Dq.int _) trivial⟩
/-! ### + -/
def addD : D → D → (D → Prop) → Prop
  | .int i, .int j, P => P (.int (i + j))
  | .list a, .list b, P => a.length + b.length ≤ 100000 ∧ P (.list (a ++ b))
  | .tuple a, .tuple b, P => a ≠ [] ∧ a.length + b.length ≤ 100000 ∧ P (.tuple (a ++ b))
  | .str a, .str b, P => a.length + b.length ≤ 100000 ∧ P (.str (a ++ b))
  | _, _, _ => False
def rAdd (K : PySem.W.Frag) : R2 := fun x y H Q => (rI0 (fun i j => .int (i + j))) x y H Q ∨ rCat x y H Q ∨ rCatT K x y H Q ∨ ∃ i j, x = .str i ∧ y = .str j ∧ i.length + j.length ≤ sizeLine ∧ Q (.str (i ++ j)) H
theorem op_addD {X : Cx} : OpR X (binaryOp .Add) (rAdd X.K) := op_add.or (op_cat.or (op_catT.or op_add_str))
theorem r2_add : R2ok K .fz .fz .fz (rAdd K) addD := fun b F H x y dx dy Q P g0 rx ry h k => by
  cases dx with
  | int i =>
    cases dy with
    | int j =>
      cases rx
      cases ry
      exact .inl ⟨i, j, rfl, rfl, k _ _ F H h (.refl g0) (Dq.int _) trivial⟩
    | _ => exact h.elim
  | str i =>
    cases dy with
    | str j =>
      cases rx
      cases ry
      exact .inr (.inr (.inr ⟨i, j, rfl, rfl, sz5 h.1, k _ _ F H h.2 (.refl g0) (Dq.str _) trivial⟩))
    | _ => exact h.elim
  | list ds =>
    cases dy with
    | list es =>
      cases rx with
      | lst e1 q1 =>
        cases ry with
        | lst e2 q2 =>
          rename_i a1 xs a2 ys
          refine .inr (.inl ⟨_, _, _, _, rfl, rfl, g0.s _ _ e1, g0.s _ _ e2, by rw [q1.length, q2.length]; exact sz5 h.1, fun p np => ?_⟩)
          have g2 := Grow.new g0 (HO.lst (xs ++ ys)) np
          exact k _ _ _ _ h.2 g2 (Dq.lst upd_same ((q1.append q2).mono g2.f)) trivial
    | _ => exact h.elim
  | tuple ds =>
    cases dy with
    | tuple es =>
      cases rx with
      | tup e1 q1 =>
        cases ry with
        | tup e2 q2 =>
          rename_i a1 xs a2 ys
          obtain ⟨h1, h2, p⟩ := h
          have hx : xs ≠ [] := by
            rintro rfl
            exact h1 (List.eq_nil_of_length_eq_zero q1.length.symm)
          refine .inr (.inr (.inl ⟨_, _, _, _, rfl, rfl, .of (g0.s _ _ e1), .of (g0.s _ _ e2), hx, by rw [q1.length, q2.length]; exact sz5 h2, fun e => ?_, fun _ q nq => ?_⟩))
          · subst e
            have e3 : es = [] := List.eq_nil_of_length_eq_zero q2.length.symm
            subst e3
            rw [List.append_nil] at p
            exact k _ _ F H p (.refl g0) (Dq.tup e1 q1) trivial
          · have g2 := Grow.new g0 (HO.tup (xs ++ ys)) nq
            exact k _ _ _ _ p g2 (Dq.tup upd_same ((q1.append q2).mono g2.f)) trivial
    | _ => exact h.elim
  | _ => exact h.elim
def catD : D → D → (D → Prop) → Prop := fun x y P => ∃ a b, x = .list a ∧ y = .list b ∧ a.length + b.length ≤ 100000 ∧ P (.list (a ++ b))
theorem r2_catN : R2ok K .fz .fz .nw rCat catD := fun b F H x y dx dy Q P g0 rx ry h k => by
  obtain ⟨ds, es, rfl, rfl, hl, p⟩ := h
  cases rx with
  | lst e1 q1 =>
    cases ry with
    | lst e2 q2 =>
      rename_i a1 xs a2 ys
      refine ⟨_, _, _, _, rfl, rfl, g0.s _ _ e1, g0.s _ _ e2, by rw [q1.length, q2.length]; exact sz5 hl, fun a na => ?_⟩
      have g2 := Grow.own g0 (HO.lst (xs ++ ys)) na
      exact k _ _ _ _ p g2 (.inl ⟨a, rfl, g0.s.free na, own_mkL upd_same (q1.append q2)⟩) fun q e => by cases e; exact nn_of na
theorem RKids.len {K : PySem.W.Frag} {F H : Hp} : ∀ {vs : List V} {ds : List D}, RKids K F H vs ds → vs.length = ds.length
  | _, _, .nil => rfl
  | _, _, .cons _ q => congrArg (· + 1) q.len
theorem RKids.get {K : PySem.W.Frag} {F H : Hp} : ∀ {vs : List V} {ds : List D} {k : Nat} {d : D}, RKids K F H vs ds → ds[k]? = some d → ∃ v, vs[k]? = some v ∧ (Dq F v d ∨ ∃ p, v = .ref p ∧ Rdb K F H p d)
  | _, _, _, _, .nil, h => by simp at h
  | _, _, 0, d, .cons a _, h => by
    simp at h
    subst h
    exact ⟨_, rfl, a⟩
  | _, _, k + 1, d, .cons _ b, h => by
    obtain ⟨v, h1, h2⟩ := RKids.get (k := k) b (by simpa using h)
    exact ⟨v, by simpa using h1, h2⟩
theorem DqA.rk {K : PySem.W.Frag} {F H : Hp} : ∀ {vs : List V} {ds : List D}, DqA F vs ds → RKids K F H vs ds
  | _, _, .nil => .nil
  | _, _, .cons a q => .cons (.inl a) q.rk
theorem vrt_lst {K : PySem.W.Frag} {b : B} {F H : Hp} {v : V} {ds : List D} (s : Same F H) (r : VR .rt K b F H v (.list ds)) : ∃ p xs, v = .ref p ∧ SqL K H p xs ∧ RKids K F H xs ds := by
  rcases r with r | ⟨p, e, xs, r, q⟩
  · obtain ⟨p, xs, e, s, q⟩ := vr_lst (b := b) s r
    exact ⟨p, xs, e, s, q.rk⟩
  · exact ⟨p, xs, e, r, q⟩
theorem vrt_tup {K : PySem.W.Frag} {b : B} {F H : Hp} {v : V} {ds : List D} (s : Same F H) (r : VR .rt K b F H v (.tuple ds)) : ∃ p xs, v = .ref p ∧ SqT K H p xs ∧ RKids K F H xs ds := by
  rcases r with r | ⟨p, e, xs, r, q⟩
  · obtain ⟨p, xs, e, s, q⟩ := vr_tup (b := b) s r
    exact ⟨p, xs, e, s, q.rk⟩
  · exact ⟨p, xs, e, r, q⟩
theorem vrt_atm {K : PySem.W.Frag} {b : B} {F H : Hp} {v : V} {d : D} (ha : isLT d = false) (r : VR .rt K b F H v d) : VR .rd K b F H v d := by
  rcases r with r | ⟨p, e, r⟩
  · exact r
  · cases d with
    | list _ => cases ha
    | tuple _ => cases ha
    | _ => exact r.elim
theorem RKids.dp {K : PySem.W.Frag} {F H : Hp} (s : Same F H) : ∀ {vs : List V} {ds : List D}, RKids K F H vs ds → flatA ds = true → DpAll K H vs ds
  | _, _, .nil, _ => .nil
  | _, _, .cons a q, f => by
    simp only [flatA, Bool.and_eq_true] at f
    exact .cons (VR.dp (b := ⟨F, H, []⟩) s a f.1) (RKids.dp s q f.2)
theorem VR.dpT {K : PySem.W.Frag} {b : B} {F H : Hp} {v : V} {d : D} (s : Same F H) (r : VR .rt K b F H v d) (f : flat d = true) : Dp K H v d := by
  rcases r with r | ⟨p, e, r⟩
  · exact VR.dp (b := b) s r f
  · subst e
    cases d with
    | list ds =>
      obtain ⟨xs, e, q⟩ := r
      exact .lst e (q.dp s (by simpa [flat] using f))
    | tuple ds =>
      obtain ⟨xs, e, q⟩ := r
      exact .tup e (q.dp s (by simpa [flat] using f))
    | _ => exact r.elim
/-! ### ==, in -/
def eqR (neg : Bool) : D → D → (D → Prop) → Prop := fun x y P => Shp 8 x ∧ Shp 8 y ∧ P (.bool (PyData.eqv x y ^^ neg))
theorem r2_eq (ha : ma ≠ .n2 := by intro z; cases z) (hb : mb ≠ .n2 := by intro z; cases z) : R2ok K ma mb .fz (rEqD K) (eqR false) := fun b F H x y dx dy Q P g0 rx ry h k => by
  obtain ⟨h1, h2, p⟩ := h
  rw [Bool.xor_false] at p
  exact ⟨dx, dy, VR.dpT g0.s (rx.rt g0 fun z => absurd z ha) (shp_ok 8 _ h1).2.2, VR.dpT g0.s (ry.rt g0 fun z => absurd z hb) (shp_ok 8 _ h2).2.2, shp_sh h1, shp_sh h2, k _ _ F H p (.refl g0) (Dq.bl _) trivial⟩
theorem r2_ne (ha : ma ≠ .n2 := by intro z; cases z) (hb : mb ≠ .n2 := by intro z; cases z) : R2ok K ma mb .fz (rNeD K) (eqR true) := fun b F H x y dx dy Q P g0 rx ry h k => by
  obtain ⟨h1, h2, p⟩ := h
  rw [Bool.xor_true] at p
  exact ⟨dx, dy, VR.dpT g0.s (rx.rt g0 fun z => absurd z ha) (shp_ok 8 _ h1).2.2, VR.dpT g0.s (ry.rt g0 fun z => absurd z hb) (shp_ok 8 _ h2).2.2, shp_sh h1, shp_sh h2, k _ _ F H p (.refl g0) (Dq.bl _) trivial⟩
def rInS (K : PySem.W.Frag) (neg : Bool) : R2 := fun x y H Q => ∃ d ds, Dp K H x d ∧ (Dp K H y (.list ds) ∨ Dp K H y (.tuple ds)) ∧ Shp 8 d ∧ (∀ z ∈ ds, Shp 8 z) ∧ Q (.bl ((ds.any fun z => PyData.eqv z d) ^^ neg)) H
theorem op_inS {X : Cx} (hu : X.A.units + 64 < cLine) : OpR X (compareOp .In) (rInS X.K false) := by
  intro pins s σ H x y v u Q I rx ry h
  obtain ⟨d, ds, hd, he, sd, se, q⟩ := h
  rw [Bool.xor_false] at q
  obtain ⟨as, r1⟩ := Dp.reads I d x v hd rx
  obtain ⟨d1, d2, _⟩ := shp_ok 8 _ sd
  obtain ⟨e1, e2, _⟩ := shpA (shp_ok 8) ds se
  have hm : X.A.units + 1 + min (PyData.depthAll ds) d.depth < cLine := by have := Nat.min_le_right (PyData.depthAll ds) d.depth; omega
  rcases he with he | he
  · obtain ⟨bs, r2⟩ := Dp.reads I (.list ds) y u he ry
    exact SeqAt.in_list_reads r2 r1 e1 d1 hm ⟨.bl _, H, I, rfl, q⟩
  · obtain ⟨bs, r2⟩ := Dp.reads I (.tuple ds) y u he ry
    exact SeqAt.in_tuple_reads r2 r1 e1 d1 hm ⟨.bl _, H, I, rfl, q⟩
theorem op_notInS {X : Cx} (hu : X.A.units + 64 < cLine) : OpR X (compareOp .NotIn) (rInS X.K true) := by
  intro pins s σ H x y v u Q I rx ry h
  obtain ⟨d, ds, hd, he, sd, se, q⟩ := h
  rw [Bool.xor_true] at q
  obtain ⟨as, r1⟩ := Dp.reads I d x v hd rx
  obtain ⟨d1, d2, _⟩ := shp_ok 8 _ sd
  obtain ⟨e1, e2, _⟩ := shpA (shp_ok 8) ds se
  have hm : X.A.units + 1 + min (PyData.depthAll ds) d.depth < cLine := by have := Nat.min_le_right (PyData.depthAll ds) d.depth; omega
  rcases he with he | he
  · obtain ⟨bs, r2⟩ := Dp.reads I (.list ds) y u he ry
    exact SeqAt.notIn_list_reads r2 r1 e1 d1 hm ⟨.bl _, H, I, rfl, q⟩
  · obtain ⟨bs, r2⟩ := Dp.reads I (.tuple ds) y u he ry
    exact SeqAt.notIn_tuple_reads r2 r1 e1 d1 hm ⟨.bl _, H, I, rfl, q⟩
def inR (neg : Bool) : D → D → (D → Prop) → Prop := fun x y P => ∃ ds, (y = .list ds ∨ y = .tuple ds) ∧ Shp 8 x ∧ (∀ z ∈ ds, Shp 8 z) ∧ P (.bool ((ds.any fun z => PyData.eqv z x) ^^ neg))
theorem r2_in {neg : Bool} (ha : ma.sh = true := by rfl) (hb : mb.sh = true := by rfl) : R2ok K ma mb .fz (rInS K neg) (inR neg) := fun b F H x y dx dy Q P g0 rx ry h k => by
  obtain ⟨ds, e, h1, h2, p⟩ := h
  have fl := (shpA (shp_ok 8) ds h2).2.2
  refine ⟨dx, ds, VR.dp g0.s (rx.rd ha g0) (shp_ok 8 _ h1).2.2, ?_, h1, h2, k _ _ F H p (.refl g0) (Dq.bl _) trivial⟩
  rcases e with rfl | rfl
  · exact .inl (VR.dp g0.s (ry.rd hb g0) (by simpa [flat] using fl))
  · exact .inr (VR.dp g0.s (ry.rd hb g0) (by simpa [flat] using fl))
/-! is None -/
def isN : D → Bool
  | .none => true
  | _ => false
def isR (neg : Bool) : D → D → (D → Prop) → Prop := fun x y P => (y = .none ∧ P (.bool (isN x ^^ neg))) ∨ ∃ a b, x = .bool a ∧ y = .bool b ∧ P (.bool (decide (a = b) ^^ neg))
theorem vr_isN {b : B} {F H : Hp} {x : V} {dx : D} (r : VR .rd K b F H x dx) : decide (x = .non) = isN dx := by
  rcases r with r | ⟨p, e, r⟩
  · cases r <;> simp [isN]
  · subst e
    cases dx with
    | list _ => simp [isN]
    | tuple _ => simp [isN]
    | dict _ => simp [isN]
    | _ => exact r.elim
def rIs (neg : Bool) : R2 := fun x y H Q => (y = .non ∧ Q (.bl (decide (x = .non) ^^ neg)) H) ∨ ∃ a b, x = .bl a ∧ y = .bl b ∧ Q (.bl (decide (a = b) ^^ neg)) H
theorem op_isD {X : Cx} : OpR X (compareOp .Is) (rIs false) := (show OpR X (compareOp .Is) (fun x y H Q => y = .non ∧ Q (.bl (decide (x = .non) ^^ false)) H) by simpa only [Bool.xor_false] using op_isN (X := X)).or (by simpa only [Bool.xor_false] using op_is_bl (X := X))
theorem op_isnotD {X : Cx} : OpR X (compareOp .IsNot) (rIs true) := (show OpR X (compareOp .IsNot) (fun x y H Q => y = .non ∧ Q (.bl (decide (x = .non) ^^ true)) H) by simpa only [Bool.xor_true] using op_notN (X := X)).or (by simpa only [Bool.xor_true] using op_isnot_bl (X := X))
theorem r2_is {neg : Bool} (ha : ma.sh = true := by rfl) (hb : mb.sh = true := by rfl) : R2ok K ma mb .fz (rIs neg) (isR neg) := fun b F H x y dx dy Q P g0 rx ry h k => by
  rcases h with ⟨rfl, p⟩ | ⟨a, c, rfl, rfl, p⟩
  · refine .inl ⟨vr_non (ry.rd hb g0), ?_⟩
    rw [vr_isN (rx.rd ha g0)]
    exact k _ _ F H p (.refl g0) (Dq.bl _) trivial
  · exact .inr ⟨a, c, vr_bl (rx.rd ha g0), vr_bl (ry.rd hb g0), k _ _ F H p (.refl g0) (Dq.bl _) trivial⟩
/-! ### subscripts -/
theorem atI_dq {F : Hp} {xs : List V} {ds : List D} {n : Int} {d : D} (q : DqA F xs ds) (h : atI ds n = some d) : ∃ v, atI xs n = some v ∧ Dq F v d := by
  unfold atI at h ⊢
  obtain ⟨j, hj, h⟩ := Option.bind_eq_some_iff.mp h
  obtain ⟨v, h1, h2⟩ := q.get h
  exact ⟨v, by rw [q.length, hj]; exact h1, h2⟩
def ixR : D → D → (D → Prop) → Prop := fun x y P => ∃ ds n d, (x = .list ds ∨ x = .tuple ds) ∧ y = .int n ∧ atI ds n = some d ∧ P d
def rIxS2 (K : PySem.W.Frag) : R2 := fun x y H Q => rIxL K x y H Q ∨ rIxT K x y H Q
theorem ix_two {X : Cx} : IxR X (rIxS2 X.K) := ix_list.or ix_tup
theorem r2_ix (ha : ma.sh = true := by rfl) (hb : mb.sh = true := by rfl) : R2ok K ma mb .fz (rIxS2 K) ixR := fun b F H x y dx dy Q P g0 rx ry h k => by
  obtain ⟨ds, n, d, e, rfl, hd, p⟩ := h
  have ey := vr_int (ry.rd hb g0)
  rcases e with rfl | rfl
  · obtain ⟨a, xs, rfl, s, q⟩ := vr_lst g0.s (rx.rd ha g0)
    obtain ⟨v, h1, h2⟩ := atI_dq q hd
    exact .inl ⟨a, xs, n, v, rfl, ey, s, h1, k _ _ F H p (.refl g0) h2 trivial⟩
  · obtain ⟨a, xs, rfl, s, q⟩ := vr_tup g0.s (rx.rd ha g0)
    obtain ⟨v, h1, h2⟩ := atI_dq q hd
    exact .inr ⟨a, xs, n, v, rfl, ey, s, h1, k _ _ F H p (.refl g0) h2 trivial⟩
/-- a child of a tree, read -/
theorem r2_ixT (ha : ma ≠ .n2 := by intro z; cases z) (hb : mb.sh = true := by rfl) : R2ok K ma mb .rd (rIxS2 K) ixR := fun b F H x y dx dy Q P g0 rx ry h k => by
  obtain ⟨ds, n, d, e, rfl, hd, p⟩ := h
  have ey := vr_int (ry.rd hb g0)
  have rx := rx.rt g0 fun z => absurd z ha
  unfold atI at hd
  obtain ⟨j, hj, hd⟩ := Option.bind_eq_some_iff.mp hd
  rcases e with rfl | rfl
  · obtain ⟨a, xs, rfl, s, q⟩ := vrt_lst g0.s rx
    obtain ⟨v, h1, h2⟩ := q.get hd
    exact .inl ⟨a, xs, n, v, rfl, ey, s, by unfold atI; rw [q.len, hj]; exact h1, k _ _ F H p (.refl g0) h2 trivial⟩
  · obtain ⟨a, xs, rfl, s, q⟩ := vrt_tup g0.s rx
    obtain ⟨v, h1, h2⟩ := q.get hd
    exact .inr ⟨a, xs, n, v, rfl, ey, s, by unfold atI; rw [q.len, hj]; exact h1, k _ _ F H p (.refl g0) h2 trivial⟩
end
section
variable {X : Cx} {W : WT} {ma mb : Md} {pos : Pos}
/-! ### dicts: d[k], k in d -/
def DGetD (x y : D) (r : Option D) : Prop := (∃ kds ks, x = dctT kds ∧ y = keyT ks ∧ r = valD kds ks) ∨ (∃ kds ks, x = dctK kds ∧ y = keyD ks ∧ r = valD kds ks) ∨ (∃ kds ks, x = lkT kds ∧ y = keyT ks ∧ r = valD kds ks) ∨ ∃ kds ks, x = lkK kds ∧ y = keyD ks ∧ r = valD kds ks
theorem lk_noT {F H : Hp} {p : Addr} {kds : List (List Key × D)} (z : LkD F H p (kds.map fun p => (keyT p.1, p.2))) : False := by
  rcases z with ⟨_, _, _, e, _⟩ | ⟨_, _, _, e, _⟩
  · exact dctT_lk (congrArg PyData.dict e)
  · exact dctT_lkK (congrArg PyData.dict e)
theorem lk_noK {F H : Hp} {p : Addr} {kds : List (Key × D)} (z : LkD F H p ((.none, .none) :: kds.map fun p => (keyD p.1, p.2))) : False := by
  rcases z with ⟨_, _, _, e, _⟩ | ⟨_, _, _, e, _⟩
  · exact dctK_lk (congrArg PyData.dict e)
  · exact dctK_lkK (congrArg PyData.dict e)
theorem own_noL {F H : Hp} {p : Addr} {kds : List (List Key × D)} (z : Own F H p (lkT kds)) : False := by
  rcases z with ⟨_, _, e, _⟩ | ⟨_, _, e, _⟩
  · exact dctT_lk (congrArg PyData.dict e).symm
  · exact dctK_lk (congrArg PyData.dict e).symm
theorem lk_T {F H : Hp} {p : Addr} {kds : List (List Key × D)} (z : LkD F H p ((.bool true, .none) :: kds.map fun p => (keyT p.1, p.2))) : ∃ (o : Obj) (kvs : List (List Key × V)), H p = some (.frz o (.dT kvs)) ∧ kvs.map (·.1) = kds.map (·.1) ∧ DqA F (kvs.map (·.2)) (kds.map (·.2)) := by
  rcases z with ⟨o, kvs, kds', e1, e, k, q⟩ | ⟨_, _, _, e1, _⟩
  rotate_left
  · exact (lkT_lkK (congrArg PyData.dict e1)).elim
  have h : kds = kds' := lkT_inj (congrArg PyData.dict e1)
  subst h
  exact ⟨o, kvs, e, k, q⟩
theorem own_noM {F H : Hp} {p : Addr} {kds : List (Key × D)} (z : Own F H p (lkK kds)) : False := by
  rcases z with ⟨_, _, e, _⟩ | ⟨_, _, e, _⟩
  · exact dctT_lkK (congrArg PyData.dict e).symm
  · exact dctK_lkK (congrArg PyData.dict e).symm
theorem lk_K {F H : Hp} {p : Addr} {kds : List (Key × D)} (z : LkD F H p ((.bool false, .none) :: kds.map fun p => (keyD p.1, p.2))) : ∃ (o : Obj) (kvs : List (Key × V)), H p = some (.frz o (.dK kvs)) ∧ kvs.map (·.1) = kds.map (·.1) ∧ DqA F (kvs.map (·.2)) (kds.map (·.2)) := by
  rcases z with ⟨_, _, _, e1, _⟩ | ⟨o, kvs, kds', e1, e, k, q⟩
  · exact (lkT_lkK (congrArg PyData.dict e1).symm).elim
  · have h : kds = kds' := lkK_inj (congrArg PyData.dict e1)
    subst h
    exact ⟨o, kvs, e, k, q⟩
theorem dget_of {K : PySem.W.Frag} {b : B} {F H : Hp} {x y : V} {dx dy : D} {r : Option D} (g0 : Grow b.T b.F b.H F H) (rx : VR .rd K b F H x dx) (ry : Dq F y dy) (h : DGetD dx dy r) : ∃ a o, x = .ref a ∧ DGet H a y o ∧ OV F o r := by
  rcases h with ⟨kds, ks, rfl, rfl, rfl⟩ | ⟨kds, ks, rfl, rfl, rfl⟩ | ⟨kds, ks, rfl, rfl, rfl⟩ | ⟨kds, ks, rfl, rfl, rfl⟩
  · obtain ⟨a, rfl, o⟩ := vr_dict g0.s rx
    replace o := o.resolve_right fun z => lk_noT z
    obtain ⟨kvs, hH, hk, hq⟩ := own_T o
    obtain ⟨c, rfl, ec⟩ := keyT_dq ry
    exact ⟨a, _, rfl, DGet.t hH (g0.s _ _ ec), kd_val ks hk hq⟩
  · obtain ⟨a, rfl, o⟩ := vr_dict g0.s rx
    replace o := o.resolve_right fun z => lk_noK z
    obtain ⟨kvs, hH, hk, hq⟩ := own_K o
    have ec := key1_dq ry
    subst ec
    exact ⟨a, _, rfl, DGet.k hH, kd_val ks hk hq⟩
  · obtain ⟨a, rfl, o⟩ := vr_dict g0.s rx
    replace o := o.resolve_left fun z => own_noL z
    obtain ⟨od, kvs, hH, hk, hq⟩ := lk_T o
    obtain ⟨c, rfl, ec⟩ := keyT_dq ry
    exact ⟨a, _, rfl, .inr ⟨kvs, ks, c, .inr ⟨od, hH⟩, rfl, g0.s _ _ ec, rfl⟩, kd_val ks hk hq⟩
  · obtain ⟨a, rfl, o⟩ := vr_dict g0.s rx
    replace o := o.resolve_left fun z => own_noM z
    obtain ⟨od, kvs, hH, hk, hq⟩ := lk_K o
    have ec := key1_dq ry
    subst ec
    exact ⟨a, _, rfl, .inl ⟨kvs, ks, .inr ⟨od, hH⟩, rfl, rfl⟩, kd_val ks hk hq⟩
def dDGet (td tk : DT) : DT := fun ρ P Z => td ρ (fun x => tk ρ (fun y => ∃ d, DGetD x y (some d) ∧ P d) Z) Z
theorem de_dget {m1 : Md} {o i : Expr} {td tk : DT} (hu : X.A.units + 1 < cLine) (ho : DE X W m1 o td) (hi : DE X W .fz i tk) (hs : NoSl i) (hsh : m1.sh = true := by rfl) : DE X W .fz (.Subscript o i pos) (dDGet td tk) := by
  obtain ⟨te1, p1, s1⟩ := ho.ok
  obtain ⟨te2, p2, s2⟩ := hi.ok
  refine ⟨_, pe_dget hu p1 p2 hs, fun b F H σ ρ Q P Z R z q k => s1 b F H σ ρ _ _ Z R z q fun d v F1 H1 p g r1 _ => s2 b F1 H1 σ ρ _ _ Z (R.grow g) (z.mono g.f) p fun d' v' F2 H2 p2 g2 r2 _ => ?_⟩
  obtain ⟨x, hx, p⟩ := p2
  have g3 := R.g.trans (g.trans g2)
  obtain ⟨a, o, e, hg, h⟩ := dget_of g3 ((r1.grow g2).rd hsh g3) r2 hx
  obtain ⟨w', e2, r3⟩ := h.val
  subst e2
  exact ⟨a, w', e, hg, k _ _ F2 H2 p (g.trans g2) r3 trivial⟩
def dDIn (neg : Bool) (tk td : DT) : DT := fun ρ P Z => tk ρ (fun y => td ρ (fun x => ∃ r, DGetD x y r ∧ P (.bool (r.isSome ^^ neg))) Z) Z
theorem dc_of {op : CmpOp} {i o : Expr} {t : DT} {te : TE} (hp : PC X op i o te) (hs : ∀ (b : B) (F H : Hp) (σ : L2.St) (ρ : List Sl) (Q : VK) (P : D → Prop) (Z : Zs), Rep X.K b F H σ ρ → ZOk X.mg X.K b F Z W → t ρ P Z → Goes .fz X.K b F H P Q → te σ H Q) (hm : behindInMarks op o = false) :
    DE X W .fz (.Compare i [op] [o] pos) t := ⟨te, pe_cmp hp hm, hs⟩
theorem dcB {te : TE} {t : DT} (hs : ∀ (b : B) (F H : Hp) (σ : L2.St) (ρ : List Sl) (Q : VK) (P : D → Prop) (Z : Zs), Rep X.K b F H σ ρ → ZOk X.mg X.K b F Z W → t ρ P Z → Goes .fz X.K b F H P Q → te σ H Q) :
    ∀ (b : B) (F H : Hp) (σ : L2.St) (ρ : List Sl) (Q : Bool → Hp → Prop) (P : Bool → Prop) (Z : Zs), Rep X.K b F H σ ρ → ZOk X.mg X.K b F Z W → dB t ρ P Z → (∀ c F' H', P c → Grow b.T F H F' H' → Q c H') → tB te σ H Q := fun b F H σ ρ Q P Z R z q k =>
  hs b F H σ ρ _ _ Z R z q fun d v F' H' p g r _ => by
    obtain ⟨c, rfl, p⟩ := p
    cases r
    exact ⟨c, rfl, k c F' H' p g⟩
theorem in_sem {m1 : Md} (hsh : m1.sh = true) {i o : Expr} {td tk : DT} {te1 te2 : TE}
    (s2 : ∀ (b : B) (F H : Hp) (σ : L2.St) (ρ : List Sl) (Q : VK) (P : D → Prop) (Z : Zs), Rep X.K b F H σ ρ → ZOk X.mg X.K b F Z W → tk ρ P Z → Goes .fz X.K b F H P Q → te2 σ H Q)
    (s1 : ∀ (b : B) (F H : Hp) (σ : L2.St) (ρ : List Sl) (Q : VK) (P : D → Prop) (Z : Zs), Rep X.K b F H σ ρ → ZOk X.mg X.K b F Z W → td ρ P Z → Goes m1 X.K b F H P Q → te1 σ H Q) :
    ∀ (b : B) (F H : Hp) (σ : L2.St) (ρ : List Sl) (Q : VK) (P : D → Prop) (Z : Zs), Rep X.K b F H σ ρ → ZOk X.mg X.K b F Z W → dDIn false tk td ρ P Z → Goes .fz X.K b F H P Q → tDIn te2 te1 σ H Q := fun b F H σ ρ Q P Z R z q k =>
  s2 b F H σ ρ _ _ Z R z q fun d' v' F1 H1 p g r2 _ => s1 b F1 H1 σ ρ _ _ Z (R.grow g) (z.mono g.f) p fun d v F2 H2 p2 g2 r1 _ => by
    obtain ⟨r, hx, p⟩ := p2
    have g3 := R.g.trans (g.trans g2)
    obtain ⟨a, o, e, hg, h⟩ := dget_of g3 (r1.rd hsh g3) (r2.mono g2.f) hx
    refine ⟨a, o, e, hg, ?_⟩
    rw [h.is]
    rw [Bool.xor_false] at p
    exact k _ _ F2 H2 p (g.trans g2) (Dq.bl _) trivial
theorem notin_sem {m1 : Md} (hsh : m1.sh = true) {i o : Expr} {td tk : DT} {te1 te2 : TE}
    (s2 : ∀ (b : B) (F H : Hp) (σ : L2.St) (ρ : List Sl) (Q : VK) (P : D → Prop) (Z : Zs), Rep X.K b F H σ ρ → ZOk X.mg X.K b F Z W → tk ρ P Z → Goes .fz X.K b F H P Q → te2 σ H Q)
    (s1 : ∀ (b : B) (F H : Hp) (σ : L2.St) (ρ : List Sl) (Q : VK) (P : D → Prop) (Z : Zs), Rep X.K b F H σ ρ → ZOk X.mg X.K b F Z W → td ρ P Z → Goes m1 X.K b F H P Q → te1 σ H Q) :
    ∀ (b : B) (F H : Hp) (σ : L2.St) (ρ : List Sl) (Q : VK) (P : D → Prop) (Z : Zs), Rep X.K b F H σ ρ → ZOk X.mg X.K b F Z W → dDIn true tk td ρ P Z → Goes .fz X.K b F H P Q → tDNotIn te2 te1 σ H Q := fun b F H σ ρ Q P Z R z q k =>
  s2 b F H σ ρ _ _ Z R z q fun d' v' F1 H1 p g r2 _ => s1 b F1 H1 σ ρ _ _ Z (R.grow g) (z.mono g.f) p fun d v F2 H2 p2 g2 r1 _ => by
    obtain ⟨r, hx, p⟩ := p2
    have g3 := R.g.trans (g.trans g2)
    obtain ⟨a, o, e, hg, h⟩ := dget_of g3 (r1.rd hsh g3) (r2.mono g2.f) hx
    refine ⟨a, o, e, hg, ?_⟩
    rw [h.is]
    rw [Bool.xor_true] at p
    exact k _ _ F2 H2 p (g.trans g2) (Dq.bl _) trivial
theorem de_din {m1 : Md} {i o : Expr} {td tk : DT} (hu : X.A.units + 1 < cLine) (hi : DE X W .fz i tk) (ho : DE X W m1 o td) (hm : behindInMarks .In o = false := by rfl) (hsh : m1.sh = true := by rfl) : DE X W .fz (.Compare i [.In] [o] pos) (dDIn false tk td) := by
  obtain ⟨te1, p1, s1⟩ := ho.ok
  obtain ⟨te2, p2, s2⟩ := hi.ok
  exact dc_of (pc_din hu p2 p1) (in_sem hsh (i := i) (o := o) s2 s1) hm
theorem de_dnotin {m1 : Md} {i o : Expr} {td tk : DT} (hu : X.A.units + 1 < cLine) (hi : DE X W .fz i tk) (ho : DE X W m1 o td) (hm : behindInMarks .NotIn o = false := by rfl) (hsh : m1.sh = true := by rfl) : DE X W .fz (.Compare i [.NotIn] [o] pos) (dDIn true tk td) := by
  obtain ⟨te1, p1, s1⟩ := ho.ok
  obtain ⟨te2, p2, s2⟩ := hi.ok
  exact dc_of (pc_dnotin hu p2 p1) (notin_sem hsh (i := i) (o := o) s2 s1) hm
theorem dt_din {m1 : Md} {i o : Expr} {td tk : DT} (hu : X.A.units + 1 < cLine) (hi : DE X W .fz i tk) (ho : DE X W m1 o td) (hm : behindInMarks .In o = false := by rfl) (hsh : m1.sh = true := by rfl) : DEt X W (.Compare i [.In] [o] pos) (dB (dDIn false tk td)) := by
  obtain ⟨te1, p1, s1⟩ := ho.ok
  obtain ⟨te2, p2, s2⟩ := hi.ok
  exact ⟨_, pt_cmp (pc_din hu p2 p1) hm, dcB (in_sem hsh (i := i) (o := o) s2 s1)⟩
theorem dt_dnotin {m1 : Md} {i o : Expr} {td tk : DT} (hu : X.A.units + 1 < cLine) (hi : DE X W .fz i tk) (ho : DE X W m1 o td) (hm : behindInMarks .NotIn o = false := by rfl) (hsh : m1.sh = true := by rfl) : DEt X W (.Compare i [.NotIn] [o] pos) (dB (dDIn true tk td)) := by
  obtain ⟨te1, p1, s1⟩ := ho.ok
  obtain ⟨te2, p2, s2⟩ := hi.ok
  exact ⟨_, pt_cmp (pc_dnotin hu p2 p1) hm, dcB (notin_sem hsh (i := i) (o := o) s2 s1)⟩
end
end DL
set_option maxRecDepth 100000
set_option maxHeartbeats 4000000
/-! DL7: slices, built-in calls by data. -/
namespace DL
open PySem PySem.Spec PyProof.Rows L2
variable {T : List (Addr × Str)}

theorem bt_len : bootBuiltins "len" = some (.builtin "len") := by decide +kernel
theorem bt_list : bootBuiltins "list" = some (.type "list") := by decide +kernel
theorem bt_tuple : bootBuiltins "tuple" = some (.type "tuple") := by decide +kernel
theorem bt_int : bootBuiltins "int" = some (.type "int") := by decide +kernel
theorem bt_bool : bootBuiltins "bool" = some (.type "bool") := by decide +kernel
theorem bt_str : bootBuiltins "str" = some (.type "str") := by decide +kernel
theorem bt_dict : bootBuiltins "dict" = some (.type "dict") := by decide +kernel
theorem bt_set : bootBuiltins "set" = some (.type "set") := by decide +kernel
theorem bt_min : bootBuiltins "min" = some (.builtin "min") := by decide +kernel
theorem bt_max : bootBuiltins "max" = some (.builtin "max") := by decide +kernel
theorem bt_sum : bootBuiltins "sum" = some (.builtin "sum") := by decide +kernel
theorem bt_abs : bootBuiltins "abs" = some (.builtin "abs") := by decide +kernel
theorem bt_sorted : bootBuiltins "sorted" = some (.builtin "sorted") := by decide +kernel
theorem bt_isinstance : bootBuiltins "isinstance" = some (.builtin "isinstance") := by decide +kernel
theorem bt_all : bootBuiltins "all" = some (.builtin "all") := by decide +kernel
theorem bt_any : bootBuiltins "any" = some (.builtin "any") := by decide +kernel

/-! ### slices -/
abbrev DTo := List Sl → (Option Int → Prop) → Zs → Prop
structure DO (X : Cx) (W : WT) (e : Option Expr) (t : DTo) : Prop where
  ok : ∃ te : TO, PO X e te ∧ ∀ (b : B) (F H : Hp) (σ : L2.St) (ρ : List Sl) (Q : Option Int → Hp → Prop) (P : Option Int → Prop) (Z : Zs), Rep X.K b F H σ ρ → ZOk X.mg X.K b F Z W → t ρ P Z → (∀ o F' H', P o → Grow b.T F H F' H' → Q o H') → te σ H Q
def dNoP : DTo := fun _ P _ => P none
def dPart (t : DT) : DTo := fun ρ P Z => t ρ (fun x => ∃ i, x = .int i ∧ P (some i)) Z
def cutD (xs : List D) (lo hi : Option Int) : List D := (xs.drop (HT.sIx xs.length 0 lo)).take (HT.sIx xs.length xs.length hi - HT.sIx xs.length 0 lo)
theorem cut_dq {F : Hp} {xs : List V} {ds : List D} (q : DqA F xs ds) (lo hi : Option Int) : DqA F (cutV xs lo hi) (cutD ds lo hi) := by
  unfold cutV cutD
  rw [q.length]
  exact (q.drop _).take _
section
variable {X : Cx} {W : WT} {ma mb m : Md} {pos p2 : Pos}
theorem do_none : DO X W none dNoP := ⟨_, po_none, fun b F H σ ρ Q P Z R z q k => k none F H q (.refl R.g)⟩
theorem do_some {e : Expr} {t : DT} (h : DE X W .fz e t) : DO X W (some e) (dPart t) := by
  obtain ⟨te, p, s⟩ := h.ok
  refine ⟨_, po_some p, fun b F H σ ρ Q P Z R z q k => s b F H σ ρ _ _ Z R z q fun d v F' H' p g r _ => ?_⟩
  obtain ⟨i, rfl, p⟩ := p
  cases r
  exact ⟨i, rfl, k _ F' H' p g⟩
/-- of a list, of a tuple (not the whole of it) -/
def cutR (x : D) (lo hi : Option Int) (P : D → Prop) : Prop := match x with
  | .list ds => P (.list (cutD ds lo hi))
  | .tuple ds => ¬ (HT.sIx ds.length 0 lo = 0 ∧ HT.sIx ds.length ds.length hi = ds.length) ∧ P (.tuple (cutD ds lo hi))
  | _ => False
def dSlice (t : DT) (tl th : DTo) : DT := fun ρ P Z => t ρ (fun x => tl ρ (fun lo => th ρ (fun hi => cutR x lo hi P) Z) Z) Z
theorem de_slice {e : Expr} {lo hi : Option Expr} {t : DT} {tl th : DTo} (h : DE X W m e t) (hl : DO X W lo tl) (hh : DO X W hi th) (hsh : m.sh = true := by rfl) : DE X W .fz (.Subscript e (.Slice lo hi none p2) pos) (dSlice t tl th) := by
  obtain ⟨te, p, s⟩ := h.ok
  obtain ⟨te1, p1, s1⟩ := hl.ok
  obtain ⟨te2, p2, s2⟩ := hh.ok
  refine ⟨_, pe_slice (sl_list.or sl_tup) p p1 p2, fun b F H σ ρ Q P Z R z q k => s b F H σ ρ _ _ Z R z q fun x v F1 H1 q1 g1 r _ => s1 b F1 H1 σ ρ _ _ Z (R.grow g1) (z.mono g1.f) q1 fun l F2 H2 q2 g2 => s2 b F2 H2 σ ρ _ _ Z ((R.grow g1).grow g2) (z.mono (g1.f.trans g2.f)) q2 fun u F3 H3 q3 g3 => ?_⟩
  have g0 := R.g.trans (g1.trans (g2.trans g3))
  have r3 := ((r.grow g2).grow g3).rd hsh g0
  cases x with
  | list ds =>
    obtain ⟨a, xs, rfl, sq, dq⟩ := vr_lst g0.s r3
    refine .inl ⟨a, xs, rfl, sq, fun p np => ?_⟩
    have g4 := Grow.new g0 (HO.lst (cutV xs l u)) np
    exact k _ _ _ _ q3 (g1.trans (g2.trans (g3.trans g4))) (Dq.lst upd_same ((cut_dq dq l u).mono g4.f)) trivial
  | tuple ds =>
    obtain ⟨a, xs, rfl, sq, dq⟩ := vr_tup g0.s r3
    refine .inr ⟨a, xs, rfl, sq, by rw [dq.length]; exact q3.1, fun p np => ?_⟩
    have g4 := Grow.new g0 (HO.tup (cutV xs l u)) np
    exact k _ _ _ _ q3.2 (g1.trans (g2.trans (g3.trans g4))) (Dq.tup upd_same ((cut_dq dq l u).mono g4.f)) trivial
  | _ => exact q3.elim
def cutN (x : D) (lo hi : Option Int) (P : D → Prop) : Prop := ∃ ds, x = .list ds ∧ P (.list (cutD ds lo hi))
def dSliceN (t : DT) (tl th : DTo) : DT := fun ρ P Z => t ρ (fun x => tl ρ (fun lo => th ρ (fun hi => cutN x lo hi P) Z) Z) Z
theorem de_sliceN {e : Expr} {lo hi : Option Expr} {t : DT} {tl th : DTo} (h : DE X W m e t) (hl : DO X W lo tl) (hh : DO X W hi th) (hsh : m.sh = true := by rfl) : DE X W .nw (.Subscript e (.Slice lo hi none p2) pos) (dSliceN t tl th) := by
  obtain ⟨te, p, s⟩ := h.ok
  obtain ⟨te1, p1, s1⟩ := hl.ok
  obtain ⟨te2, p2, s2⟩ := hh.ok
  refine ⟨_, pe_slice sl_list p p1 p2, fun b F H σ ρ Q P Z R z q k => s b F H σ ρ _ _ Z R z q fun x v F1 H1 q1 g1 r _ => s1 b F1 H1 σ ρ _ _ Z (R.grow g1) (z.mono g1.f) q1 fun l F2 H2 q2 g2 => s2 b F2 H2 σ ρ _ _ Z ((R.grow g1).grow g2) (z.mono (g1.f.trans g2.f)) q2 fun u F3 H3 q3 g3 => ?_⟩
  have g0 := R.g.trans (g1.trans (g2.trans g3))
  have gg := g1.trans (g2.trans g3)
  obtain ⟨ds, rfl, q3⟩ := q3
  obtain ⟨a, xs, rfl, sq, dq⟩ := vr_lst g0.s (((r.grow g2).grow g3).rd hsh g0)
  refine ⟨a, xs, rfl, sq, fun p np => ?_⟩
  have g4 := Grow.own g0 (HO.lst (cutV xs l u)) np
  exact k _ _ _ _ q3 (gg.trans g4) (.inl ⟨p, rfl, g0.s.free np, own_mkL upd_same (cut_dq dq l u)⟩) fun q e => by cases e; exact gg.h.free np
end

section
variable {K : PySem.W.Frag} {m ma mb : Md}
theorem vrs1 {b : B} {F H : Hp} {ms : List Md} {xs : List V} {d : D} (r : VRs K b F H (m :: []) xs [d]) : ∃ v, xs = [v] ∧ VR m K b F H v d := by
  cases r with
  | cons r q =>
    cases q
    exact ⟨_, rfl, r⟩
/-! ### len, list, tuple -/
def lenR : List D → (D → Prop) → Prop := fun ds P => ∃ x, ds = [x] ∧ match x with
  | .list xs => P (.int xs.length)
  | .tuple xs => P (.int xs.length)
  | .str s => s.length ≤ 100000 ∧ P (.int s.length)
  | _ => False
theorem ra_len (ha : m ≠ .n2 := by intro z; cases z) : RAok K [m] .fz (fun xs H Q => ∃ x n, xs = [x] ∧ LenV K x H n ∧ Q (.int n) H) lenR := fun b F H xs ds Q P g0 r h k => by
  obtain ⟨x, rfl, h⟩ := h
  obtain ⟨v, rfl, r1⟩ := vrs1 (ms := []) r
  have r := r1
  have r := r.rt g0 fun z => absurd z ha
  cases x with
  | list ds =>
    obtain ⟨a, xs, rfl, sq, dq⟩ := vrt_lst g0.s r
    refine ⟨_, _, rfl, .inl ⟨xs, sq, rfl⟩, ?_⟩
    rw [dq.len]
    exact k _ _ F H h (.refl g0) (Dq.int _) trivial
  | tuple ds =>
    obtain ⟨a, xs, rfl, sq, dq⟩ := vrt_tup g0.s r
    refine ⟨_, _, rfl, .inr ⟨xs, sq, rfl⟩, ?_⟩
    rw [dq.len]
    exact k _ _ F H h (.refl g0) (Dq.int _) trivial
  | str s =>
    rw [vr_str (vrt_atm rfl r)]
    exact ⟨_, _, rfl, ⟨sz5 h.1, rfl⟩, k _ _ F H h.2 (.refl g0) (Dq.int _) trivial⟩
  | _ => exact h.elim
def listR : List D → (D → Prop) → Prop := fun ds P => ∃ x xs, ds = [x] ∧ (x = .list xs ∨ x = .tuple xs) ∧ P (.list xs)
theorem ra_list (hsh : m.sh = true := by rfl) : RAok K [m] .nw (fun xs H Q => ∃ p ys, xs = [.ref p] ∧ (SqL K H p ys ∨ SqT K H p ys) ∧ ∀ l, H l = none → Q (.ref l) (upd H l (.lst ys))) listR := fun b F H xs ds Q P g0 r h k => by
  obtain ⟨x, ls, rfl, e, p⟩ := h
  obtain ⟨v, rfl, r1⟩ := vrs1 (ms := []) r
  have r := r1
  have r := r.rd hsh g0
  have fin : ∀ (ys : List V), DqA F ys ls → ∀ l, H l = none → Q (.ref l) (upd H l (.lst ys)) := fun ys dq l nl => by
    have g4 := Grow.own g0 (HO.lst ys) nl
    exact k _ _ _ _ p g4 (.inl ⟨l, rfl, g0.s.free nl, own_mkL upd_same dq⟩) fun q e => by cases e; exact nn_of nl
  rcases e with rfl | rfl
  · obtain ⟨a, xs, rfl, sq, dq⟩ := vr_lst g0.s r
    exact ⟨a, xs, rfl, .inl sq, fin xs dq⟩
  · obtain ⟨a, xs, rfl, sq, dq⟩ := vr_tup g0.s r
    exact ⟨a, xs, rfl, .inr sq, fin xs dq⟩
/-- of a list, of a tuple that stands still -/
def tupleR : List D → (D → Prop) → Prop := fun ds P => ∃ x xs, ds = [x] ∧ (x = .list xs ∨ x = .tuple xs) ∧ P (.tuple xs)
theorem ra_tuple : RAok K [.fz] .fz (fun xs H Q => ∃ p ys, xs = [.ref p] ∧ ((SqL K H p ys ∧ ∀ l, H l = none → Q (.ref l) (upd H l (.tup ys))) ∨ (SqT K H p ys ∧ Q (.ref p) H))) tupleR := fun b F H xs ds Q P g0 r h k => by
  obtain ⟨x, ls, rfl, e, p⟩ := h
  obtain ⟨v, rfl, r1⟩ := vrs1 (ms := []) r
  have r := r1
  rcases e with rfl | rfl
  · cases r with
    | lst e q =>
      rename_i a xs
      refine ⟨a, xs, rfl, .inl ⟨.of (g0.s _ _ e), fun l nl => ?_⟩⟩
      have g4 := Grow.new g0 (HO.tup xs) nl
      exact k _ _ _ _ p g4 (Dq.tup upd_same (q.mono g4.f)) trivial
  · cases r with
    | tup e q => exact ⟨_, _, rfl, .inr ⟨.of (g0.s _ _ e), k _ _ F H p (.refl g0) (Dq.tup e q) trivial⟩⟩
/-- of any list -/
def tupleL : List D → (D → Prop) → Prop := fun ds P => ∃ xs, ds = [.list xs] ∧ P (.tuple xs)
theorem ra_tupleL (hsh : m.sh = true := by rfl) : RAok K [m] .fz (fun xs H Q => ∃ p ys, xs = [.ref p] ∧ ((SqL K H p ys ∧ ∀ l, H l = none → Q (.ref l) (upd H l (.tup ys))) ∨ (SqT K H p ys ∧ Q (.ref p) H))) tupleL := fun b F H xs ds Q P g0 r h k => by
  obtain ⟨ls, rfl, p⟩ := h
  obtain ⟨v, rfl, r1⟩ := vrs1 (ms := []) r
  have r := r1
  obtain ⟨a, xs, rfl, sq, dq⟩ := vr_lst g0.s (r.rd hsh g0)
  refine ⟨a, xs, rfl, .inl ⟨sq, fun l nl => ?_⟩⟩
  have g4 := Grow.new g0 (HO.tup xs) nl
  exact k _ _ _ _ p g4 (Dq.tup upd_same (dq.mono g4.f)) trivial
/-! ### min, max, abs, int -/
theorem vrs2 {b : B} {F H : Hp} {xs : List V} {d e : D} (r : VRs K b F H [ma, mb] xs [d, e]) : ∃ v w, xs = [v, w] ∧ VR ma K b F H v d ∧ VR mb K b F H w e := by
  cases r with
  | cons r q =>
    cases q with
    | cons r2 q =>
      cases q
      exact ⟨_, _, rfl, r, r2⟩
def min2R : List D → (D → Prop) → Prop := fun ds P => ∃ i j, ds = [.int i, .int j] ∧ P (.int (min i j))
def max2R : List D → (D → Prop) → Prop := fun ds P => ∃ i j, ds = [.int i, .int j] ∧ P (.int (max i j))
theorem ra_min2 (ha : ma.sh = true := by rfl) (hb : mb.sh = true := by rfl) : RAok K [ma, mb] .fz (fun xs H Q => ∃ i j, xs = [.int i, .int j] ∧ Q (.int (if j < i then j else i)) H) min2R := fun b F H xs ds Q P g0 r h k => by
  obtain ⟨i, j, rfl, p⟩ := h
  obtain ⟨v, w, rfl, r1, r2⟩ := vrs2 r
  refine ⟨i, j, by rw [vr_int (r1.rd ha g0), vr_int (r2.rd hb g0)], ?_⟩
  have e : (if j < i then j else i) = min i j := by omega
  rw [e]
  exact k _ _ F H p (.refl g0) (Dq.int _) trivial
theorem ra_max2 (ha : ma.sh = true := by rfl) (hb : mb.sh = true := by rfl) : RAok K [ma, mb] .fz (fun xs H Q => ∃ i j, xs = [.int i, .int j] ∧ Q (.int (if j > i then j else i)) H) max2R := fun b F H xs ds Q P g0 r h k => by
  obtain ⟨i, j, rfl, p⟩ := h
  obtain ⟨v, w, rfl, r1, r2⟩ := vrs2 r
  refine ⟨i, j, by rw [vr_int (r1.rd ha g0), vr_int (r2.rd hb g0)], ?_⟩
  have e : (if j > i then j else i) = max i j := by omega
  rw [e]
  exact k _ _ F H p (.refl g0) (Dq.int _) trivial
def absR : List D → (D → Prop) → Prop := fun ds P => ∃ i, ds = [.int i] ∧ P (.int (if i < 0 then -i else i))
theorem ra_abs (hsh : m.sh = true := by rfl) : RAok K [m] .fz (fun xs H Q => ∃ i, xs = [.int i] ∧ Q (.int (if i < 0 then -i else i)) H) absR := fun b F H xs ds Q P g0 r h k => by
  obtain ⟨i, rfl, p⟩ := h
  obtain ⟨v, rfl, r1⟩ := vrs1 (ms := []) r
  have r := r1
  exact ⟨i, by rw [vr_int (r.rd hsh g0)], k _ _ F H p (.refl g0) (Dq.int _) trivial⟩
def intR : List D → (D → Prop) → Prop := fun ds P => ∃ x, ds = [x] ∧ match x with
  | .int i => P (.int i)
  | .bool c => P (.int (if c then 1 else 0))
  | _ => False
theorem ra_int (hsh : m.sh = true := by rfl) : RAok K [m] .fz (fun xs H Q => (∃ i, xs = [.int i] ∧ Q (.int i) H) ∨ ∃ k, xs = [.bl k] ∧ Q (.int (if k then 1 else 0)) H) intR := fun b F H xs ds Q P g0 r h k => by
  obtain ⟨x, rfl, h⟩ := h
  obtain ⟨v, rfl, r1⟩ := vrs1 (ms := []) r
  have r := r1
  cases x with
  | int i => exact .inl ⟨i, by rw [vr_int (r.rd hsh g0)], k _ _ F H h (.refl g0) (Dq.int _) trivial⟩
  | bool i => exact .inr ⟨i, by rw [vr_bl (r.rd hsh g0)], k _ _ F H h (.refl g0) (Dq.int _) trivial⟩
  | _ => exact h.elim
/-! ### sum, min, max of ints in a row -/
def intsD : List D → Option (List Int)
  | [] => some []
  | .int i :: r => (intsD r).map (i :: ·)
  | _ :: _ => none
@[simp] theorem intsD_map : ∀ ns : List Int, intsD (ns.map .int) = some ns
  | [] => rfl
  | n :: ns => by
    show (intsD (ns.map .int)).map (n :: ·) = _
    rw [intsD_map ns]
    rfl
theorem intsD_eq : ∀ {ds : List D} {ns : List Int}, intsD ds = some ns → ds = ns.map .int
  | [], ns, h => by
    simp only [intsD, Option.some.injEq] at h
    subst h
    rfl
  | .int i :: r, ns, h => by
    simp only [intsD, Option.map_eq_some_iff] at h
    obtain ⟨l, h1, rfl⟩ := h
    rw [intsD_eq h1]
    rfl
  | .none :: _, _, h => by simp [intsD] at h
  | .bool _ :: _, _, h => by simp [intsD] at h
  | .str _ :: _, _, h => by simp [intsD] at h
  | .list _ :: _, _, h => by simp [intsD] at h
  | .tuple _ :: _, _, h => by simp [intsD] at h
  | .dict _ :: _, _, h => by simp [intsD] at h
theorem ints_dq {F : Hp} : ∀ {ns : List Int} {vs : List V}, DqA F vs (ns.map .int) → vs = ns.map V.int
  | [], _, h => by cases h; rfl
  | n :: ns, _, h => by
    cases h with
    | cons a b =>
      cases a
      rw [ints_dq b]
      rfl
def lmin : List Int → Int
  | [] => 0
  | [a] => a
  | a :: b :: r => min a (lmin (b :: r))
def lmax : List Int → Int
  | [] => 0
  | [a] => a
  | a :: b :: r => max a (lmax (b :: r))
theorem lmin_spec : ∀ {ns : List Int}, ns ≠ [] → lmin ns ∈ ns ∧ ∀ y ∈ ns, lmin ns ≤ y
  | [], h => absurd rfl h
  | [a], _ => by simp [lmin]
  | a :: b :: r, _ => by
    obtain ⟨h1, h2⟩ := lmin_spec (ns := b :: r) (by simp)
    refine ⟨?_, fun y hy => ?_⟩
    · simp only [lmin]
      by_cases c : a ≤ lmin (b :: r)
      · rw [Int.min_eq_left c]
        simp
      · rw [Int.min_eq_right (by omega)]
        exact List.mem_cons_of_mem _ h1
    · simp only [lmin]
      rcases List.mem_cons.mp hy with rfl | hy
      · omega
      · have := h2 y hy
        omega
theorem lmax_spec : ∀ {ns : List Int}, ns ≠ [] → lmax ns ∈ ns ∧ ∀ y ∈ ns, y ≤ lmax ns
  | [], h => absurd rfl h
  | [a], _ => by simp [lmax]
  | a :: b :: r, _ => by
    obtain ⟨h1, h2⟩ := lmax_spec (ns := b :: r) (by simp)
    refine ⟨?_, fun y hy => ?_⟩
    · simp only [lmax]
      by_cases c : lmax (b :: r) ≤ a
      · rw [Int.max_eq_left c]
        simp
      · rw [Int.max_eq_right (by omega)]
        exact List.mem_cons_of_mem _ h1
    · simp only [lmax]
      rcases List.mem_cons.mp hy with rfl | hy
      · omega
      · have := h2 y hy
        omega
end
/-! the walks over a tuple of ints -/
section
variable {prog : Program} {w : World} {A : Around} {E : Value → Shared → Prop} {s : Shared} {l : Addr} {its : List Value} {ns : List Int} {Q : Value → Shared → Prop}
theorem iter_intTup {xs : Array (Int × Tok)} {Q : Value → Shared → Prop} (hl : s.heap.IsTuple l (intItems xs))
    (h : ∀ s₂ : Shared, (∃ o, s₂ = { s with heap := s.heap.push o }) →
      (s₂.heap.IsTupleIter s.heap.objs.size l 0 ∧ s₂.heap.IsTuple l (intItems xs)) → (∀ b ∈ [s.heap.objs.size, l], b < s₂.heap.objs.size) → l ≠ s.heap.objs.size → Q (.ref s.heap.objs.size) s₂) :
    wpAny (model prog w) A (pyIter (.ref l)) Q E s := by
  have hlt : l < s.heap.objs.size := by obtain ⟨_, e, _⟩ := hl; exact Heap.lt_size e
  refine wpAny_pyIter_tuple hl (h _ ⟨_, rfl⟩ ⟨⟨_, Heap.get?_push_size _ rfl, rfl, rfl⟩, hl.push _⟩ (fun b hb => ?_) (Nat.ne_of_lt hlt))
  show b < (s.heap.push _).objs.size
  rw [Heap.size_push]
  rcases List.mem_cons.mp hb with rfl | hb
  · exact Nat.lt_succ_self _
  · rcases List.mem_cons.mp hb with rfl | hb
    · exact Nat.lt_succ_of_lt hlt
    · cases hb
theorem oldT {o : Obj} {h' : Heap} (hk : ∀ b ob, b ∉ [s.heap.objs.size] → (s.heap.push o).get? b = some ob → h'.get? b = some ob) :
    ∀ b ob, s.heap.get? b = some ob → h'.get? b = some ob := fun b ob e => by
  refine hk b ob (fun hm => ?_) (Heap.get?_push_of_some _ e)
  rcases List.mem_cons.mp hm with e1 | hm
  · exact absurd (e1 ▸ Heap.lt_size e) (Nat.lt_irrefl _)
  · cases hm
theorem sumT_raw (hh : A.handled = none) (hl : s.heap.IsTuple l its.toArray) (hi : IntsAre its ns)
    (h : ∀ h' tk t', (∀ b o, s.heap.get? b = some o → h'.get? b = some o) → Q (.int ns.sum t') { s with heap := h', toks := tk }) : wpAny (model prog w) A (call (.builtin "sum") [.ref l]) Q E s := by
  obtain ⟨xs, e⟩ := hi.allInts.items
  have hn : numsOf (intItems xs).toList = ns := by rw [← e]; exact hi.numsOf
  rw [nums_intItems] at hn
  rw [e] at hl
  refine call_sum_walkG (iter_intTup hl fun s₂ e st hfp hlI => ?_)
  obtain ⟨o, rfl⟩ := e
  refine ⟨_, _, _, _, _, _, numAt xs, rfl, Walks.tuple (A := A.in1) hh _ l hlI (intItems xs), st, hfp, (fun _ _ => intItems_at), fun h' tk t' hk => ?_⟩
  have := h h' tk t' (oldT hk)
  rw [preSum_eq, List.take_of_length_le (by simp [intItems]), hn]
  exact this
theorem maxT_raw (hh : A.handled = none) (hl : s.heap.IsTuple l its.toArray) (hi : IntsAre its ns) (hne : 0 < ns.length)
    (h : ∀ h' tk M t', (∀ b o, s.heap.get? b = some o → h'.get? b = some o) → M ∈ ns → (∀ a, a ∈ ns → a ≤ M) → Q (.int M t') { s with heap := h', toks := tk }) : wpAny (model prog w) A (call (.builtin "max") [.ref l]) Q E s := by
  obtain ⟨xs, e⟩ := hi.allInts.items
  have hn : numsOf (intItems xs).toList = ns := by rw [← e]; exact hi.numsOf
  rw [nums_intItems] at hn
  subst hn
  rw [e] at hl
  have hsz : 0 < xs.size := by simpa using hne
  refine call_max_walk (iter_intTup hl fun s₂ e st hfp hlI => ?_)
  obtain ⟨o, rfl⟩ := e
  refine ⟨_, _, _, _, _, _, _, rfl, Walks.tuple (A := A.in1) hh _ l hlI (intItems xs), st, hfp, by simpa [intItems] using hsz, CmpOf.ints_gt (numAt xs) (fun _ _ => intItems_at), fun v h' tk hv hk => ?_⟩
  obtain ⟨t, rfl⟩ := intItems_at hv
  have hv' : ∃ k, k = (intItems xs).size - 1 := ⟨_, rfl⟩
  obtain ⟨h1, h2⟩ := argBest_gt (numAt xs) ((intItems xs).size - 1)
  have hs2 : (intItems xs).size = xs.size := by simp [intItems]
  refine h h' tk _ t (oldT hk) ?_ fun a ha => ?_
  · rw [numAt_eq]; exact PySem.getD_mem (by rw [List.length_map, Array.length_toList]; omega)
  · obtain ⟨j, hj, rfl⟩ := mem_getD ha
    rw [List.length_map, Array.length_toList] at hj
    rw [← numAt_eq]; exact h2 j (by omega)
theorem minT_raw (hh : A.handled = none) (hl : s.heap.IsTuple l its.toArray) (hi : IntsAre its ns) (hne : 0 < ns.length)
    (h : ∀ h' tk M t', (∀ b o, s.heap.get? b = some o → h'.get? b = some o) → M ∈ ns → (∀ a, a ∈ ns → M ≤ a) → Q (.int M t') { s with heap := h', toks := tk }) : wpAny (model prog w) A (call (.builtin "min") [.ref l]) Q E s := by
  obtain ⟨xs, e⟩ := hi.allInts.items
  have hn : numsOf (intItems xs).toList = ns := by rw [← e]; exact hi.numsOf
  rw [nums_intItems] at hn
  subst hn
  rw [e] at hl
  have hsz : 0 < xs.size := by simpa using hne
  refine call_min_walk (iter_intTup hl fun s₂ e st hfp hlI => ?_)
  obtain ⟨o, rfl⟩ := e
  refine ⟨_, _, _, _, _, _, _, rfl, Walks.tuple (A := A.in1) hh _ l hlI (intItems xs), st, hfp, by simpa [intItems] using hsz, CmpOf.ints_lt (numAt xs) (fun _ _ => intItems_at), fun v h' tk hv hk => ?_⟩
  obtain ⟨t, rfl⟩ := intItems_at hv
  obtain ⟨h1, h2⟩ := argBest_lt (numAt xs) ((intItems xs).size - 1)
  have hs2 : (intItems xs).size = xs.size := by simp [intItems]
  refine h h' tk _ t (oldT hk) ?_ fun a ha => ?_
  · rw [numAt_eq]; exact PySem.getD_mem (by rw [List.length_map, Array.length_toList]; omega)
  · obtain ⟨j, hj, rfl⟩ := mem_getD ha
    rw [List.length_map, Array.length_toList] at hj
    rw [← numAt_eq]; exact h2 j (by omega)
end
section
variable {X : Cx}
def rSeqI (K : PySem.W.Frag) (C : List Int → Prop) (f : List Int → Int) : List V → Hp → VK → Prop := fun vs H Q => ∃ (a : Addr) (ns : List Int), vs = [V.ref a] ∧ (SqL K H a (ns.map V.int) ∨ SqT K H a (ns.map V.int)) ∧ C ns ∧ Q (.int (f ns)) H
theorem cr_sumA (hc : X.calm = true) : CallR X (.builtin "sum") (rSeqI X.K (fun _ => True) List.sum) := by
  intro pins s σ H vs us Q I r h
  obtain ⟨a, ns, rfl, hs, _, q⟩ := h
  rcases hs with hs | hs
  · exact cr_sum hc pins s σ H _ us Q I r ⟨a, ns, rfl, hs, q⟩
  · obtain ⟨its, rv, hl, _⟩ := I.tuple hs
    rw [Vals.ref1 r]
    exact sumT_raw (I.ok.hd hc) hl rv.ints fun h' tk t' hk => ⟨.int _, H, I.kept hk, ⟨_, rfl⟩, q⟩
theorem cr_maxA (hc : X.calm = true) : CallR X (.builtin "max") (rSeqI X.K (fun ns => ns ≠ []) lmax) := by
  intro pins s σ H vs us Q I r h
  obtain ⟨a, ns, rfl, hs, hne, q⟩ := h
  obtain ⟨l1, l2⟩ := lmax_spec hne
  have hp : 0 < ns.length := List.length_pos_iff.mpr hne
  rcases hs with hs | hs
  · refine cr_max hc pins s σ H _ us Q I r ⟨a, ns, rfl, hs, hp, fun m h1 h2 => ?_⟩
    have e : m = lmax ns := by have := h2 _ l1; have := l2 _ h1; omega
    rw [e]
    exact q
  · obtain ⟨its, rv, hl, _⟩ := I.tuple hs
    rw [Vals.ref1 r]
    refine maxT_raw (I.ok.hd hc) hl rv.ints hp fun h' tk m t' hk h1 h2 => ?_
    have e : m = lmax ns := by have := h2 _ l1; have := l2 _ h1; omega
    exact ⟨.int _, H, I.kept hk, ⟨_, rfl⟩, by rw [e]; exact q⟩
theorem cr_minA (hc : X.calm = true) : CallR X (.builtin "min") (rSeqI X.K (fun ns => ns ≠ []) lmin) := by
  intro pins s σ H vs us Q I r h
  obtain ⟨a, ns, rfl, hs, hne, q⟩ := h
  obtain ⟨l1, l2⟩ := lmin_spec hne
  have hp : 0 < ns.length := List.length_pos_iff.mpr hne
  rcases hs with hs | hs
  · refine cr_min hc pins s σ H _ us Q I r ⟨a, ns, rfl, hs, hp, fun m h1 h2 => ?_⟩
    have e : m = lmin ns := by have := h2 _ l1; have := l2 _ h1; omega
    rw [e]
    exact q
  · obtain ⟨its, rv, hl, _⟩ := I.tuple hs
    rw [Vals.ref1 r]
    refine minT_raw (I.ok.hd hc) hl rv.ints hp fun h' tk m t' hk h1 h2 => ?_
    have e : m = lmin ns := by have := h2 _ l1; have := l2 _ h1; omega
    exact ⟨.int _, H, I.kept hk, ⟨_, rfl⟩, by rw [e]; exact q⟩
end
section
variable {K : PySem.W.Frag} {m : Md}
def seqIR (C : List Int → Prop) (f : List Int → Int) : List D → (D → Prop) → Prop := fun ds P => ∃ x xs ns, ds = [x] ∧ (x = .list xs ∨ x = .tuple xs) ∧ intsD xs = some ns ∧ C ns ∧ P (.int (f ns))
theorem ra_seqI {C : List Int → Prop} {f : List Int → Int} (hsh : m.sh = true := by rfl) : RAok K [m] .fz (rSeqI K C f) (seqIR C f) := fun b F H xs ds Q P g0 r h k => by
  obtain ⟨x, ls, ns, rfl, e, en, c, p⟩ := h
  have en := intsD_eq en
  subst en
  obtain ⟨v, rfl, r1⟩ := vrs1 (ms := []) r
  have r := r1
  have r := r.rd hsh g0
  rcases e with rfl | rfl
  · obtain ⟨a, xs, rfl, sq, dq⟩ := vr_lst g0.s r
    rw [ints_dq dq] at sq
    exact ⟨a, ns, rfl, .inl sq, c, k _ _ F H p (.refl g0) (Dq.int _) trivial⟩
  · obtain ⟨a, xs, rfl, sq, dq⟩ := vr_tup g0.s r
    rw [ints_dq dq] at sq
    exact ⟨a, ns, rfl, .inr sq, c, k _ _ F H p (.refl g0) (Dq.int _) trivial⟩
end
end DL
set_option maxRecDepth 100000
set_option maxHeartbeats 4000000
/-! DL8: sorted, isinstance. -/
namespace DL
open PySem PySem.Spec PyProof.Rows L2
variable {T : List (Addr × Str)}

/-! ### sorted -/
def SortOk (ds : List D) : Prop := PySem.W.AllAlike ds ∧ PySem.W.Sortable ds ∧ ds.length ≤ 100000 ∧ ∀ d ∈ ds, Shp 8 d
def srtD (ds : List D) : List D := ds.mergeSort (PySem.W.dataLe false id)
def rSortD (K : PySem.W.Frag) : List V → Hp → VK → Prop := fun vs H Q => ∃ (a : Addr) (xs : List V) (F : Hp) (ds : List D), vs = [V.ref a] ∧ SqL K H a xs ∧ Same F H ∧ DqA F xs ds ∧ SortOk ds ∧
  ∀ ys p, H p = none → DqA F ys (srtD ds) → Q (.ref p) (upd H p (.lst ys))
theorem each_of_dq {X : Cx} {pins : List (Addr × Obj)} {σ : L2.St} {H F : Hp} {s : Shared} (I : Inv X pins σ H s) (sm : Same F H) : ∀ {ds : List D} {xs : List V} {its : List Value}, DqA F xs ds → Vals xs its → (∀ d ∈ ds, Shp 8 d) →
    PySem.W.EachIs (fun u d => ∃ v, RelV v u ∧ Dq F v d) its ds ∧ PySem.W.EachIs (fun u d => ∃ as, Reads s.heap u (id d) as) its ds
  | [], _, _, q, r, _ => by
    cases q
    cases r
    exact ⟨.nil, .nil⟩
  | d :: ds, _, _, q, r, h => by
    cases q with
    | cons q1 q2 =>
      cases r with
      | cons r1 r2 =>
        obtain ⟨a, b⟩ := each_of_dq I sm q2 r2 (fun x hx => h x (by simp [hx]))
        exact ⟨.cons ⟨_, r1, q1⟩ a, .cons (Dp.reads I d _ _ (q1.dp sm (shp_ok 8 d (h d (by simp))).2.2) r1) b⟩
theorem dq_of_each {F : Hp} : ∀ {ds : List D} {out : List Value}, PySem.W.EachIs (fun u d => ∃ v, RelV v u ∧ Dq F v d) out ds → ∃ ys, Vals ys out ∧ DqA F ys ds
  | _, _, .nil => ⟨[], .nil, .nil⟩
  | _, _, .cons ⟨v, r, q⟩ t => by
    obtain ⟨ys, a, b⟩ := dq_of_each t
    exact ⟨v :: ys, .cons r a, .cons q b⟩
theorem cr_sortD {X : Cx} (hu : X.A.units + 64 < cLine) : CallR X (.builtin "sorted") (rSortD X.K) := by
  intro pins s σ H vs us Q I r h
  obtain ⟨a, xs, F, ds, rfl, hs, sm, dq, ⟨o1, o2, o3, o4⟩, q⟩ := h
  obtain ⟨its, rv, hl, _⟩ := I.list hs
  rw [Vals.ref1 r]
  obtain ⟨e1, e2⟩ := each_of_dq I sm dq rv o4
  refine PySem.W.sorted_data (enc := id) hl.isList e1 e2 (by rw [List.map_id]; exact o1) (by rw [List.map_id]; exact o2) (sz5 o3) (fun d hd => ?_) fun out h1 h2 => ?_
  · have := (shp_ok 8 d (o4 d hd)).2.1
    show X.A.units + 2 + (id d).depth < cLine
    simp only [id]
    omega
  · obtain ⟨ep, he'⟩ := PyProof.Rows.sortedAll_at s.heap its out.toArray
    obtain ⟨ys, v1, d1⟩ := dq_of_each h2
    have hlen : ys.length ≤ sizeLine := by rw [v1.length, h1]; exact sz5 o3
    exact ⟨.ref _, upd H (s.heap.objs.size + 1) (.lst ys), I.laid (t' := s.toks) (fun _ _ => PyProof.Rows.sortedAll_old) (Nat.le_succ _) ⟨hlen, out, ep, v1, he'⟩, rfl, q ys _ (I.hok.fresh (Nat.le_succ _)) d1⟩
def sortR : List D → (D → Prop) → Prop := fun ds P => ∃ xs, ds = [.list xs] ∧ SortOk xs ∧ P (.list (srtD xs))
theorem ra_sort {K : PySem.W.Frag} {m : Md} (hsh : m.sh = true := by rfl) : RAok K [m] .nw (rSortD K) sortR := fun b F H xs ds Q P g0 r h k => by
  obtain ⟨ls, rfl, o, p⟩ := h
  obtain ⟨v, rfl, r1⟩ := vrs1 (ms := []) r
  obtain ⟨a, xs, rfl, sq, dq⟩ := vr_lst g0.s (r1.rd hsh g0)
  refine ⟨a, xs, F, ls, rfl, sq, g0.s, dq, o, fun ys l nl d => ?_⟩
  have g4 := Grow.own g0 (HO.lst ys) nl
  exact k _ _ _ _ p g4 (.inl ⟨l, rfl, g0.s.free nl, own_mkL upd_same d⟩) fun q e => by cases e; exact nn_of nl

/-! ### isinstance -/
def tyN : D → String
  | .none => "NoneType"
  | .bool _ => "bool"
  | .int _ => "int"
  | .str _ => "str"
  | .list _ => "list"
  | .tuple _ => "tuple"
  | .dict _ => "dict"
def isB (a T : String) : Bool := a == T || (a == "bool" && T == "int")
theorem kit_tab : (["NoneType", "bool", "int", "str", "list", "tuple", "dict"].all fun a => ["bool", "int", "str", "list", "tuple", "dict"].all fun T => decide (kitB a T = some (isB a T))) = true := by decide +kernel
theorem tyN_mem : ∀ d : D, tyN d ∈ ["NoneType", "bool", "int", "str", "list", "tuple", "dict"]
  | .none => by simp [tyN]
  | .bool _ => by simp [tyN]
  | .int _ => by simp [tyN]
  | .str _ => by simp [tyN]
  | .list _ => by simp [tyN]
  | .tuple _ => by simp [tyN]
  | .dict _ => by simp [tyN]
theorem kit_isB {d : D} {T : String} (h : T ∈ ["bool", "int", "str", "list", "tuple", "dict"]) : kitB (tyN d) T = some (isB (tyN d) T) := by
  have q := kit_tab
  rw [List.all_eq_true] at q
  have q2 := q _ (tyN_mem d)
  rw [List.all_eq_true] at q2
  exact of_decide_eq_true (q2 T h)
theorem tyX_of {K : PySem.W.Frag} {b : B} {F H : Hp} {v : V} {d : D} (s : Same F H) (r0 : VR .rt K b F H v d) (lk : lkB d = false) : TyX K H v (.type (tyN d)) := by
  have sqL : ∀ {a : Addr} {xs : List V}, SqL K H a xs → TyX K H (.ref a) (.type "list") := fun {a xs} h => by
    rcases h with (h | ⟨o, h⟩) | ⟨o, its, n, h, c, _⟩
    · exact .base (.lst h)
    · exact .base (.frz h)
    · exact .kList h c
  have sqT : ∀ {a : Addr} {xs : List V}, SqT K H a xs → TyX K H (.ref a) (.type "tuple") := fun {a xs} h => by
    rcases h with (h | ⟨o, h⟩) | ⟨o, its, n, h, c, _⟩
    · exact .base (.tup h)
    · exact .fTuple h
    · exact .kTuple h c
  cases d with
  | none => rw [vr_non (vrt_atm rfl r0)]; exact .base .non
  | bool c => rw [vr_bl (vrt_atm rfl r0)]; exact .base (.bl _)
  | int i => rw [vr_int (vrt_atm rfl r0)]; exact .base (.int _)
  | str x => rw [vr_str (vrt_atm rfl r0)]; exact .base (.str _)
  | list ds =>
    obtain ⟨a, xs, rfl, sq, dq⟩ := vrt_lst s r0
    exact sqL sq
  | tuple ds =>
    obtain ⟨a, xs, rfl, sq, dq⟩ := vrt_tup s r0
    exact sqT sq
  | dict kds =>
    obtain ⟨a, rfl, o⟩ := vr_dict s (vrt_atm rfl r0)
    rcases o with (⟨_, _, _, e, _⟩ | ⟨_, _, _, e, _⟩) | (⟨_, _, _, e, _⟩ | ⟨_, _, _, e, _⟩)
    · exact .base (.dT e)
    · exact .base (.dK e)
    · subst e
      simp [lkB] at lk
    · subst e
      simp [lkB] at lk
section
variable {X : Cx} {W : WT} {m : Md} {p p2 pos : Pos} {e : Expr} {t : DT}
def dIsi (t : DT) (T : String) : DT := fun ρ P Z => t ρ (fun d => lkB d = false ∧ P (.bool (isB (tyN d) T))) Z
theorem isi_sem {T : String} {te : TE} (hT : T ∈ ["bool", "int", "str", "list", "tuple", "dict"]) (hsh : m ≠ .n2)
    (s1 : ∀ (b : B) (F H : Hp) (σ : L2.St) (ρ : List Sl) (Q : VK) (P : D → Prop) (Z : Zs), Rep X.K b F H σ ρ → ZOk X.mg X.K b F Z W → t ρ P Z → Goes m X.K b F H P Q → te σ H Q) :
    ∀ (b : B) (F H : Hp) (σ : L2.St) (ρ : List Sl) (Q : VK) (P : D → Prop) (Z : Zs), Rep X.K b F H σ ρ → ZOk X.mg X.K b F Z W → dIsi t T ρ P Z → Goes .fz X.K b F H P Q → tCB (rIsi X.K) (tCons te (tCons (tC (.ty T)) tNil)) σ H Q := fun b F H σ ρ Q P Z R z q k =>
  s1 b F H σ ρ _ _ Z R z q fun d v F' H' p g r _ => ⟨v, .ty T, .type (tyN d), .type T, isB (tyN d) T, rfl, .ty T, tyX_of (R.grow g).same (r.rt (R.g.trans g) fun z => absurd z hsh) p.1, kit_ty (kit_isB hT), k _ _ F' H' p.2 g (Dq.bl _) trivial⟩
theorem de_isi {T : String} {x : Str} (h : DE X W m e t) (hm : X.mg "isinstance" = none) (hmT : X.mg x = none) (hv : bootBuiltins x = some (.type T)) (hT : T ∈ ["bool", "int", "str", "list", "tuple", "dict"] := by simp) (hg : Gl X "isinstance" := by rfl) (hgT : Gl X x := by rfl) (hn : x ≠ "__name__" := by decide) (hd : (x == ("__debug__" : Str)) = false := by decide)
    (he : starEach (e :: [.Name x p2]) X.env = (false, eval e X.env) :: starEach [.Name x p2] X.env := by rfl) (he2 : starEach (.Name x p2 :: []) X.env = (false, eval (.Name x p2) X.env) :: starEach [] X.env := by rfl) (hpl : (backTo pos (starEach [.Name x p2] X.env)).any (·.1) = false := by rfl) (hsh : m ≠ .n2 := by intro z; cases z) :
    DE X W .fz (.Call (.Name "isinstance" p) [e, .Name x p2] [] pos) (dIsi t T) := by
  obtain ⟨te, p1, s1⟩ := h.ok
  exact ⟨_, pe_callB call_isi hg hm bt_isinstance (pa_cons p1 (pa_cons (pe_bltn hgT hmT hv (show RelV (.ty T) (.type T) from rfl) hn hd) pa_nil he2) he) (by decide) (by decide) he hpl, isi_sem hT hsh s1⟩
end
end DL
set_option maxRecDepth 100000
set_option maxHeartbeats 4000000
/-! DL9: name = [..], a def from the text, the law's end. -/
namespace DL
open PySem PySem.Spec PyProof.Rows L2
variable {T : List (Addr × Str)}
section
variable {X : Cx} {W : WT} {rm : Md} {pos spos : Pos} {tg : Expr}
/-- name = [..] on one line, the name a local: the same as the value stored -/
theorem ds_setLc (i : Nat) {y : Str} {py : Pos} {gv : List Nat} {elt iter : Expr} {ifs : List Expr} {scope : Scope} {own : List (Str × Nat)} {ti : DTi} {g : DGt} {tt : DTt} {te : DT} (hc : X.calm = true) (hN : X.N.Nodup) (hi : DI X W true tg iter ti) (ok : BlkOk X.N X.env.scope scope own)
    (hv : ∀ i ∈ gv, i ∈ own.map (·.2))
    (hg : ∀ (s : Shared) (H : Hp) (C : Addr) (cl : List (Str × Addr)) (fp : List Addr), DG (X.blk s H scope (compEnvC scope cl C X.env) fp) gv tg g)
    (ht : ∀ (s : Shared) (H : Hp) (C : Addr) (cl : List (Str × Addr)) (fp : List Addr), DTs (X.blk s H scope (compEnvC scope cl C X.env) fp) (W0 W.T) ifs tt)
    (he : ∀ (s : Shared) (H : Hp) (C : Addr) (cl : List (Str × Addr)) (fp : List Addr), DE (X.blk s H scope (compEnvC scope cl C X.env) fp) (W0 W.T) .fz elt te)
    (hy : X.N[i]? = some y := by rfl) (hyl : X.env.scope.names.lookup y = some .local := by rfl) (hsw : swapsWith (.ListComp elt [⟨tg, iter, ifs, 0⟩] scope pos) (some (.Name y py)) spos.line X.env = pure true := by exact sw_true rfl rfl rfl (by decide +kernel))
    (hs : ∀ x, foldedSetIterable iter X.env x = pure x := by intro _; rfl) : DS1 X W rm (.Assign [.Name y py] (.ListComp elt [⟨tg, iter, ifs, 0⟩] scope pos) spos) (dSetN i (dLc (own.map (·.2)) ti g tt te)) := by
  obtain ⟨wi, pi, si⟩ := hi.ok
  refine ⟨_, ps_setLc hc hN hy hyl hsw pi ok (g := cG X.K gv g) (tt := cT X.mg X.K (W0 W.T) tt) (te := cE X.mg X.K (W0 W.T) .fz te) (fun s H C cl fp => (hg s H C cl fp).ok) (fun s H C cl fp => (ht s H C cl fp).ok) (fun s H C cl fp => (he s H C cl fp).pe) hs, fun b F H σ ρ D d Z R z q c => ?_⟩
  exact lc_sem hv si b F H σ ρ _ _ Z R z q fun y v F' H' p g r f => c.nx _ F' H' _ g.f (R.put g i r f) p
end
/-! ### a def of the text -/
/-- what the top says of it -/
structure FnF (K : PySem.W.Frag) (mg : Str → Option Value) (x : Str) (st : Stmt) : Prop where
  ex : ∃ (f : Addr) (fd : FuncData), Fun K x x st f fd ∧ mg x = some (.ref f)
theorem fnF_mk {K : PySem.W.Frag} {h : Heap} {mg : Str → Option Value} {x : Str} {st : Stmt} {f : Addr} {oc : Value} {od an : Option Addr} {osl : Array (Option Value)} {kV doc pm cdv ct : Value} (X : K.In h) (G : h.Ns mainGlobals mg) (a : PySem.W.nsIn K mainGlobals x = some (some (.ref f)))
    (l : K.lookup f = some ⟨oc, od, .func (PySem.W.fnOf x x (defArgs st) (defBody st) (defScope st) .none kV doc pm an cdv ct), osl⟩) (c : PySem.W.codeIn K cdv x = true) (k : PySem.W.keepIn K (.ref f) = true) : FnF K mg x st :=
  ⟨⟨f, _, fun_mk l c k, PySem.W.mg_of X G a⟩⟩
section
variable {P : Program} {w : World} {K : PySem.W.Frag} {mg : Str → Option Value} {base : Heap} {T : List (Addr × Str)} {x : Str} {st : Stmt} {N ps : List Str} {k : Nat} {ms : List Md} {rm : Md} {t : DS}
abbrev Bnd (x : Str) (st : Stmt) (ps : List Str) : Prop := ∀ (kV doc pm : Value) (an : Option Addr) (cdv ct : Value) (us : List Value), us.length = ps.length → bindArgs (PySem.W.fnOf x x (defArgs st) (defBody st) (defScope st) .none kV doc pm an cdv ct) ⟨us, []⟩ = pure (ps.zip us)
theorem df0 (TF : FnF K mg x st) (S : FnScope N ps (defScope st)) (hl : ms.length = ps.length) (hbd : Bnd x st ps)
    (hb : ∀ (f : Addr) (cdv : Value) (A : Around) (outer : List Env) (s : Shared) (H : Hp) (E : XK), Room k (A.deeper (envOfC x (defScope st) s.heap.objs.size f cdv)) → DSs (cxOf CX0 P w K mg base N x (defScope st) f cdv A outer s H E).nox (W0 T) rm (defBody st) t) :
    Df P w K mg base T CX0 (k + 1) x ms rm (bodyW0 N.length ms rm t) := by
  obtain ⟨f, fd, F, hm⟩ := TF.ex
  exact ⟨f, fd, ps, fnok0 F S hl (hb f), hm, F.kp, F.binds hbd⟩
theorem dfX (TF : FnF K mg x st) (S : FnScope N ps (defScope st)) (hl : ms.length = ps.length) (hbd : Bnd x st ps)
    (hb : ∀ (f : Addr) (cdv : Value) (A : Around) (outer : List Env) (s : Shared) (H : Hp) (E : XK), Room k (A.deeper (envOfC x (defScope st) s.heap.objs.size f cdv)) → DSs (cxOf (L2.CX P w) P w K mg base N x (defScope st) f cdv A outer s H E) ⟨fun cls d _ H => E cls d H, T⟩ rm (defBody st) t) :
    Df P w K mg base T (L2.CX P w) (k + 1) x ms rm (bodyW N.length ms rm t) := by
  obtain ⟨f, fd, F, hm⟩ := TF.ex
  exact ⟨f, fd, ps, fnokX F S hl (hb f), hm, F.kp, F.binds hbd⟩
/-! ### the law -/
def spLawB (K : PySem.W.Frag) (T : List (Addr × Str)) : Sp := fun vs H Q _ => LamX.Tabs T H ∧ ∃ (a : Addr) (ns : List Int), vs = [.ref a] ∧ SqL K H a (ns.map V.int) ∧ ns.length ≤ 63 ∧ (∀ z ∈ ns, Builtin.Int.intBits z ≤ 1048576) ∧ ∀ v H', v = .bl true → Q v H'
open Classical in
/-- what stands still at the start: the tuples of ints and texts -/
noncomputable def keyH (H : Hp) : Hp := fun a => if ∃ k : List Key, H a = some (.tup (k.map kV)) then H a else none
theorem keyH_some {H : Hp} {a : Addr} {o : HO} (h : keyH H a = some o) : (∃ k : List Key, o = .tup (k.map kV)) ∧ H a = some o := by
  unfold keyH at h
  split at h
  · rename_i c
    obtain ⟨k, c⟩ := c
    rw [c] at h
    cases h
    exact ⟨⟨k, rfl⟩, c⟩
  · cases h
theorem keyH_at {H : Hp} {a : Addr} {k : List Key} (h : H a = some (.tup (k.map kV))) : keyH H a = some (.tup (k.map kV)) := by
  unfold keyH
  rw [if_pos ⟨k, h⟩]
  exact h
theorem dqA_ints {F : Hp} : ∀ ns : List Int, DqA F (ns.map V.int) (ns.map .int)
  | [] => .nil
  | n :: ns => .cons (.int n) (dqA_ints ns)
theorem law_fn {f : Addr} {fd : FuncData} {CX : CXT} {W : CW} (F : FnOk P w K mg base CX k f fd ps (spD mg K T [.rd] .fz W)) (h : ∀ ns : List Int, ns.length ≤ 63 → (∀ z ∈ ns, Builtin.Int.intBits z ≤ 1048576) → W [.list (ns.map .int)] (fun d => d = .bool true) (fun _ => False)) :
    FnOk P w K mg base CX k f fd ps (spLawB K T) := F.imp fun vs H Q E ⟨tt, a, ns, e, hS, h1, h2, q⟩ => by
  subst e
  refine ⟨keyH H, [.list (ns.map .int)], _, _, ⟨.refl _, Same.refl _, fun _ _ e => (keyH_some e).2, fun _ _ _ _ => rfl, fun _ _ e => (let ⟨⟨_, z⟩, _⟩ := keyH_some e; nomatch z), fun _ _ e => keyH_at e⟩, tt, .cons (.inr ⟨a, rfl, _, hS, dqA_ints ns⟩) .nil, h ns h1 h2, fun d v F' H' hd g r _ => ?_, fun _ _ _ _ _ z _ => z.elim⟩
  subst hd
  cases (show Dq F' v (.bool true) from r)
  exact q _ H' rfl
theorem law_all {fa : Addr} (hfa : mg "law" = some (.ref fa)) (TF : FnF K mg "law" st) (S : FnScope N ["script"] (defScope st)) (hbd : Bnd "law" st ["script"])
    (hb : ∀ (base : Heap) (f : Addr) (cdv : Value) (A : Around) (outer : List Env) (s : Shared) (H : Hp) (E : XK), Room k (A.deeper (envOfC "law" (defScope st) s.heap.objs.size f cdv)) → DSs (cxOf CX0 P w K mg base N "law" (defScope st) f cdv A outer s H E).nox (W0 T) .fz (defBody st) t)
    (h : ∀ ns : List Int, ns.length ≤ 63 → (∀ z ∈ ns, Builtin.Int.intBits z ≤ 1048576) → bodyW0 N.length [.rd] .fz t [.list (ns.map .int)] (fun d => d = .bool true) (fun _ => False)) :
    ∃ fd : FuncData, (∀ (s : Shared) (v : Value), BindsTo s fd ⟨[v], []⟩ [("script", v)]) ∧ ∀ base : Heap, K.In base → base.Ns mainGlobals mg → FnOk P w K mg base CX0 (k + 1) fa fd ["script"] (spLawB K T) := by
  obtain ⟨f, fd, F, hm⟩ := TF.ex
  rw [hfa] at hm
  cases hm
  refine ⟨fd, fun s v => ?_, fun base _ _ => law_fn (fnok0 F S rfl (hb base fa)) h⟩
  obtain ⟨oc, od, kV, doc, pm, an, cdv, ct, osl, rfl, lk, hcd⟩ := F.ex
  exact .of_eq (hbd kV doc pm an cdv ct [v] rfl)
end
end DL
set_option maxRecDepth 100000
set_option maxHeartbeats 4000000
/-! DLB: < <= > >= of whole numbers, and of tuples of them. -/
namespace DL
open PySem PySem.Spec PyProof.Rows L2
/-- by the first place that differs, else by the lengths -/
def lexF (f : Int → Int → Bool) (z : Bool) : List Int → List Int → Bool
  | x :: xs, y :: ys => if x = y then lexF f z xs ys else f x y
  | _, _ => z
theorem getD_app {A : List Int} {i : Nat} (h : A.length = i) (x : Int) (xs : List Int) : (A ++ x :: xs).getD i 0 = x := by
  rw [List.getD_eq_getElem?_getD, List.getElem?_append_right (by omega), h, Nat.sub_self]
  rfl
theorem lexAt_eq (f : Int → Int → Bool) (z : Bool) : ∀ (ns ms A C : List Int) (i : Nat), A.length = i → C.length = i →
    Ob.lexAt (fun j => decide ((A ++ ns).getD j 0 = (C ++ ms).getD j 0)) (fun j => f ((A ++ ns).getD j 0) ((C ++ ms).getD j 0)) z i (min ns.length ms.length) = lexF f z ns ms
  | [], ms, A, C, i, _, _ => by simp [Ob.lexAt, lexF]
  | _ :: _, [], A, C, i, _, _ => by simp [Ob.lexAt, lexF]
  | x :: xs, y :: ys, A, C, i, ha, hc => by
    have ih := lexAt_eq f z xs ys (A ++ [x]) (C ++ [y]) (i + 1) (by rw [List.length_append, ha]; rfl) (by rw [List.length_append, hc]; rfl)
    rw [List.append_assoc, List.append_assoc] at ih
    rw [show min (x :: xs).length (y :: ys).length = min xs.length ys.length + 1 by simp only [List.length_cons]; omega, Ob.lexAt_succ, getD_app ha, getD_app hc]
    show _ = if x = y then lexF f z xs ys else f x y
    by_cases e : x = y
    · rw [if_pos e, decide_eq_true e, if_pos rfl]
      exact ih
    · rw [if_neg e, decide_eq_false e, if_neg (by decide)]
def rOrd (K : PySem.W.Frag) (f : Int → Int → Bool) (z : Nat → Nat → Bool) : R2 := fun x y H Q => (rI0 fun i j => .bl (f i j)) x y H Q ∨
  ∃ (a b : Addr) (ns ms : List Int), x = .ref a ∧ y = .ref b ∧ SqT K H a (ns.map V.int) ∧ SqT K H b (ms.map V.int) ∧ Q (.bl (lexF f (z ns.length ms.length) ns ms)) H
theorem op_ordT {X : Cx} {op : CmpOp} {f : Int → Int → Bool} {z : Nat → Nat → Bool} (hu : X.A.units < cLine)
    (ht : ∀ {A : Around} {s : Shared} {l b : Addr} {items items2 : Array Value} {e r : Nat → Bool}, s.heap.IsTuple l items → s.heap.IsTuple b items2 → A.units < cLine →
      (∀ j (h1 : j < items.size) (h2 : j < items2.size), SeqAt.EqAt A.in1 s items[j] items2[j] (e j)) → (∀ j (h1 : j < items.size) (h2 : j < items2.size), e j = false → Ob.RcOp op A.in1 s items[j] items2[j] (r j)) →
      Ob.RcOp op A s (.ref l) (.ref b) (Ob.lexAt e r (z items.size items2.size) 0 (min items.size items2.size)))
    (hi : ∀ {A : Around} {s : Shared} (a b : Int) (t u : Tok), Ob.RcOp op A s (.int a t) (.int b u) (f a b)) (hc : ∀ x y, compareOp op x y = richCompare op x y) :
    OpR X (compareOp op) (fun x y H Q => ∃ (a b : Addr) (ns ms : List Int), x = .ref a ∧ y = .ref b ∧ SqT X.K H a (ns.map V.int) ∧ SqT X.K H b (ms.map V.int) ∧ Q (.bl (lexF f (z ns.length ms.length) ns ms)) H) := by
  intro pins s σ H x y v u Q I rx ry h
  obtain ⟨a, b, ns, ms, rfl, rfl, ha, hb, q⟩ := h
  cases rx
  cases ry
  obtain ⟨its, r1, p1, _⟩ := I.tuple ha
  obtain ⟨its2, r2, p2, _⟩ := I.tuple hb
  have i1 : IntsAre its ns := Vals.ints r1
  have i2 : IntsAre its2 ms := Vals.ints r2
  have e1 : its.toArray.size = ns.length := by rw [List.size_toArray]; exact i1.length
  have e2 : its2.toArray.size = ms.length := by rw [List.size_toArray]; exact i2.length
  have at1 : ∀ j (h1 : j < its.toArray.size), ∃ t, its.toArray[j] = .int (ns.getD j 0) t := fun j h1 => PyProof.Rows.IntsAre.int_at i1 _ _ (by simp at h1; simp [h1])
  have at2 : ∀ j (h1 : j < its2.toArray.size), ∃ t, its2.toArray[j] = .int (ms.getD j 0) t := fun j h1 => PyProof.Rows.IntsAre.int_at i2 _ _ (by simp at h1; simp [h1])
  have R := ht (A := X.A) (s := s) (e := fun j => decide (ns.getD j 0 = ms.getD j 0)) (r := fun j => f (ns.getD j 0) (ms.getD j 0)) p1 p2 hu (fun j h1 h2 => by
    obtain ⟨t, et⟩ := at1 j h1
    obtain ⟨t', et'⟩ := at2 j h2
    rw [et, et']
    have z : (ns.getD j 0 == ms.getD j 0) = decide (ns.getD j 0 = ms.getD j 0) := by
      by_cases q : ns.getD j 0 = ms.getD j 0
      · rw [decide_eq_true q]; exact beq_iff_eq.mpr q
      · rw [decide_eq_false q]; exact beq_eq_false_iff_ne.mpr q
    rw [← z]
    exact SeqAt.EqAt.int_int _ _ _ _) (fun j h1 h2 _ => by
    obtain ⟨t, et⟩ := at1 j h1
    obtain ⟨t', et'⟩ := at2 j h2
    rw [et, et']
    exact hi _ _ _ _)
  rw [e1, e2] at R
  have el := lexAt_eq f (z ns.length ms.length) ns ms [] [] 0 rfl rfl
  rw [List.nil_append, List.nil_append] at el
  rw [el] at R
  show wpAny (model X.prog X.w) X.A (compareOp op (.ref a) (.ref b)) (EP X pins σ Q) X.xe s
  rw [hc]
  exact R X.prog X.w X.xe (EP X pins σ Q) ⟨.bl _, H, I, rfl, q⟩
theorem op_ltO {X : Cx} (hu : X.A.units < cLine) : OpR X (compareOp .Lt) (rOrd X.K (fun i j => decide (i < j)) (fun i j => decide (i < j))) := op_lt.or (op_ordT (f := fun i j => decide (i < j)) (z := fun i j => decide (i < j)) hu Ob.RcOp.tuples_lt Ob.RcOp.lt_int fun _ _ => rfl)
theorem op_leO {X : Cx} (hu : X.A.units < cLine) : OpR X (compareOp .LtE) (rOrd X.K (fun i j => decide (i ≤ j)) (fun i j => decide (i ≤ j))) := op_le.or (op_ordT (f := fun i j => decide (i ≤ j)) (z := fun i j => decide (i ≤ j)) hu Ob.RcOp.tuples_le Ob.RcOp.le_int fun _ _ => rfl)
theorem op_gtO {X : Cx} (hu : X.A.units < cLine) : OpR X (compareOp .Gt) (rOrd X.K (fun i j => decide (j < i)) (fun i j => decide (i > j))) := op_gt.or (op_ordT (f := fun i j => decide (j < i)) (z := fun i j => decide (i > j)) hu Ob.RcOp.tuples_gt Ob.RcOp.gt_int fun _ _ => rfl)
theorem op_geO {X : Cx} (hu : X.A.units < cLine) : OpR X (compareOp .GtE) (rOrd X.K (fun i j => decide (j ≤ i)) (fun i j => decide (i ≥ j))) := op_ge.or (op_ordT (f := fun i j => decide (j ≤ i)) (z := fun i j => decide (i ≥ j)) hu Ob.RcOp.tuples_ge Ob.RcOp.ge_int fun _ _ => rfl)
def ordR (f : Int → Int → Bool) (z : Nat → Nat → Bool) : D → D → (D → Prop) → Prop := fun x y P => (∃ i j, x = .int i ∧ y = .int j ∧ P (.bool (f i j))) ∨ ∃ ns ms : List Int, x = .tuple (ns.map .int) ∧ y = .tuple (ms.map .int) ∧ P (.bool (lexF f (z ns.length ms.length) ns ms))
theorem ints_dqO {F : Hp} : ∀ {xs : List V} {ns : List Int}, DqA F xs (ns.map .int) → xs = ns.map V.int
  | [], [], _ => rfl
  | x :: xs, n :: ns, h => by
    cases h with
    | cons h1 h2 =>
      cases h1
      rw [ints_dqO h2]
      rfl
theorem r2_ord {K : PySem.W.Frag} {ma mb : Md} {f : Int → Int → Bool} {z : Nat → Nat → Bool} (ha : ma.sh = true := by rfl) (hb : mb.sh = true := by rfl) : R2ok K ma mb .fz (rOrd K f z) (ordR f z) := fun b F H x y dx dy Q P g0 rx ry h k => by
  rcases h with ⟨i, j, rfl, rfl, p⟩ | ⟨ns, ms, rfl, rfl, p⟩
  · exact .inl ⟨i, j, vr_int (rx.rd ha g0), vr_int (ry.rd hb g0), k _ _ F H p (.refl g0) (Dq.bl _) trivial⟩
  · obtain ⟨a, xs, rfl, sq, dq⟩ := vr_tup g0.s (rx.rd ha g0)
    obtain ⟨a2, xs2, rfl, sq2, dq2⟩ := vr_tup g0.s (ry.rd hb g0)
    rw [ints_dqO dq] at sq
    rw [ints_dqO dq2] at sq2
    exact .inr ⟨a, a2, ns, ms, rfl, rfl, sq, sq2, k _ _ F H p (.refl g0) (Dq.bl _) trivial⟩
abbrev ltR := ordR (fun i j => decide (i < j)) (fun i j => decide (i < j))
abbrev leR := ordR (fun i j => decide (i ≤ j)) (fun i j => decide (i ≤ j))
abbrev gtR := ordR (fun i j => decide (j < i)) (fun i j => decide (i > j))
abbrev geR := ordR (fun i j => decide (j ≤ i)) (fun i j => decide (i ≥ j))
theorem x_oI {f : Int → Int → Bool} {z : Nat → Nat → Bool} {i j : Int} {P : D → Prop} : ordR f z (.int i) (.int j) P ↔ P (.bool (f i j)) := by
  constructor
  · intro h
    rcases h with ⟨a, b, h1, h2, h⟩ | ⟨ns, ms, h1, h2, h⟩
    · cases h1
      cases h2
      exact h
    · cases h1
  · exact fun h => .inl ⟨i, j, rfl, rfl, h⟩
theorem x_oT {f : Int → Int → Bool} {z : Nat → Nat → Bool} {ns ms : List Int} {P : D → Prop} : ordR f z (.tuple (ns.map .int)) (.tuple (ms.map .int)) P ↔ P (.bool (lexF f (z ns.length ms.length) ns ms)) := ⟨fun h => by
  rcases h with ⟨a, b, h1, h2, h⟩ | ⟨ns', ms', h1, h2, h⟩
  · exact nomatch h1
  · rw [PyData.tuple.injEq] at h1 h2
    rw [map_inj' (fun _ _ h => PyData.int.inj h) h1, map_inj' (fun _ _ h => PyData.int.inj h) h2]
    exact h, fun h => .inr ⟨ns, ms, rfl, rfl, h⟩⟩
theorem x_o2 {f : Int → Int → Bool} {z : Nat → Nat → Bool} {a b c d : Int} {P : D → Prop} : ordR f z (.tuple [.int a, .int b]) (.tuple [.int c, .int d]) P ↔ P (.bool (if a = c then if b = d then z 2 2 else f b d else f a c)) := x_oT (ns := [a, b]) (ms := [c, d])
theorem dec_lt2 {a b c d : Int} : (if a = c then if b = d then decide ((2 : Nat) < 2) else decide (b < d) else decide (a < c)) = decide (a < c ∨ (a = c ∧ b < d)) := by
  rw [Bool.eq_iff_iff]
  split <;> (try split) <;> simp only [decide_eq_true_eq] <;> omega
theorem dec_le2 {a b c d : Int} : (if a = c then if b = d then decide ((2 : Nat) ≤ 2) else decide (b ≤ d) else decide (a ≤ c)) = decide (a < c ∨ (a = c ∧ b ≤ d)) := by
  rw [Bool.eq_iff_iff]
  split <;> (try split) <;> simp only [decide_eq_true_eq] <;> omega
theorem dec_gt2 {a b c d : Int} : (if a = c then if b = d then decide ((2 : Nat) > 2) else decide (d < b) else decide (c < a)) = decide (c < a ∨ (a = c ∧ d < b)) := by
  rw [Bool.eq_iff_iff]
  split <;> (try split) <;> simp only [decide_eq_true_eq] <;> omega
theorem dec_ge2 {a b c d : Int} : (if a = c then if b = d then decide ((2 : Nat) ≥ 2) else decide (d ≤ b) else decide (c ≤ a)) = decide (c < a ∨ (a = c ∧ d ≤ b)) := by
  rw [Bool.eq_iff_iff]
  split <;> (try split) <;> simp only [decide_eq_true_eq] <;> omega
theorem x_lt2 {a b c d : Int} {P : D → Prop} : ltR (.tuple [.int a, .int b]) (.tuple [.int c, .int d]) P ↔ P (.bool (decide (a < c ∨ (a = c ∧ b < d)))) := x_o2.trans (by rw [dec_lt2])
theorem x_le2 {a b c d : Int} {P : D → Prop} : leR (.tuple [.int a, .int b]) (.tuple [.int c, .int d]) P ↔ P (.bool (decide (a < c ∨ (a = c ∧ b ≤ d)))) := x_o2.trans (by rw [dec_le2])
theorem x_gt2 {a b c d : Int} {P : D → Prop} : gtR (.tuple [.int a, .int b]) (.tuple [.int c, .int d]) P ↔ P (.bool (decide (c < a ∨ (a = c ∧ d < b)))) := x_o2.trans (by rw [dec_gt2])
theorem x_ge2 {a b c d : Int} {P : D → Prop} : geR (.tuple [.int a, .int b]) (.tuple [.int c, .int d]) P ↔ P (.bool (decide (c < a ∨ (a = c ∧ d ≤ b)))) := x_o2.trans (by rw [dec_ge2])
end DL
set_option maxRecDepth 100000
set_option maxHeartbeats 4000000
/-! DLA: short names for the generator's readings. -/
namespace DL
open PySem PySem.Spec PyProof.Rows L2
variable {T : List (Addr × Str)}
abbrev subR := d2I fun i j => .int (i - j)
abbrev mulR := d2C CMulD fun i j => .int (i * j)
abbrev divR := d2C CDivW fun i j => .int (i / j)
abbrev modR := d2C (fun _ j => 0 < j) fun i j => .int (i % j)
abbrev powR := d2C CPow fun i j => .int (i ^ j.toNat)
abbrev shlR := d2C CPow fun i j => .int (i * 2 ^ j.toNat)
abbrev shrR := d2C (fun _ j => 0 ≤ j) fun i j => .int (i / 2 ^ j.toNat)
abbrev andR := d2I fun i j => .int (Builtin.bitAnd i j)
abbrev negR := d1I fun i => -i
theorem de_cint {X : Cx} {W : WT} {x : Str} {n : Int} {pos : Pos} (h : ∃ t, X.mg x = some (.int n t)) (hg : Gl X x := by rfl) (hd : (x == ("__debug__" : Str)) = false := by decide) : DE X W .fz (.Name x pos) (dC (.int n)) := by
  obtain ⟨t, h⟩ := h
  exact de_glob (v := .int n) hg h ⟨t, rfl⟩ (fun _ => .int n) hd
/-! chains: a op b op c -/
section
variable {X : Cx} {W : WT} {m1 m2 m3 : Md} {pos : Pos}
def dChain (r1 r2 : D → D → (D → Prop) → Prop) (ta tb tc : DT) : DT := fun ρ P Z => ta ρ (fun x => tb ρ (fun y => r1 x y (fun z => ∃ c, z = .bool c ∧ (c = true → tc ρ (fun w => r2 y w P) Z) ∧ (c = false → P (.bool false)))) Z) Z
theorem chain_sem {r1 r2 : R2} {d1 d2 : D → D → (D → Prop) → Prop} {ta tb tc : DT} {te1 te2 te3 : TE} (h1 : R2ok X.K m1 m2 .fz r1 d1) (h2 : R2ok X.K m2 m3 .fz r2 d2)
    (s1 : ∀ (b : B) (F H : Hp) (σ : L2.St) (ρ : List Sl) (Q : VK) (P : D → Prop) (Z : Zs), Rep X.K b F H σ ρ → ZOk X.mg X.K b F Z W → ta ρ P Z → Goes m1 X.K b F H P Q → te1 σ H Q)
    (s2 : ∀ (b : B) (F H : Hp) (σ : L2.St) (ρ : List Sl) (Q : VK) (P : D → Prop) (Z : Zs), Rep X.K b F H σ ρ → ZOk X.mg X.K b F Z W → tb ρ P Z → Goes m2 X.K b F H P Q → te2 σ H Q)
    (s3 : ∀ (b : B) (F H : Hp) (σ : L2.St) (ρ : List Sl) (Q : VK) (P : D → Prop) (Z : Zs), Rep X.K b F H σ ρ → ZOk X.mg X.K b F Z W → tc ρ P Z → Goes m3 X.K b F H P Q → te3 σ H Q) :
    ∀ (b : B) (F H : Hp) (σ : L2.St) (ρ : List Sl) (Q : VK) (P : D → Prop) (Z : Zs), Rep X.K b F H σ ρ → ZOk X.mg X.K b F Z W → dChain d1 d2 ta tb tc ρ P Z → Goes .fz X.K b F H P Q → tChain r1 r2 te1 te2 te3 σ H Q := fun b F H σ ρ Q P Z R z q k =>
  s1 b F H σ ρ _ _ Z R z q fun dx x F1 H1 p1 g1 v1 _ => s2 b F1 H1 σ ρ _ _ Z (R.grow g1) (z.mono g1.f) p1 fun dy y F2 H2 p2 g2 v2 _ =>
    h1 b F2 H2 x y dx dy _ _ (R.g.trans (g1.trans g2)) (v1.grow g2) v2 p2 fun dz w F3 H3 p3 g3 v3 _ => by
      obtain ⟨c, rfl, p3⟩ := p3
      cases v3
      refine ⟨c, rfl, ?_⟩
      cases c with
      | false => exact iteF (k _ _ F3 H3 (p3.2 rfl) (g1.trans (g2.trans g3)) (Dq.bl _) trivial)
      | true => exact iteT (s3 b F3 H3 σ ρ _ _ Z (((R.grow g1).grow g2).grow g3) (z.mono (g1.f.trans (g2.f.trans g3.f))) (p3.1 rfl) fun dw u F4 H4 p4 g4 v4 _ => h2 b F4 H4 y u dy dw _ _ (R.g.trans (g1.trans (g2.trans (g3.trans g4)))) ((v2.grow g3).grow g4) v4 p4 (k.after (g1.trans (g2.trans (g3.trans g4)))))
theorem de_chain {op op' : CmpOp} {a b' c : Expr} {r1 r2 : R2} {d1 d2 : D → D → (D → Prop) → Prop} {ta tb tc : DT} (ho : OpR X (compareOp op) r1) (h1 : R2ok X.K m1 m2 .fz r1 d1) (ho' : OpR X (compareOp op') r2) (h2 : R2ok X.K m2 m3 .fz r2 d2) (ha : DE X W m1 a ta) (hb : DE X W m2 b' tb) (hc : DE X W m3 c tc)
    (hm : lastMarks [op, op'] [b', c] = false := by with_unfolding_all rfl) : DE X W .fz (.Compare a [op, op'] [b', c] pos) (dChain d1 d2 ta tb tc) := by
  obtain ⟨te1, p1, s1⟩ := ha.ok
  obtain ⟨te2, p2, s2⟩ := hb.ok
  obtain ⟨te3, p3, s3⟩ := hc.ok
  exact ⟨_, pe_chain ho ho' p1 p2 p3 hm, chain_sem h1 h2 s1 s2 s3⟩
theorem dt_chain {op op' : CmpOp} {a b' c : Expr} {r1 r2 : R2} {d1 d2 : D → D → (D → Prop) → Prop} {ta tb tc : DT} (ho : OpR X (compareOp op) r1) (h1 : R2ok X.K m1 m2 .fz r1 d1) (ho' : OpR X (compareOp op') r2) (h2 : R2ok X.K m2 m3 .fz r2 d2) (ha : DE X W m1 a ta) (hb : DE X W m2 b' tb) (hc : DE X W m3 c tc)
    (hm : lastMarks [op, op'] [b', c] = false := by with_unfolding_all rfl) : DEt X W (.Compare a [op, op'] [b', c] pos) (dB (dChain d1 d2 ta tb tc)) := by
  obtain ⟨te1, p1, s1⟩ := ha.ok
  obtain ⟨te2, p2, s2⟩ := hb.ok
  obtain ⟨te3, p3, s3⟩ := hc.ok
  exact ⟨_, pt_chain ho ho' p1 p2 p3 hm, fun b F H σ ρ Q P Z R z q k => chain_sem h1 h2 s1 s2 s3 b F H σ ρ _ _ Z R z q fun d v F' H' p g r _ => by
    obtain ⟨cc, rfl, p⟩ := p
    cases r
    exact ⟨cc, rfl, k cc F' H' p g⟩⟩
end
end DL
set_option maxRecDepth 100000
set_option maxHeartbeats 4000000
/-! DLS: readings unfolded; loops and comprehensions over typed rows. -/
namespace DL
open PySem PySem.Spec PyProof.Rows L2
variable {T : List (Addr × Str)}

section
variable {P : D → Prop} {Z : Zs} {ρ : List Sl}
theorem e_dV {i : Nat} : dV i ρ P Z ↔ ∃ d, ρ[i]? = some (.fz d) ∧ P d := Iff.rfl
theorem e_dC {d : D} : dC d ρ P Z ↔ P d := Iff.rfl
theorem e_d2 {rd : D → D → (D → Prop) → Prop} {ta tb : DT} : d2 rd ta tb ρ P Z ↔ ta ρ (fun x => tb ρ (fun y => rd x y P) Z) Z := Iff.rfl
theorem x_I {g : Int → Int → D} {i j : Int} : d2I g (.int i) (.int j) P ↔ P (g i j) := ⟨fun ⟨a, b, h1, h2, h⟩ => by cases h1; cases h2; exact h, fun h => ⟨i, j, rfl, rfl, h⟩⟩
theorem x_C {C : Int → Int → Prop} {g : Int → Int → D} {i j : Int} : d2C C g (.int i) (.int j) P ↔ C i j ∧ P (g i j) := ⟨fun ⟨a, b, h1, h2, h⟩ => by cases h1; cases h2; exact h, fun h => ⟨i, j, rfl, rfl, h⟩⟩
theorem x_1 {g : Int → Int} {i : Int} : d1I g (.int i) P ↔ P (.int (g i)) := ⟨fun ⟨a, h1, h⟩ => by cases h1; exact h, fun h => ⟨i, rfl, h⟩⟩
theorem x_ixL {ds : List D} {n : Int} : ixR (.list ds) (.int n) P ↔ ∃ d, atI ds n = some d ∧ P d := ⟨fun ⟨a, m, d, h1, h2, h3, h⟩ => by
  cases h2
  rcases h1 with h1 | h1 <;> cases h1
  exact ⟨d, h3, h⟩, fun ⟨d, h3, h⟩ => ⟨ds, n, d, .inl rfl, rfl, h3, h⟩⟩
theorem x_ixT {ds : List D} {n : Int} : ixR (.tuple ds) (.int n) P ↔ ∃ d, atI ds n = some d ∧ P d := ⟨fun ⟨a, m, d, h1, h2, h3, h⟩ => by
  cases h2
  rcases h1 with h1 | h1 <;> cases h1
  exact ⟨d, h3, h⟩, fun ⟨d, h3, h⟩ => ⟨ds, n, d, .inr rfl, rfl, h3, h⟩⟩
theorem x_lenL {ds : List D} : lenR [.list ds] P ↔ P (.int ds.length) := ⟨fun ⟨x, h1, h⟩ => by cases h1; exact h, fun h => ⟨_, rfl, h⟩⟩
theorem x_lenT {ds : List D} : lenR [.tuple ds] P ↔ P (.int ds.length) := ⟨fun ⟨x, h1, h⟩ => by cases h1; exact h, fun h => ⟨_, rfl, h⟩⟩
theorem x_listL {ds : List D} : listR [.list ds] P ↔ P (.list ds) := ⟨fun ⟨x, xs, h1, h2, h⟩ => by
  cases h1
  rcases h2 with h2 | h2 <;> cases h2
  exact h, fun h => ⟨_, ds, rfl, .inl rfl, h⟩⟩
theorem x_listT {ds : List D} : listR [.tuple ds] P ↔ P (.list ds) := ⟨fun ⟨x, xs, h1, h2, h⟩ => by
  cases h1
  rcases h2 with h2 | h2 <;> cases h2
  exact h, fun h => ⟨_, ds, rfl, .inr rfl, h⟩⟩
theorem x_tupL {ds : List D} : tupleR [.list ds] P ↔ P (.tuple ds) := ⟨fun ⟨x, xs, h1, h2, h⟩ => by
  cases h1
  rcases h2 with h2 | h2 <;> cases h2
  exact h, fun h => ⟨_, ds, rfl, .inl rfl, h⟩⟩
theorem x_tupT {ds : List D} : tupleR [.tuple ds] P ↔ P (.tuple ds) := ⟨fun ⟨x, xs, h1, h2, h⟩ => by
  cases h1
  rcases h2 with h2 | h2 <;> cases h2
  exact h, fun h => ⟨_, ds, rfl, .inr rfl, h⟩⟩
theorem x_tupLL {ds : List D} : tupleL [.list ds] P ↔ P (.tuple ds) := ⟨fun ⟨xs, h1, h⟩ => by cases h1; exact h, fun h => ⟨ds, rfl, h⟩⟩
theorem x_min2 {i j : Int} : min2R [.int i, .int j] P ↔ P (.int (min i j)) := ⟨fun ⟨a, b, h1, h⟩ => by cases h1; exact h, fun h => ⟨i, j, rfl, h⟩⟩
theorem x_max2 {i j : Int} : max2R [.int i, .int j] P ↔ P (.int (max i j)) := ⟨fun ⟨a, b, h1, h⟩ => by cases h1; exact h, fun h => ⟨i, j, rfl, h⟩⟩
theorem x_abs {i : Int} : absR [.int i] P ↔ P (.int (if i < 0 then -i else i)) := ⟨fun ⟨a, h1, h⟩ => by cases h1; exact h, fun h => ⟨i, rfl, h⟩⟩
theorem x_intI {i : Int} : intR [.int i] P ↔ P (.int i) := ⟨fun ⟨x, h1, h⟩ => by cases h1; exact h, fun h => ⟨_, rfl, h⟩⟩
theorem x_intB {c : Bool} : intR [.bool c] P ↔ P (.int (if c then 1 else 0)) := ⟨fun ⟨x, h1, h⟩ => by cases h1; exact h, fun h => ⟨_, rfl, h⟩⟩
theorem x_seqL {C : List Int → Prop} {f : List Int → Int} {ns : List Int} : seqIR C f [.list (ns.map .int)] P ↔ C ns ∧ P (.int (f ns)) := ⟨fun ⟨x, xs, ms, h1, h2, h3, h⟩ => by
  cases h1
  rcases h2 with h2 | h2 <;> cases h2
  rw [intsD_map] at h3
  cases h3
  exact h, fun h => ⟨_, _, ns, rfl, .inl rfl, intsD_map ns, h⟩⟩
theorem x_seqT {C : List Int → Prop} {f : List Int → Int} {ns : List Int} : seqIR C f [.tuple (ns.map .int)] P ↔ C ns ∧ P (.int (f ns)) := ⟨fun ⟨x, xs, ms, h1, h2, h3, h⟩ => by
  cases h1
  rcases h2 with h2 | h2 <;> cases h2
  rw [intsD_map] at h3
  cases h3
  exact h, fun h => ⟨_, _, ns, rfl, .inr rfl, intsD_map ns, h⟩⟩
theorem x_seqT2 {C : List Int → Prop} {f : List Int → Int} {i j : Int} : seqIR C f [.tuple [.int i, .int j]] P ↔ C [i, j] ∧ P (.int (f [i, j])) := x_seqT (ns := [i, j])
theorem x_seqL2 {C : List Int → Prop} {f : List Int → Int} {i j : Int} : seqIR C f [.list [.int i, .int j]] P ↔ C [i, j] ∧ P (.int (f [i, j])) := x_seqL (ns := [i, j])
theorem x_sort {ds : List D} : sortR [.list ds] P ↔ SortOk ds ∧ P (.list (srtD ds)) := ⟨fun ⟨xs, h1, h⟩ => by cases h1; exact h, fun h => ⟨ds, rfl, h⟩⟩
theorem x_inL {neg : Bool} {x : D} {ds : List D} : inR neg x (.list ds) P ↔ Shp 8 x ∧ (∀ z ∈ ds, Shp 8 z) ∧ P (.bool ((ds.any fun z => PyData.eqv z x) ^^ neg)) := ⟨fun ⟨a, h1, h⟩ => by
  rcases h1 with h1 | h1 <;> cases h1
  exact h, fun h => ⟨ds, .inl rfl, h⟩⟩
theorem x_inT {neg : Bool} {x : D} {ds : List D} : inR neg x (.tuple ds) P ↔ Shp 8 x ∧ (∀ z ∈ ds, Shp 8 z) ∧ P (.bool ((ds.any fun z => PyData.eqv z x) ^^ neg)) := ⟨fun ⟨a, h1, h⟩ => by
  rcases h1 with h1 | h1 <;> cases h1
  exact h, fun h => ⟨ds, .inr rfl, h⟩⟩
theorem x_eqI {neg : Bool} {i j : Int} : eqR neg (.int i) (.int j) P ↔ P (.bool ((i == j) ^^ neg)) := by simp [eqR, Shp, PyData.eqv]
theorem x_eqB {neg : Bool} {i j : Bool} : eqR neg (.bool i) (.bool j) P ↔ P (.bool ((i == j) ^^ neg)) := by simp [eqR, Shp, PyData.eqv]
theorem x_dT {kds : List (List Key × D)} {ks : List Key} {r : Option D} : DGetD (dctT kds) (keyT ks) r ↔ r = valD kds ks := ⟨fun h => by
  rcases h with ⟨a, b, h1, h2, h3⟩ | ⟨a, b, h1, h2, h3⟩ | ⟨a, b, h1, h2, h3⟩ | ⟨a, b, h1, h2, h3⟩
  · rw [h3, dctT_inj h1, keyT_inj h2]
  · exact (dctT_ne h1).elim
  · exact (dctT_lk h1).elim
  · exact (dctT_lkK h1).elim, fun h => .inl ⟨kds, ks, rfl, rfl, h⟩⟩
theorem x_dK {kds : List (Key × D)} {ks : Key} {r : Option D} : DGetD (dctK kds) (keyD ks) r ↔ r = valD kds ks := ⟨fun h => by
  rcases h with ⟨a, b, h1, h2, h3⟩ | ⟨a, b, h1, h2, h3⟩ | ⟨a, b, h1, h2, h3⟩ | ⟨a, b, h1, h2, h3⟩
  · exact (dctT_ne h1.symm).elim
  · rw [h3, dctK_inj h1, keyD_inj h2]
  · exact (dctK_lk h1).elim
  · exact (dctK_lkK h1).elim, fun h => .inr (.inl ⟨kds, ks, rfl, rfl, h⟩)⟩
theorem x_lT {kds : List (List Key × D)} {ks : List Key} {r : Option D} : DGetD (lkT kds) (keyT ks) r ↔ r = valD kds ks := ⟨fun h => by
  rcases h with ⟨a, b, h1, h2, h3⟩ | ⟨a, b, h1, h2, h3⟩ | ⟨a, b, h1, h2, h3⟩ | ⟨a, b, h1, h2, h3⟩
  · exact (dctT_lk h1.symm).elim
  · exact (dctK_lk h1.symm).elim
  · rw [h3, lkT_inj h1, keyT_inj h2]
  · exact (lkT_lkK h1).elim, fun h => .inr (.inr (.inl ⟨kds, ks, rfl, rfl, h⟩))⟩
theorem x_lK {kds : List (Key × D)} {ks : Key} {r : Option D} : DGetD (lkK kds) (keyD ks) r ↔ r = valD kds ks := ⟨fun h => by
  rcases h with ⟨a, b, h1, h2, h3⟩ | ⟨a, b, h1, h2, h3⟩ | ⟨a, b, h1, h2, h3⟩ | ⟨a, b, h1, h2, h3⟩
  · exact (dctT_lkK h1.symm).elim
  · exact (dctK_lkK h1.symm).elim
  · exact (lkT_lkK h1.symm).elim
  · rw [h3, lkK_inj h1, keyD_inj h2], fun h => .inr (.inr (.inr ⟨kds, ks, rfl, rfl, h⟩))⟩
theorem x_lKi {kds : List (Key × D)} {i : Int} {r : Option D} : DGetD (lkK kds) (.int i) r ↔ r = valD kds (.inl i) := x_lK (ks := .inl i)
theorem lk_int {i : Int} {p : Prop} : (lkB (.int i) = false ∧ p) ↔ p := ⟨fun h => h.2, fun h => ⟨rfl, h⟩⟩
theorem lk_bool {i : Bool} {p : Prop} : (lkB (.bool i) = false ∧ p) ↔ p := ⟨fun h => h.2, fun h => ⟨rfl, h⟩⟩
theorem lk_str {i : Str} {p : Prop} : (lkB (.str i) = false ∧ p) ↔ p := ⟨fun h => h.2, fun h => ⟨rfl, h⟩⟩
theorem lk_none {p : Prop} : (lkB .none = false ∧ p) ↔ p := ⟨fun h => h.2, fun h => ⟨rfl, h⟩⟩
theorem lk_list {i : List D} {p : Prop} : (lkB (.list i) = false ∧ p) ↔ p := ⟨fun h => h.2, fun h => ⟨rfl, h⟩⟩
theorem lk_tup {i : List D} {p : Prop} : (lkB (.tuple i) = false ∧ p) ↔ p := ⟨fun h => h.2, fun h => ⟨rfl, h⟩⟩
theorem x_dTii {kds : List (List Key × D)} {i j : Int} {r : Option D} : DGetD (dctT kds) (.tuple [.int i, .int j]) r ↔ r = valD kds [.inl i, .inl j] := x_dT (ks := [.inl i, .inl j])
theorem x_dKi {kds : List (Key × D)} {i : Int} {r : Option D} : DGetD (dctK kds) (.int i) r ↔ r = valD kds (.inl i) := x_dK (ks := .inl i)
theorem x_kii {i j : Int} {Q : List Key → Prop} : (∃ ks, PyData.tuple [.int i, .int j] = keyT ks ∧ Q ks) ↔ Q [.inl i, .inl j] := ⟨fun ⟨ks, h, q⟩ => by
  have e : ks = [.inl i, .inl j] := keyT_inj (h.symm.trans (show _ = keyT [.inl i, .inl j] from rfl))
  rw [← e]
  exact q, fun q => ⟨_, rfl, q⟩⟩
theorem x_ki {i : Int} {Q : Key → Prop} : (∃ ks, PyData.int i = keyD ks ∧ Q ks) ↔ Q (.inl i) := ⟨fun ⟨ks, h, q⟩ => by
  have e : ks = .inl i := keyD_inj (h.symm.trans (show _ = keyD (.inl i) from rfl))
  rw [← e]
  exact q, fun q => ⟨_, rfl, q⟩⟩
theorem dctT_iff {a b : List (List Key × D)} : dctT a = dctT b ↔ a = b := ⟨dctT_inj, fun h => by rw [h]⟩
theorem dctK_iff {a b : List (Key × D)} : dctK a = dctK b ↔ a = b := ⟨dctK_inj, fun h => by rw [h]⟩
theorem k_ii {i j : Int} : (PyData.tuple [.int i, .int j]) = keyT [.inl i, .inl j] := rfl
end

/-! ### the combinators, applied -/
section
variable {t u v : DS} {d : DEnds} {Z : Zs} {ρ : List Sl} {te tf tg : DT} {tt tu : DTt} {ta : DTa} {P : D → Prop} {Pb : Bool → Prop} {Pa : List D → Prop} {Pi : List D → Prop} {Po : Option Int → Prop} {Q : List Sl → Prop} {i : Nat} {x : D} {xs : List D} {w : CW}
theorem e_seq : dSeq t u d Z ρ ↔ t { d with nx := fun ρ' => u d Z ρ' } Z ρ := Iff.rfl
theorem e_next : dNext d Z ρ ↔ d.nx ρ := Iff.rfl
theorem e_set : dSet i te d Z ρ ↔ te ρ (fun x => d.nx (ρ.set i (.fz x))) Z := Iff.rfl
theorem e_setN : dSetN i te d Z ρ ↔ te ρ (fun x => d.nx (ρ.set i (.ow x))) Z := Iff.rfl
theorem e_setS : dSetS i te d Z ρ ↔ te ρ (fun x => d.nx (ρ.set i (.ln x))) Z := Iff.rfl
theorem e_if : dIf tt u v d Z ρ ↔ tt ρ (fun c => (c = true → u d Z ρ) ∧ (c = false → v d Z ρ)) Z := Iff.rfl
theorem e_ret : dRet te d Z ρ ↔ te ρ d.rt Z := Iff.rfl
theorem e_retO : dRetO i d Z ρ ↔ ∃ x, ρ[i]? = some (.ow x) ∧ d.rt x := Iff.rfl
theorem e_drop : dDrop te d Z ρ ↔ te ρ (fun _ => d.nx ρ) Z := Iff.rfl
theorem e_frz : dFrz i t d Z ρ ↔ t d Z (frz i ρ) := Iff.rfl
theorem e_raise {x : String} : dRaise x d Z ρ ↔ Z ρ x := Iff.rfl
theorem e_asg {g : DGt} : dAsg te g d Z ρ ↔ te ρ (fun x => g x ρ d.nx) Z := Iff.rfl
theorem e_app : dApp i te d Z ρ ↔ ∃ ds, ρ[i]? = some (.ow (.list ds)) ∧ ds.length ≤ 100000 ∧ te ρ (fun y => d.nx (ρ.set i (.ow (.list (ds ++ [y]))))) Z := Iff.rfl
theorem e_ext : dExt i te d Z ρ ↔ ∃ ds, ρ[i]? = some (.ow (.list ds)) ∧ te ρ (fun y => ∃ es, y = .list es ∧ ds.length + es.length ≤ 100000 ∧ d.nx (ρ.set i (.ow (.list (ds ++ es))))) Z := Iff.rfl
theorem e_rev : dRev i d Z ρ ↔ ∃ ds, ρ[i]? = some (.ow (.list ds)) ∧ d.nx (ρ.set i (.ow (.list ds.reverse))) := Iff.rfl
theorem e_putL : dPutL i te tf d Z ρ ↔ ∃ ds, ρ[i]? = some (.ow (.list ds)) ∧ tf ρ (fun y => te ρ (fun k => ∃ n j, k = .int n ∧ ixN ds.length n = some j ∧ d.nx (ρ.set i (.ow (.list (ds.set j y))))) Z) Z := Iff.rfl
theorem e_putT : dPutT i te tf d Z ρ ↔ ∃ kds, ρ[i]? = some (.ow (dctT kds)) ∧ kds.length ≤ 100000 ∧ tf ρ (fun y => te ρ (fun k => ∃ ks, k = keyT ks ∧ d.nx (ρ.set i (.ow (dctT (putD kds ks y))))) Z) Z := Iff.rfl
theorem e_putK : dPutK i te tf d Z ρ ↔ ∃ kds, ρ[i]? = some (.ow (dctK kds)) ∧ kds.length ≤ 100000 ∧ tf ρ (fun y => te ρ (fun k => ∃ ks, k = keyD ks ∧ d.nx (ρ.set i (.ow (dctK (putD kds ks y))))) Z) Z := Iff.rfl
theorem e_V : dV i ρ P Z ↔ ∃ d, ρ[i]? = some (.fz d) ∧ P d := Iff.rfl
theorem e_Vs : dVs i ρ P Z ↔ ∃ d, ρ[i]?.bind Sl.st = some d ∧ P d := Iff.rfl
theorem e_Vr : dVr i ρ P Z ↔ ∃ d, ρ[i]?.bind Sl.rd = some d ∧ P d := Iff.rfl
theorem e_C : dC x ρ P Z ↔ P x := Iff.rfl
theorem e_1 {rd : D → (D → Prop) → Prop} : d1 rd te ρ P Z ↔ te ρ (fun x => rd x P) Z := Iff.rfl
theorem e_2 {rd : D → D → (D → Prop) → Prop} : d2 rd te tf ρ P Z ↔ te ρ (fun x => tf ρ (fun y => rd x y P) Z) Z := Iff.rfl
theorem e_A {rd : List D → (D → Prop) → Prop} : dA rd ta ρ P Z ↔ ta ρ (fun xs => rd xs P) Z := Iff.rfl
theorem e_nil : dNil ρ Pa Z ↔ Pa [] := Iff.rfl
theorem e_cons : dCons te ta ρ Pa Z ↔ te ρ (fun x => ta ρ (fun xs => Pa (x :: xs)) Z) Z := Iff.rfl
theorem e_tup : dTup ta ρ P Z ↔ ta ρ (fun ds => ds.length ≤ 100000 ∧ P (.tuple ds)) Z := Iff.rfl
theorem e_lst : dLst ta ρ P Z ↔ ta ρ (fun ds => ds.length ≤ 100000 ∧ P (.list ds)) Z := Iff.rfl
theorem e_B : dB te ρ Pb Z ↔ te ρ (fun d => ∃ c, d = .bool c ∧ Pb c) Z := Iff.rfl
theorem e_not : dNot tt ρ Pb Z ↔ tt ρ (fun c => Pb (!c)) Z := Iff.rfl
theorem e_and : dAnd tt tu ρ Pb Z ↔ tt ρ (fun c => (c = true → tu ρ Pb Z) ∧ (c = false → Pb false)) Z := Iff.rfl
theorem e_or : dOr tt tu ρ Pb Z ↔ tt ρ (fun c => (c = true → Pb true) ∧ (c = false → tu ρ Pb Z)) Z := Iff.rfl
theorem e_andV : dAndV te tf ρ P Z ↔ te ρ (fun d => ∃ c, d = .bool c ∧ (c = true → tf ρ P Z) ∧ (c = false → P (.bool false))) Z := Iff.rfl
theorem e_orV : dOrV te tf ρ P Z ↔ te ρ (fun d => ∃ c, d = .bool c ∧ (c = true → P (.bool true)) ∧ (c = false → tf ρ P Z)) Z := Iff.rfl
theorem e_notV : dNotV te ρ P Z ↔ te ρ (fun d => ∃ c, d = .bool c ∧ P (.bool (!c))) Z := Iff.rfl
theorem e_ifE : dIfE tt te tf ρ P Z ↔ tt ρ (fun c => (c = true → te ρ P Z) ∧ (c = false → tf ρ P Z)) Z := Iff.rfl
theorem e_call : dCall w ta ρ P Z ↔ ta ρ (fun ds => w ds P (fun _ => False)) Z := Iff.rfl
theorem e_callX : dCallX w ta ρ P Z ↔ ta ρ (fun ds => w ds P (Z ρ)) Z := Iff.rfl
theorem e_isi {T : String} : dIsi te T ρ P Z ↔ te ρ (fun d => lkB d = false ∧ P (.bool (isB (tyN d) T))) Z := Iff.rfl
theorem e_noP {ρ : List Sl} : dNoP ρ Po Z ↔ Po none := Iff.rfl
theorem e_part : dPart te ρ Po Z ↔ te ρ (fun x => ∃ i, x = .int i ∧ Po (some i)) Z := Iff.rfl
theorem e_slice {tl th : DTo} : dSlice te tl th ρ P Z ↔ te ρ (fun x => tl ρ (fun lo => th ρ (fun hi => cutR x lo hi P) Z) Z) Z := Iff.rfl
theorem e_sliceN {tl th : DTo} : dSliceN te tl th ρ P Z ↔ te ρ (fun x => tl ρ (fun lo => th ρ (fun hi => cutN x lo hi P) Z) Z) Z := Iff.rfl
theorem e_it : dIt te ρ Pi Z ↔ te ρ (fun x => ∃ ds, (x = .list ds ∨ x = .tuple ds) ∧ Pi ds) Z := Iff.rfl
theorem e_rng1 : dRng1 ta ρ Pi Z ↔ ta ρ (fun ds => ∃ j : Int, ds = [.int j] ∧ -(2 ^ 62) ≤ j ∧ j < 2 ^ 62 ∧ Pi (rangeD 0 j.toNat)) Z := Iff.rfl
theorem e_rng2 : dRng2 ta ρ Pi Z ↔ ta ρ (fun ds => ∃ i j : Int, ds = [.int i, .int j] ∧ (-(2 ^ 62) ≤ i ∧ i < 2 ^ 62 ∧ -(2 ^ 62) ≤ j ∧ j < 2 ^ 62) ∧ Pi (rangeD i (j - i).toNat)) Z := Iff.rfl
theorem e_enum : dEnum ta ρ Pi Z ↔ ta ρ (fun ds => ∃ xs, ds = [.list xs] ∧ Pi (enumD xs)) Z := Iff.rfl
theorem e_gNm : gNm i x ρ Q ↔ Q (ρ.set i (.fz x)) := Iff.rfl
theorem e_gNil : gNil xs ρ Q ↔ xs = [] ∧ Q ρ := Iff.rfl
theorem e_gCns {g : DGt} {gs : DGts} : gCns g gs xs ρ Q ↔ ∃ x r, xs = x :: r ∧ g x ρ (fun ρ' => gs r ρ' Q) := Iff.rfl
theorem e_gTp {n : Nat} {gs : DGts} : gTp n gs x ρ Q ↔ ∃ xs, x = .tuple xs ∧ xs.length = n ∧ gs xs ρ Q := Iff.rfl
theorem e_din {neg : Bool} : dDIn neg te tf ρ P Z ↔ te ρ (fun y => tf ρ (fun x => ∃ r, DGetD x y r ∧ P (.bool (r.isSome ^^ neg))) Z) Z := Iff.rfl
theorem e_dget : dDGet te tf ρ P Z ↔ te ρ (fun x => tf ρ (fun y => ∃ d, DGetD x y (some d) ∧ P d) Z) Z := Iff.rfl
theorem e_chain {r1 r2 : D → D → (D → Prop) → Prop} : dChain r1 r2 te tf tg ρ P Z ↔ te ρ (fun x => tf ρ (fun y => r1 x y (fun z => ∃ c, z = .bool c ∧ (c = true → tg ρ (fun w => r2 y w P) Z) ∧ (c = false → P (.bool false)))) Z) Z := Iff.rfl
theorem e_yes : dYes ρ Pb Z ↔ Pb true := Iff.rfl
theorem x_addI {i j : Int} : addD (.int i) (.int j) P ↔ P (.int (i + j)) := Iff.rfl
theorem x_addL {a b : List D} : addD (.list a) (.list b) P ↔ a.length + b.length ≤ 100000 ∧ P (.list (a ++ b)) := Iff.rfl
theorem x_addT {a b : List D} : addD (.tuple a) (.tuple b) P ↔ a ≠ [] ∧ a.length + b.length ≤ 100000 ∧ P (.tuple (a ++ b)) := Iff.rfl
theorem x_cat {a b : List D} : catD (.list a) (.list b) P ↔ a.length + b.length ≤ 100000 ∧ P (.list (a ++ b)) := ⟨fun ⟨_, _, h1, h2, h⟩ => by cases h1; cases h2; exact h, fun h => ⟨a, b, rfl, rfl, h⟩⟩
theorem x_cutL {a : List D} {lo hi : Option Int} : cutR (.list a) lo hi P ↔ P (.list (cutD a lo hi)) := Iff.rfl
theorem x_cutT {a : List D} {lo hi : Option Int} : cutR (.tuple a) lo hi P ↔ ¬ (HT.sIx a.length 0 lo = 0 ∧ HT.sIx a.length a.length hi = a.length) ∧ P (.tuple (cutD a lo hi)) := Iff.rfl
theorem x_cutN {a : List D} {lo hi : Option Int} : cutN (.list a) lo hi P ↔ P (.list (cutD a lo hi)) := ⟨fun ⟨_, h1, h⟩ => by cases h1; exact h, fun h => ⟨a, rfl, h⟩⟩
theorem fgt_nil {ρ : List Sl} : fgt [] ρ = ρ := rfl
theorem fgt_cons {i : Nat} {is : List Nat} {ρ : List Sl} : fgt (i :: is) ρ = (fgt is ρ).set i .un := rfl
end

/-! isinstance's answers -/
theorem ib_00 : isB "NoneType" "bool" = false := by decide
theorem ib_01 : isB "NoneType" "int" = false := by decide
theorem ib_02 : isB "NoneType" "str" = false := by decide
theorem ib_03 : isB "NoneType" "list" = false := by decide
theorem ib_04 : isB "NoneType" "tuple" = false := by decide
theorem ib_05 : isB "NoneType" "dict" = false := by decide
theorem ib_10 : isB "bool" "bool" = true := by decide
theorem ib_11 : isB "bool" "int" = true := by decide
theorem ib_12 : isB "bool" "str" = false := by decide
theorem ib_13 : isB "bool" "list" = false := by decide
theorem ib_14 : isB "bool" "tuple" = false := by decide
theorem ib_15 : isB "bool" "dict" = false := by decide
theorem ib_20 : isB "int" "bool" = false := by decide
theorem ib_21 : isB "int" "int" = true := by decide
theorem ib_22 : isB "int" "str" = false := by decide
theorem ib_23 : isB "int" "list" = false := by decide
theorem ib_24 : isB "int" "tuple" = false := by decide
theorem ib_25 : isB "int" "dict" = false := by decide
theorem ib_30 : isB "str" "bool" = false := by decide
theorem ib_31 : isB "str" "int" = false := by decide
theorem ib_32 : isB "str" "str" = true := by decide
theorem ib_33 : isB "str" "list" = false := by decide
theorem ib_34 : isB "str" "tuple" = false := by decide
theorem ib_35 : isB "str" "dict" = false := by decide
theorem ib_40 : isB "list" "bool" = false := by decide
theorem ib_41 : isB "list" "int" = false := by decide
theorem ib_42 : isB "list" "str" = false := by decide
theorem ib_43 : isB "list" "list" = true := by decide
theorem ib_44 : isB "list" "tuple" = false := by decide
theorem ib_45 : isB "list" "dict" = false := by decide
theorem ib_50 : isB "tuple" "bool" = false := by decide
theorem ib_51 : isB "tuple" "int" = false := by decide
theorem ib_52 : isB "tuple" "str" = false := by decide
theorem ib_53 : isB "tuple" "list" = false := by decide
theorem ib_54 : isB "tuple" "tuple" = true := by decide
theorem ib_55 : isB "tuple" "dict" = false := by decide
theorem ib_60 : isB "dict" "bool" = false := by decide
theorem ib_61 : isB "dict" "int" = false := by decide
theorem ib_62 : isB "dict" "str" = false := by decide
theorem ib_63 : isB "dict" "list" = false := by decide
theorem ib_64 : isB "dict" "tuple" = false := by decide
theorem ib_65 : isB "dict" "dict" = true := by decide
/-! ### loops -/
def ForI (fs : List Nat) (g : DGt) (tb : DS) (d : DEnds) (Z : Zs) (ρ : List Sl) (L : List D) : Prop := ∃ I : Nat → List Sl → Prop, I 0 (fgt fs ρ) ∧ (∀ ρ', I L.length ρ' → d.nx ρ') ∧
  ∀ i x ρ', L[i]? = some x → I i ρ' → g x ρ' (fun ρ2 => tb { d with nx := fun ρ3 => I (i + 1) (fgt fs ρ3), ct := fun ρ3 => I (i + 1) (fgt fs ρ3), bk := d.nx } Z ρ2)
theorem e_for {fs : List Nat} {ti : DTi} {g : DGt} {tb : DS} {d : DEnds} {Z : Zs} {ρ : List Sl} : dFor fs ti g tb d Z ρ ↔ ti ρ (ForI fs g tb d Z ρ) Z := Iff.rfl
theorem take_at {α : Type} {M : List α} {i : Nat} {x : α} (h : M[i]? = some x) : M = M.take i ++ x :: M.drop (i + 1) ∧ M.take (i + 1) = M.take i ++ [x] := by
  obtain ⟨hi, e⟩ := List.getElem?_eq_some_iff.mp h
  constructor
  · rw [← e, List.getElem_cons_drop hi, List.take_append_drop]
  · rw [List.take_add_one, h]
    rfl
/-- by what has been walked -/
theorem forI {α S : Type} {fs : List Nat} {g : DGt} {tb : DS} {d : DEnds} {Z : Zs} {ρ : List Sl} {L : List D} (enc : α → D) (M : List α) (I : List α → S → Prop) (r : S → List Sl) (s0 : S) (h0 : fgt fs ρ = r s0) (i0 : I [] s0) (hend : ∀ s, I M s → d.nx (r s))
    (step : ∀ pre x post s, M = pre ++ x :: post → I pre s → g (enc x) (r s) (fun ρ2 => tb { d with nx := fun ρ3 => ∃ s', fgt fs ρ3 = r s' ∧ I (pre ++ [x]) s', ct := fun ρ3 => ∃ s', fgt fs ρ3 = r s' ∧ I (pre ++ [x]) s', bk := d.nx } Z ρ2)) (hL : L = M.map enc) : ForI fs g tb d Z ρ L := by
  subst hL
  refine ⟨fun i ρ' => ∃ s, ρ' = r s ∧ I (M.take i) s, ⟨s0, h0, i0⟩, fun ρ' ⟨s, e, hi⟩ => ?_, fun i x ρ' hx ⟨s, e, hi⟩ => ?_⟩
  · rw [List.length_map, List.take_length] at hi
    rw [e]
    exact hend s hi
  · rw [List.getElem?_map] at hx
    obtain ⟨y, hy, rfl⟩ := Option.map_eq_some_iff.mp hx
    obtain ⟨h1, h2⟩ := take_at hy
    subst e
    have := step (M.take i) y (M.drop (i + 1)) s h1 hi
    rw [← h2] at this
    exact this
/-- the state is a function of what has been walked -/
theorem forF {α : Type} {fs : List Nat} {g : DGt} {tb : DS} {d : DEnds} {Z : Zs} {ρ : List Sl} {L : List D} (enc : α → D) (M : List α) (r : List α → List Sl) (h0 : fgt fs ρ = r []) (hend : d.nx (r M))
    (step : ∀ pre x post, M = pre ++ x :: post → g (enc x) (r pre) (fun ρ2 => tb { d with nx := fun ρ3 => fgt fs ρ3 = r (pre ++ [x]), ct := fun ρ3 => fgt fs ρ3 = r (pre ++ [x]), bk := d.nx } Z ρ2)) (hL : L = M.map enc) : ForI fs g tb d Z ρ L := by
  subst hL
  refine ⟨fun i ρ' => ρ' = r (M.take i), h0, fun ρ' e => ?_, fun i x ρ' hx e => ?_⟩
  · rw [List.length_map, List.take_length] at e
    rw [e]
    exact hend
  · rw [List.getElem?_map] at hx
    obtain ⟨y, hy, rfl⟩ := Option.map_eq_some_iff.mp hx
    obtain ⟨h1, h2⟩ := take_at hy
    subst e
    have := step (M.take i) y (M.drop (i + 1)) h1
    rw [← h2] at this
    exact this
def LcI (vs : List Nat) (g : DGt) (tt : DTt) (te : DT) (ρ : List Sl) (P : D → Prop) (L : List D) : Prop := ∃ M : Nat → List D, M 0 = [] ∧ P (.list (M L.length)) ∧
  ∀ i x, L[i]? = some x → g x (fgt vs ρ) (fun ρ2 => tt ρ2 (fun c => (c = true → te ρ2 (fun y => M (i + 1) = M i ++ [y] ∧ (M i).length ≤ 100000) Z0) ∧ (c = false → M (i + 1) = M i)) Z0)
theorem e_lc {vs : List Nat} {ti : DTi} {g : DGt} {tt : DTt} {te : DT} {ρ : List Sl} {P : D → Prop} {Z : Zs} : dLc vs ti g tt te ρ P Z ↔ ti ρ (LcI vs g tt te ρ P) Z := Iff.rfl
theorem lcI {α : Type} {vs : List Nat} {g : DGt} {tt : DTt} {te : DT} {ρ : List Sl} {P : D → Prop} {L : List D} (enc : α → D) (M : List α) (keep : α → Bool) (f : α → D) (hl : M.length ≤ 100000)
    (step : ∀ x ∈ M, ∀ (K : D → Prop) (K2 : Prop), (keep x = true → K (f x)) → (keep x = false → K2) → g (enc x) (fgt vs ρ) (fun ρ2 => tt ρ2 (fun c => (c = true → te ρ2 K Z0) ∧ (c = false → K2)) Z0))
    (hP : P (.list ((M.filter keep).map f))) (hL : L = M.map enc) : LcI vs g tt te ρ P L := by
  subst hL
  refine ⟨fun i => ((M.take i).filter keep).map f, rfl, by show P (.list (((M.take (M.map enc).length).filter keep).map f)); rw [List.length_map, List.take_length]; exact hP, fun i x hx => ?_⟩
  rw [List.getElem?_map] at hx
  obtain ⟨y, hy, rfl⟩ := Option.map_eq_some_iff.mp hx
  obtain ⟨h1, h2⟩ := take_at hy
  refine step y (List.mem_of_getElem? hy) (fun z => ((M.take (i + 1)).filter keep).map f = ((M.take i).filter keep).map f ++ [z] ∧ (((M.take i).filter keep).map f).length ≤ 100000) _ (fun hk => ?_) (fun hk => ?_)
  · refine ⟨?_, ?_⟩
    · rw [h2, List.filter_append, List.map_append]
      simp [hk]
    · rw [List.length_map]
      have a := List.length_filter_le keep (M.take i)
      have b : (M.take i).length ≤ M.length := List.length_take_le' i M
      omega
  · show ((M.take (i + 1)).filter keep).map f = ((M.take i).filter keep).map f
    rw [h2, List.filter_append, List.map_append]
    simp [hk]
/-- no test -/
theorem lcA {α : Type} {vs : List Nat} {g : DGt} {te : DT} {ρ : List Sl} {P : D → Prop} {L : List D} (enc : α → D) (M : List α) (f : α → D) (hl : M.length ≤ 100000)
    (step : ∀ x ∈ M, ∀ (K : D → Prop) (K2 : Prop), K (f x) → g (enc x) (fgt vs ρ) (fun ρ2 => dYes ρ2 (fun c => (c = true → te ρ2 K Z0) ∧ (c = false → K2)) Z0))
    (hP : P (.list (M.map f))) (hL : L = M.map enc) : LcI vs g dYes te ρ P L := by
  refine lcI enc M (fun _ => true) f hl (fun x hx K K2 h _ => step x hx K K2 (h rfl)) ?_ hL
  rw [List.filter_eq_self.mpr fun _ _ => rfl]
  exact hP
theorem range_enc {lo : Int} {n : Nat} : rangeD lo n = ((List.range n).map fun i => lo + (i : Nat)).map .int := by
  unfold rangeD
  rw [List.map_map]
  rfl
theorem range_encN {n : Nat} : rangeD 0 n = (List.range n).map fun (i : Nat) => .int (i : Nat) := by
  unfold rangeD
  refine List.map_congr_left fun i _ => ?_
  rw [Int.zero_add]
theorem enum_enc {α : Type} (enc : α → D) (M : List α) : enumD (M.map enc) = M.zipIdx.map fun p => .tuple [.int (p.2 : Nat), enc p.1] := by
  unfold enumD
  refine List.ext_getElem? fun i => ?_
  rw [List.getElem?_mapIdx, List.getElem?_map, List.getElem?_map, List.getElem?_zipIdx]
  cases M[i]? <;> simp
end DL
set_option maxRecDepth 100000
set_option maxHeartbeats 4000000
/-! DLT: try .. except X as n; isinstance of the caught one. -/
namespace DL
open PySem PySem.Spec PyProof.Rows L2
variable {T : List (Addr × Str)}

/-- behind a suite its name is gone -/
def DEnds.un (d : DEnds) (i : Nat) : DEnds := { nx := fun ρ => d.nx (ρ.set i .un), rt := d.rt, bk := fun ρ => d.bk (ρ.set i .un), ct := fun ρ => d.ct (ρ.set i .un) }
/-- what is wanted of the body's exceptions: by class, its suite, or none (it goes on out) -/
def hsZ (i : Nat) (d : DEnds) (Z : Zs) (ρ : List Sl) : List (String × Option (Addr → DS)) → String → Prop
  | [], _ => False
  | (y, o) :: r, x => if y = x then (match o with
    | some u => ∀ a, u a (d.un i) Z0 (ρ.set i (.at a))
    | none => Z ρ x) else hsZ i d Z ρ r x
def dTryAs (i : Nat) (hs : List (String × Option (Addr → DS))) (tb : DS) : DS := fun d Z ρ => tb d (fun ρ' x => hsZ i d Z ρ' hs x) ρ
/-- the class x and what the clause says of it -/
def TkF (X : Cx) (c : Value) (x : String) (b : Bool) : Prop := ∃ C, X.mg (x : Str) = some (.ref C) ∧ PySem.W.exmOne X.K (.ref C) c = some b
inductive HsA (X : Cx) (T : List (Addr × Str)) (c : Value) (rm : Md) (suite : List Stmt) : List (String × Option (Addr → DS)) → Prop
  | nil : HsA X T c rm suite []
  | take {x : String} {u : Addr → DS} {r : List (String × Option (Addr → DS))} (h : TkF X c x true)
      (hd : ∀ (C a : Addr) (oe : Obj) (pn : List (Addr × Obj)), X.mg (x : Str) = some (.ref C) → Zc (.ref C) none oe → (∃ vs, oe.data = .fields vs) → DSs (X.suite a ((a, oe) :: pn)) (W0 T) rm suite (u a)) (hr : HsA X T c rm suite r) : HsA X T c rm suite ((x, some u) :: r)
  | pass {x : String} {r : List (String × Option (Addr → DS))} (h : TkF X c x false) (hr : HsA X T c rm suite r) : HsA X T c rm suite ((x, none) :: r)
section
variable {X : Cx} {W : WT} {rm : Md}
theorem hs_case {T : List (Addr × Str)} {c : Value} {suite : List Stmt} {i : Nat} {d : DEnds} {Z : Zs} {ρ : List Sl} : ∀ {hs : List (String × Option (Addr → DS))} {x : String}, HsA X T c rm suite hs → hsZ i d Z ρ hs x →
    (∃ u : Addr → DS, TkF X c x true ∧ (∀ (C a : Addr) (oe : Obj) (pn : List (Addr × Obj)), X.mg (x : Str) = some (.ref C) → Zc (.ref C) none oe → (∃ vs, oe.data = .fields vs) → DSs (X.suite a ((a, oe) :: pn)) (W0 T) rm suite (u a)) ∧ ∀ a, u a (d.un i) Z0 (ρ.set i (.at a))) ∨ (TkF X c x false ∧ Z ρ x)
  | _, _, .nil, q => q.elim
  | _, x, .take (x := y) (u := u) h hd hr, q => by
    unfold hsZ at q
    by_cases e : y = x
    · subst e
      rw [if_pos rfl] at q
      exact .inl ⟨u, h, hd, q⟩
    · rw [if_neg e] at q
      exact hs_case hr q
  | _, x, .pass (x := y) h hr, q => by
    unfold hsZ at q
    by_cases e : y = x
    · subst e
      rw [if_pos rfl] at q
      exact .inr ⟨h, q⟩
    · rw [if_neg e] at q
      exact hs_case hr q
theorem tk_at {c : Value} {x : String} {b : Bool} {C : Addr} (h : TkF X c x b) (hm : X.mg (x : Str) = some (.ref C)) : PySem.W.exmOne X.K (.ref C) c = some b := by
  obtain ⟨C', h1, h2⟩ := h
  rw [hm] at h1
  cases h1
  exact h2
theorem ds_try_as (i : Nat) {x n : Str} {c : Value} {body suite : List Stmt} {b₀ : Stmt} {np pos pos' : Pos} {hs : List (String × Option (Addr → DS))} {tb : DS} (hN : X.N.Nodup) (tk : Takes X W.w) (hc : Names X x c)
    (hb : ∀ (W' : WX) (pn : List (Addr × Obj)) (xe : Value → Shared → Prop), Takes (X.tr pn xe) W' → PassesOwn (model X.prog X.w) X.A X.env xe → DSs (X.tr pn xe) ⟨W', W.T⟩ rm body tb) (hh : HsA X W.T c rm (b₀ :: suite) hs)
    (hst : X.stack = X.env :: X.outer := by rfl) (hf : X.env.frame = some X.env.locals := by rfl) (hi : X.N[i]? = some n := by rfl) (hln : X.env.kindOf n = some .local := by rfl) :
    DS1 X W rm (.Try body [.ExceptHandler (some (.Name x np)) (some n) (b₀ :: suite) pos'] [] [] pos) (dTryAs i hs tb) := by
  let ts : Addr → Value → Option Addr → TS := fun a cls d0 D σ H => ∃ (y : String) (C : Addr) (u : Addr → DS), X.mg (y : Str) = some (.ref C) ∧ cls = .ref C ∧ d0 = none ∧
    (∀ (oe : Obj) (pn : List (Addr × Obj)), Zc (.ref C) none oe → (∃ vs, oe.data = .fields vs) → DSs (X.suite a ((a, oe) :: pn)) (W0 W.T) rm (b₀ :: suite) (u a)) ∧ cS X.mg X.K (W0 W.T) rm (u a) D σ H
  refine ⟨_, ps_try_as (i := i) (tb := fun W' => cS X.mg X.K ⟨W', W.T⟩ rm tb) (ts := ts) (Wout := W.w) hst hf hN hi hln hc tk (fun W' pn xe tk' po => (hb W' pn xe tk' po).ps) (fun a oe cls d0 pn hz hv => ?_), fun b F H σ ρ D d Z R z q cn => ?_⟩
  · refine ⟨fun pins s σ H D I h => ?_⟩
    obtain ⟨y, C, u, hm, rfl, rfl, dv, cs⟩ := h
    exact (dv oe pn hz hv).ps.run pins s σ H D I cs
  · refine ⟨b, F, ρ, d, _, R, ⟨z.t, fun ρ' F' H' σ' y C s' hm R' hq => ?_⟩, q, cn⟩
    rcases hs_case hh hq with ⟨u, h1, h2, h3⟩ | ⟨h1, h2⟩
    · refine ⟨true, tk_at h1 hm, fun _ a na => ⟨y, C, u, hm, rfl, rfl, fun oe pn hz hv => h2 C a oe pn hm hz hv, b, F', _, _, Z0, R'.setX i (some (.ref a)) (.at a) ⟨rfl, rfl⟩, zok0 z.t, h3 a, ?_⟩, (fun e => nomatch e)⟩
      exact ⟨fun ρ2 F2 H2 σ2 s2 R2 p => cn.nx _ F2 H2 _ (s'.trans s2) (R2.setX i none .un rfl) p, fun ρ2 F2 H2 σ2 s2 R2 p => cn.bk _ F2 H2 _ (s'.trans s2) (R2.setX i none .un rfl) p,
        fun ρ2 F2 H2 σ2 s2 R2 p => cn.ct _ F2 H2 _ (s'.trans s2) (R2.setX i none .un rfl) p, cn.rt⟩
    · exact ⟨false, tk_at h1 hm, (fun e => nomatch e), fun _ => z.z ρ' F' H' σ' y C s' hm R' h2⟩
/-! without a name -/
def hsZo (d : DEnds) (Z : Zs) (ρ : List Sl) : List (String × Option DS) → String → Prop
  | [], _ => False
  | (y, o) :: r, x => if y = x then (match o with
    | some u => u d Z0 ρ
    | none => Z ρ x) else hsZo d Z ρ r x
def dTry (hs : List (String × Option DS)) (tb : DS) : DS := fun d Z ρ => tb d (fun ρ' x => hsZo d Z ρ' hs x) ρ
inductive HsO (X : Cx) (T : List (Addr × Str)) (c : Value) (rm : Md) (suite : List Stmt) : List (String × Option DS) → Prop
  | nil : HsO X T c rm suite []
  | take {x : String} {u : DS} {r : List (String × Option DS)} (h : TkF X c x true)
      (hd : ∀ (C a : Addr) (oe : Obj) (pn : List (Addr × Obj)), X.mg (x : Str) = some (.ref C) → Zc (.ref C) none oe → (∃ vs, oe.data = .fields vs) → DSs (X.suite a ((a, oe) :: pn)) (W0 T) rm suite u) (hr : HsO X T c rm suite r) : HsO X T c rm suite ((x, some u) :: r)
  | pass {x : String} {r : List (String × Option DS)} (h : TkF X c x false) (hr : HsO X T c rm suite r) : HsO X T c rm suite ((x, none) :: r)
theorem hs_caseO {T : List (Addr × Str)} {c : Value} {suite : List Stmt} {d : DEnds} {Z : Zs} {ρ : List Sl} : ∀ {hs : List (String × Option DS)} {x : String}, HsO X T c rm suite hs → hsZo d Z ρ hs x →
    (∃ u : DS, TkF X c x true ∧ (∀ (C a : Addr) (oe : Obj) (pn : List (Addr × Obj)), X.mg (x : Str) = some (.ref C) → Zc (.ref C) none oe → (∃ vs, oe.data = .fields vs) → DSs (X.suite a ((a, oe) :: pn)) (W0 T) rm suite u) ∧ u d Z0 ρ) ∨ (TkF X c x false ∧ Z ρ x)
  | _, _, .nil, q => q.elim
  | _, x, .take (x := y) (u := u) h hd hr, q => by
    unfold hsZo at q
    by_cases e : y = x
    · subst e
      rw [if_pos rfl] at q
      exact .inl ⟨u, h, hd, q⟩
    · rw [if_neg e] at q
      exact hs_caseO hr q
  | _, x, .pass (x := y) h hr, q => by
    unfold hsZo at q
    by_cases e : y = x
    · subst e
      rw [if_pos rfl] at q
      exact .inr ⟨h, q⟩
    · rw [if_neg e] at q
      exact hs_caseO hr q
theorem ds_try {x : Str} {c : Value} {body suite : List Stmt} {b₀ : Stmt} {np pos pos' : Pos} {hs : List (String × Option DS)} {tb : DS} (tk : Takes X W.w) (hc : Names X x c)
    (hb : ∀ (W' : WX) (pn : List (Addr × Obj)) (xe : Value → Shared → Prop), Takes (X.tr pn xe) W' → PassesOwn (model X.prog X.w) X.A X.env xe → DSs (X.tr pn xe) ⟨W', W.T⟩ rm body tb) (hh : HsO X W.T c rm (b₀ :: suite) hs)
    (hst : X.stack = X.env :: X.outer := by rfl) (hf : X.env.frame = some X.env.locals := by rfl) :
    DS1 X W rm (.Try body [.ExceptHandler (some (.Name x np)) none (b₀ :: suite) pos'] [] [] pos) (dTry hs tb) := by
  let ts : Addr → Value → Option Addr → TS := fun a cls d0 D σ H => ∃ (y : String) (C : Addr) (u : DS), X.mg (y : Str) = some (.ref C) ∧ cls = .ref C ∧ d0 = none ∧
    (∀ (oe : Obj) (pn : List (Addr × Obj)), Zc (.ref C) none oe → (∃ vs, oe.data = .fields vs) → DSs (X.suite a ((a, oe) :: pn)) (W0 W.T) rm (b₀ :: suite) u) ∧ cS X.mg X.K (W0 W.T) rm u D σ H
  refine ⟨_, ps_try_only (tb := fun W' => cS X.mg X.K ⟨W', W.T⟩ rm tb) (ts := ts) (Wout := W.w) hst hf hc tk (fun W' pn xe tk' po => (hb W' pn xe tk' po).ps) (fun a oe cls d0 pn hz hv => ?_), fun b F H σ ρ D d Z R z q cn => ?_⟩
  · refine ⟨fun pins s σ H D I h => ?_⟩
    obtain ⟨y, C, u, hm, rfl, rfl, dv, cs⟩ := h
    exact (dv oe pn hz hv).ps.run pins s σ H D I cs
  · refine ⟨b, F, ρ, d, _, R, ⟨z.t, fun ρ' F' H' σ' y C s' hm R' hq => ?_⟩, q, cn⟩
    rcases hs_caseO hh hq with ⟨u, h1, h2, h3⟩ | ⟨h1, h2⟩
    · exact ⟨true, tk_at h1 hm, fun _ a na => ⟨y, C, u, hm, rfl, rfl, fun oe pn hz hv => h2 C a oe pn hm hz hv, b, F', _, _, Z0, R', zok0 z.t, h3, cn.mono s'⟩, (fun e => nomatch e)⟩
    · exact ⟨false, tk_at h1 hm, (fun e => nomatch e), fun _ => z.z ρ' F' H' σ' y C s' hm R' h2⟩

theorem kit_ref {K : PySem.W.Frag} {C D : Addr} {b : Bool} (hd : PySem.W.hasDictIn K D = true) (ht : PySem.W.typeIn K (.ref D) = some (.type "type")) (hr : PySem.W.subIn K (.ref C) (.ref C) = some true) (hs : PySem.W.subIn K (.ref C) (.ref D) = some b) : PySem.W.kitOne K (.ref C) (.ref D) = some b := by
  unfold PySem.W.kitOne
  by_cases e : (Value.ref C == Value.ref D) = true
  · rw [if_pos e]
    have e2 : Value.ref C = Value.ref D := eq_of_beq e
    cases e2
    rw [hr] at hs
    exact hs
  · rw [if_neg e]
    have e2 : ((PySem.W.clsIn K D).isSome && PySem.W.typeIn K (.ref D) == some (.type "type")) = true := by
      have h1 : (PySem.W.clsIn K D).isSome = true := by
        unfold PySem.W.hasDictIn at hd
        cases h : PySem.W.clsIn K D with
        | none => rw [h] at hd; cases hd
        | some cd => rfl
      rw [h1, ht]
      rfl
    show (if ((PySem.W.clsIn K D).isSome && PySem.W.typeIn K (.ref D) == some (.type "type")) = true then PySem.W.subIn K (.ref C) (.ref D) else none) = some b
    rw [if_pos e2]
    exact hs
theorem kit_bt {K : PySem.W.Frag} {C : Addr} {T : String} {b : Bool} (hm : PySem.W.kitMeta T = true) (hs : PySem.W.subIn K (.ref C) (.type T) = some b) : PySem.W.kitOne K (.ref C) (.type T) = some b := by
  unfold PySem.W.kitOne
  rw [if_neg (by intro h; cases (eq_of_beq h))]
  show (if PySem.W.kitMeta T = true then PySem.W.subIn K (.ref C) (.type T) else none) = some b
  rw [if_pos hm]
  exact hs
/-! ### isinstance of the caught one -/
/-- a class as a value -/
structure ClsE (X : Cx) (x : Str) (cv : Value) (v : V) : Prop where
  pe : ∀ p, PE X (.Name x p) (tC v)
  eq : ∀ u, RelV v u → u = cv
theorem cls_own {x : Str} {C : Addr} (hm : X.mg x = some (.ref C)) (hg : Gl X x := by rfl) (hd : (x == ("__debug__" : Str)) = false := by decide) : ClsE X x (.ref C) (.ref C) :=
  ⟨fun p => pe_glob hg hm (show RelV (.ref C) (.ref C) from rfl) hd, fun u h => h⟩
theorem cls_ty {x : Str} {T : String} (hm : X.mg x = none) (hv : bootBuiltins x = some (.type T)) (hg : Gl X x := by rfl) (hn : x ≠ "__name__" := by decide) (hd : (x == ("__debug__" : Str)) = false := by decide) : ClsE X x (.type T) (.ty T) :=
  ⟨fun p => pe_bltn hg hm hv (show RelV (.ty T) (.type T) from rfl) hn hd, fun u h => h⟩
inductive ClsL (X : Cx) (K : PySem.W.Frag) (C : Addr) : List Expr → List V → List Value → Bool → Prop
  | nil : ClsL X K C [] [] [] false
  | cons {x : Str} {p : Pos} {cv : Value} {v : V} {b b' : Bool} {es : List Expr} {vs : List V} {us : List Value} : ClsE X x cv v → PySem.W.kitOne K (.ref C) cv = some b → ClsL X K C es vs us b' → ClsL X K C (.Name x p :: es) (v :: vs) (cv :: us) (b || b')
def dIsE (i : Nat) (a : Addr) (b : Bool) : DT := fun ρ P _ => ρ[i]? = some (.at a) ∧ P (.bool b)
theorem de_isE (i : Nat) {a C : Addr} {oe : Obj} {pn : List (Addr × Obj)} {n T : Str} {p p1 p2 pos : Pos} {cv : Value} {v : V} {b : Bool} {W : WT} (EC : ExcC X.K C) (hz : Zc (.ref C) none oe) (hf : ∃ vs, oe.data = .fields vs) (hm : X.mg "isinstance" = none) (hc : ClsE (X.suite a ((a, oe) :: pn)) T cv v) (hk : PySem.W.kitOne X.K (.ref C) cv = some b)
    (hv : PE (X.suite a ((a, oe) :: pn)) (.Name n p1) (tVar i)) (hg : Gl (X.suite a ((a, oe) :: pn)) "isinstance" := by rfl) : DE (X.suite a ((a, oe) :: pn)) W .fz (.Call (.Name "isinstance" p) [.Name n p1, .Name T p2] [] pos) (dIsE i a b) := by
  refine ⟨_, pe_callB (call_isE EC hz hf) hg hm bt_isinstance (pa_cons hv (pa_cons (hc.pe p2) pa_nil)) (by decide) (by decide), fun b' F H σ ρ Q P Z R z q k => ?_⟩
  have e := R.sl i _ q.1
  exact ⟨.ref a, e, v, cv, b, rfl, hc.eq, hk, goes_now k R.g q.2 (Dq.bl b) trivial⟩
def rIsET (K : PySem.W.Frag) (D a : Addr) : List V → Hp → VK → Prop := fun xs H Q => ∃ (tp : Addr) (cs : List V) (us : List Value) (b : Bool), xs = [.ref a, .ref tp] ∧ H tp = some (.tup cs) ∧ (∀ ws, Vals cs ws → ws = us) ∧ PySem.W.kitAny K (.ref D) us = some b ∧ Q (.bl b) H
theorem call_isET {a D : Addr} {oe : Obj} {pn : List (Addr × Obj)} (C : ExcC X.K D) (hz : Zc (.ref D) none oe) (hf : ∃ vs, oe.data = .fields vs) : CallR (X.suite a ((a, oe) :: pn)) (.builtin "isinstance") (rIsET X.K D a) := by
  intro pins s σ H xs us Q I r h
  obtain ⟨tp, cs, ws, b, rfl, hT, hcv, e, q⟩ := h
  obtain ⟨u1, u2, rfl, rx, rt⟩ := vals2 r
  cases (show u1 = Value.ref a from rx)
  cases (show u2 = Value.ref tp from rt)
  obtain ⟨hget, _⟩ := I.pin (a, oe) (List.mem_append.mpr (.inl List.mem_cons_self))
  obtain ⟨vs, hv⟩ := hf
  have J : PySem.W.InstAt s.heap a oe D none := by
    obtain ⟨oc, od, oda, osl⟩ := oe
    obtain ⟨h1, h2⟩ := hz
    dsimp only at h1 h2 hv
    subst h1 h2 hv
    exact ⟨hget, rfl, rfl, trivial⟩
  obtain ⟨_, its, rv, o, h1, h2, n, h3⟩ := (show ObjOk X.prog X.w H s.heap tp (.tup cs) from I.hok tp _ hT)
  have e3 := hcv _ rv
  subst e3
  obtain ⟨oc, od, dt, sl⟩ := o
  simp only at h2 h3
  subst h2 h3
  exact PySem.W.kia_tup (PySem.W.handS_kitx_exc C.hg C.hk C.hs C.hd C.ha C.hn C.ht C.hm) I.kIn J h1 e (fun z => nomatch z) fun tk => ⟨.bl b, H, I.kept (t' := tk) fun _ _ z => z, rfl, q⟩
theorem clsL_pa {K : PySem.W.Frag} {C : Addr} : ∀ {es : List Expr} {vs : List V} {us : List Value} {b : Bool}, ClsL X K C es vs us b → PA X es (fun _ H Q => Q vs H)
  | _, _, _, _, .nil => pa_nil
  | _, _, _, _, .cons h _ r => pa_cons (h.pe _) (clsL_pa r)
theorem clsL_eq {K : PySem.W.Frag} {C : Addr} : ∀ {es : List Expr} {vs : List V} {us : List Value} {b : Bool}, ClsL X K C es vs us b → ∀ ws, Vals vs ws → ws = us
  | _, _, _, _, .nil, _, r => by cases r; rfl
  | _, _, _, _, .cons h _ r, _, q => by
    cases q with
    | cons q1 q2 => rw [h.eq _ q1, clsL_eq r _ q2]
theorem clsL_any {K : PySem.W.Frag} {C : Addr} : ∀ {es : List Expr} {vs : List V} {us : List Value} {b : Bool}, ClsL X K C es vs us b → PySem.W.kitAny K (.ref C) us = some b
  | _, _, _, _, .nil => rfl
  | _, _, _, _, .cons (b := b) h k r => by
    refine kitAny_cons k (fun e => ?_) (fun e => by rw [e]; rfl)
    rw [e, Bool.false_or]
    exact clsL_any r
theorem clsL_len {K : PySem.W.Frag} {C : Addr} : ∀ {es : List Expr} {vs : List V} {us : List Value} {b : Bool}, ClsL X K C es vs us b → vs.length = es.length
  | _, _, _, _, .nil => rfl
  | _, _, _, _, .cons _ _ r => congrArg (· + 1) (clsL_len r)
theorem de_isET (i : Nat) {a C : Addr} {oe : Obj} {pn : List (Addr × Obj)} {n : Str} {p p1 pt pos : Pos} {kt} {es : List Expr} {vs : List V} {us : List Value} {b : Bool} {W : WT} (EC : ExcC X.K C) (hz : Zc (.ref C) none oe) (hf : ∃ vs, oe.data = .fields vs) (hm : X.mg "isinstance" = none) (hc : ClsL (X.suite a ((a, oe) :: pn)) X.K C es vs us b)
    (hv : PE (X.suite a ((a, oe) :: pn)) (.Name n p1) (tVar i)) (hl : es.length ≤ 100000 := by decide) (hg : Gl (X.suite a ((a, oe) :: pn)) "isinstance" := by rfl) : DE (X.suite a ((a, oe) :: pn)) W .fz (.Call (.Name "isinstance" p) [.Name n p1, .Tuple es kt pt] [] pos) (dIsE i a b) := by
  refine ⟨_, pe_callB (call_isET EC hz hf) hg hm bt_isinstance (pa_cons hv (pa_cons (pe_tup (clsL_pa hc)) pa_nil)) (by decide) (by decide), fun b' F H σ ρ Q P Z R z q k => ?_⟩
  have e := R.sl i _ q.1
  refine ⟨.ref a, e, sz5 (by rw [clsL_len hc]; exact hl), fun t nt => ⟨t, vs, us, b, rfl, upd_same, clsL_eq hc, clsL_any hc, ?_⟩⟩
  have g := Grow.new R.g (HO.tup vs) nt
  exact k _ _ _ _ q.2 g (Dq.bl b) trivial
/-! the same under a plain name, for the facts of the text -/
structure ExcI (K : PySem.W.Frag) (mg : Str → Option Value) (x : String) : Prop where
  ex : ∃ C, mg (x : Str) = some (.ref C) ∧ ExcC K C
/-- isinstance of an instance of x with the class named T -/
structure KitI (K : PySem.W.Frag) (mg : Str → Option Value) (x : String) (T : String) (b : Bool) : Prop where
  ex : ∃ C D, mg (x : Str) = some (.ref C) ∧ mg (T : Str) = some (.ref D) ∧ PySem.W.kitOne K (.ref C) (.ref D) = some b
structure KitB (K : PySem.W.Frag) (mg : Str → Option Value) (x : String) (T : String) (b : Bool) : Prop where
  ex : ∃ C, mg (x : Str) = some (.ref C) ∧ mg (T : Str) = none ∧ bootBuiltins (T : Str) = some (.type T) ∧ PySem.W.kitOne K (.ref C) (.type T) = some b
theorem excI_at {x : String} {C : Addr} (h : ExcI X.K X.mg x) (hm : X.mg (x : Str) = some (.ref C)) : ExcC X.K C := by
  obtain ⟨C', h1, h2⟩ := h.ex
  rw [hm] at h1
  cases h1
  exact h2
theorem kitI_at {x T : String} {b : Bool} {C : Addr} (h : KitI X.K X.mg x T b) (hm : X.mg (x : Str) = some (.ref C)) : ∃ D, X.mg (T : Str) = some (.ref D) ∧ PySem.W.kitOne X.K (.ref C) (.ref D) = some b := by
  obtain ⟨C', D, h1, h2, h3⟩ := h.ex
  rw [hm] at h1
  cases h1
  exact ⟨D, h2, h3⟩
theorem kitB_at {x T : String} {b : Bool} {C : Addr} (h : KitB X.K X.mg x T b) (hm : X.mg (x : Str) = some (.ref C)) : X.mg (T : Str) = none ∧ bootBuiltins (T : Str) = some (.type T) ∧ PySem.W.kitOne X.K (.ref C) (.type T) = some b := by
  obtain ⟨C', h1, h2⟩ := h.ex
  rw [hm] at h1
  cases h1
  exact h2
theorem de_isEI (i : Nat) {a C : Addr} {oe : Obj} {pn : List (Addr × Obj)} {n : Str} {x T : String} {p p1 p2 pos : Pos} {b : Bool} {W : WT} (hC : X.mg (x : Str) = some (.ref C)) (E : ExcI X.K X.mg x) (hz : Zc (.ref C) none oe) (hf : ∃ vs, oe.data = .fields vs) (hm : X.mg "isinstance" = none) (hk : KitI X.K X.mg x T b)
    (hv : PE (X.suite a ((a, oe) :: pn)) (.Name n p1) (tVar i)) (hgT : Gl (X.suite a ((a, oe) :: pn)) (T : Str) := by rfl) (hd : ((T : Str) == ("__debug__" : Str)) = false := by decide) (hg : Gl (X.suite a ((a, oe) :: pn)) "isinstance" := by rfl) : DE (X.suite a ((a, oe) :: pn)) W .fz (.Call (.Name "isinstance" p) [.Name n p1, .Name (T : Str) p2] [] pos) (dIsE i a b) := by
  obtain ⟨D, h1, h2⟩ := kitI_at hk hC
  exact de_isE i (excI_at E hC) hz hf hm (cls_own h1 hgT hd) h2 hv hg
theorem de_isEB (i : Nat) {a C : Addr} {oe : Obj} {pn : List (Addr × Obj)} {n : Str} {x T : String} {p p1 p2 pos : Pos} {b : Bool} {W : WT} (hC : X.mg (x : Str) = some (.ref C)) (E : ExcI X.K X.mg x) (hz : Zc (.ref C) none oe) (hf : ∃ vs, oe.data = .fields vs) (hm : X.mg "isinstance" = none) (hk : KitB X.K X.mg x T b)
    (hv : PE (X.suite a ((a, oe) :: pn)) (.Name n p1) (tVar i)) (hgT : Gl (X.suite a ((a, oe) :: pn)) (T : Str) := by rfl) (hn : (T : Str) ≠ "__name__" := by decide) (hd : ((T : Str) == ("__debug__" : Str)) = false := by decide) (hg : Gl (X.suite a ((a, oe) :: pn)) "isinstance" := by rfl) : DE (X.suite a ((a, oe) :: pn)) W .fz (.Call (.Name "isinstance" p) [.Name n p1, .Name (T : Str) p2] [] pos) (dIsE i a b) := by
  obtain ⟨h1, h2, h3⟩ := kitB_at hk hC
  exact de_isE i (excI_at E hC) hz hf hm (cls_ty h1 h2 hgT hn hd) h3 hv hg
/-- a tuple of own classes -/
inductive KitL (X Y : Cx) (x : String) : List Expr → Bool → Prop
  | nil : KitL X Y x [] false
  | cons {T : String} {p : Pos} {b b' : Bool} {es : List Expr} (h : KitI X.K X.mg x T b) (hr : KitL X Y x es b') (hg : Gl Y (T : Str) := by rfl) (hd : ((T : Str) == ("__debug__" : Str)) = false := by decide) : KitL X Y x (.Name (T : Str) p :: es) (b || b')
theorem kitL_cls {x : String} {a C : Addr} {pn : List (Addr × Obj)} (hC : X.mg (x : Str) = some (.ref C)) : ∀ {es : List Expr} {b : Bool}, KitL X (X.suite a pn) x es b → ∃ vs us, ClsL (X.suite a pn) X.K C es vs us b
  | _, _, .nil => ⟨[], [], .nil⟩
  | _, _, .cons h hr hg hd => by
    obtain ⟨D, h1, h2⟩ := kitI_at h hC
    obtain ⟨vs, us, q⟩ := kitL_cls hC hr
    exact ⟨_, _, .cons (cls_own h1 hg hd) h2 q⟩
theorem de_isEL (i : Nat) {a C : Addr} {oe : Obj} {pn : List (Addr × Obj)} {n : Str} {x : String} {p p1 pt pos : Pos} {kt} {es : List Expr} {b : Bool} {W : WT} (hC : X.mg (x : Str) = some (.ref C)) (E : ExcI X.K X.mg x) (hz : Zc (.ref C) none oe) (hf : ∃ vs, oe.data = .fields vs) (hm : X.mg "isinstance" = none) (hk : KitL X (X.suite a ((a, oe) :: pn)) x es b)
    (hv : PE (X.suite a ((a, oe) :: pn)) (.Name n p1) (tVar i)) (hl : es.length ≤ 100000 := by decide) (hg : Gl (X.suite a ((a, oe) :: pn)) "isinstance" := by rfl) : DE (X.suite a ((a, oe) :: pn)) W .fz (.Call (.Name "isinstance" p) [.Name n p1, .Tuple es kt pt] [] pos) (dIsE i a b) := by
  obtain ⟨vs, us, q⟩ := kitL_cls hC hk
  exact de_isET i (excI_at E hC) hz hf hm q hv hl hg
/-! clauses by name -/
structure TkN (K : PySem.W.Frag) (mg : Str → Option Value) (x H : String) (b : Bool) : Prop where
  ex : ∃ C D, mg (x : Str) = some (.ref C) ∧ mg (H : Str) = some (.ref D) ∧ PySem.W.exmOne K (.ref C) (.ref D) = some b
theorem tkF {x H : String} {b : Bool} {D : Addr} (h : TkN X.K X.mg x H b) (hm : X.mg (H : Str) = some (.ref D)) : TkF X (.ref D) x b := by
  obtain ⟨C, D', h1, h2, h3⟩ := h.ex
  rw [hm] at h2
  cases h2
  exact ⟨C, h1, h3⟩
theorem ds_tryH_as (i : Nat) {H : String} {n : Str} {body suite : List Stmt} {b₀ : Stmt} {np pos pos' : Pos} {hs : List (String × Option (Addr → DS))} {tb : DS} (hN : X.N.Nodup) (tk : Takes X W.w) (hH : ∃ D : Addr, X.mg (H : Str) = some (.ref D))
    (hb : ∀ (W' : WX) (pn : List (Addr × Obj)) (xe : Value → Shared → Prop), Takes (X.tr pn xe) W' → PassesOwn (model X.prog X.w) X.A X.env xe → DSs (X.tr pn xe) ⟨W', W.T⟩ rm body tb) (hh : ∀ D : Addr, X.mg (H : Str) = some (.ref D) → HsA X W.T (.ref D) rm (b₀ :: suite) hs)
    (hg : Gl X (H : Str) := by rfl) (hdb : ((H : Str) == ("__debug__" : Str)) = false := by decide)
    (hst : X.stack = X.env :: X.outer := by rfl) (hf : X.env.frame = some X.env.locals := by rfl) (hi : X.N[i]? = some n := by rfl) (hln : X.env.kindOf n = some .local := by rfl) :
    DS1 X W rm (.Try body [.ExceptHandler (some (.Name (H : Str) np)) (some n) (b₀ :: suite) pos'] [] [] pos) (dTryAs i hs tb) := by
  obtain ⟨D, hD⟩ := hH
  exact ds_try_as i hN tk ⟨hg, hdb, .inl hD⟩ hb (hh D hD) hst hf hi hln
theorem ds_tryH {H : String} {body suite : List Stmt} {b₀ : Stmt} {np pos pos' : Pos} {hs : List (String × Option DS)} {tb : DS} (tk : Takes X W.w) (hH : ∃ D : Addr, X.mg (H : Str) = some (.ref D))
    (hb : ∀ (W' : WX) (pn : List (Addr × Obj)) (xe : Value → Shared → Prop), Takes (X.tr pn xe) W' → PassesOwn (model X.prog X.w) X.A X.env xe → DSs (X.tr pn xe) ⟨W', W.T⟩ rm body tb) (hh : ∀ D : Addr, X.mg (H : Str) = some (.ref D) → HsO X W.T (.ref D) rm (b₀ :: suite) hs)
    (hg : Gl X (H : Str) := by rfl) (hdb : ((H : Str) == ("__debug__" : Str)) = false := by decide) (hst : X.stack = X.env :: X.outer := by rfl) (hf : X.env.frame = some X.env.locals := by rfl) :
    DS1 X W rm (.Try body [.ExceptHandler (some (.Name (H : Str) np)) none (b₀ :: suite) pos'] [] [] pos) (dTry hs tb) := by
  obtain ⟨D, hD⟩ := hH
  exact ds_try tk ⟨hg, hdb, .inl hD⟩ hb (hh D hD) hst hf
end
section
variable {i : Nat} {d : DEnds} {Z : Zs} {ρ : List Sl} {P : D → Prop}
theorem e_tryAs {hs : List (String × Option (Addr → DS))} {tb : DS} : dTryAs i hs tb d Z ρ ↔ tb d (fun ρ' x => hsZ i d Z ρ' hs x) ρ := Iff.rfl
theorem e_try {hs : List (String × Option DS)} {tb : DS} : dTry hs tb d Z ρ ↔ tb d (fun ρ' x => hsZo d Z ρ' hs x) ρ := Iff.rfl
theorem e_isE {a : Addr} {b : Bool} : dIsE i a b ρ P Z ↔ ρ[i]? = some (.at a) ∧ P (.bool b) := Iff.rfl
theorem hsZ_cons {y x : String} {o : Option (Addr → DS)} {r : List (String × Option (Addr → DS))} : hsZ i d Z ρ ((y, o) :: r) x ↔ if y = x then (match o with
    | some u => ∀ a, u a (d.un i) Z0 (ρ.set i (.at a))
    | none => Z ρ x) else hsZ i d Z ρ r x := Iff.rfl
theorem hsZo_cons {y x : String} {o : Option DS} {r : List (String × Option DS)} : hsZo d Z ρ ((y, o) :: r) x ↔ if y = x then (match o with
    | some u => u d Z0 ρ
    | none => Z ρ x) else hsZo d Z ρ r x := Iff.rfl
end
end DL
set_option maxRecDepth 100000
set_option maxHeartbeats 4000000
/-! DLU: insert, pop, list repetition. -/
namespace DL
open PySem PySem.Spec PyProof.Rows L2
variable {T : List (Addr × Str)}
theorem DqA.ins {F : Hp} {xs : List V} {ds : List D} {v : V} {d : D} (q : DqA F xs ds) (r : Dq F v d) (n : Nat) : DqA F (xs.take n ++ [v] ++ xs.drop n) (ds.take n ++ [d] ++ ds.drop n) := ((q.take n).append (.cons r .nil)).append (q.drop n)
section
variable {X : Cx} {W : WT} {rm : Md} {pos : Pos} {e e2 : Expr} {x : Str} {p0 apos cpos : Pos} {t t2 : DT}
/-- xs.insert(k, e), k not below 0 -/
def dIns (i : Nat) (tk t : DT) : DS := fun d Z ρ => ∃ ds, ρ[i]? = some (.ow (.list ds)) ∧ ds.length ≤ 100000 ∧ tk ρ (fun k => t ρ (fun y => ∃ n : Int, k = .int n ∧ 0 ≤ n ∧ n < 2 ^ 63 ∧ d.nx (ρ.set i (.ow (.list (ds.take n.toNat ++ [y] ++ ds.drop n.toNat))))) Z) Z
theorem ds_ins (i : Nat) (hx : PE X (.Name x p0) (tVar i)) (hk : DE X W .fz e t) (h : DE X W .fz e2 t2) (hs0 : swapsWith (.Call (.Attribute (.Name x p0) "insert" apos) [e, e2] [] cpos) none pos.line X.env = pure false := by rfl)
    (hbase : attributeBase (.Name x p0) "insert" X.env (eval (.Name x p0) X.env) = eval (.Name x p0) X.env := by rfl)
    (hfew : ((backTo cpos (starEach (e :: [e2]) X.env)).all (fun x => !x.1) && (backToKw cpos (keywordEach [] X.env)).all (fun x => x.1.isSome)
      && decide ((e :: [e2]).length + ([] : List Keyword).length + (if ([] : List Keyword).isEmpty then 0 else 1) < 30)) = true := by rfl)
    (hline : (apos.endLine == cpos.line) = true := by rfl) (hs : starEach (e :: [e2]) X.env = (false, eval e X.env) :: starEach [e2] X.env := by rfl) (hs2 : starEach (e2 :: []) X.env = (false, eval e2 X.env) :: starEach [] X.env := by rfl) (hplain : (backTo cpos (starEach [e2] X.env)).any (·.1) = false := by rfl) :
    DS1 X W rm (.Expr (.Call (.Attribute (.Name x p0) "insert" apos) [e, e2] [] cpos) pos) (dIns i t t2) := by
  obtain ⟨te, p, s⟩ := hk.ok
  obtain ⟨te2, p2, s2⟩ := h.ok
  refine ⟨_, ps_expr (pe_bm PySem.F.plainAttrs_list PySem.F.slot_list_insert PySem.F.type_list_insert mt_insert hx (pa_cons p (pa_cons p2 pa_nil hs2) hs) hbase hfew hline hs hplain) hs0, fun b F H σ ρ D d Z R z q c => ?_⟩
  obtain ⟨ds, e1, hl, q⟩ := q
  obtain ⟨a, es, n, n2, xs, hH, hq⟩ := R.ow e1 rfl
  refine ⟨.ref a, es, .inl ⟨rfl, _, SqL.of hH⟩, s b F H σ ρ _ _ Z R z q fun k v F1 H1 p1 g r f => s2 b F1 H1 σ ρ _ _ Z (R.grow g) (z.mono g.f) p1 fun y v2 F2 H2 p2 g2 r2 f2 => ?_⟩
  obtain ⟨m, rfl, h0, h1, p2⟩ := p2
  cases r
  have g3 := g.trans g2
  refine ⟨a, xs, m, v2, rfl, rfl, g3.h.ap hH, by rw [hq.length]; exact lt5 hl, h0, h1, ?_⟩
  exact c.nx _ F2 _ σ g3.f ((R.grow g3).write e1 es (own_mkL upd_same ((hq.mono g3.f).ins r2 m.toNat))) p2
theorem e_ins {i : Nat} {tk t : DT} {d : DEnds} {Z : Zs} {ρ : List Sl} : dIns i tk t d Z ρ ↔ ∃ ds, ρ[i]? = some (.ow (.list ds)) ∧ ds.length ≤ 100000 ∧ tk ρ (fun k => t ρ (fun y => ∃ n : Int, k = .int n ∧ 0 ≤ n ∧ n < 2 ^ 63 ∧ d.nx (ρ.set i (.ow (.list (ds.take n.toNat ++ [y] ++ ds.drop n.toNat))))) Z) Z := Iff.rfl
end
/-! [e] * n -/
section
variable {K : PySem.W.Frag} {mb : Md}
def repD : D → D → (D → Prop) → Prop := fun x y P => ∃ ds n, x = .list ds ∧ y = .int n ∧ -(2 ^ 63) ≤ n ∧ n < 2 ^ 63 ∧ ds.length * n.toNat ≤ 100000 ∧ P (.list (List.replicate n.toNat ds).flatten)
theorem DqA.rep {F : Hp} {xs : List V} {ds : List D} (q : DqA F xs ds) : ∀ n : Nat, DqA F (List.replicate n xs).flatten (List.replicate n ds).flatten
  | 0 => .nil
  | n + 1 => by
    rw [List.replicate_succ, List.replicate_succ, List.flatten_cons, List.flatten_cons]
    exact q.append (q.rep n)
theorem r2_rep (hb : mb.sh = true := by rfl) : R2ok K .fz mb .nw rRep repD := fun b F H x y dx dy Q P g0 rx ry h k => by
  obtain ⟨ds, n, rfl, rfl, h1, h2, h3, p⟩ := h
  cases rx with
  | lst e1 q1 =>
    rename_i a1 xs
    refine ⟨_, n, xs, rfl, vr_int (ry.rd hb g0), g0.s _ _ e1, h1, h2, by rw [q1.length]; exact sz5 h3, fun a na => ?_⟩
    have g2 := Grow.own g0 (HO.lst (List.replicate n.toNat xs).flatten) na
    exact k _ _ _ _ p g2 (.inl ⟨a, rfl, g0.s.free na, own_mkL upd_same (q1.rep n.toNat)⟩) fun q e => by cases e; exact nn_of na
theorem x_rep {ds : List D} {n : Int} {P : D → Prop} : repD (.list ds) (.int n) P ↔ -(2 ^ 63) ≤ n ∧ n < 2 ^ 63 ∧ ds.length * n.toNat ≤ 100000 ∧ P (.list (List.replicate n.toNat ds).flatten) := ⟨fun ⟨a, m, h1, h2, h⟩ => by cases h1; cases h2; exact h, fun h => ⟨ds, n, rfl, rfl, h⟩⟩
end
end DL
set_option maxRecDepth 100000
set_option maxHeartbeats 4000000
/-! DLV: xs[::-1] of lists and tuples. -/
namespace DL
open PySem PySem.Spec PyProof.Rows L2 HT
variable {T : List (Addr × Str)}
section
variable {prog : Program} {w : World} {A : Around} {E : Value → Shared → Prop} {s : Shared}
theorem sliceApplied_rev {sl : Addr} {u : Tok} {n : Nat} {Q : Int × Int × Nat → Shared → Prop} (hs : s.heap.IsSliceOf sl .none .none (.int (-1) u))
    (h : Q ((n : Int) - 1, -1, n) s) : wpAny (model prog w) A (Builtin.Slice.sliceApplied (.ref sl) (pure (n : Int))) Q E s := by
  obtain ⟨os, hos, hcs, hds⟩ := id hs
  unfold Builtin.Slice.sliceApplied Builtin.Slice.sliceFields
  refine wpAny_bind (wpAny_bind (wpAny_field hos hds (x := .none) rfl (wpAny_bind (wpAny_field hos hds (x := .none) rfl (wpAny_bind (wpAny_field hos hds (x := .int (-1) u) rfl (wpAny_pure ?_)))))))
  refine wpAny_bind (slicePart_int ?_)
  show wpAny _ _ (if ((-1 : Int) == 0) = true then _ else _) _ _ s
  rw [if_neg (by decide)]
  refine wpAny_bind (slicePart_none (wpAny_bind (slicePart_none (wpAny_bind (wpAny_pure ?_)))))
  have e1 : Builtin.Slice.sliceAdjust none none (-1) (n : Int) = ((n : Int) - 1, -1) := by
    unfold Builtin.Slice.sliceAdjust
    first | rfl | simp
  have e2 : Builtin.Slice.slicePlaces ((n : Int) - 1) (-1) (-1) = n := by
    unfold Builtin.Slice.slicePlaces
    have h1 : ¬ ((-1 : Int) > 0) := by omega
    simp only [h1, if_false]
    have h2 : ((n : Int) - 1 - -1 - 1) / (- -1) = (n : Int) - 1 := by
      rw [show (- -1 : Int) = 1 by decide, Int.ediv_one]
      omega
    first
      | (rw [h2]; split <;> omega)
      | (split <;> (try rw [h2]) <;> omega)
      | skip
  show wpAny _ _ (match Builtin.Slice.sliceAdjust none none (-1) (n : Int) with | (lo, hi) => pure (lo, (-1 : Int), Builtin.Slice.slicePlaces lo hi (-1))) _ _ s
  rw [e1]
  show wpAny _ _ (pure ((n : Int) - 1, (-1 : Int), Builtin.Slice.slicePlaces ((n : Int) - 1) (-1) (-1))) _ _ s
  rw [e2]
  exact wpAny_pure h
theorem fm_congr {α β : Type} {f g : α → Option β} : ∀ {l : List α}, (∀ x ∈ l, f x = g x) → l.filterMap f = l.filterMap g
  | [], _ => rfl
  | a :: l, h => by
    rw [List.filterMap_cons, List.filterMap_cons, h a (.head _), fm_congr fun x hx => h x (.tail _ hx)]
theorem pick_rev (xs : Array Value) : ((List.range xs.size).filterMap fun (m : Nat) => xs[(((xs.size : Int) - 1) + (m : Int) * (-1)).toNat]?).toArray = xs.toList.reverse.toArray := by
  have e : (List.range xs.size).filterMap (fun (m : Nat) => xs[(((xs.size : Int) - 1) + (m : Int) * (-1)).toNat]?) = ((List.range xs.size).map fun k => xs.size - 1 - k).filterMap (xs[·]?) := by
    rw [List.filterMap_map]
    refine fm_congr fun k hk => ?_
    have := List.mem_range.mp hk
    have e0 : (((xs.size : Int) - 1) + (k : Int) * (-1)).toNat = xs.size - 1 - k := by omega
    show xs[_]? = xs[_]?
    rw [e0]
  rw [e, PySem.W.krv_range, List.filterMap_reverse, PySem.W.krv_all]
theorem getItem_tuple_rev {t sl : Addr} {items : Array Value} {u : Tok} {Q : Value → Shared → Prop} (ht : IsTup s.heap t items) (hs : s.heap.IsSliceOf sl .none .none (.int (-1) u))
    (h : Q (.ref s.heap.objs.size) { s with heap := s.heap.push { cls := .type "tuple", data := .seq items.toList.reverse.toArray } })
    (hsz : items.size ≤ sizeLine) : wpAny (model prog w) A (getItem (.ref t) (.ref sl)) Q E s := by
  have htake : sizeOk (.seq items.toList.reverse.toArray) := by
    show (items.toList.reverse.toArray).size ≤ sizeLine
    rw [List.size_toArray, List.length_reverse, Array.length_toList]
    omega
  obtain ⟨os, hos, hcs, hds⟩ := id hs
  have hTs : s.TypeIs (.ref sl) "slice" := ⟨os, hos, hcs⟩
  unfold getItem
  try with_reducible refine wpAny_holding ?_
  first | refine wpAny_bind (wpAny_pure ?_) | skip
  refine wpAny_bind (wpAny_sequenceKey ht.typeIs (by decide) ?_)
  refine wpAny_bind (wpAny_callSpecial?_slot (name := Str.ofString "__getitem__") ht.typeIs PyProof.Rows.slot_tuple_getitem
    (wpAny_call_entry PyProof.Rows.slot_tuple_getitem ht.typeIs entry_tuple_getitem ?_ (args_tuple_getitem _ _)))
  show wpAny _ _ (Builtin.Tuple.tupleItemsOf (.ref t) >>= _) _ _ s
  refine wpAny_bind (tupleItemsOf_ ht ?_)
  refine wpAny_bind (wpAny_typeOf hTs ?_)
  rw [if_pos (by decide)]
  refine wpAny_bind (sliceApplied_rev hs ?_)
  have hno : ¬ ((((items.size : Int) - 1) == 0 && (-1 : Int) == 1 && items.size == items.size) = true) := by
    intro q
    rw [Bool.and_eq_true, Bool.and_eq_true] at q
    exact absurd q.1.2 (by decide)
  show wpAny _ _ (if (((items.size : Int) - 1) == 0 && (-1 : Int) == 1 && items.size == items.size) = true then _ else _) _ _ s
  rw [if_neg hno, pick_rev]
  first
    | exact wpAny_bind (m := Builtin.Tuple.tupleExact _) (wpAny_newObj_type (wpAny_pure ⟨_, rfl, wpAny_pure h⟩) htake)
    | exact wpAny_bind (m := Builtin.Tuple.tupleExact _) (wpAny_newObj_type (wpAny_bind (wpAny_pure (wpAny_pure ⟨_, rfl, wpAny_pure h⟩))) htake)
    | exact wpAny_bind (wpAny_bind (m := Builtin.Tuple.tupleExact _) (wpAny_newObj_type (wpAny_pure (wpAny_pure ⟨_, rfl, wpAny_pure h⟩)) htake))
    | exact wpAny_bind (wpAny_bind (m := Builtin.Tuple.tupleExact _) (wpAny_newObj_type (wpAny_pure ⟨_, rfl, wpAny_pure h⟩) htake))
end
section
variable {X : Cx} {W : WT} {m : Md} {pos p3 p2 p1 : Pos} {k1 : Nat}
def tRevA (K : PySem.W.Frag) (te : TE) : TE := fun σ H Q => te σ H fun x H1 => ∃ a xs, x = .ref a ∧ ((SqL K H1 a xs ∧ ∀ p, H1 p = none → Q (.ref p) (upd H1 p (.lst xs.reverse))) ∨ (SqT K H1 a xs ∧ ∀ p, H1 p = none → Q (.ref p) (upd H1 p (.tup xs.reverse))))
theorem pe_revA {e : Expr} {te : TE} (he : PE X e te) : PE X (.Subscript e (.Slice none none (some (.UnaryOp .USub (.Constant (.int 1) k1 p1) p2)) p3) pos) (tRevA X.K te) := by
  refine ⟨fun pins s σ H Q I h => ?_⟩
  refine Subscript_ (thn (he.run pins s σ H _ I h) fun v s1 ⟨x, H1, I1, r1, q1⟩ => ?_)
  obtain ⟨a, xs, ex, hx⟩ := q1
  subst ex
  cases r1
  have hst : PO X (some (.UnaryOp .USub (.Constant (.int 1) k1 p1) p2)) (tPart (tUn (rU fun i => .int (-i)) (tC (.int 1)))) := po_some (pe_un un_neg pe_int)
  refine wpAny_Slice (thn (po_none.run pins s1 σ H1 (fun o H2 => o = none ∧ H2 = H1) I1 ⟨rfl, rfl⟩) fun vl s2 ⟨l, H2, I2, pl, el, e2⟩ => ?_)
  subst el e2
  refine thn (po_none.run pins s2 σ H2 (fun o H3 => o = none ∧ H3 = H2) I2 ⟨rfl, rfl⟩) fun vu s3 ⟨u, H3, I3, pu, eu, e3⟩ => ?_
  subst eu e3
  refine thn (hst.run pins s3 σ H3 (fun o H4 => o = some (-1) ∧ H4 = H3) I3 ⟨1, rfl, -1, rfl, rfl, rfl⟩) fun vs s4 ⟨o, H4, I4, ps, eo, e4⟩ => ?_
  subst eo e4
  have I5 : Inv X pins σ H4 { s4 with heap := s4.heap.push { cls := .type "slice", data := .fields #[vl, vu, vs] } } := I4.kept (t' := s4.toks) fun b ob q => Heap.get?_push_of_some _ q
  rcases hx with ⟨hx, q⟩ | ⟨hx, q⟩
  · obtain ⟨its, r, ht, hz⟩ := I5.list hx
    have hlen := r.length
    show wpAny (model X.prog X.w) X.A (subscriptTail e (.Slice none none (some (.UnaryOp .USub (.Constant (.int 1) k1 p1) p2)) p3) (.ref a) (.ref s4.heap.objs.size)) (EP X pins σ Q) X.xe { s4 with heap := s4.heap.push { cls := .type "slice", data := .fields #[vl, vu, vs] } }
    refine tail_any (ops := [.ref a, .ref s4.heap.objs.size]) ht.isList.typeIs (PySem.slot_list_getitem.lookup) ?_ (by with_unfolding_all rfl)
    refine wpAny_getItem_list_slice ht.isList (Heap.IsSliceOf.new _ vl vu vs) pl pu ps (by decide) ?_ (by rw [List.size_toArray]; omega)
    rw [PySem.W.krv_pick]
    refine ⟨.ref _, _, I5.laid (t' := s4.toks) (o := .lst xs.reverse) (fun b ob q => Heap.get?_push_of_some _ q) (Nat.le_refl _) ?_, rfl, q _ (I5.hok.fresh (Nat.le_refl _))⟩
    exact ⟨by rw [List.length_reverse]; exact hz, _, 0, r.reverse, Heap.get?_push_size _ rfl⟩
  · cases pl
    cases pu
    cases ps with
    | int i t =>
      obtain ⟨its, r, ht, hz⟩ := I5.tuple hx
      have hlen := r.length
      show wpAny (model X.prog X.w) X.A (subscriptTail e (.Slice none none (some (.UnaryOp .USub (.Constant (.int 1) k1 p1) p2)) p3) (.ref a) (.ref s4.heap.objs.size)) (EP X pins σ Q) X.xe { s4 with heap := s4.heap.push { cls := .type "slice", data := .fields #[.none, .none, .int (-1) t] } }
      refine tail_any (ops := [.ref a, .ref s4.heap.objs.size]) ht.typeIs (PyProof.Rows.slot_tuple_getitem.lookup) ?_ (by with_unfolding_all rfl)
      refine getItem_tuple_rev ht (Heap.IsSliceOf.new _ _ _ _) ?_ (by rw [List.size_toArray]; omega)
      refine ⟨.ref _, _, I5.laid (t' := s4.toks) (o := .tup xs.reverse) (fun b ob q => Heap.get?_push_of_some _ q) (Nat.le_refl _) ?_, rfl, q _ (I5.hok.fresh (Nat.le_refl _))⟩
      exact ⟨by rw [List.length_reverse]; exact hz, _, r.reverse, IsTup.new _ _⟩
def revR (x : D) (P : D → Prop) : Prop := match x with
  | .list ds => P (.list ds.reverse)
  | .tuple ds => P (.tuple ds.reverse)
  | _ => False
def dRevS (t : DT) : DT := fun ρ P Z => t ρ (fun x => revR x P) Z
theorem DqA.rev {F : Hp} : ∀ {xs : List V} {ds : List D}, DqA F xs ds → DqA F xs.reverse ds.reverse
  | _, _, .nil => .nil
  | _, _, .cons r q => by
    rw [List.reverse_cons, List.reverse_cons]
    exact (DqA.rev q).append (.cons r .nil)
theorem de_revS {e : Expr} {t : DT} (h : DE X W m e t) (hsh : m.sh = true := by rfl) : DE X W .fz (.Subscript e (.Slice none none (some (.UnaryOp .USub (.Constant (.int 1) k1 p1) p2)) p3) pos) (dRevS t) := by
  obtain ⟨te, p, s⟩ := h.ok
  refine ⟨_, pe_revA p, fun b F H σ ρ Q P Z R z q k => s b F H σ ρ _ _ Z R z q fun x v F1 H1 q1 g1 r _ => ?_⟩
  have g0 := R.g.trans g1
  have r3 := r.rd hsh g0
  cases x with
  | list ds =>
    obtain ⟨a, xs, rfl, sq, dq⟩ := vr_lst g0.s r3
    refine ⟨a, xs, rfl, .inl ⟨sq, fun p np => ?_⟩⟩
    have g4 := Grow.new g0 (HO.lst xs.reverse) np
    exact k _ _ _ _ q1 (g1.trans g4) (Dq.lst upd_same ((DqA.rev dq).mono g4.f)) trivial
  | tuple ds =>
    obtain ⟨a, xs, rfl, sq, dq⟩ := vr_tup g0.s r3
    refine ⟨a, xs, rfl, .inr ⟨sq, fun p np => ?_⟩⟩
    have g4 := Grow.new g0 (HO.tup xs.reverse) np
    exact k _ _ _ _ q1 (g1.trans g4) (Dq.tup upd_same ((DqA.rev dq).mono g4.f)) trivial
  | _ => exact q1.elim
end
theorem x_is {neg : Bool} {x : D} {P : D → Prop} : isR neg x .none P ↔ P (.bool (isN x ^^ neg)) := ⟨fun h => by
  rcases h with h | ⟨a, b, _, h, _⟩
  · exact h.2
  · exact (nomatch h), fun h => .inl ⟨rfl, h⟩⟩
theorem x_isB {neg a b : Bool} {P : D → Prop} : isR neg (.bool a) (.bool b) P ↔ P (.bool (decide (a = b) ^^ neg)) := ⟨fun h => by
  rcases h with h | ⟨a, b, h1, h2, h⟩
  · exact nomatch h.1
  · cases h1
    cases h2
    exact h, fun h => .inr ⟨a, b, rfl, rfl, h⟩⟩
theorem e_revS {t : DT} {ρ : List Sl} {P : D → Prop} {Z : Zs} : dRevS t ρ P Z ↔ t ρ (fun x => revR x P) Z := Iff.rfl
end DL
set_option maxRecDepth 100000
set_option maxHeartbeats 4000000
/-! DLW: sorted(.., key=lambda v: (-x[v], v)). -/
namespace DL
open PySem PySem.Spec PyProof.Rows L2 LamX

/-- the items of the list or tuple at a -/
def ItsAt (h : Heap) (a : Addr) (its : List Value) : Prop := h.IsList a its.toArray ∨ IsTup h a its.toArray
theorem ItsAt.keeps {h h' : Heap} {a : Addr} {its : List Value} (x : ItsAt h a its) (hk : ∀ b o, h.get? b = some o → h'.get? b = some o) : ItsAt h' a its := by
  rcases x with ⟨o, e, r⟩ | ⟨o, e, r⟩
  · exact .inl ⟨o, hk _ _ e, r⟩
  · exact .inr ⟨o, hk _ _ e, r⟩
/-- a key's first part: 0 - x[v] or -x[v] -/
inductive KeyE (x v : Str) : Expr → Prop
  | sub {p0 p1 p2 p3 p4 : Pos} {j : Nat} : KeyE x v (.BinOp (.Constant (.int 0) j p0) .Sub (.Subscript (.Name x p1) (.Name v p2) p3) p4)
  | neg {p1 p2 p3 p4 : Pos} : KeyE x v (.UnaryOp .USub (.Subscript (.Name x p1) (.Name v p2) p3) p4)
section
variable {prog : Program} {w : World} {A : Around} {E : Value → Shared → Prop} {s : Shared} {env : Env} {x v : Str} {c a : Addr} {its : List Value} {i k : Int} {t u : Tok} {m : Str → Option Value} {Q : Value → Shared → Prop}
theorem item_run {p1 p2 p3 : Pos} (hk : env.scope.kind = .function) (hx : env.kindOf x = some .free) (hc : env.cells.lookup x = some c) (hcell : s.heap.IsCell c (some (.ref a))) (hv : env.kindOf v = some .local) (hn : s.heap.Ns env.locals m) (hm : m v = some (.int i t))
    (hi : ItsAt s.heap a its) (h0 : 0 ≤ i) (hl : its.length ≤ sizeLine) (hx2 : its[i.toNat]? = some (.int k u)) (hdx : (x == ("__debug__" : Str)) = false) (hcx : (x == ("__classdict__" : Str)) = false) (hdv : (v == ("__debug__" : Str)) = false) (h : Q (.int k u) s) :
    wpAny (model prog w) A (eval (.Subscript (.Name x p1) (.Name v p2) p3) env) Q E s := by
  refine Subscript_ (wpAny_Name (wpAny_loadName_free hk hx hc hcell (wpAny_Name (wpAny_loadName_local hk hv hn hm ?_) hdv) hcx) hdx)
  have hlt : i.toNat < its.length := (List.getElem?_eq_some_iff.mp hx2).1
  have hz := line63
  rcases hi with hi | hi
  · exact item_listR hi h0 (by omega) (by simpa using hx2) h
  · refine subscriptTail_builtinR (x := .int k u) hi.typeIs slot_tuple_getitem.lookup (getItem_tuple (j := i.toNat) (Q := fun r s' => r = _ ∧ Q r s') hi (by omega) (by omega) ?_ (by simpa using hx2) ⟨rfl, h⟩)
    exact seqIndex_of h0 (by rw [List.size_toArray]; omega)
theorem key_run {e1 : Expr} {p5 p6 : Pos} {l1} (he : KeyE x v e1) (hk : env.scope.kind = .function) (hx : env.kindOf x = some .free) (hc : env.cells.lookup x = some c) (hcell : s.heap.IsCell c (some (.ref a))) (hv : env.kindOf v = some .local) (hn : s.heap.Ns env.locals m) (hm : m v = some (.int i t))
    (hi : ItsAt s.heap a its) (h0 : 0 ≤ i) (hl : its.length ≤ sizeLine) (hx2 : its[i.toNat]? = some (.int k u)) (hdx : (x == ("__debug__" : Str)) = false) (hcx : (x == ("__classdict__" : Str)) = false) (hdv : (v == ("__debug__" : Str)) = false)
    (h : ∀ (tk : Nat) (tv : Tok), Q (.ref s.heap.objs.size) { s with heap := s.heap.push { cls := .type "tuple", data := .seq [Value.int (-k) tv, .int i t].toArray }, toks := tk }) :
    wpAny (model prog w) A (eval (.Tuple [e1, .Name v p5] l1 p6) env) Q E s := by
  have fin : ∀ (tk : Nat) (tv : Tok), wpAny (model prog w) A (spliced (backTo p6 (starEach [.Name v p5] env))) (fun vs s₂ => (Value.int (-k) tv :: vs).length ≤ sizeLine ∧ Q (.ref s₂.heap.objs.size) { s₂ with heap := s₂.heap.push { cls := .type "tuple", data := .seq (Value.int (-k) tv :: vs).toArray } }) E { s with toks := tk } := fun tk tv => by
    show wpAny _ _ (spliced ((false, eval (.Name v p5) env) :: backTo p6 (starEach [] env))) _ _ _
    refine Calls.spliced_cons (wpAny_Name (wpAny_loadName_local hk hv hn hm ?_) hdv)
    exact Calls.spliced_nil ⟨by show 2 ≤ sizeLine; rw [sizeLine_eq]; omega, h tk tv⟩
  refine wpAny_Tuple_spliced ?_
  cases he with
  | sub =>
    refine Calls.spliced_cons (wpAny_BinOp (wpAny_Constant_int ?_))
    refine item_run (s := { s with toks := s.toks + 1 }) hk hx hc hcell hv hn hm hi h0 hl hx2 hdx hcx hdv ?_
    refine PySem.P.sub_int ?_
    rw [Int.zero_sub]
    exact fin _ _
  | neg =>
    refine Calls.spliced_cons (UnaryOp_ ?_)
    refine item_run hk hx hc hcell hv hn hm hi h0 hl hx2 hdx hcx hdv ?_
    exact PySem.P.neg_int (fin _ _)
end
section
variable {prog : Program} {w : World} {A : Around} {E : Value → Shared → Prop} {s : Shared}
/-- a lambda of one parameter, called: its key -/
theorem key_call {e1 : Expr} {p5 p6 : Pos} {l1 : Nat} {x v q : Str} {params : Arguments} {scope : Scope} {cl : List (Str × Addr)} {pm ctv : Value} {f c' c a : Addr} {its : List Value} {i k : Int} {t u : Tok}
    (he : KeyE x v e1) (hf : s.heap.get? f = some (PySem.W.kla_obj "<lambda>" q params (.Tuple [e1, .Name v p5] l1 p6) scope cl pm c' ctv)) (hcd : ∃ (oc : Obj) (vs : Array Value) (t : Tok), s.heap.get? c' = some oc ∧ oc.data = .fields vs ∧ vs[1]? = some (.str q t))
    (hbind : ∀ u : Value, bindArgs (PySem.W.kla_fn "<lambda>" q params (.Tuple [e1, .Name v p5] l1 p6) scope cl pm (.ref c') ctv) ⟨[u], []⟩ = pure [(v, u)])
    (hdep : A.depth < recursionLimit) (lim : s.heap.NoLimit) (hk : scope.kind = .function) (hco : scope.isCoroutine = false) (hgen : scope.isGenerator = false) (hnc : ∀ y ∈ scope.names, y.2 ≠ .cell)
    (hx : scope.names.lookup x = some .free) (hc : cl.lookup x = some c) (hcell : s.heap.IsCell c (some (.ref a))) (hv : scope.names.lookup v = some .local) (hi : ItsAt s.heap a its) (h0 : 0 ≤ i) (hl : its.length ≤ sizeLine) (hx2 : its[i.toNat]? = some (.int k u))
    (hdx : (x == ("__debug__" : Str)) = false) (hcx : (x == ("__classdict__" : Str)) = false) (hdv : (v == ("__debug__" : Str)) = false) :
    wpAny (model prog w) A (call (.ref f) [.int i t]) (PySem.W.KeyPure (.tuple [.int (-k), .int i]) s) E s := by
  refine wpAny_call ?_
  obtain ⟨oc, vs, tq, hoc, hdc, hvc⟩ := hcd
  refine PySem.W.kla_callFunE hdep hf rfl hco hgen rfl ⟨c', oc, vs, tq, rfl, hoc, hdc, hvc⟩ ?_
  rw [hbind]
  refine wpAny_pure (wpAny_newFunctionEnv hnc (fun y hy => ?_) (fun h₁ hns hsb => ⟨lim.fresh _ hsb, ?_⟩) hk)
  · rw [List.mem_singleton] at hy
    subst hy
    exact hv
  · have kp : ∀ b o, s.heap.get? b = some o → h₁.get? b = some o := fun b o e => hsb.extBut b o (Nat.ne_of_lt (Heap.lt_size e)) (Heap.get?_push_of_some _ e)
    refine PySem.W.kla_codeExpr ?_
    refine key_run (c := c) (a := a) (its := its) (i := i) (k := k) (t := t) (u := u) he hk hx hc (hcell.keeps kp) hv hns ?_ (hi.keeps kp) h0 hl hx2 hdx hcx hdv fun tk tv => ?_
    · first | rfl | simp
    · refine ⟨_, _, rfl, fun b o e => Heap.get?_push_of_some _ (kp b o e), ?_⟩
      exact .tuple (Heap.get?_push_size _ rfl) rfl rfl (.cons (.int _ _) (.cons (.int _ _) .nil))
/-- sorted(src, key=f): src told by what is collected from it -/
theorem sorted_key_col {β : Type} {R : Value → β → Prop} {bs : List β} {r f : Addr} {Q : Value → Shared → Prop} (k : β → PyData)
    (hcol : ∀ {Q' : List Value → Shared → Prop} {E' : Value → Shared → Prop}, (∀ vs h1 tk1, (∀ b o, s.heap.get? b = some o → h1.get? b = some o) → PySem.W.EachIs R vs bs → Q' vs { s with heap := h1, toks := tk1 }) → wpAny (model prog w) A.in1 (collect (.ref r)) Q' E' s)
    (hal : PySem.W.AllAlike (bs.map k)) (hk : PySem.W.Sortable (bs.map k)) (hL : bs.length ≤ sizeLine) (hu : ∀ x, x ∈ bs → A.units + 2 + (k x).depth < cLine)
    (turn : ∀ (v : Value) (x : β), R v x → x ∈ bs → ∀ (h : Heap) (tk : Nat), (∀ b o, s.heap.get? b = some o → h.get? b = some o) →
      wpAny (model prog w) A.in1.in1 (call (.ref f) [v]) (PySem.W.KeyPure (k x) { s with heap := h, toks := tk }) (fun _ _ => False) { s with heap := h, toks := tk })
    (h : ∀ a out c h' tk, (∀ b o, s.heap.get? b = some o → h'.get? b = some o) → s.heap.get? a = none → h'.get? a = some (seqObj "list" (List.toArray out) c) → PySem.W.EachIs R out (bs.mergeSort (PySem.W.dataLe false k)) → Q (.ref a) { s with heap := h', toks := tk }) :
    wpAny (model prog w) A (call (.builtin "sorted") [.ref r] [(Str.ofString "key", .ref f)]) Q E s := by
  refine call_function_entry_kw kind_sorted plain_sorted entry_sorted (ksk_s1 _ _) ?_
  unfold Builtin.«sorted»
  refine wpAny_bind (m := checkCount "sorted" 1 1 _) (wpAny_pure ?_)
  refine wpAny_bind (hcol fun vs h1 tk1 kp e => ?_)
  have hvl : vs.length ≤ sizeLine := by rw [e.length]; exact hL
  refine wpAny_bind (wpAny_newList ?_ hvl)
  have hsz : s.heap.get? h1.objs.size = none := by
    cases e : s.heap.get? h1.objs.size with
    | none => rfl
    | some o => exact absurd (Heap.lt_size (kp _ _ e)) (Nat.lt_irrefl _)
  refine wpAny_bind (wpAny_holding (PySem.W.list_sort_key_data (b := false) (n := 0) k (Heap.get?_push_size _ rfl) e hal hk hL hu (ksk_l1 _ _) (ksk_t1 _ _) (fun v x hR hx h tk kb => turn v x hR hx h tk fun b o eb => kb b o (Nat.ne_of_lt (Heap.lt_size (kp b o eb))) (Heap.get?_push_of_some _ (kp b o eb))) fun out c h' tk kb hD _ eo => ?_))
  exact wpAny_pure ⟨_, rfl, h _ out c h' tk (fun b o eb => kb b o (Nat.ne_of_lt (Heap.lt_size (kp b o eb))) (Heap.get?_push_of_some _ (kp b o eb))) hsz hD eo⟩
end
section
variable {P : Program} {w : World} {H : Hp} {h h' : Heap} {a : Addr} {o : HO} {fs ex : List Addr}
theorem objOk_there (x : ObjOk P w H h a o) : ∃ u, h.get? a = some u := by
  cases o with
  | lst xs => obtain ⟨_, _, _, _, e⟩ := x; exact ⟨_, e⟩
  | tup xs => obtain ⟨_, _, _, o, e, _⟩ := x; exact ⟨_, e⟩
  | dK kvs => obtain ⟨_, _, _, _, o, _, _, e, _⟩ := x; exact ⟨_, e⟩
  | dT kvs => obtain ⟨_, _, _, _, o, _, _, e, _⟩ := x; exact ⟨_, e⟩
  | set S n => obtain ⟨o, _, _, _, e, _⟩ := x; exact ⟨_, e⟩
  | ins C dx fs => obtain ⟨_, _, _, e, _⟩ := x; exact ⟨_, e⟩
  | own y => obtain ⟨_, e⟩ := x; exact ⟨_, e⟩
  | xd fs => obtain ⟨_, ⟨_, _, _, e, _⟩, _⟩ := x; exact ⟨_, e⟩
  | rng lo hi => obtain ⟨_, _, _, e⟩ := x; exact ⟨_, e⟩
  | frz ob u => obtain ⟨e, _⟩ := x; exact ⟨_, e⟩
  | tbl ps => exact ⟨_, show h.get? a = some _ from x⟩
  | met f y => exact ⟨_, show h.get? a = some _ from x⟩
  | ext φ => obtain ⟨_, ⟨_, e⟩, _⟩ := x; exact ⟨_, e⟩
theorem hok_none (x : HOk P w H h) (hp : h.get? a = none) : H a = none := by
  cases e : H a with
  | none => rfl
  | some o =>
    obtain ⟨u, q⟩ := objOk_there (x a o e)
    rw [hp] at q
    cases q
theorem un_laidN (k : ∀ b u, h.get? b = some u → h'.get? b = some u) (hp : h.get? a = none) (hn : H a = none) : Un fs ex H (upd H a o) h h' where
  keep := fun b u q _ _ _ => k b u q
  slot := fun b u q _ _ _ => ⟨u.slots, k b u q⟩
  free := fun b u q n _ => by rw [upd_ne (fun z => by rw [z, hp] at q; cases q)]; exact n
  there := fun b u q _ => ⟨u, k b u q⟩
  tups := fun b xs q => by rw [upd_ne (ne_of_none q hn)]; exact q
  frzs := fun b u xs q => by rw [upd_ne (ne_of_none q hn)]; exact q
  tbls := fun b ps q => ⟨#[], by rw [upd_ne (ne_of_none q hn), q]; simp⟩
theorem hok_laidN (x : HOk P w H h) (k : ∀ b u, h.get? b = some u → h'.get? b = some u) (hp : h.get? a = none) (new : ObjOk P w (upd H a o) h' a o) : HOk P w (upd H a o) h' := fun b u e => by
  have hn := hok_none x hp
  by_cases hb : b = a
  · subst hb; rw [upd_same] at e; cases e; exact new
  · rw [upd_ne hb] at e
    exact (x b u e).stay (fun c v _ q => k c v q) (fun c q => by rw [upd_ne (ne_of_none q hn)]; exact q) fun c xs q => by rw [upd_ne (ne_of_none q hn)]; exact q
end
theorem inv_laidN {X : Cx} {pins : List (Addr × Obj)} {σ : L2.St} {H : Hp} {s : Shared} {h' : Heap} {a : Addr} {o : HO} {t' : Nat} (I : Inv X pins σ H s) (k : ∀ b u, s.heap.get? b = some u → h'.get? b = some u) (hp : s.heap.get? a = none) (new : ObjOk X.prog X.w (upd H a o) h' a o) :
    Inv X pins σ (upd H a o) { s with heap := h', toks := t' } := I.un (un_laidN k hp (hok_none I.hok hp)) (hok_laidN I.hok k hp new)
/-! ### the rule over the heap -/
/-- what is sorted: a list of ints, or range(n) -/
def Src (K : PySem.W.Frag) (H : Hp) (r : Addr) (ns : List Int) : Prop := SqL K H r (ns.map V.int) ∨ ∃ n : Nat, H r = some (.rng 0 n) ∧ n ≤ 100000 ∧ ns = (List.range n).map fun i => ((i : Nat) : Int)
theorem rd_ext {H H' : Hp} {a : Addr} {u : HO} (e : ExtN H H') (hn : ∀ ps, u ≠ .tbl ps) (r : Rd H a u) : Rd H' a u := by
  rcases r with r | ⟨o, r⟩
  · exact .inl (e _ _ r hn)
  · exact .inr ⟨o, e _ _ r (fun ps z => by cases z)⟩
theorem sqL_ext {K : PySem.W.Frag} {H H' : Hp} {a : Addr} {xs : List V} (e : ExtN H H') (r : SqL K H a xs) : SqL K H' a xs := r.imp (rd_ext e fun ps z => by cases z) id
theorem sqT_ext {K : PySem.W.Frag} {H H' : Hp} {a : Addr} {xs : List V} (e : ExtN H H') (r : SqT K H a xs) : SqT K H' a xs := r.imp (rd_ext e fun ps z => by cases z) id
theorem src_ext {K : PySem.W.Frag} {H H' : Hp} {a : Addr} {ns : List Int} (e : ExtN H H') (r : Src K H a ns) : Src K H' a ns := by
  rcases r with r | ⟨n, r, q⟩
  · exact .inl (sqL_ext e r)
  · exact .inr ⟨n, e _ _ r (fun ps z => by cases z), q⟩
/-- by falling numbers, of equal ones the lesser place first -/
def keyI (ks : List Int) (n : Int) : Int := -(ks.getD n.toNat 0)
def orderI (ks ns : List Int) : List Int := ns.mergeSort fun p q => decide (keyI ks p < keyI ks q ∨ (keyI ks p = keyI ks q ∧ p ≤ q))
def tSrt (K : PySem.W.Frag) (T : List (Addr × Str)) (ix : Nat) (te : TE) : TE := fun σ H Q => te σ H fun vv H1 => ∃ r ns ax ks, vv = .ref r ∧ Src K H1 r ns ∧ Tabs T H1 ∧ σ[ix]? = some (some (.ref ax)) ∧ (SqL K H1 ax (ks.map V.int) ∨ SqT K H1 ax (ks.map V.int)) ∧ (∀ n ∈ ns, 0 ≤ n ∧ n < ks.length) ∧ ns.length ≤ 100000 ∧
  ∀ H2, ExtN H1 H2 → Tabs T H2 → ∀ p, H2 p = none → Q (.ref p) (upd H2 p (.lst ((orderI ks ns).map V.int)))
/-- one parameter v, x captured, else globals -/
structure LamP (sc scope : Scope) (x v : Str) : Prop where
  kind : scope.kind = .function
  co : scope.isCoroutine = false
  gen : scope.isGenerator = false
  own : ∀ y ∈ scope.names, y.2 ≠ .cell
  free : ∀ y ∈ scope.names, y.2 = .free → sc.names.lookup y.1 = some .cell ∨ sc.names.lookup y.1 = some .free
  hx : scope.names.lookup x = some .free
  hv : scope.names.lookup v = some .local
def lamPB (sc scope : Scope) (x v : Str) : Bool :=
  decide (scope.kind = .function) && !scope.isCoroutine && !scope.isGenerator && (scope.names.all fun y => !decide (y.2 = .cell) && (!decide (y.2 = .free) || decide (sc.names.lookup y.1 = some .cell) || decide (sc.names.lookup y.1 = some .free))) && decide (scope.names.lookup x = some .free) && decide (scope.names.lookup v = some .local)
theorem lamP_by {sc scope : Scope} {x v : Str} (h : lamPB sc scope x v = true) : LamP sc scope x v := by
  unfold lamPB at h
  simp only [Bool.and_eq_true, Bool.or_eq_true, Bool.not_eq_true', decide_eq_true_eq, decide_eq_false_iff_not, List.all_eq_true] at h
  obtain ⟨⟨⟨⟨⟨h1, h2⟩, h3⟩, h4⟩, h5⟩, h6⟩ := h
  refine ⟨h1, h2, h3, fun y hy => (h4 y hy).1, fun y hy e => ?_, h5, h6⟩
  rcases (h4 y hy).2 with (z | z) | z
  · exact absurd e z
  · exact .inl z
  · exact .inr z
theorem each_ints : ∀ {vs : List Value} {ns : List Int}, IntsAre vs ns → PySem.W.EachIs (fun u (n : Int) => ∃ t : Tok, u = Value.int n t) vs ns
  | _, _, .nil => .nil
  | _, _, .cons n t h => .cons ⟨t, rfl⟩ (each_ints h)
theorem ints_each : ∀ {vs : List Value} {ns : List Int}, PySem.W.EachIs (fun u (n : Int) => ∃ t : Tok, u = Value.int n t) vs ns → IntsAre vs ns
  | _, _, .nil => .nil
  | _, _, .cons ⟨t, e⟩ h => by
    subst e
    exact .cons _ t (ints_each h)
theorem src_collect {X : Cx} {pins : List (Addr × Obj)} {σ : L2.St} {H : Hp} {s : Shared} {r : Addr} {ns : List Int} (I : Inv X pins σ H s) (hh : X.A.handled = none) (S : Src X.K H r ns) (hz : ns.length ≤ sizeLine) {Q' : List Value → Shared → Prop} {E' : Value → Shared → Prop}
    (h : ∀ vs h1 tk1, (∀ b o, s.heap.get? b = some o → h1.get? b = some o) → PySem.W.EachIs (fun u (n : Int) => ∃ t : Tok, u = Value.int n t) vs ns → Q' vs { s with heap := h1, toks := tk1 }) : wpAny (model X.prog X.w) X.A.in1 (collect (.ref r)) Q' E' s := by
  rcases S with S | ⟨n, S, hn, rfl⟩
  · obtain ⟨its, rv, hl, _⟩ := I.list S
    have hi := rv.ints
    refine collect_list hl.isList (h its _ s.toks (fun b o e => ?_) (each_ints hi)) (by rw [hi.length]; exact hz)
    rw [Heap.get?_update_ne _ _ _ _ (Nat.ne_of_lt (Heap.lt_size e))]
    exact Heap.get?_push_of_some _ e
  · obtain ⟨t, u, v, ho⟩ := I.hok r _ S
    refine collect_range (n := n) hh (show IsRange s.heap r 0 n 1 t u v from ho) (small_one (by omega) (by omega) (by omega) (by omega)) (by rw [rangeSize_nat]; omega) (by omega) fun h' tk acc kp hi => ?_
    have e : ((n : Int) - 0).toNat = n := by omega
    have rv := vals_rg (a := 0) (b := n) (by rw [e]; exact hi)
    have e2 : rgV 0 n = ((List.range n).map fun i => ((i : Nat) : Int)).map V.int := by
      unfold rgV
      rw [e, List.map_map]
      refine List.map_congr_left fun i _ => ?_
      show V.int (0 + (i : Int)) = V.int (i : Int)
      rw [Int.zero_add]
    rw [e2] at rv
    exact h _ _ _ kp (each_ints rv.ints)
section
variable {X : Cx} {T : List (Addr × Str)} {te : TE} {ix : Nat} {x v : Str} {src e1 : Expr} {c P : Addr} {params : Arguments} {scope : Scope} {p lpos kpos pos p5 p6 : Pos} {l1 : Nat}
theorem pe_sortLam (he : KeyE x v e1) (hs : PE X src te) (hm : X.mg "sorted" = none) (TB : TabB X.base X.mg c P) (hcode : X.env.code = .ref c) (hmT : (P, X.env.qual ++ "<lambda>") ∈ T) (hu : ∀ q ∈ T, q.1 = P → q.2 = X.env.qual ++ "<lambda>") (hr : Room 1 X.A)
    (L : LamP X.env.scope scope x v) (hdef : defaultsOf params X.env = ([], []))
    (hbind : ∀ (q : Str) (cl : List (Str × Addr)) (pm cv ctv u : Value), bindArgs (PySem.W.kla_fn "<lambda>" q params (.Tuple [e1, .Name v p5] l1 p6) scope cl pm cv ctv) ⟨[u], []⟩ = pure [(v, u)])
    (hN : X.N[ix]? = some x) (hg : Gl X "sorted" := by rfl) (hdx : (x == ("__debug__" : Str)) = false := by decide) (hcx : (x == ("__classdict__" : Str)) = false := by decide) (hdv : (v == ("__debug__" : Str)) = false := by decide)
    (hst : starEach (src :: []) X.env = (false, eval src X.env) :: starEach [] X.env := by rfl) :
    PE X (.Call (.Name "sorted" p) [src] [⟨some "key", .Lambda params (.Tuple [e1, .Name v p5] l1 p6) scope lpos, kpos⟩] pos) (tSrt X.K T ix te) := by
  refine ⟨fun pins s σ H Q I h => ?_⟩
  refine wpAny_Call_Name_kw (ld_blt I hg hm bt_sorted ?_)
  have hbt : backTo pos (starEach (src :: []) X.env) = (false, eval src X.env) :: backTo pos (starEach [] X.env) := by
    rw [hst]
    rfl
  refine PyProof.Rows.callWith_kw ?_ hbt (by rw [hbt]; rfl) (by rfl) (by rfl)
  rw [hbt]
  refine Calls.spliced_cons (thn (hs.run pins s σ H _ I h) fun u1 s1 ⟨vv, H1, I1, r1, q1⟩ => Calls.spliced_nil ?_)
  obtain ⟨r, ns, ax, ks, rfl, hS, hT, hσ, hX, hns, hz, q⟩ := q1
  obtain rfl : u1 = Value.ref r := r1
  show wpAny _ _ (evalAll ((do let v ← eval (.Lambda params (.Tuple [e1, .Name v p5] l1 p6) scope lpos) X.env; standAt pos; pure v) :: (backToKw pos (keywordEach [] X.env)).map (·.2))) _ _ _
  have hfree : ∀ y ∈ scope.names, y.2 = .free → ∃ c, X.env.cells.lookup y.1 = some c := fun y hy e => by
    rcases L.free y hy e with k | k
    · exact I1.ok.has _ (.inl k)
    · exact I1.ok.has _ (.inr k)
  refine wpAny_evalAll_cons (wpAny_bind (lam_make2 I1 TB hcode hmT hu hT hdef hfree fun f c' pm ctv H2 s2 I2 eN T2 hf hfn hfr hco => wpAny_bind (wpAny_standAt (wpAny_pure (wpAny_evalAll_nil ?_)))))
  show wpAny _ _ (call (.builtin "sorted") [.ref r] [(Str.ofString "key", .ref f)]) _ _ _
  have hzl : ns.length ≤ sizeLine := by rw [sizeLine_eq]; omega
  -- what the lambda captured
  obtain ⟨cc, hcc, hcell⟩ : ∃ cc, (cloFrom X.env.cells scope.names []).lookup x = some cc ∧ s2.heap.IsCell cc (some (.ref ax)) := by
    have hxm := PySem.mem_of_lookup L.hx
    obtain ⟨c2, h2⟩ : ∃ c2, (cloFrom X.env.cells scope.names []).lookup x = some c2 := mem_lookup (cloFrom_has (cells := X.env.cells) (acc := []) hxm)
    have c1 : X.env.cells.lookup x = some c2 := by
      rcases cloFrom_mem (PySem.mem_of_lookup h2) with hm' | ⟨h1, h3⟩
      · cases hm'
      · obtain ⟨c4, h4⟩ := hfree _ hxm rfl
        have h4 : X.env.cells.lookup x = some c4 := h4
        rw [h4] at h3 ⊢
        rw [h3]
        rfl
    obtain ⟨m, hn, hl⟩ := I2.loc
    have hvis : Vis X.env.scope x := (L.free _ hxm rfl).elim (fun k => .inr (.inl k)) fun k => .inr (.inr k)
    obtain ⟨u, ru, look⟩ := hl ix x _ hN hσ hvis
    obtain rfl : u = Value.ref ax := ru
    rcases look with ⟨k', _⟩ | ⟨_, c3, e', z⟩
    · have k' : X.env.scope.names.lookup x = some .local := k'
      rcases L.free _ hxm rfl with k2 | k2 <;> rw [show X.env.scope.names.lookup x = _ from k2] at k' <;> cases k'
    · rw [c1] at e'
      cases e'
      exact ⟨_, h2, z⟩
  -- its items
  obtain ⟨its, rv, hits⟩ : ∃ its, Vals (ks.map V.int) its ∧ ItsAt s2.heap ax its := by
    rcases hX with hX | hX
    · obtain ⟨its, rv, hl, _⟩ := I2.list (sqL_ext eN hX)
      exact ⟨its, rv, .inl hl.isList⟩
    · obtain ⟨its, rv, hl, _⟩ := I2.tuple (sqT_ext eN hX)
      exact ⟨its, rv, .inr hl⟩
  obtain ⟨⟨oc, vs, tq, hoc, hdc, hvc⟩, _, _⟩ := I2.hok c' _ hco
  have hitz : its.length ≤ sizeLine := by
    rcases hX with hX | hX
    · obtain ⟨its', rv', _, z⟩ := I2.list (sqL_ext eN hX)
      rw [← rv.length]
      exact z
    · obtain ⟨its', rv', _, z⟩ := I2.tuple (sqT_ext eN hX)
      rw [← rv.length]
      exact z
  refine sorted_key_col (R := fun u (n : Int) => ∃ t : Tok, u = Value.int n t) (bs := ns) (fun n => .tuple [.int (keyI ks n), .int n]) (fun h => src_collect I2 hr.hd (src_ext eN hS) hzl h)
    (PySem.W.AllAlike.of fun _ _ => by simp [PySem.W.alike, PySem.W.alikeAll]) (PySem.W.Sortable.tuples fun _ => ⟨_, _, rfl⟩) hzl (fun n _ => ?_) (fun u n hn hnm h tk kp => ?_) fun a out c2 h' tk kp hnone hD eo => ?_
  · have hd : (PyData.tuple [.int (keyI ks n), .int n]).depth = 1 := by simp [PyData.depth, PyData.depthAll]
    rw [hd]
    have := hr.un
    omega
  · obtain ⟨t, rfl⟩ := hn
    obtain ⟨n0, n1⟩ := hns n hnm
    have hk : ks[n.toNat]? = some (ks.getD n.toNat 0) := by
      rw [List.getD_eq_getElem?_getD, List.getElem?_eq_getElem (by omega)]
      rfl
    obtain ⟨w', ew, rw'⟩ := rv.get (i := n.toNat) (x := V.int (ks.getD n.toNat 0)) (by rw [List.getElem?_map, hk]; rfl)
    obtain ⟨tw, rfl⟩ := rw'
    refine key_call (s := { s2 with heap := h, toks := tk }) (c := cc) (a := ax) (its := its) (u := tw) he (kp _ _ hf) ⟨oc, vs, tq, kp _ _ hoc, hdc, hvc⟩ (fun u => hbind _ _ _ _ _ u) ?_ (I2.nolimit.keeps kp) L.kind L.co L.gen L.own L.hx hcc (hcell.keeps kp) L.hv (hits.keeps kp) n0 hitz ew hdx hcx hdv
    have := hr.dp
    show X.A.depth < recursionLimit
    omega
  · rw [PySem.W.dataLe_ii (β := Int) (fun n => keyI ks n) (fun n => n)] at eo
    have ho : IntsAre out (orderI ks ns) := ints_each eo
    have hlen : (orderI ks ns).length ≤ sizeLine := by
      unfold orderI
      rw [List.length_mergeSort]
      exact hzl
    exact ⟨.ref a, _, inv_laidN (o := .lst ((orderI ks ns).map V.int)) I2 kp hnone ⟨by rw [List.length_map]; exact hlen, out, c2, vals_ints ho, hD⟩, rfl, q H2 eN T2 a (hok_none I2.hok hnone)⟩
end
end DL
set_option maxRecDepth 100000
set_option maxHeartbeats 4000000
/-! DLX: sorted by a lambda, read; defs that make a lambda; the law's end with tables. -/
namespace DL
open PySem PySem.Spec PyProof.Rows L2 LamX
variable {T : List (Addr × Str)}
theorem grow_tab {F0 H0 F H H2 : Hp} (g : Grow T F0 H0 F H) (e : ExtN H H2) (t : Tabs T H2) : ∃ F2, Grow T F H F2 H2 := by
  classical
  let C : Addr → Prop := fun a => Nn H a ∧ ∃ k : List Key, H2 a = some (.tup (k.map kV))
  let F2 : Hp := fun a => if C a then H2 a else F a
  have hin : ∀ {a}, C a → F2 a = H2 a := fun h => if_pos h
  have hout : ∀ {a}, ¬ C a → F2 a = F a := fun h => if_neg h
  have nn : ∀ {a u}, F a = some u → ¬ C a := fun {a u} q c => by
    obtain ⟨ps, z⟩ := c.1 u (g.s a u q)
    subst z
    exact g.n a ps q
  refine ⟨F2, ⟨⟨e, fun _ => t⟩, fun a u q => (hout (nn q)).trans q, fun a u q => ?_, fun a u q n => hout fun c => ?_, fun a ps q => ?_, fun a k q => ?_⟩⟩
  · by_cases c : C a
    · rw [hin c] at q
      exact q
    · rw [hout c] at q
      exact e a u (g.s a u q) fun ps z => by subst z; exact g.n a ps q
  · obtain ⟨ps, z⟩ := c.1 u q
    exact n ps z
  · by_cases c : C a
    · rw [hin c] at q
      obtain ⟨k, z⟩ := c.2
      rw [z] at q
      cases q
    · rw [hout c] at q
      exact g.n a ps q
  · by_cases c : Nn H a
    · rw [hin ⟨c, k, q⟩]
      exact q
    · rw [hout fun z => c z.1]
      have : ∃ u, H a = some u ∧ ∀ ps, u ≠ .tbl ps := Classical.byContradiction fun z => c fun u e2 => Classical.byContradiction fun y => z ⟨u, e2, fun ps x => y ⟨ps, x⟩⟩
      obtain ⟨u, e2, n⟩ := this
      have e3 := e a u e2 n
      rw [q] at e3
      cases e3
      exact g.c a k e2
theorem dqA_intsF {F : Hp} : ∀ ns : List Int, DqA F (ns.map V.int) (ns.map .int)
  | [] => .nil
  | n :: ns => .cons (.int n) (dqA_intsF ns)
/-! range(n) as a thing -/
theorem cr_range1 {X : Cx} : CallR X (.type "range") (fun vs H Q => ∃ n : Nat, vs = [V.int (n : Nat)] ∧ ∀ p, H p = none → Q (.ref p) (upd H p (.rng 0 (n : Nat)))) := by
  intro pins s σ H vs us Q I r h
  obtain ⟨n, rfl, q⟩ := h
  cases r with
  | cons r1 r2 =>
    cases r2
    obtain ⟨t, rfl⟩ := r1
    refine call_range_1 ⟨.ref s.heap.objs.size, upd H s.heap.objs.size (.rng 0 (n : Nat)), I.laid (t' := s.toks + 1 + 1) (fun b o e => Heap.get?_push_of_some _ e) (Nat.le_refl _) ?_, rfl, q _ (I.hok.fresh (Nat.le_refl _))⟩
    exact ⟨s.toks, t, s.toks + 1, Heap.get?_push_size _ rfl⟩
theorem bt_range' : bootBuiltins "range" = some (.type "range") := by decide +kernel
/-! what is read from a slot -/
theorem slot_seq {K : PySem.W.Frag} {b : B} {F H : Hp} {σ : L2.St} {ρ : List Sl} (R : Rep K b F H σ ρ) {i : Nat} {ks : List Int} (h : ρ[i]?.bind Sl.rd = some (.list (ks.map .int)) ∨ ρ[i]?.bind Sl.rd = some (.tuple (ks.map .int))) :
    ∃ a, σ[i]? = some (some (.ref a)) ∧ (SqL K H a (ks.map V.int) ∨ SqT K H a (ks.map V.int)) := by
  have key : ∀ d, ρ[i]?.bind Sl.rd = some d → ∃ v, σ[i]? = some (some v) ∧ VR .rd K b F H v d := fun d e => by
    obtain ⟨s, es, e⟩ := Option.bind_eq_some_iff.mp e
    have q := R.sl i _ es
    cases s with
    | «at» _ => cases e
    | un => cases e
    | tr _ _ => cases e
    | lt _ => cases e
    | ow d' =>
      cases e
      obtain ⟨v, e1, q⟩ := q
      refine ⟨_, e1, ?_⟩
      rcases q with ⟨a, e2, n, n2, o⟩ | q
      · exact .inr ⟨a, e2, o.rdb⟩
      · exact .inl q.dq
    | fz d' =>
      cases e
      obtain ⟨v, e1, q⟩ := q
      exact ⟨v, e1, .inl q⟩
    | ln d' =>
      cases e
      obtain ⟨v, e1, q⟩ := q
      exact ⟨v, e1, q.rd rfl R.g⟩
  rcases h with h | h
  · obtain ⟨v, e1, r⟩ := key _ h
    obtain ⟨a, xs, rfl, sq, dq⟩ := vr_lst R.g.s r
    rw [ints_dq dq] at sq
    exact ⟨a, e1, .inl sq⟩
  · obtain ⟨v, e1, r⟩ := key _ h
    obtain ⟨a, xs, rfl, sq, dq⟩ := vr_tup R.g.s r
    rw [ints_dq dq] at sq
    exact ⟨a, e1, .inr sq⟩
/-- what is needed of a def that makes a lambda: its code object, its table -/
structure TabD (X : Cx) (T : List (Addr × Str)) : Prop where
  ex : ∃ c P, TabB X.base X.mg c P ∧ X.env.code = .ref c ∧ (P, X.env.qual ++ "<lambda>") ∈ T ∧ ∀ q ∈ T, q.1 = P → q.2 = X.env.qual ++ "<lambda>"
def tupR (ix : Nat) (ρ : List Sl) (ks : List Int) : Prop := ρ[ix]?.bind Sl.rd = some (.list (ks.map .int)) ∨ ρ[ix]?.bind Sl.rd = some (.tuple (ks.map .int))
/-- sorted(range(e), key=lambda v: (-x[v], v)), x in slot ix -/
def dSortR (ix : Nat) (t : DT) : DT := fun ρ P Z => t ρ (fun d => ∃ (n : Nat) (ks : List Int), d = .int (n : Nat) ∧ n ≤ 100000 ∧ tupR ix ρ ks ∧ n ≤ ks.length ∧ P (.list ((orderI ks ((List.range n).map fun i => ((i : Nat) : Int))).map .int))) Z
/-- sorted(e, key=lambda v: (-x[v], v)) -/
def dSortL (ix : Nat) (t : DT) : DT := fun ρ P Z => t ρ (fun d => ∃ (ns ks : List Int), d = .list (ns.map .int) ∧ ns.length ≤ 100000 ∧ tupR ix ρ ks ∧ (∀ n ∈ ns, 0 ≤ n ∧ n < ks.length) ∧ P (.list ((orderI ks ns).map .int))) Z
section
variable {X : Cx} {W : WT} {m : Md} {t : DT} {x v : Str} {e e1 : Expr} {params : Arguments} {scope : Scope} {p p2 p3 lpos kpos pos p5 p6 : Pos} {l1 : Nat}
theorem de_sortR (ix : Nat) (he : KeyE x v e1) (h : DE X W m e t) (hm : X.mg "sorted" = none) (hmr : X.mg "range" = none) (TD : TabD X W.T) (hr : Room 1 X.A) (L : LamP X.env.scope scope x v) (hdef : defaultsOf params X.env = ([], []))
    (hbind : ∀ (q : Str) (cl : List (Str × Addr)) (pm cv ctv u : Value), bindArgs (PySem.W.kla_fn "<lambda>" q params (.Tuple [e1, .Name v p5] l1 p6) scope cl pm cv ctv) ⟨[u], []⟩ = pure [(v, u)])
    (hN : X.N[ix]? = some x := by rfl) (hg : Gl X "sorted" := by rfl) (hgr : Gl X "range" := by rfl) (hdx : (x == ("__debug__" : Str)) = false := by decide) (hcx : (x == ("__classdict__" : Str)) = false := by decide) (hdv : (v == ("__debug__" : Str)) = false := by decide)
    (hst : starEach (.Call (.Name "range" p2) [e] [] p3 :: []) X.env = (false, eval (.Call (.Name "range" p2) [e] [] p3) X.env) :: starEach [] X.env := by rfl)
    (hst2 : starEach (e :: []) X.env = (false, eval e X.env) :: starEach [] X.env := by rfl) (hpl : (backTo p3 (starEach [] X.env)).any (·.1) = false := by rfl)  (hsh : m.sh = true := by rfl):
    DE X W .nw (.Call (.Name "sorted" p) [.Call (.Name "range" p2) [e] [] p3] [⟨some "key", .Lambda params (.Tuple [e1, .Name v p5] l1 p6) scope lpos, kpos⟩] pos) (dSortR ix t) := by
  obtain ⟨te, p1, s1⟩ := h.ok
  obtain ⟨c, Pt, TB, hcode, hmT, hu⟩ := TD.ex
  refine ⟨_, pe_sortLam he (pe_callTy cr_range1 hgr hmr bt_range' (pa_cons p1 pa_nil hst2) (by decide) (by decide) hst2 hpl) hm TB hcode hmT hu hr L hdef hbind hN hg hdx hcx hdv hst, fun b F H σ ρ Q P Z R z q k => ?_⟩
  refine s1 b F H σ ρ _ _ Z R z q fun d v F1 H1 q1 g r _ => ?_
  obtain ⟨n, ks, rfl, hn, hks, hle, pP⟩ := q1
  refine ⟨n, by rw [vr_int (r.rd hsh (R.g.trans g))], fun a na => ?_⟩
  have g2 := Grow.own (R.grow g).g (HO.rng 0 (n : Nat)) na
  have R2 := (R.grow g).grow g2
  obtain ⟨ax, e1', hsx⟩ := slot_seq R2 hks
  refine ⟨a, _, ax, ks, rfl, .inr ⟨n, upd_same, hn, rfl⟩, z.t ▸ R2.tt, e1', hsx, fun j hj => ?_, by rw [List.length_map, List.length_range]; exact hn, fun H2 eN T2 a2 na2 => ?_⟩
  · obtain ⟨i, hi, rfl⟩ := List.mem_map.mp hj
    have := List.mem_range.mp hi
    omega
  · obtain ⟨F3, g3⟩ := grow_tab R2.g eN (z.t.symm ▸ T2)
    have g4 := Grow.own (R2.grow g3).g (HO.lst ((orderI ks ((List.range n).map fun i => ((i : Nat) : Int))).map V.int)) na2
    have gg := g.trans (g2.trans (g3.trans g4))
    exact k _ _ _ _ pP gg (.inl ⟨a2, rfl, (R2.grow g3).g.s.free na2, own_mkL upd_same (dqA_intsF _)⟩) fun q e => by cases e; exact (g.trans (g2.trans g3)).h.free na2
theorem de_sortL (ix : Nat) (he : KeyE x v e1) (h : DE X W m e t) (hm : X.mg "sorted" = none) (TD : TabD X W.T) (hr : Room 1 X.A) (L : LamP X.env.scope scope x v) (hdef : defaultsOf params X.env = ([], []))
    (hbind : ∀ (q : Str) (cl : List (Str × Addr)) (pm cv ctv u : Value), bindArgs (PySem.W.kla_fn "<lambda>" q params (.Tuple [e1, .Name v p5] l1 p6) scope cl pm cv ctv) ⟨[u], []⟩ = pure [(v, u)])
    (hN : X.N[ix]? = some x := by rfl) (hg : Gl X "sorted" := by rfl) (hdx : (x == ("__debug__" : Str)) = false := by decide) (hcx : (x == ("__classdict__" : Str)) = false := by decide) (hdv : (v == ("__debug__" : Str)) = false := by decide)
    (hst : starEach (e :: []) X.env = (false, eval e X.env) :: starEach [] X.env := by rfl)  (hsh : m.sh = true := by rfl):
    DE X W .nw (.Call (.Name "sorted" p) [e] [⟨some "key", .Lambda params (.Tuple [e1, .Name v p5] l1 p6) scope lpos, kpos⟩] pos) (dSortL ix t) := by
  obtain ⟨te, p1, s1⟩ := h.ok
  obtain ⟨c, Pt, TB, hcode, hmT, hu⟩ := TD.ex
  refine ⟨_, pe_sortLam he p1 hm TB hcode hmT hu hr L hdef hbind hN hg hdx hcx hdv hst, fun b F H σ ρ Q P Z R z q k => ?_⟩
  refine s1 b F H σ ρ _ _ Z R z q fun d v F1 H1 q1 g r _ => ?_
  obtain ⟨ns, ks, rfl, hz, hks, hns, pP⟩ := q1
  have R2 := R.grow g
  obtain ⟨a, xs, rfl, sq, dq⟩ := vr_lst R2.g.s (r.rd hsh R2.g)
  rw [ints_dq dq] at sq
  obtain ⟨ax, e1', hsx⟩ := slot_seq R2 hks
  refine ⟨a, ns, ax, ks, rfl, .inl sq, z.t ▸ R2.tt, e1', hsx, hns, hz, fun H2 eN T2 a2 na2 => ?_⟩
  obtain ⟨F3, g3⟩ := grow_tab R2.g eN (z.t.symm ▸ T2)
  have g4 := Grow.own (R2.grow g3).g (HO.lst ((orderI ks ns).map V.int)) na2
  exact k _ _ _ _ pP (g.trans (g3.trans g4)) (.inl ⟨a2, rfl, (R2.grow g3).g.s.free na2, own_mkL upd_same (dqA_intsF _)⟩) fun q e => by cases e; exact (g.trans g3).h.free na2
end
/-! ### a def that makes a lambda -/
def lamQ (x : Str) : Str := (envOfC x { kind := .function, names := [], isGenerator := false, isCoroutine := false, more := [] } 0 0 .none).qual ++ "<lambda>"
/-- its code object and its table are among cs, T -/
structure FnC (K : PySem.W.Frag) (mg : Str → Option Value) (x : Str) (st : Stmt) (cs : List (Addr × Addr)) (T : List (Addr × Str)) : Prop where
  ex : ∃ (f c Pt : Addr) (oc : Value) (od : Option Addr) (kV doc pm : Value) (an : Option Addr) (ct : Value) (osl : Array (Option Value)),
    K.lookup f = some ⟨oc, od, .func (PySem.W.fnOf x x (defArgs st) (defBody st) (defScope st) .none kV doc pm an (.ref c) ct), osl⟩ ∧ PySem.W.codeIn K (.ref c) x = true ∧ PySem.W.keepIn K (.ref f) = true ∧ mg x = some (.ref f) ∧
    (c, Pt) ∈ cs ∧ (Pt, lamQ x) ∈ T ∧ ∀ q ∈ T, q.1 = Pt → q.2 = lamQ x
theorem fnC_mk {K : PySem.W.Frag} {h : Heap} {mg : Str → Option Value} {x : Str} {st : Stmt} {f c Pt : Addr} {oc : Value} {od an : Option Addr} {osl : Array (Option Value)} {kV doc pm ct : Value} {cs : List (Addr × Addr)} {T : List (Addr × Str)} (X : K.In h) (G : h.Ns mainGlobals mg) (a : PySem.W.nsIn K mainGlobals x = some (some (.ref f)))
    (l : K.lookup f = some ⟨oc, od, .func (PySem.W.fnOf x x (defArgs st) (defBody st) (defScope st) .none kV doc pm an (.ref c) ct), osl⟩) (hc : PySem.W.codeIn K (.ref c) x = true) (k : PySem.W.keepIn K (.ref f) = true) (h1 : (c, Pt) ∈ cs) (h2 : (Pt, lamQ x) ∈ T) (h3 : ∀ q ∈ T, q.1 = Pt → q.2 = lamQ x) : FnC K mg x st cs T :=
  ⟨f, c, Pt, oc, od, kV, doc, pm, an, ct, osl, l, hc, k, PySem.W.mg_of X G a, h1, h2, h3⟩
section
variable {P : Program} {w : World} {K : PySem.W.Frag} {mg : Str → Option Value} {base : Heap} {x : Str} {st : Stmt} {N ps : List Str} {k : Nat} {ms : List Md} {rm : Md} {t : DS} {cs : List (Addr × Addr)}
theorem df0C (TF : FnC K mg x st cs T) (TB : ∀ p ∈ cs, TabB base mg p.1 p.2) (S : FnScope N ps (defScope st)) (hl : ms.length = ps.length) (hbd : Bnd x st ps)
    (hb : ∀ (f c Pt : Addr), TabB base mg c Pt → (Pt, lamQ x) ∈ T → (∀ q ∈ T, q.1 = Pt → q.2 = lamQ x) → ∀ (A : Around) (outer : List Env) (s : Shared) (H : Hp) (E : XK), Room k (A.deeper (envOfC x (defScope st) s.heap.objs.size f (.ref c))) → DSs (cxOf CX0 P w K mg base N x (defScope st) f (.ref c) A outer s H E).nox (W0 T) rm (defBody st) t) :
    Df P w K mg base T CX0 (k + 1) x ms rm (bodyW0 N.length ms rm t) := by
  obtain ⟨f, c, Pt, oc, od, kV, doc, pm, an, ct, osl, lk, hcd, kp, hm, h1, h2, h3⟩ := TF.ex
  refine ⟨f, _, ps, fn_of lk hcd S (fun vs H Q E h => ?_) fun A outer s H vs Q E hr h => ?_, hm, kp, .all (hbd kV doc pm an (.ref c) ct)⟩
  · obtain ⟨_, ds, _, _, _, _, r, _⟩ := h
    rw [← hl]
    exact (vrs_len r).1
  · obtain ⟨F0, ds, Pd, Z, sm, tt, r, hw, k1, k2⟩ := h
    obtain ⟨ts, p, sem⟩ := (hb f c Pt (TB _ h1) h2 h3 A outer s H E hr).ok
    exact ⟨ts, p.nox, sem ⟨F0, H, T⟩ F0 H _ _ _ _ Z0 (rep_start sm tt r) (zok0 rfl) hw (conn_body k1)⟩
theorem dfXC (TF : FnC K mg x st cs T) (TB : ∀ p ∈ cs, TabB base mg p.1 p.2) (S : FnScope N ps (defScope st)) (hl : ms.length = ps.length) (hbd : Bnd x st ps)
    (hb : ∀ (f c Pt : Addr), TabB base mg c Pt → (Pt, lamQ x) ∈ T → (∀ q ∈ T, q.1 = Pt → q.2 = lamQ x) → ∀ (A : Around) (outer : List Env) (s : Shared) (H : Hp) (E : XK), Room k (A.deeper (envOfC x (defScope st) s.heap.objs.size f (.ref c))) → DSs (cxOf (L2.CX P w) P w K mg base N x (defScope st) f (.ref c) A outer s H E) ⟨fun cls d _ H => E cls d H, T⟩ rm (defBody st) t) :
    Df P w K mg base T (L2.CX P w) (k + 1) x ms rm (bodyW N.length ms rm t) := by
  obtain ⟨f, c, Pt, oc, od, kV, doc, pm, an, ct, osl, lk, hcd, kp, hm, h1, h2, h3⟩ := TF.ex
  refine ⟨f, _, ps, fn_of lk hcd S (fun vs H Q E h => ?_) fun A outer s H vs Q E hr h => ?_, hm, kp, .all (hbd kV doc pm an (.ref c) ct)⟩
  · obtain ⟨_, ds, _, _, _, _, r, _⟩ := h
    rw [← hl]
    exact (vrs_len r).1
  · obtain ⟨F0, ds, Pd, Z, sm, tt, r, hw, k1, k2⟩ := h
    obtain ⟨ts, p, sem⟩ := (hb f c Pt (TB _ h1) h2 h3 A outer s H E hr).ok
    exact ⟨ts, p, sem ⟨F0, H, T⟩ F0 H _ _ _ _ (fun _ x => Z x) (rep_start sm tt r) ⟨rfl, fun ρ F' H' σ x C _ hm R q => k2 x C F' H' hm q R.g⟩ hw (conn_body k1)⟩
theorem law_allT {fa : Addr} (hfa : mg "law" = some (.ref fa)) (TF : FnF K mg "law" st) (S : FnScope N ["script"] (defScope st)) (hbd : Bnd "law" st ["script"])
    (hb : ∀ (base : Heap), (∀ p ∈ cs, TabB base mg p.1 p.2) → ∀ (f : Addr) (cdv : Value) (A : Around) (outer : List Env) (s : Shared) (H : Hp) (E : XK), Room k (A.deeper (envOfC "law" (defScope st) s.heap.objs.size f cdv)) → DSs (cxOf CX0 P w K mg base N "law" (defScope st) f cdv A outer s H E).nox (W0 T) .fz (defBody st) t)
    (h : ∀ ns : List Int, ns.length ≤ 63 → (∀ z ∈ ns, Builtin.Int.intBits z ≤ 1048576) → bodyW0 N.length [.rd] .fz t [.list (ns.map .int)] (fun d => d = .bool true) (fun _ => False)) :
    ∃ fd : FuncData, (∀ (s : Shared) (v : Value), BindsTo s fd ⟨[v], []⟩ [("script", v)]) ∧ ∀ base : Heap, K.In base → base.Ns mainGlobals mg → (∀ p ∈ cs, TabB base mg p.1 p.2) → FnOk P w K mg base CX0 (k + 1) fa fd ["script"] (spLawB K T) := by
  obtain ⟨f, fd, F, hm⟩ := TF.ex
  rw [hfa] at hm
  cases hm
  refine ⟨fd, fun s v => ?_, fun base _ _ TB => law_fn (fnok0 F S rfl (hb base TB fa)) h⟩
  obtain ⟨oc, od, kV, doc, pm, an, cdv, ct, osl, rfl, lk, hcd⟩ := F.ex
  exact .of_eq (hbd kV doc pm an cdv ct [v] rfl)
end
theorem tabs_start {H : Hp} {cs : List (Addr × Addr)} (h : ∀ p ∈ cs, H p.2 = some (.tbl #[])) (hT : ∀ q ∈ T, ∃ p ∈ cs, p.2 = q.1) : Tabs T H := fun q hq => by
  obtain ⟨p, hp, e⟩ := hT q hq
  rw [← e]
  exact TabS.nil (h p hp)
theorem law_atS {l : PySem.W.OpenLaw} {w : World} {K : PySem.W.Frag} {mg : Str → Option Value} {fa : Addr} {h : Heap} {cs : List (Addr × Addr)} {k : Nat} (hT : ∀ p ∈ cs, h.get? p.2 = some { cls := .none, data := .fields #[] }) (nT : ∀ p ∈ cs, K.lookup p.2 = none) (hC : ∀ p ∈ cs, PySem.W.CodeHd h p.1 p.2)
    (hTc : ∀ q ∈ T, ∃ p ∈ cs, p.2 = q.1) (hF : ∃ fd : FuncData, (∀ (s : Shared) (v : Value), BindsTo s fd ⟨[v], []⟩ [("script", v)]) ∧ ∀ base : Heap, K.In base → base.Ns mainGlobals mg → (∀ p ∈ cs, TabB base mg p.1 p.2) → FnOk l.prog w K mg base CX0 k fa fd ["script"] (spLawB K T)) :
    LawAtS l w K CX0 k 63 "script" mg fa h := by
  obtain ⟨fd, hb, F⟩ := hF
  exact ⟨fd, cs, spLawB K T, hT, nT, hC, hb, fun H a ns hl hb2 hH hS => ⟨tabs_start hH hTc, a, ns, rfl, hS, hl, hb2, fun v H' e => e⟩, F⟩
theorem e_sortR {ix : Nat} {t : DT} {ρ : List Sl} {P : D → Prop} {Z : Zs} : dSortR ix t ρ P Z ↔ t ρ (fun d => ∃ (n : Nat) (ks : List Int), d = .int (n : Nat) ∧ n ≤ 100000 ∧ tupR ix ρ ks ∧ n ≤ ks.length ∧ P (.list ((orderI ks ((List.range n).map fun i => ((i : Nat) : Int))).map .int))) Z := Iff.rfl
theorem e_sortL {ix : Nat} {t : DT} {ρ : List Sl} {P : D → Prop} {Z : Zs} : dSortL ix t ρ P Z ↔ t ρ (fun d => ∃ (ns ks : List Int), d = .list (ns.map .int) ∧ ns.length ≤ 100000 ∧ tupR ix ρ ks ∧ (∀ n ∈ ns, 0 ≤ n ∧ n < ks.length) ∧ P (.list ((orderI ks ns).map .int))) Z := Iff.rfl
end DL
set_option maxRecDepth 100000
set_option maxHeartbeats 4000000
/-! DLY: enumerate of a list or a tuple. -/
namespace DL
open PySem PySem.Spec PyProof.Rows L2
variable {T : List (Addr × Str)}
set_option maxHeartbeats 1000000 in
theorem meets_enum1 {v : Value} {o : Obj} {H : Heap → Prop} (B : Begins v o H) :
    Meets (Builtin.«enumerate.__new__» ⟨[.type "enumerate", v], []⟩) (fun _ R s => H s.heap ∧
      R (.ok (.ret (.ref (s.heap.push o).objs.size))) { s with heap := (s.heap.push o).push { cls := .type "enumerate", data := .fields #[.none, .bool false, .ref s.heap.objs.size, rawInt 0, .none, .none] } }) :=
  .of_wp fun prog w A R s h => by
    obtain ⟨hp, g, d, tk, os⟩ := s; obtain ⟨h1, h⟩ := h
    have hsub := sub_enumerate
    have q1 : ∀ {A' : Around} {E : Value → Shared → Prop} {Q : Value → Shared → Prop}, Q (.ref hp.objs.size) ⟨hp.push o, g, d, tk, os⟩ → wpAny (model prog w) A' (pyIter v) Q E ⟨hp, g, d, tk, os⟩ :=
      fun q => B.iter prog w _ _ ⟨hp, g, d, tk, os⟩ _ h1 q
    wp_walk using q1
    refine wpAny_stack_any fun st => wpAny_pure ?_
    split
    · rename_i c _ _ _ _ _
      cases (c == Value.type "enumerate")
      · wp_walk using q1
        exact ⟨_, rfl, h⟩
      · wp_walk using q1
        exact ⟨_, rfl, h⟩
    · wp_walk using q1
      exact ⟨_, rfl, h⟩
theorem call_enum1 {prog : Program} {w : World} {A : Around} {E : Value → Shared → Prop} {s : Shared} {v : Value} {o : Obj} {H : Heap → Prop} {Q : Value → Shared → Prop} (B : Begins v o H) (h1 : H s.heap)
    (h : ∀ h', IsEnum h' (s.heap.objs.size + 1) s.heap.objs.size 0 .none → h'.get? s.heap.objs.size = some o → (∀ b o, s.heap.get? b = some o → h'.get? b = some o) → Q (.ref (s.heap.objs.size + 1)) { s with heap := h' }) :
    wpAny (model prog w) A (call (.type "enumerate") [v]) Q E s := by
  refine callType_new F.called_enumerate (by decide) (F.typeCall_enumerate_1 _) (F.newCall_enumerate_1 _) (fun obj => F.args_object_init_2 obj _) F.entry_enumerate_new (meets_enum1 B) ⟨h1, ?_⟩
  have hz : (s.heap.push o).objs.size = s.heap.objs.size + 1 := Heap.size_push ..
  show _ ∧ _
  rw [hz]
  have he : IsEnum ((s.heap.push o).push { cls := .type "enumerate", data := .fields #[.none, .bool false, .ref s.heap.objs.size, rawInt 0, .none, .none] }) (s.heap.objs.size + 1) s.heap.objs.size 0 .none := by
    have := Heap.get?_push_size (s.heap.push o) (o := { cls := .type "enumerate", data := .fields #[.none, .bool false, .ref s.heap.objs.size, rawInt 0, .none, .none] }) rfl
    rw [hz] at this
    exact this
  exact ⟨⟨_, he, rfl⟩, h _ he (Heap.get?_push_of_some _ (Heap.get?_push_size _ B.free)) fun b o x => Heap.get?_push_of_some _ (Heap.get?_push_of_some _ x)⟩
/-- the tuple at a, each item in a new pair -/
def IteT (K : PySem.W.Frag) (a : Addr) : It :=
  ⟨fun i H => ∃ (xs : List V) (x : V), SqT K H a xs ∧ xs[i]? = some x, fun i H v H' => ∃ T x, v = .ref T ∧ H T = none ∧ H' = upd H T (.tup [.int (i : Nat), x]) ∧ ∀ xs, SqT K H a xs → xs[i]? = some x, fun i H => ∃ xs : List V, SqT K H a xs ∧ xs.length = i⟩
theorem isTuple_of {h : Heap} {a : Addr} {its : Array Value} (x : IsTup h a its) : h.IsTuple a its := x
theorem turn_enumT {P : Program} {w : World} {K : PySem.W.Frag} {elts : List Expr} {kk : Nat} {tpos : Pos} (a e it : Addr) :
    Turn P w K (.Tuple elts kk tpos) (IteT K a) [e, it] e (fun i h => (∃ old, IsEnum h e it ((i : Nat) : Int) old) ∧ h.IsTupleIter it a i ∧ e ≠ it) where
  mem := by simp
  obj := fun i h st b hb => by
    obtain ⟨⟨old, he⟩, ⟨o, ho, hc, hd⟩, _⟩ := st
    have e' : b = e ∨ b = it := by simpa using hb
    rcases e' with z | z
    · rw [z]; exact ⟨_, he, fun v q => nomatch q⟩
    · rw [z]; exact ⟨o, ho, fun v q => by rw [hd] at q; cases q⟩
  keep := fun i h h' st k => let ⟨⟨old, he⟩, hi, hne⟩ := st; ⟨⟨old, k e (by simp) _ he⟩, hi.at fun o q => k it (by simp) o q, hne⟩
  item := by
    intro X hP hw hK hc i pins s σ H E I hf st hg
    subst hP hw hK
    obtain ⟨⟨old, he⟩, hit, hne⟩ := st
    obtain ⟨xs, x, hq, hx⟩ := hg
    obtain ⟨its, rv, p, hz⟩ := I.tuple hq
    obtain ⟨u, hu, ru⟩ := rv.get hx
    have hel : e < s.heap.objs.size := Heap.lt_size he
    have hil : it < s.heap.objs.size := by obtain ⟨_, q, _⟩ := hit; exact Heap.lt_size q
    have hta : a ≠ it := fun z => by
      obtain ⟨o1, q1, c1, _⟩ := hit
      obtain ⟨o2, q2, c2, _⟩ := p
      rw [z, q1] at q2
      cases q2
      rw [c1] at c2
      simp at c2
    have hae : e ≠ a := fun z => by
      obtain ⟨o2, q2, c2, _⟩ := p
      have he' : s.heap.get? e = some _ := he
      rw [z, q2] at he'
      cases he'
      have c2 : Value.type "enumerate" = Value.type "tuple" := c2
      simp at c2
    refine wpAny_pyNext_enum_itemD (A := X.A) (Draws.tuple (A := X.A.in1) (I.ok.hd hc) it a hta its.toArray) he ⟨hit, isTuple_of p⟩ (by rw [List.size_toArray]; exact (List.getElem?_eq_some_iff.mp hu).1) hne (by simp; exact ⟨hne, hae⟩) fun x' h' tk hx' ho hst' hT hsz hk => ?_
    have ex : x' = u := by
      have : its.toArray[i]? = some x' := hx'
      rw [List.getElem?_toArray, hu] at this
      exact (Option.some.inj this).symm
    subst ex
    refine ⟨_, rfl, wpAny_letOwnedTupleGo_enum (s := { s with heap := h', toks := tk + 1 }) ho fun h'' he' sb => ?_⟩
    have hT2 : h''.get? s.heap.objs.size = some { cls := .type "tuple", data := .seq #[.int i tk, x'] } := (sb.2 _ (Nat.ne_of_gt hel)).trans hT
    have new : ObjOk X.prog X.w (upd H s.heap.objs.size (.tup [.int (i : Nat), x])) h'' s.heap.objs.size (.tup [.int (i : Nat), x]) :=
      ⟨by show 2 ≤ sizeLine; decide, [.int i tk, x'], .cons ⟨_, rfl⟩ (.cons ru .nil), ⟨_, hT2, rfl, _, rfl⟩⟩
    have I1 : Inv X pins σ (upd H s.heap.objs.size (.tup [.int (i : Nat), x])) { s with heap := h'', toks := tk + 1 } :=
      I.turnedNew (ch := [e, it]) (fun b ob hb q => (sb.2 b (fun z => hb (by simp [z]))).trans (hk b ob (fun z => hb (by simp [z])) (fun z => hb (by simp [z])) q)) hf (Nat.le_refl _) new
    refine ⟨.ref s.heap.objs.size, _, I1, rfl, ⟨_, x, rfl, I.hok.fresh (Nat.le_refl _), rfl, fun ys hy => by rw [I.tuple_inj hy hq]; exact hx⟩, ⟨⟨x', ?_⟩, hst'.1.at fun o q => (sb.2 it (Ne.symm hne)).trans q, hne⟩, fun b hb => ?_⟩
    · have e1 : ((i + 1 : Nat) : Int) = (i : Int) + 1 := by omega
      rw [e1]; exact he'
    · have hb' : b < s.heap.objs.size := by
        have e' : b = e ∨ b = it := by simpa using hb
        rcases e' with z | z
        · rw [z]; exact hel
        · rw [z]; exact hil
      rw [upd_ne (Nat.ne_of_lt hb')]
      exact (hf b hb).1
  done := by
    intro X hP hw hK hc i pins s σ H E I hf st hg
    subst hP hw hK
    obtain ⟨⟨old, he⟩, hit, hne⟩ := st
    obtain ⟨xs, hq, hx⟩ := hg
    obtain ⟨its, rv, p, hz⟩ := I.tuple hq
    obtain ⟨f0, f1, f2, f3, f4, f5⟩ := hf it (by simp)
    have hl := rv.length
    have hta : a ≠ it := fun z => by
      obtain ⟨o1, q1, c1, _⟩ := hit
      obtain ⟨o2, q2, c2, _⟩ := p
      rw [z, q1] at q2
      cases q2
      rw [c1] at c2
      simp at c2
    have hn : its.toArray.size = i := by rw [List.size_toArray, ← hl, hx]
    refine wpAny_pyNext_enum_endD (A := X.A) (Draws.tuple (A := X.A.in1) (I.ok.hd hc) it a hta its.toArray) he ⟨by rw [hn]; exact hit, isTuple_of p⟩ fun h' eb => ⟨rfl, I.turned (t' := s.toks) (fun b o hb q => eb b o hb q) f0 f1 f3 f4 f5⟩
  self := fun A i s Q E st h => let ⟨⟨_, he⟩, _⟩ := st; wpAny_pyIter_enum he h
def iEnumA (K : PySem.W.Frag) (ta : TA) : TI := fun σ H R => ta σ H fun vs H1 => ∃ a xs, vs = [.ref a] ∧ ((SqL K H1 a xs ∧ R (Ite K a) H1) ∨ (SqT K H1 a xs ∧ R (IteT K a) H1))
theorem pi_enumA {X : Cx} {e : Expr} {ta : TA} {p pos tpos : Pos} {elts : List Expr} {kk : Nat} (hg : Gl X "enumerate") (hm : X.mg "enumerate" = none) (ha : PA X [e] ta) (hs : starEach [e] X.env = [(false, eval e X.env)] := by rfl) :
    PI X (.Tuple elts kk tpos) (.Call (.Name "enumerate" p) [e] [] pos) (iEnumA X.K ta) := by
  refine ⟨fun pins s σ H R I h => ?_⟩
  refine Call_ (ld_blt I hg hm boot_enumerate (PyProof.Rows.callWith_type1 (thn (ha.run pos pins s σ H _ I h) fun us s1 ⟨vs, H1, I1, r1, q1⟩ => ?_) hs rfl))
  obtain ⟨a, xs, ex, hq⟩ := q1
  subst ex
  cases r1 with
  | cons r rr =>
    cases rr
    cases r
    have fp : ∀ b ∈ [s1.heap.objs.size + 1, s1.heap.objs.size], s1.heap.objs.size ≤ b := fun b hb => by
      have e' : b = s1.heap.objs.size + 1 ∨ b = s1.heap.objs.size := by simpa using hb
      omega
    rcases hq with ⟨hq, q⟩ | ⟨hq, q⟩
    · obtain ⟨its, rv, p', hz⟩ := I1.list hq
      refine call_enumerate_list p'.isList fun h' he hit hsz hk => wpAny_pyIter_enum he ?_
      have I2 : Inv X pins σ H1 { s1 with heap := h' } := I1.kept (t' := s1.toks) hk
      exact ⟨s1.heap.objs.size + 1, [s1.heap.objs.size + 1, s1.heap.objs.size], _, _, H1, rfl, I2, turn_enum a (s1.heap.objs.size + 1) s1.heap.objs.size, ⟨⟨.none, he⟩, hit, Nat.succ_ne_self _⟩, fun b hb => I1.fpOk (fp b hb) (I1.hok.fresh (fp b hb)), q⟩
    · obtain ⟨its, rv, p', hz⟩ := I1.tuple hq
      refine call_enum1 (begins_tuple a its.toArray) (isTuple_of p') fun h' he hit hk => wpAny_pyIter_enum he ?_
      have I2 : Inv X pins σ H1 { s1 with heap := h' } := I1.kept (t' := s1.toks) hk
      exact ⟨s1.heap.objs.size + 1, [s1.heap.objs.size + 1, s1.heap.objs.size], _, _, H1, rfl, I2, turn_enumT a (s1.heap.objs.size + 1) s1.heap.objs.size, ⟨⟨.none, he⟩, ⟨_, hit, rfl, rfl⟩, Nat.succ_ne_self _⟩, fun b hb => I1.fpOk (fp b hb) (I1.hok.fresh (fp b hb)), q⟩
theorem iteT_ok {c : Bool} {K : PySem.W.Frag} {b : B} {F0 H0 : Hp} {a : Addr} {ds : List D} (get : ∀ F H, Same F0 F → Grow b.T b.F b.H F H → (c = true → Ext b.T H0 H) → ∃ xs, SqT K H a xs ∧ DqA F xs ds) : ItOk c b F0 H0 (IteT K a) (enumD ds) := by
  have hl : (enumD ds).length = ds.length := by unfold enumD; rw [List.length_mapIdx]
  refine ⟨fun i F H hi s g hc => ?_, fun F H s g hc => ?_, fun i F H x H' d hd s g hc y => ?_⟩
  · obtain ⟨xs, q, dq⟩ := get F H s g hc
    have hx : i < xs.length := by rw [dq.length, ← hl]; exact hi
    exact ⟨xs, xs[i], q, List.getElem?_eq_getElem hx⟩
  · obtain ⟨xs, q, dq⟩ := get F H s g hc
    exact ⟨xs, q, by rw [dq.length, hl]⟩
  · obtain ⟨xs, q, dq⟩ := get F H s g hc
    obtain ⟨T, w, rfl, nT, rfl, y⟩ := y
    obtain ⟨d', h1, h2⟩ := dq.get' (y xs q)
    unfold enumD at hd
    rw [List.getElem?_mapIdx, h1] at hd
    cases hd
    have g2 := Grow.new g (HO.tup [.int (i : Nat), w]) nT
    exact ⟨_, g2, .tup upd_same (.cons (.int _) (.cons (h2.mono g2.f) .nil))⟩
def dEnumA (ta : DTa) : DTi := fun ρ P Z => ta ρ (fun ds => ∃ xs, (ds = [.list xs] ∨ ds = [.tuple xs]) ∧ P (enumD xs)) Z
theorem di_enumA {X : Cx} {W : WT} {c : Bool} {m : Md} {elts : List Expr} {kk : Nat} {tpos p pos : Pos} {e : Expr} {ta : DTa} (hm : X.mg "enumerate" = none) (ha : DA X W [m] [e] ta) (hw : Wkb c m := by first | exact .inl rfl | exact .inr ⟨rfl, rfl⟩) (hg : Gl X "enumerate" := by rfl) (hs : starEach [e] X.env = [(false, eval e X.env)] := by rfl) : DI X W c (.Tuple elts kk tpos) (.Call (.Name "enumerate" p) [e] [] pos) (dEnumA ta) := by
  obtain ⟨te, p, s⟩ := ha.ok
  refine ⟨_, pi_enumA hg hm p hs, fun b F H σ ρ R P Z R1 z q k => s b F H σ ρ _ _ Z R1 z q fun ds vs F' H' p g r => ?_⟩
  obtain ⟨xs, rfl | rfl, p⟩ := p
  · cases r with
    | cons r rr =>
      cases rr
      have g0 := R1.g.trans g
      have w := wk_vr hw r
      obtain ⟨a, ys, e, q, dq⟩ := vr_lst g0.s (w F' H' (Same.refl _) g0 fun _ => Ext.refl _)
      exact ⟨a, ys, by rw [e], .inl ⟨q, k _ _ F' H' p g (ite_ok (getL w e))⟩⟩
  · cases r with
    | cons r rr =>
      cases rr
      have g0 := R1.g.trans g
      have w := wk_vr hw r
      obtain ⟨a, ys, e, q, dq⟩ := vr_tup g0.s (w F' H' (Same.refl _) g0 fun _ => Ext.refl _)
      exact ⟨a, ys, by rw [e], .inr ⟨q, k _ _ F' H' p g (iteT_ok (getT w e))⟩⟩
theorem e_enumA {ta : DTa} {ρ : List Sl} {Pi : List D → Prop} {Z : Zs} : dEnumA ta ρ Pi Z ↔ ta ρ (fun ds => ∃ xs, (ds = [.list xs] ∨ ds = [.tuple xs]) ∧ Pi (enumD xs)) Z := Iff.rfl
end DL
set_option maxRecDepth 100000
set_option maxHeartbeats 4000000
/-! DLZ: list(range(..)). -/
namespace DL
open PySem PySem.Spec PyProof.Rows L2
def rngL (a b : Int) : List Int := (List.range (b - a).toNat).map fun i => a + (i : Nat)
theorem rgV_L (a b : Int) : rgV a b = (rngL a b).map V.int := by
  unfold rgV rngL
  rw [List.map_map]
  rfl
section
variable {X : Cx} {W : WT} {ma mb : Md} {a b' : Expr} {ta tb : DT} {p p2 p3 pos : Pos}
def dLRg1 (ta : DT) : DT := fun ρ P Z => ta ρ (fun d => ∃ n : Int, d = .int n ∧ -100000 ≤ n ∧ n ≤ 100000 ∧ P (.list ((rngL 0 n).map .int))) Z
def dLRg2 (ta tb : DT) : DT := fun ρ P Z => ta ρ (fun x => tb ρ (fun y => ∃ i j : Int, x = .int i ∧ y = .int j ∧ -100000 ≤ i ∧ i ≤ 100000 ∧ -100000 ≤ j ∧ j ≤ 100000 ∧ P (.list ((rngL i j).map .int))) Z) Z
theorem de_listRg1 (ha : DE X W ma a ta) (hl : X.mg "list" = none) (hm : X.mg "range" = none) (hc : X.calm = true := by rfl) (hg : Gl X "list" := by rfl) (hgr : Gl X "range" := by rfl) (na : starEach [a] X.env = (false, eval a X.env) :: starEach [] X.env := by rfl)
    (na2 : starEach [.Call (.Name "range" p2) [a] [] p3] X.env = (false, eval (.Call (.Name "range" p2) [a] [] p3) X.env) :: starEach [] X.env := by rfl) (hsh : ma.sh = true := by rfl) : DE X W .nw (.Call (.Name "list" p) [.Call (.Name "range" p2) [a] [] p3] [] pos) (dLRg1 ta) := by
  obtain ⟨te, p1, s1⟩ := ha.ok
  refine ⟨_, pe_listRg hc hg hl (prg_1 hgr hm p1 na) na2, fun b F H σ ρ Q P Z R z q k => s1 b F H σ ρ _ _ Z R z q fun d v F1 H1 q1 g r _ => ?_⟩
  obtain ⟨n, rfl, h1, h2, pP⟩ := q1
  refine ⟨n, vr_int (r.rd hsh (R.g.trans g)), ⟨by omega, by omega, by omega, by omega, by omega⟩, fun l nl => ?_⟩
  have g2 := Grow.own (R.grow g).g (HO.lst (rgV 0 n)) nl
  exact k _ _ _ _ pP (g.trans g2) (.inl ⟨l, rfl, (R.grow g).g.s.free nl, own_mkL upd_same (by rw [rgV_L]; exact dqA_intsF _)⟩) fun q e => by cases e; exact g.h.free nl
theorem de_listRg2 (ha : DE X W ma a ta) (hb : DE X W mb b' tb) (hl : X.mg "list" = none) (hm : X.mg "range" = none) (hc : X.calm = true := by rfl) (hg : Gl X "list" := by rfl) (hgr : Gl X "range" := by rfl) (na : starEach [a, b'] X.env = (false, eval a X.env) :: starEach [b'] X.env := by rfl)
    (nb : starEach [b'] X.env = (false, eval b' X.env) :: starEach [] X.env := by rfl) (hp : (backTo p3 (starEach [b'] X.env)).any (·.1) = false := by rfl)
    (na2 : starEach [.Call (.Name "range" p2) [a, b'] [] p3] X.env = (false, eval (.Call (.Name "range" p2) [a, b'] [] p3) X.env) :: starEach [] X.env := by rfl) (hsh : ma.sh = true := by rfl) (hsh2 : mb.sh = true := by rfl) : DE X W .nw (.Call (.Name "list" p) [.Call (.Name "range" p2) [a, b'] [] p3] [] pos) (dLRg2 ta tb) := by
  obtain ⟨te, p1, s1⟩ := ha.ok
  obtain ⟨te2, pp2, s2⟩ := hb.ok
  refine ⟨_, pe_listRg hc hg hl (prg_2 hgr hm p1 pp2 na nb hp) na2, fun b F H σ ρ Q P Z R z q k => s1 b F H σ ρ _ _ Z R z q fun d v F1 H1 q1 g r _ => s2 b F1 H1 σ ρ _ _ Z (R.grow g) (z.mono g.f) q1 fun d2 v2 F2 H2 q2 g2 r2 _ => ?_⟩
  obtain ⟨i, j, rfl, rfl, h1, h2, h3, h4, pP⟩ := q2
  have R2 := (R.grow g).grow g2
  refine ⟨i, j, vr_int (r.rd hsh (R.g.trans g)), vr_int (r2.rd hsh2 R2.g), ⟨by omega, by omega, by omega, by omega, by omega⟩, fun l nl => ?_⟩
  have g3 := Grow.own R2.g (HO.lst (rgV i j)) nl
  exact k _ _ _ _ pP (g.trans (g2.trans g3)) (.inl ⟨l, rfl, R2.g.s.free nl, own_mkL upd_same (by rw [rgV_L]; exact dqA_intsF _)⟩) fun q e => by cases e; exact (g.trans g2).h.free nl
end
theorem e_LRg1 {ta : DT} {ρ : List Sl} {P : D → Prop} {Z : Zs} : dLRg1 ta ρ P Z ↔ ta ρ (fun d => ∃ n : Int, d = .int n ∧ -100000 ≤ n ∧ n ≤ 100000 ∧ P (.list ((rngL 0 n).map .int))) Z := Iff.rfl
theorem e_LRg2 {ta tb : DT} {ρ : List Sl} {P : D → Prop} {Z : Zs} : dLRg2 ta tb ρ P Z ↔ ta ρ (fun x => tb ρ (fun y => ∃ i j : Int, x = .int i ∧ y = .int j ∧ -100000 ≤ i ∧ i ≤ 100000 ∧ -100000 ≤ j ∧ j ≤ 100000 ∧ P (.list ((rngL i j).map .int))) Z) Z := Iff.rfl
/-- a def, nothing asked of it -/
theorem df_none {P : Program} {w : World} {K : PySem.W.Frag} {mg : Str → Option Value} {base : Heap} {T : List (Addr × Str)} {x : Str} {st : Stmt} {ps : List Str} {k : Nat} {ms : List Md} {rm : Md} {CX : CXT} (TF : FnF K mg x st) (hbd : Bnd x st ps) : Df P w K mg base T CX k x ms rm (fun _ _ _ => False) := by
  obtain ⟨f, fd, F, hm⟩ := TF.ex
  refine ⟨f, fd, ps, ⟨fun vs H Q E h => ?_, fun A outer s H args us vs Q E _ _ _ _ h => ?_⟩, hm, F.kp, F.binds hbd⟩
  · obtain ⟨_, _, _, _, _, _, _, hw, _⟩ := h
    exact hw.elim
  · obtain ⟨_, _, _, _, _, _, _, hw, _⟩ := h
    exact hw.elim
end DL
set_option maxRecDepth 100000
set_option maxHeartbeats 4000000
/-! DM0: trees: a child told by an index, written in place; defs that change a tree of the caller. -/
namespace DL
open PySem PySem.Spec PyProof.Rows L2
variable {T : List (Addr × Str)}
def kidsD : D → List D
  | .list ds => ds
  | .tuple ds => ds
  | .dict ps => ps.map (·.2)
  | _ => []
def setCh : D → Nat → D → D
  | .list ds, j, c => .list (ds.set j c)
  | .tuple ds, j, c => .tuple (ds.set j c)
  | .dict ps, j, c => .dict (ps.mapIdx fun i p => if i = j then (p.1, c) else p)
  | d, _, _ => d
def rootIs (H : Hp) (p : Addr) (d : D) (xs : List V) : Prop := match d with
  | .list _ => H p = some (.lst xs)
  | .tuple _ => H p = some (.tup xs)
  | .dict ps => ∃ (kvs : List (List Key × V)) (kds : List (List Key × D)), ps = (kds.map fun p => (keyT p.1, p.2)) ∧ H p = some (.dT kvs) ∧ kvs.map (·.1) = kds.map (·.1) ∧ xs = kvs.map (·.2)
  | _ => False
theorem kids_dict (kds : List (List Key × D)) : (kds.map fun p => (keyT p.1, p.2)).map (·.2) = kds.map (·.2) := by
  rw [List.map_map]
  rfl
theorem trR_iff {F H : Hp} {p : Addr} {d : D} {A : List Addr} : TrR F H p d A ↔ ∃ xs, rootIs H p d xs ∧ Kids F H xs (kidsD d) A := by
  cases d with
  | list ds => exact Iff.rfl
  | tuple ds => exact Iff.rfl
  | dict ps =>
    constructor
    · rintro ⟨kvs, kds, rfl, e, e2, k⟩
      refine ⟨_, ⟨kvs, kds, rfl, e, e2, rfl⟩, ?_⟩
      show Kids F H _ ((kds.map fun p => (keyT p.1, p.2)).map (·.2)) A
      rw [kids_dict]
      exact k
    · rintro ⟨xs, ⟨kvs, kds, rfl, e, e2, rfl⟩, k⟩
      refine ⟨kvs, kds, rfl, e, e2, ?_⟩
      have k : Kids F H _ ((kds.map fun p => (keyT p.1, p.2)).map (·.2)) A := k
      rw [kids_dict] at k
      exact k
  | _ => exact ⟨fun h => h.elim, fun ⟨_, h, _⟩ => h.elim⟩
/-- q is the root of v's child j -/
def IsCh (F H : Hp) (v : V) (d : D) (j : Nat) (q : Addr) (c : D) : Prop := ∃ p A' xs, v = .ref p ∧ F p = none ∧ p ∉ A' ∧ rootIs H p d xs ∧ Kids F H xs (kidsD d) A' ∧ xs[j]? = some (.ref q) ∧ (kidsD d)[j]? = some c ∧ atmB c = false
theorem Kids.child {F H : Hp} : ∀ {vs : List V} {ds : List D} {A : List Addr} {j : Nat} {c : D}, Kids F H vs ds A → ds[j]? = some c → atmB c = false → ∃ q, vs[j]? = some (.ref q) ∧ q ∈ A ∧ Own F H q c
  | _, _, _, _, _, .nil, h, _ => by simp at h
  | _, _, _, 0, c, .own n o k m, h, _ => by
    simp only [List.getElem?_cons_zero, Option.some.injEq] at h
    subst h
    exact ⟨_, rfl, by simp, o⟩
  | _, _, _, 0, c, .atm a k, h, hc => by
    simp only [List.getElem?_cons_zero, Option.some.injEq] at h
    subst h
    unfold Atm at a
    cases a <;> first | (simp [atmB] at hc; done) | (rename_i z _; cases z) | (rename_i z _ _; cases z)
  | _, _, _, j + 1, c, .own n o k m, h, hc => by
    obtain ⟨q, h1, h2, h3⟩ := k.child (j := j) (by simpa using h) hc
    exact ⟨q, by simpa using h1, by simp [h2], h3⟩
  | _, _, _, j + 1, c, .atm a k, h, hc => by
    obtain ⟨q, h1, h2, h3⟩ := k.child (j := j) (by simpa using h) hc
    exact ⟨q, by simpa using h1, h2, h3⟩
theorem Kids.put {F H : Hp} {q : Addr} {o : HO} {c' : D} (ow : Own F (upd H q o) q c') : ∀ {vs : List V} {ds : List D} {A : List Addr} {j : Nat} {c : D}, Kids F H vs ds A → vs[j]? = some (.ref q) → ds[j]? = some c → atmB c = false → Kids F (upd H q o) vs (ds.set j c') A
  | _, _, _, _, _, .nil, h, _, _ => by simp at h
  | _, _, _, 0, c, .own n _ k m, h, _, _ => by
    simp only [List.getElem?_cons_zero, Option.some.injEq] at h
    cases h
    rw [List.set_cons_zero]
    exact .own n ow (k.mono (Same.refl _) fun a ha => ⟨(k.nn a ha).1, upd_ne (by rintro rfl; exact m ha)⟩) m
  | _, _, _, 0, c, .atm a k, h, _, _ => by
    simp only [List.getElem?_cons_zero, Option.some.injEq] at h
    subst h
    exact (atm_ref a).elim
  | _, _, _, j + 1, c, .own n o2 k m, h, hd, hc => by
    rw [List.set_cons_succ]
    have h' := List.getElem?_cons_succ.symm.trans h
    have hd' := List.getElem?_cons_succ.symm.trans hd
    obtain ⟨q2, e, hq, _⟩ := k.child hd' hc
    rw [h'] at e
    cases e
    exact .own n (o2.mono (Same.refl _) (upd_ne (by rintro rfl; exact m hq))) (k.put ow h' hd' hc) m
  | _, _, _, j + 1, c, .atm a k, h, hd, hc => by
    rw [List.set_cons_succ]
    exact .atm a (k.put ow (List.getElem?_cons_succ.symm.trans h) (List.getElem?_cons_succ.symm.trans hd) hc)
theorem rootIs.grow {F H F' H' : Hp} (g : Grow T F H F' H') {p : Addr} {d : D} {xs : List V} (h : rootIs H p d xs) : rootIs H' p d xs := by
  cases d with
  | list ds => exact g.h.ap h
  | tuple ds => exact g.h.ap h
  | dict ps =>
    obtain ⟨kvs, kds, e1, e2, r⟩ := h
    exact ⟨kvs, kds, e1, g.h.ap e2, r⟩
  | _ => exact h.elim
theorem rootIs.som {H : Hp} {p : Addr} {d : D} {xs : List V} (h : rootIs H p d xs) : ∃ u, H p = some u ∧ IsD u := by
  cases d with
  | list ds => exact ⟨_, h, trivial⟩
  | tuple ds => exact ⟨_, h, trivial⟩
  | dict ps =>
    obtain ⟨kvs, kds, e1, e2, r⟩ := h
    exact ⟨_, e2, trivial⟩
  | _ => exact h.elim
theorem Kids.grow {F H F' H' : Hp} (g : Grow T F H F' H') {vs : List V} {ds : List D} {A : List Addr} (k : Kids F H vs ds A) : Kids F' H' vs ds A := k.mono g.f fun a ha => by
  obtain ⟨n, u, e, i⟩ := k.nn a ha
  exact ⟨(g.k a u e (isD_n i)).trans n, (g.h.ap e (isD_n i)).trans e.symm⟩
theorem IsCh.grow {F H F' H' : Hp} (g : Grow T F H F' H') {v : V} {d c : D} {j : Nat} {q : Addr} (h : IsCh F H v d j q c) : IsCh F' H' v d j q c := by
  obtain ⟨p, A', xs, e, n, m, r, k, h⟩ := h
  obtain ⟨u, eu, iu⟩ := r.som
  exact ⟨p, A', xs, e, (g.k p u eu (isD_n iu)).trans n, m, r.grow g, k.grow g, h⟩
theorem rootIs.put {H : Hp} {p q : Addr} {o : HO} (n : p ≠ q) {d c' : D} {j : Nat} {xs : List V} (h : rootIs H p d xs) : rootIs (upd H q o) p (setCh d j c') xs := by
  cases d with
  | list ds => exact (upd_ne n).trans h
  | tuple ds => exact (upd_ne n).trans h
  | dict ps =>
    obtain ⟨kvs, kds, rfl, e2, e3, r⟩ := h
    refine ⟨kvs, kds.mapIdx fun i p => if i = j then (p.1, c') else p, ?_, (upd_ne n).trans e2, ?_, r⟩
    · refine List.ext_getElem? fun i => ?_
      rw [List.getElem?_mapIdx, List.getElem?_map, List.getElem?_map, List.getElem?_mapIdx]
      cases kds[i]? with
      | none => rfl
      | some p =>
        show some (if i = j then (keyT p.1, c') else (keyT p.1, p.2)) = some (keyT (if i = j then (p.1, c') else p).1, (if i = j then (p.1, c') else p).2)
        split <;> rfl
    · rw [e3]
      refine List.ext_getElem? fun i => ?_
      rw [List.getElem?_map, List.getElem?_map, List.getElem?_mapIdx]
      cases kds[i]? with
      | none => rfl
      | some p =>
        show some p.1 = some (if i = j then (p.1, c') else p).1
        split <;> rfl
  | _ => exact h.elim
theorem kids_set {d c' : D} {j : Nat} : kidsD (setCh d j c') = (kidsD d).set j c' := by
  cases d with
  | dict ps =>
    refine List.ext_getElem? fun i => ?_
    show ((ps.mapIdx fun i p => if i = j then (p.1, c') else p).map (·.2))[i]? = ((ps.map (·.2)).set j c')[i]?
    rw [List.getElem?_map, List.getElem?_mapIdx, List.getElem?_set]
    rw [List.getElem?_map, List.length_map]
    by_cases h : j = i
    · subst h
      rw [if_pos rfl]
      cases e : ps[j]? with
      | none =>
        rw [if_neg (by
          rw [List.getElem?_eq_none_iff] at e
          omega)]
        rfl
      | some p =>
        rw [if_pos (List.getElem?_eq_some_iff.mp e).1]
        simp
    · rw [if_neg h]
      cases e : ps[i]? with
      | none => rfl
      | some p => simp [Ne.symm h]
  | list ds => rfl
  | tuple ds => rfl
  | _ => rfl
/-- a child is written -/
theorem IsCh.put {F H : Hp} {v : V} {d c c' : D} {j : Nat} {q : Addr} {o : HO} (h : IsCh F H v d j q c) (ow : Own F (upd H q o) q c') : ∃ A, Tr F H v d A ∧ q ∈ A ∧ Tr F (upd H q o) v (setCh d j c') A := by
  obtain ⟨p, A', xs, rfl, n, m, r, k, h1, h2, h3⟩ := h
  obtain ⟨q2, e, hq, _⟩ := k.child h2 h3
  rw [h1] at e
  cases e
  have pq : p ≠ q := by
    rintro rfl
    exact m hq
  refine ⟨p :: A', ⟨p, A', rfl, n, rfl, m, trR_iff.mpr ⟨xs, r, k⟩⟩, by simp [hq], p, A', rfl, n, rfl, m, trR_iff.mpr ⟨xs, r.put pq, ?_⟩⟩
  rw [kids_set]
  exact k.put ow h1 h2 h3
theorem IsCh.own {F H : Hp} {v : V} {d c : D} {j : Nat} {q : Addr} (h : IsCh F H v d j q c) : F q = none ∧ Own F H q c := by
  obtain ⟨p, A', xs, rfl, n, m, r, k, h1, h2, h3⟩ := h
  obtain ⟨q2, e, hq, o⟩ := k.child h2 h3
  rw [h1] at e
  cases e
  exact ⟨(k.nn q hq).1, o⟩
theorem Rep.putC {K : PySem.W.Frag} {b : B} {F H F' H' : Hp} {σ : L2.St} {ρ : List Sl} (R : Rep K b F H σ ρ) (g : Grow b.T F H F' H') {i j : Nat} {q : Addr} {v : V} {d c c' : D} {o : HO} (h : ρ[i]? = some (.tr v d)) (hc : IsCh F' H' v d j q c) (ow : Own F' (upd H' q o) q c') :
    Rep K b F' (upd H' q o) σ (ρ.set i (.tr v (setCh d j c'))) := by
  refine R.chg (hk := fun k z => ow.notup k (by rw [upd_same, z])) g h fun A s1 s2 => ?_
  obtain ⟨A2, t1, hq, t2⟩ := hc.put ow
  have e : A = A2 := s2.2.1.uniq (fun _ _ e _ => e) t1
  subst e
  exact ⟨hq, A, ⟨s2.1, t2, s2.2.2⟩, fun a ha => .inl ha⟩
/-! ### expressions -/
section
variable {X : Cx} {W : WT} {pos : Pos}
def Sl.tre : Sl → Option D
  | .fz d => some d
  | .ln d => some d
  | .ow d => some d
  | .tr _ d => some d
  | .lt d => some d
  | _ => none
def dVt (i : Nat) : DT := fun ρ P _ => ∃ d, ρ[i]?.bind Sl.tre = some d ∧ isLT d = true ∧ P d
theorem Rep.tree {K : PySem.W.Frag} {b : B} {F H : Hp} {σ : L2.St} {ρ : List Sl} (R : Rep K b F H σ ρ) {i : Nat} {d : D} (e : ρ[i]?.bind Sl.tre = some d) (hd : isLT d = true) : ∃ v, σ[i]? = some (some v) ∧ VR .rt K b F H v d := by
  obtain ⟨s, es, e⟩ := Option.bind_eq_some_iff.mp e
  have q := R.sl i _ es
  cases s with
  | «at» _ => cases e
  | un => cases e
  | fz d' =>
    cases e
    obtain ⟨v, e1, r⟩ := q
    exact ⟨v, e1, .inl (.inl r)⟩
  | ln d' =>
    cases e
    obtain ⟨v, e1, r⟩ := q
    exact ⟨v, e1, .inl (VR.rd (m := .st) rfl R.g r)⟩
  | ow d' =>
    cases e
    obtain ⟨v, e1, q⟩ := q
    refine ⟨v, e1, .inl ?_⟩
    rcases q with ⟨a, e2, n, n2, o⟩ | q
    · exact .inr ⟨a, e2, o.rdb⟩
    · exact .inl q.dq
  | tr v d' =>
    cases e
    obtain ⟨e1, A, t, _⟩ := q
    exact ⟨v, e1, t.rd hd⟩
  | lt d' =>
    cases e
    obtain ⟨v, e1, r⟩ := q
    exact ⟨v, e1, RTr.same R.g.f R.g.h r⟩
theorem de_vt (i : Nat) {x : Str} {pos : Pos} (hN : X.N[i]? = some x := by rfl) (hv : Vis X.env.scope x := by first | exact Or.inl rfl | exact Or.inr (Or.inl rfl) | exact Or.inr (Or.inr rfl)) (hd : (x == ("__debug__" : Str)) = false := by decide)
    (hcd : (x == ("__classdict__" : Str)) = false := by decide) : DE X W .rt (.Name x pos) (dVt i) := by
  refine ⟨_, pe_var hN hv hd hcd, fun b F H σ ρ Q P Z R z q k => ?_⟩
  obtain ⟨d, e, hd, p⟩ := q
  obtain ⟨v, e1, r⟩ := R.tree e hd
  exact ⟨v, e1, goes_now k R.g p r trivial⟩
/-- a child of an own tree, to be written -/
abbrev DTc := List Sl → (V → D → Nat → D → Prop) → Zs → Prop
structure DCh (X : Cx) (W : WT) (i : Nat) (e : Expr) (t : DTc) : Prop where
  ok : ∃ te : TE, PE X e te ∧ ∀ (b : B) (F H : Hp) (σ : L2.St) (ρ : List Sl) (Q : VK) (P : V → D → Nat → D → Prop) (Z : Zs), Rep X.K b F H σ ρ → ZOk X.mg X.K b F Z W → t ρ P Z →
    (∀ v d j c q F' H', P v d j c → Grow b.T F H F' H' → ρ[i]? = some (.tr v d) → IsCh F' H' v d j q c → Q (.ref q) H') → te σ H Q
theorem atI_ixN {α : Type} {xs : List α} {n : Int} {j : Nat} {x : α} (h : ixN xs.length n = some j) (h2 : xs[j]? = some x) : atI xs n = some x := by
  unfold atI
  rw [h]
  exact h2
def dCh (i : Nat) (tk : DT) : DTc := fun ρ P Z => ∃ v d, ρ[i]? = some (.tr v d) ∧ tk ρ (fun kd => ∃ ds n j c, (d = .list ds ∨ d = .tuple ds) ∧ kd = .int n ∧ ixN ds.length n = some j ∧ ds[j]? = some c ∧ atmB c = false ∧ P v d j c) Z
theorem dc_ix (i : Nat) {m : Md} {x : Str} {p0 : Pos} {k : Expr} {tk : DT} (hx : PE X (.Name x p0) (tVar i)) (hk : DE X W m k tk) (hs : PlainIx k) (hm : m.sh = true := by rfl) : DCh X W i (.Subscript (.Name x p0) k pos) (dCh i tk) := by
  obtain ⟨te, p, s⟩ := hk.ok
  refine ⟨_, pe_ix ix_two hx p hs, fun b F H σ ρ Q P Z R z q kk => ?_⟩
  obtain ⟨v, d, e, q⟩ := q
  refine ⟨v, (R.sl i _ e).1, s b F H σ ρ _ _ Z R z q fun kd kv F1 H1 p1 g r _ => ?_⟩
  obtain ⟨ds, n, j, c, hd, rfl, hj, hc, ha, p1⟩ := p1
  have R1 := R.grow g
  have ek := vr_int (r.rd hm (R.g.trans g))
  obtain ⟨_, A, ⟨p, A', rfl, n1, rfl, m1, t⟩, _⟩ := R1.sl i _ e
  obtain ⟨xs, rt, kd⟩ := trR_iff.mp t
  have kdd : (kidsD d)[j]? = some c := by rcases hd with rfl | rfl <;> exact hc
  obtain ⟨q, h1, h2, h3⟩ := kd.child kdd ha
  have ic : IsCh F1 H1 (.ref p) d j q c := ⟨p, A', xs, rfl, n1, m1, rt, kd, h1, kdd, ha⟩
  have hl : ixN xs.length n = some j := by
    rw [kd.len]
    rcases hd with rfl | rfl <;> exact hj
  have hq := kk _ d j c q F1 H1 p1 g e ic
  rcases hd with rfl | rfl
  · exact .inl ⟨p, xs, n, _, rfl, ek, .of rt, atI_ixN hl h1, hq⟩
  · exact .inr ⟨p, xs, n, _, rfl, ek, .of rt, atI_ixN hl h1, hq⟩
variable {rm : Md}
/-- x[i][k] = e: the child is a list -/
def dPut2 (i : Nat) (tc : DTc) (tk t : DT) : DS := fun d Z ρ => t ρ (fun y => tc ρ (fun v x j c => tk ρ (fun k => ∃ ds n m, c = .list ds ∧ k = .int n ∧ ixN ds.length n = some m ∧ d.nx (ρ.set i (.tr v (setCh x j (.list (ds.set m y)))))) Z) Z) Z
theorem ds_put2 (i : Nat) {o k e : Expr} {tpos : Pos} {tc : DTc} {tk t : DT} (ho : DCh X W i o tc) (hk : DE X W .fz k tk) (h : DE X W .fz e t)
    (ha : ∀ v, assign (.Subscript o k tpos) X.env v = (do
      let ov ← holding [v] (eval o X.env)
      let iv ← holding [v, ov] (eval k X.env)
      standAt tpos
      holding [v, ov, iv] (setItem ov iv v)
      release [v, ov, iv] []) := by intro _; rfl)
    (hs : swapsWithSole [.Subscript o k tpos] e pos.line X.env = pure false := by rfl) (hw : swappedStores [.Subscript o k tpos] e X.env = pure none := by rfl)
    (h1 : (assignEach [.Subscript o k tpos] X.env).map (·.2) = [assign (.Subscript o k tpos) X.env] := by rfl) : DS1 X W rm (.Assign [.Subscript o k tpos] e pos) (dPut2 i tc tk t) := by
  obtain ⟨te, p, s⟩ := h.ok
  obtain ⟨tek, pk, sk⟩ := hk.ok
  obtain ⟨teo, po, so⟩ := ho.ok
  refine ⟨_, ps_asg p (pg_sub po pk set_list ha) hs hw h1, fun b F H σ ρ D d Z R z q c => ?_⟩
  refine s b F H σ ρ _ _ Z R z q fun y v F1 H1 p1 g r f => so b F1 H1 σ ρ _ _ Z (R.grow g) (z.mono g.f) p1 fun v0 x j cd q F2 H2 p2 g2 e ic => sk b F2 H2 σ ρ _ _ Z ((R.grow g).grow g2) (z.mono (g.f.trans g2.f)) p2 fun kd kv F3 H3 p3 g3 r3 _ => ?_
  obtain ⟨ds, n, m, rfl, rfl, hm, p3⟩ := p3
  cases r3
  have ic3 := ic.grow g3
  obtain ⟨nq, xs, hH, dq⟩ := ic3.own
  have hl : xs.length = ds.length := dq.length
  refine ⟨q, xs, n, m, rfl, rfl, hH, by rw [hl]; exact hm, ?_⟩
  have gg := g.trans (g2.trans g3)
  exact c.nx _ F3 _ σ gg.f (R.putC gg e ic3 (own_mkL upd_same (dq.set m ((r.mono g2.f).mono g3.f)))) p3
/-- .. a dict by ints and texts -/
def dPut2K (i : Nat) (tc : DTc) (tk t : DT) : DS := fun d Z ρ => t ρ (fun y => tc ρ (fun v x j c => tk ρ (fun k => ∃ kds ks, c = dctK kds ∧ k = keyD ks ∧ kds.length ≤ 100000 ∧ d.nx (ρ.set i (.tr v (setCh x j (dctK (putD kds ks y)))))) Z) Z) Z
theorem ds_put2K (i : Nat) {o k e : Expr} {tpos : Pos} {tc : DTc} {tk t : DT} (hu : X.A.units + 1 < cLine) (ho : DCh X W i o tc) (hk : DE X W .fz k tk) (h : DE X W .fz e t)
    (hs : swapsWith e (some (.Subscript o k tpos)) pos.line X.env = pure false := by rfl) : DS1 X W rm (.Assign [.Subscript o k tpos] e pos) (dPut2K i tc tk t) := by
  obtain ⟨te, p, s⟩ := h.ok
  obtain ⟨tek, pk, sk⟩ := hk.ok
  obtain ⟨teo, po, so⟩ := ho.ok
  refine ⟨_, ps_dput hu po pk p hs, fun b F H σ ρ D d Z R z q c => ?_⟩
  refine s b F H σ ρ _ _ Z R z q fun y v F1 H1 p1 g r f => so b F1 H1 σ ρ _ _ Z (R.grow g) (z.mono g.f) p1 fun v0 x j cd q F2 H2 p2 g2 e ic => sk b F2 H2 σ ρ _ _ Z ((R.grow g).grow g2) (z.mono (g.f.trans g2.f)) p2 fun kd kv F3 H3 p3 g3 r3 _ => ?_
  obtain ⟨kds, ks, rfl, rfl, hl, p3⟩ := p3
  have ec := key1_dq r3
  subst ec
  have ic3 := ic.grow g3
  obtain ⟨nq, ow⟩ := ic3.own
  obtain ⟨kvs, hH, hk1, hq⟩ := own_K ow
  refine ⟨q, _, rfl, DPut.k hH (by rw [kd_len hk1]; exact lt5 hl), ?_⟩
  have gg := g.trans (g2.trans g3)
  exact c.nx _ F3 _ σ gg.f (R.putC gg e ic3 (own_mkK upd_same (kd_put_keys hk1 ks v y) (kd_put hk1 hq ((r.mono g2.f).mono g3.f) ks))) p3
/-- x[i].append(e) -/
def dApp2 (i : Nat) (tc : DTc) (t : DT) : DS := fun d Z ρ => tc ρ (fun v x j c => ∃ ds, c = .list ds ∧ ds.length ≤ 100000 ∧ t ρ (fun y => d.nx (ρ.set i (.tr v (setCh x j (.list (ds ++ [y])))))) Z) Z
theorem ds_app2 (i : Nat) {o e : Expr} {apos cpos : Pos} {tc : DTc} {t : DT} (ho : DCh X W i o tc) (h : DE X W .fz e t) (hs0 : swapsWith (.Call (.Attribute o "append" apos) [e] [] cpos) none pos.line X.env = pure false := by rfl)
    (hbase : attributeBase o "append" X.env (eval o X.env) = eval o X.env := by rfl)
    (hfew : ((backTo cpos (starEach (e :: []) X.env)).all (fun x => !x.1) && (backToKw cpos (keywordEach [] X.env)).all (fun x => x.1.isSome)
      && decide ((e :: []).length + ([] : List Keyword).length + (if ([] : List Keyword).isEmpty then 0 else 1) < 30)) = true := by rfl)
    (hline : (apos.endLine == cpos.line) = true := by rfl) (hs : starEach (e :: []) X.env = (false, eval e X.env) :: starEach [] X.env := by rfl) (hplain : (backTo cpos (starEach [] X.env)).any (·.1) = false := by rfl) :
    DS1 X W rm (.Expr (.Call (.Attribute o "append" apos) [e] [] cpos) pos) (dApp2 i tc t) := by
  obtain ⟨te, p, s⟩ := h.ok
  obtain ⟨teo, po, so⟩ := ho.ok
  refine ⟨_, ps_expr (pe_bm PySem.F.plainAttrs_list PySem.F.slot_list_append PySem.F.type_list_append mt_append po (pa_cons p pa_nil hs) hbase hfew hline hs hplain) hs0, fun b F H σ ρ D d Z R z q c => ?_⟩
  refine so b F H σ ρ _ _ Z R z q fun v0 x j cd q F2 H2 p2 g2 e ic => ?_
  obtain ⟨ds, rfl, hl, p2⟩ := p2
  obtain ⟨nq, xs, hH, dq⟩ := ic.own
  refine ⟨.inl ⟨rfl, _, SqL.of hH⟩, s b F2 H2 σ ρ _ _ Z (R.grow g2) (z.mono g2.f) p2 fun y v F3 H3 p3 g3 r f => ?_⟩
  have ic3 := ic.grow g3
  refine ⟨q, xs, v, rfl, rfl, g3.h.ap hH, by rw [dq.length]; exact lt5 hl, ?_⟩
  exact c.nx _ F3 _ σ (g2.f.trans g3.f) (R.putC (g2.trans g3) e ic3 (own_mkL upd_same ((dq.mono g3.f).snoc r))) p3
/-! a dict without a key -/
def dropD {κ : Type} [DecidableEq κ] (kds : List (κ × D)) (k : κ) : List (κ × D) := kds.filter fun p => !decide (p.1 = k)
theorem kd_drop {F : Hp} {κ : Type} [DecidableEq κ] {k : κ} : ∀ {kvs : List (κ × V)} {kds : List (κ × D)}, kvs.map (·.1) = kds.map (·.1) → DqA F (kvs.map (·.2)) (kds.map (·.2)) →
    ((kvs.filter fun p => !decide (p.1 = k)).map (·.1) = (dropD kds k).map (·.1)) ∧ DqA F ((kvs.filter fun p => !decide (p.1 = k)).map (·.2)) ((dropD kds k).map (·.2))
  | [], [], _, _ => ⟨rfl, .nil⟩
  | [], _ :: _, h, _ => by simp at h
  | _ :: _, [], h, _ => by simp at h
  | p :: kvs, q :: kds, h, a => by
    simp only [List.map_cons, List.cons.injEq] at h
    cases a with
    | cons a1 a2 =>
      obtain ⟨i1, i2⟩ := kd_drop (k := k) h.2 a2
      unfold dropD at *
      by_cases e : q.1 = k
      · have e' : p.1 = k := h.1.trans e
        rw [List.filter_cons_of_neg (by simp [e']), List.filter_cons_of_neg (by simp [e])]
        exact ⟨i1, i2⟩
      · have e' : ¬ p.1 = k := fun z => e (h.1.symm.trans z)
        rw [List.filter_cons_of_pos (by simp [e']), List.filter_cons_of_pos (by simp [e])]
        refine ⟨?_, .cons a1 i2⟩
        rw [List.map_cons, List.map_cons, i1, h.1]
theorem dropK_eq {kvs : List (Key × V)} {k : Key} : dropK kvs k = kvs.filter fun p => !decide (p.1 = k) := by
  unfold dropK
  refine congrArg (fun f => kvs.filter f) ?_
  funext p
  simp
/-- x[i].pop(k): a dict's key goes -/
def dPop2K (i : Nat) (tc : DTc) (tk : DT) : DS := fun d Z ρ => tc ρ (fun v x j c => ∃ kds, c = dctK kds ∧ tk ρ (fun k => ∃ ks y, k = keyD ks ∧ valD kds ks = some y ∧ d.nx (ρ.set i (.tr v (setCh x j (dctK (dropD kds ks)))))) Z) Z
theorem ds_pop2K (i : Nat) {o k : Expr} {apos cpos : Pos} {tc : DTc} {tk : DT} (ho : DCh X W i o tc) (hk : DE X W .fz k tk) (m : M1 X o "pop" apos k cpos := by exact ⟨rfl, rfl, rfl, rfl⟩) (hs0 : swapsWith (.Call (.Attribute o "pop" apos) [k] [] cpos) none pos.line X.env = pure false := by rfl) :
    DS1 X W rm (.Expr (.Call (.Attribute o "pop" apos) [k] [] cpos) pos) (dPop2K i tc tk) := by
  obtain ⟨tek, pk, sk⟩ := hk.ok
  obtain ⟨teo, po, so⟩ := ho.ok
  refine ⟨_, ps_expr (pe_dpop1 po pk m) hs0, fun b F H σ ρ D d Z R z q c => ?_⟩
  refine so b F H σ ρ _ _ Z R z q fun v0 x j cd q F2 H2 p2 g2 e ic => ?_
  obtain ⟨kds, rfl, p2⟩ := p2
  obtain ⟨nq, ow⟩ := ic.own
  obtain ⟨kvs, hH, hk1, hq⟩ := own_K ow
  refine ⟨q, rfl, (.inl ⟨kvs, .inl hH⟩ : L2.IsD H2 q), sk b F2 H2 σ ρ _ _ Z (R.grow g2) (z.mono g2.f) p2 fun kd kv F3 H3 p3 g3 r3 _ => ?_⟩
  obtain ⟨ks, y, rfl, hv, p3⟩ := p3
  have ec := key1_dq r3
  subst ec
  have ic3 := ic.grow g3
  have hv2 := kd_val (F := F2) ks hk1 hq
  rw [hv] at hv2
  obtain ⟨w, ew, _⟩ := hv2.val
  refine ⟨kvs, ks, w, g3.h.ap hH, rfl, ew, ?_⟩
  obtain ⟨d1, d2⟩ := kd_drop (k := ks) hk1 (hq.mono g3.f)
  have ow3 : Own F3 (upd H3 q (.dK (dropK kvs ks))) q (dctK (dropD kds ks)) := own_mkK upd_same (by rw [dropK_eq]; exact d1) (by rw [dropK_eq]; exact d2)
  exact c.nx _ F3 _ σ (g2.f.trans g3.f) (R.putC (g2.trans g3) e ic3 ow3) p3
end
end DL
set_option maxRecDepth 100000
set_option maxHeartbeats 4000000
/-! DM1: a def that changes the caller's tree (its first argument). -/
namespace DL
open PySem PySem.Spec PyProof.Rows L2
variable {T : List (Addr × Str)}
def hideA (H : Hp) (A : List Addr) : Hp := fun a => if a ∈ A then none else H a
theorem hide_in {H : Hp} {A : List Addr} {a : Addr} (h : a ∈ A) : hideA H A a = none := by unfold hideA; rw [if_pos h]
theorem hide_out {H : Hp} {A : List Addr} {a : Addr} (h : a ∉ A) : hideA H A a = H a := by unfold hideA; rw [if_neg h]
theorem hide_some {H : Hp} {A : List Addr} {a : Addr} {o : HO} (h : hideA H A a = some o) : a ∉ A ∧ H a = some o := by
  by_cases q : a ∈ A
  · rw [hide_in q] at h
    cases h
  · rw [hide_out q] at h
    exact ⟨q, h⟩
theorem tabs_hide {H : Hp} {A : List Addr} (h : ∀ a ∈ A, ∃ u, H a = some u ∧ IsD u) (t : LamX.Tabs T H) : LamX.Tabs T (hideA H A) := by
  intro r hr
  obtain ⟨ps, h1, h2, h3⟩ := t r hr
  have out : ∀ {a : Addr} {o : HO}, H a = some o → ¬ IsD o → a ∉ A := fun e n ha => by
    obtain ⟨u, e2, i⟩ := h _ ha
    rw [e] at e2
    cases e2
    exact n i
  refine ⟨ps, by rw [hide_out (out h1 id)]; exact h1, h2, fun pos cv hc => ?_⟩
  obtain ⟨c, e1, e2⟩ := h3 pos cv hc
  refine ⟨c, e1, ?_⟩
  rw [hide_out (out e2 id)]
  exact e2
theorem grow_hide {F H : Hp} (g : Grow T F H F H) (A : List Addr) : Grow T F (hideA H A) F H :=
  ⟨⟨fun b o e _ => (hide_some e).2, fun t => LamX.Tabs.ext t fun b o e => (hide_some e).2⟩, Same.refl _, g.s, fun _ _ _ _ => rfl, g.n, g.c⟩
/-- the tree comes back from a call -/
theorem Rep.back {K : PySem.W.Frag} {b : B} {F H F' H' : Hp} {σ : L2.St} {ρ : List Sl} (R : Rep K b F H σ ρ) {i : Nat} {v : V} {d d' : D} {A A' : List Addr} (e : ρ[i]? = some (.tr v d)) (t : Tr F H v d A) (g : Grow b.T F (hideA H A) F' H') (t' : Tr F' H' v d' A') (n' : ∀ a ∈ A', Nn (hideA H A) a) :
    Rep K b F' H' σ (ρ.set i (.tr v d')) := by
  obtain ⟨fp, f1, f2, f3⟩ := R.ex
  have q := f1 i _ e
  have eA : fp i = A := q.2.1.uniq (fun _ _ e _ => e) t
  have hi : i < ρ.length := (List.getElem?_eq_some_iff.mp e).1
  have nA : ∀ a ∈ A, Nn b.H a := by rw [← eA]; exact q.2.2
  have up : ∀ a o, b.H a = some o → (∀ ps, o ≠ .tbl ps) → hideA H A a = some o := fun a o e n => by
    rw [hide_out fun ha => by
      obtain ⟨ps, z⟩ := nA a ha o e
      exact n ps z]
    exact R.g.h.ap e n
  have keep : ∀ j, j ≠ i → ∀ a ∈ fp j, F' a = none ∧ H' a = H a ∧ ∃ u, hideA H A a = some u ∧ IsD u := fun j hj a ha => by
    cases es : ρ[j]? with
    | none => rw [f2 j es] at ha; simp at ha
    | some s =>
      obtain ⟨n, _, u, eu, iu⟩ := (f1 j s es).mem a ha
      have hA : a ∉ A := fun z => f3 j i a hj ha (eA ▸ z)
      have eh : hideA H A a = some u := (hide_out hA).trans eu
      exact ⟨(g.k a u eh (isD_n iu)).trans n, (g.h.ap eh (isD_n iu)).trans eu.symm, u, eh, iu⟩
  refine ⟨⟨⟨fun a o e n => g.h.e a o (up a o e n) n, fun t0 => g.h.t (tabs_hide (fun a ha => (t.nn a ha).2) (R.g.h.t t0))⟩, R.g.f.trans g.f, g.s, fun a o e n => (g.k a o (up a o e n) n).trans (R.g.k a o e n), g.n, g.c⟩,
    g.h.t (tabs_hide (fun a ha => (t.nn a ha).2) R.tt), by rw [List.length_set]; exact R.len, ovr fp (fun j => decide (j = i)) A', fun j s es => ?_, fun j es => ?_, fun j k a hjk h1 h2 => ?_⟩
  · by_cases hj : j = i
    · subst hj
      rw [List.getElem?_set_self hi] at es
      cases es
      rw [ovr_pos (by simp)]
      refine ⟨q.1, t', fun a ha u eu => ?_⟩
      refine Classical.byContradiction fun c => ?_
      obtain ⟨ps, z⟩ := n' a ha u (up a u eu fun ps z => c ⟨ps, z⟩)
      exact c ⟨ps, z⟩
    · rw [List.getElem?_set_ne (Ne.symm hj)] at es
      rw [ovr_neg (by simpa using hj)]
      exact (f1 j s es).mono g.f fun a ha => ⟨(keep j hj a ha).1, (keep j hj a ha).2.1⟩
  · have hj : j ≠ i := by
      rintro rfl
      rw [List.getElem?_set_self hi] at es
      cases es
    rw [List.getElem?_set_ne (Ne.symm hj)] at es
    rw [ovr_neg (by simpa using hj)]
    exact f2 j es
  · have out : ∀ m, m ≠ i → a ∈ fp m → a ∈ A' → False := fun m hm h1 h2 => by
      obtain ⟨_, _, u, eu, iu⟩ := keep m hm a h1
      obtain ⟨ps, z⟩ := n' a h2 u eu
      exact isD_n iu ps z
    by_cases hj : j = i
    · rw [ovr_pos (by simpa using hj)] at h1
      by_cases hk : k = i
      · exact hjk (hj.trans hk.symm)
      · rw [ovr_neg (by simpa using hk)] at h2
        exact out k hk h2 h1
    · rw [ovr_neg (by simpa using hj)] at h1
      by_cases hk : k = i
      · rw [ovr_pos (by simpa using hk)] at h2
        exact out j hj h1 h2
      · rw [ovr_neg (by simpa using hk)] at h2
        exact f3 j k a hjk h1 h2
/-! ### its contract -/
/-- what stands in the tree, the other arguments, what is wanted of the tree behind -/
abbrev CM := D → List D → (D → Prop) → Prop
def spM (mg : Str → Option Value) (K : PySem.W.Frag) (T : List (Addr × Str)) (n : Nat) (w : CM) : Sp := fun vs H Q _ => ∃ (F : Hp) (v0 : V) (vs' : List V) (d0 : D) (ds : List D) (A : List Addr) (P : D → Prop), vs = v0 :: vs' ∧ Tr F H v0 d0 A ∧ Grow T F H F H ∧ LamX.Tabs T H ∧
  VRs K ⟨F, hideA H A, T⟩ F H (List.replicate n .fz) vs' ds ∧ w d0 ds P ∧ ∀ d' F' H' A', P d' → Grow T F (hideA H A) F' H' → Tr F' H' v0 d' A' → (∀ a ∈ A', Nn (hideA H A) a) → Q .non H'
def bodyM (N : Nat) (n : Nat) (t : DS) : CM := fun d0 ds P => ∀ v, t { nx := fun ρ => ∃ d', ρ[0]? = some (.tr v d') ∧ P d', rt := fun _ => False } Z0 (.tr v d0 :: initD N (List.replicate n .fz) ds)
structure DfM (P : Program) (w : World) (K : PySem.W.Frag) (mg : Str → Option Value) (base : Heap) (T : List (Addr × Str)) (k : Nat) (x : Str) (n : Nat) (W : CM) : Prop where
  ex : ∃ (f : Addr) (fd : FuncData) (ps : List Str), FnOk P w K mg base CX0 k f fd ps (spM mg K T n W) ∧ mg x = some (.ref f) ∧ PySem.W.keepIn K (.ref f) = true ∧ Binds K fd ps []
section
variable {P : Program} {w : World} {K : PySem.W.Frag} {mg : Str → Option Value} {base : Heap}
theorem start_cons {N : List Str} {y : Str} {v : V} {vs : List V} : L2.start (y :: N) (v :: vs) = some v :: L2.start N vs := by
  unfold L2.start
  rw [List.map_cons, List.cons_append, List.length_cons, List.length_cons, Nat.add_sub_add_right]
theorem dfM {x : Str} {st : Stmt} {y : Str} {N ps : List Str} {k n : Nat} {t : DS} {T : List (Addr × Str)} (TF : FnF K mg x st) (S : FnScope (y :: N) ps (defScope st)) (hl : n + 1 = ps.length) (hbd : Bnd x st ps)
    (hb : ∀ (f : Addr) (cdv : Value) (A : Around) (outer : List Env) (s : Shared) (H : Hp) (E : XK), Room k (A.deeper (envOfC x (defScope st) s.heap.objs.size f cdv)) → DSs (cxOf CX0 P w K mg base (y :: N) x (defScope st) f cdv A outer s H E).nox (W0 T) .fz (defBody st) t) :
    DfM P w K mg base T (k + 1) x n (bodyM N.length n t) := by
  obtain ⟨f, fd, F, hm⟩ := TF.ex
  refine ⟨f, fd, ps, F.ok S (fun vs H Q E h => ?_) (fun cdv A outer s H vs Q E hr h => ?_), hm, F.kp, F.binds hbd⟩
  · obtain ⟨_, v0, vs', _, ds, _, _, rfl, _, _, _, r, _⟩ := h
    rw [← hl, List.length_cons, (vrs_len r).1, List.length_replicate]
  · obtain ⟨F0, v0, vs', d0, ds, A0, Pd, rfl, t0, sm, tt, r, hw, kk⟩ := h
    obtain ⟨ts, p, sem⟩ := (hb f cdv A outer s H E hr).ok
    have g0 := grow_hide sm A0
    refine ⟨ts, p, sem ⟨F0, hideA H A0, T⟩ F0 H _ (.tr v0 d0 :: initD N.length (List.replicate n .fz) ds) _ { nx := fun ρ => ∃ d', ρ[0]? = some (.tr v0 d') ∧ Pd d', rt := fun _ => False } Z0 ?_ (zok0 rfl) (hw v0) ?_⟩
    · obtain ⟨l1, l2⟩ := vrs_len r
      have lz : (List.zipWith Md.sl (List.replicate n .fz) ds).length = vs'.length := by rw [List.length_zipWith]; omega
      have rs : ∀ (i : Nat) (s : Sl), (initD N.length (List.replicate n .fz) ds)[i]? = some s → SlF K ⟨F0, hideA H A0, T⟩ F0 H (L2.start N vs')[i]? s [] := fun i s h => by
        unfold initD at h
        unfold L2.start
        by_cases hi : i < vs'.length
        · rw [List.getElem?_append_left (by rw [lz]; exact hi)] at h
          rw [List.getElem?_append_left (by rw [List.length_map]; exact hi)]
          have main : ∀ {m : Nat} {vs : List V} {ds : List D}, VRs K ⟨F0, hideA H A0, T⟩ F0 H (List.replicate m .fz) vs ds → ∀ (i : Nat) (s : Sl), (List.zipWith Md.sl (List.replicate m .fz) ds)[i]? = some s → SlF K ⟨F0, hideA H A0, T⟩ F0 H (vs.map some)[i]? s [] := by
            intro m
            induction m with
            | zero =>
              intro vs ds r i s h
              simp at h
            | succ m ih =>
              intro vs ds r i s h
              rw [List.replicate_succ] at r h
              cases r with
              | cons r q =>
                cases i with
                | zero =>
                  simp only [List.zipWith_cons_cons, List.getElem?_cons_zero, Option.some.injEq] at h
                  subst h
                  exact ⟨rfl, _, rfl, r⟩
                | succ i =>
                  simp only [List.zipWith_cons_cons, List.getElem?_cons_succ] at h
                  exact ih q i s h
          exact main r i s h
        · rw [List.getElem?_append_right (by rw [lz]; omega), List.getElem?_replicate] at h
          split at h
          · cases h
            rfl
          · cases h
      refine ⟨g0, tt, ?_, fun j => if j = 0 then A0 else [], fun i s h => ?_, fun i h => ?_, fun i j a hij h1 h2 => ?_⟩
      · rw [start_cons, List.length_cons, List.length_cons]
        unfold L2.start initD
        rw [List.length_append, List.length_append, List.length_map, List.length_replicate, List.length_replicate, lz, l1, List.length_replicate]
      · rw [start_cons]
        cases i with
        | zero =>
          simp only [List.getElem?_cons_zero, Option.some.injEq] at h
          subst h
          exact ⟨rfl, t0, fun a ha => nn_of (hide_in ha)⟩
        | succ i =>
          simp only [List.getElem?_cons_succ] at h ⊢
          exact rs i s h
      · cases i with
        | zero => simp at h
        | succ i => rfl
      · cases i with
        | zero =>
          cases j with
          | zero => exact hij rfl
          | succ j => simp at h2
        | succ i => simp at h1
    · refine ⟨fun ρ F' H' σ s R q => ?_, fun _ _ _ _ _ _ q => q.elim, fun _ _ _ _ _ _ q => q.elim, fun x v F' H' g r f p => p.elim⟩
      obtain ⟨d', e, p⟩ := q
      obtain ⟨_, A', t', n'⟩ := R.sl 0 _ e
      exact kk d' F' H' A' p R.g t' n'
end
section
variable {X : Cx} {W : WT} {rm : Md} {pos : Pos}
def dCallM (i : Nat) (w : CM) (ta : DTa) : DS := fun d Z ρ => ∃ v x, ρ[i]? = some (.tr v x) ∧ ta ρ (fun ds => w x ds (fun d' => d.nx (ρ.set i (.tr v d')))) Z
theorem ds_callM (i : Nat) {k n : Nat} {x y : Str} {w : CM} {es : List Expr} {ta : DTa} {p py cpos : Pos} (G : DfM X.prog X.w X.K X.mg X.base W.T k x n w) (hr : Room k X.A) (hy : PE X (.Name y py) (tVar i)) (ha : DA X W (List.replicate n .fz) es ta) (hg : Gl X x := by rfl) (hdb : (x == ("__debug__" : Str)) = false := by decide)
    (he : starEach (.Name y py :: es) X.env = (false, eval (.Name y py) X.env) :: starEach es X.env := by rfl) (hpl : (backTo cpos (starEach es X.env)).any (·.1) = false := by rfl) (hs : swapsWith (.Call (.Name x p) (.Name y py :: es) [] cpos) none pos.line X.env = pure false := by rfl) :
    DS1 X W rm (.Expr (.Call (.Name x p) (.Name y py :: es) [] cpos) pos) (dCallM i w ta) := by
  obtain ⟨f, fd, ps, F, hm, hk, hb⟩ := G.ex
  obtain ⟨te, pa, s⟩ := ha.ok
  refine ⟨_, ps_expr (pe_call F hr hg hm hk hb .nil pass0 (pa_cons hy pa he) hdb he hpl) hs, fun b F0 H σ ρ D d Z R z q c => ?_⟩
  obtain ⟨v, x0, e, q⟩ := q
  refine ⟨v, (R.sl i _ e).1, s b F0 H σ ρ _ _ Z R z q fun ds vs F1 H1 p1 g r => ?_⟩
  have R1 := R.grow g
  obtain ⟨_, A, t, nA⟩ := R1.sl i _ e
  show spM X.mg X.K W.T n w ((v :: vs) ++ []) H1 _ _
  rw [List.append_nil]
  refine ⟨F1, v, vs, x0, ds, A, _, rfl, t, z.t ▸ Grow.refl R1.g, z.t ▸ R1.tt, ?_, p1, fun d' F' H' A' pd g' t' n' => ?_⟩
  · exact vrs_b (fun m hm => by rw [List.eq_of_mem_replicate hm]; intro z; cases z) r
  · exact c.nx _ F' H' σ (g.f.trans g'.f) (R1.back e t (grow_t z.t.symm g') t' n') pd
end
end DL
set_option maxRecDepth 100000
set_option maxHeartbeats 4000000
/-! DM2: list(reversed(x)); a < b < c < d; x.index(y), x.count(y); all; zip; sorted(.., reverse=True). -/
section
open PySem PySem.Spec
variable {prog : Program} {w : World} {A : Around} {E : Value → Shared → Prop} {s : Shared}
theorem extend_rev {R : Result → Shared → Prop} {it l : Addr} {items : Array Value} (hh : A.handled = none) (hit : s.heap.IsRevIter it l ((items.size : Int) - 1)) (hl : s.heap.IsList l items) (hne : l ≠ it) (hn : items.size ≤ sizeLine) (S : Addr) (hS : s.heap.get? S = some { cls := .type "list", data := .seq #[] }) (hSi : S ≠ it) (hSl : S ≠ l)
    (hR : ∀ h' tk acc' c', (∀ b o, b ≠ S → b ≠ it → s.heap.get? b = some o → h'.get? b = some o) → h'.get? S = some { cls := .type "list", dict := none, data := .seq acc' c', slots := #[] } →
      ItemsOf (fun i v => items[items.size - 1 - i]? = some v) acc' items.size → R (.ok (.ret .none)) { s with heap := h', toks := tk }) :
    wpAny (model prog w) A.in1 (Builtin.List.listExtendWith (.ref S) (.ref it) .none)
      (fun fin s' => match fin with | .done f => R (.ok f) s' | .again c' => c'.quiet = true ∧ codeAny (model prog w) A c' R s') (fun e s' => R (.error e) s') s := by
  have W := (Walks.listRev (prog := prog) (w := w) (A := A.in1) hh it l hne items).toS
  have hSf : S ∉ [it, l] := by simp only [List.mem_cons, List.not_mem_nil, or_false, not_or]; exact ⟨hSi, hSl⟩
  have hT : s.TypeIs (.ref it) "list_reverseiterator" := Heap.IsRevIter.typeIs hit
  have h1 : Builtin.List.listSameRef (.ref S) (.ref it) = false := by simp [Builtin.List.listSameRef, hSi]
  unfold Builtin.List.listExtendWith
  refine wpAny_bind (wpAny_typeOf hT ?_)
  rw [if_neg (by rw [h1]; decide)]
  refine wpAny_bind (wpAny_pyIter_revIter hit ?_)
  refine wpAny_bind (wpAny_holding ?_)
  unfold Builtin.List.listLengthHint
  refine wpAny_bind (wpAny_specialOf hT RT.nolen_lri ?_)
  show wpAny _ A.in1 (specialOf (Value.ref it) (Str.ofString "__length_hint__") >>= _) _ _ _
  refine wpAny_bind (wpAny_specialOf hT RT.hint_lri ?_)
  generalize hid : ("list_reverseiterator.__length_hint__" : String) = id0
  wp_delta
  rw [show splitId id0 = some ("list_reverseiterator", "__length_hint__") from by subst hid; decide +kernel]
  subst hid
  refine wpAny_bind (wpAny_isInstance (b := true) hT (by rw [isSubtype_type]; kernel_rfl) ?_)
  refine wpAny_pure ?_
  rw [if_neg (by decide)]
  have e0 : ((items.size : Nat) : Int) - 1 - ((0 : Nat) : Int) = (items.size : Int) - 1 := by omega
  refine wpAny_pure ⟨plainId_quiet F.plain_extend_loop _, codeAny_extend_loopS W hn _ hSf _ items.size 0 _ _ _ rfl (Nat.zero_le _) ⟨Nat.zero_le _, by rw [e0]; exact hit, hl⟩ hS (ItemsOf.nil _) fun s' acc' c' hm hS' hacc => ?_⟩
  rw [Moved.eq_with hm]
  refine hR s'.heap s'.toks acc' c' (fun b o hb hb2 e => hm.heap b o (fun hmem => ?_) e) hS' hacc
  rcases List.mem_cons.mp hmem with e' | hmem
  · exact hb e'
  · exact hb2 (List.mem_singleton.mp hmem)
theorem call_list_rev {it l : Addr} {items : Array Value} {Q : Value → Shared → Prop} (hh : A.handled = none) (hit : s.heap.IsRevIter it l ((items.size : Int) - 1)) (hl : s.heap.IsList l items) (hne : l ≠ it) (hn : items.size ≤ sizeLine)
    (hQ : ∀ (h' : Heap) (tk : Nat) (acc : Array Value) (c : Nat), (∀ b o, b ≠ it → s.heap.get? b = some o → h'.get? b = some o) → h'.get? s.heap.objs.size = some { cls := .type "list", dict := none, data := .seq acc c, slots := #[] } →
      ItemsOf (fun i v => items[items.size - 1 - i]? = some v) acc items.size → Q (.ref s.heap.objs.size) { s with heap := h', toks := tk }) :
    wpAny (model prog w) A (call (.type "list") [.ref it]) Q E s := by
  refine callType_codes (Q₁ := fun obj s₁ => obj = .ref s.heap.objs.size ∧ s₁ = { s with heap := s.heap.push { cls := .type "list", data := .seq #[] } }) F.called_list (F.typeCall_list_1 _) F.entry_list_init
    (code_list_new _ ⟨rfl, rfl⟩) fun obj s₁ h₁ => ?_
  obtain ⟨rfl, rfl⟩ := h₁
  obtain ⟨oi, hoi, _⟩ := id hit
  obtain ⟨ol, hol, _⟩ := id hl
  have hSi : s.heap.objs.size ≠ it := Nat.ne_of_gt (Heap.lt_size hoi)
  have hSl : s.heap.objs.size ≠ l := Nat.ne_of_gt (Heap.lt_size hol)
  have hS : (s.heap.push { cls := .type "list", data := .seq #[] }).get? s.heap.objs.size = some { cls := .type "list", data := .seq #[] } := Heap.get?_push_size _ rfl
  have hit1 : (s.heap.push { cls := .type "list", data := .seq #[] }).IsRevIter it l ((items.size : Int) - 1) := hit.at fun o e => Heap.get?_push_of_some _ e
  have hl1 : (s.heap.push { cls := .type "list", data := .seq #[] }).IsList l items := hl.push _
  refine ⟨⟨_, hS, rfl⟩, F.args_list_init_2 _ _, ?_⟩
  -- list.__init__
  show wpAny _ A.in1.in1 (do let old ← Builtin.List.listItems (.ref s.heap.objs.size); Builtin.List.listUpdate (.ref s.heap.objs.size) (fun _ => #[]); letGo old.toList.reverse; Builtin.List.listExtendWith (.ref s.heap.objs.size) (.ref it) .none) _ _ _
  refine wpAny_bind ?_
  unfold Builtin.List.listItems
  refine wpAny_bind (wpAny_seqItems hS rfl (wpAny_pure ?_))
  show wpAny _ A.in1.in1 (updateSeq s.heap.objs.size (fun _ => #[]) >>= fun _ => letGo (#[] : Array Value).toList.reverse >>= fun _ => Builtin.List.listExtendWith (.ref s.heap.objs.size) (.ref it) .none) _ _ _
  refine wpAny_bind (wpAny_updateSeq hS rfl ?_)
  have hS₂ := Heap.get?_update_self (Obj.mapSeq (fun _ => (#[] : Array Value))) hS rfl
  have oth : ∀ b o, b ≠ s.heap.objs.size → (s.heap.push { cls := .type "list", data := .seq #[] }).get? b = some o → ((s.heap.push { cls := .type "list", data := .seq #[] }).update s.heap.objs.size (Obj.mapSeq (fun _ => (#[] : Array Value)))).get? b = some o :=
    fun b o hb e => (Heap.get?_update_other _ _ (Ne.symm hb)).trans e
  refine wpAny_bind (wpAny_letGo ?_)
  refine extend_rev (A := A.in1) hh (hit1.at fun o e => oth it o hSi.symm e) (hl1.at fun o e => oth l o hSl.symm e) hne hn _ hS₂ hSi hSl fun h' tk acc' c' hk hS' hacc => ?_
  refine ⟨rfl, hQ h' tk acc' c' (fun b o hb e => ?_) hS' hacc⟩
  have hbS : b ≠ s.heap.objs.size := Nat.ne_of_lt (Heap.lt_size e)
  exact hk b o hbS hb (oth b o hbS (Heap.get?_push_of_some _ e))
end
namespace DL
open PySem PySem.Spec PyProof.Rows L2
variable {T : List (Addr × Str)}
section
variable {X : Cx} {W : WT} {pos : Pos} {m : Md}
/-! ### list(reversed(x)), x a list -/
def tListRev (K : PySem.W.Frag) (te : TE) : TE := fun σ H Q => te σ H fun v H1 => ∃ (a : Addr) (xs : List V), v = .ref a ∧ SqL K H1 a xs ∧ ∀ q, H1 q = none → Q (.ref q) (upd H1 q (.lst xs.reverse))
theorem pe_listRev {e : Expr} {te : TE} {p p2 pos pos2 : Pos} (hc : X.calm = true) (hg : Gl X "list") (hm : X.mg "list" = none) (hg2 : Gl X "reversed") (hm2 : X.mg "reversed" = none) (he : PE X e te)
    (hs : starEach [e] X.env = (false, eval e X.env) :: starEach [] X.env := by rfl)
    (hs2 : starEach [.Call (.Name "reversed" p2) [e] [] pos2] X.env = (false, eval (.Call (.Name "reversed" p2) [e] [] pos2) X.env) :: starEach [] X.env := by rfl) :
    PE X (.Call (.Name "list" p) [.Call (.Name "reversed" p2) [e] [] pos2] [] pos) (tListRev X.K te) := by
  refine ⟨fun pins s σ H Q I h => ?_⟩
  refine Call_ (ld_blt I hg hm boot_list (PyProof.Rows.callWith_type1 (args_cons (Call_ (ld_blt I hg2 hm2 PyProof.Rows.boot_reversed (PyProof.Rows.callWith_type1 (args_cons (thn (he.run pins s σ H _ I h) fun u s1 ⟨v, H1, I1, r1, q1⟩ => args_nil ?_) hs) hs rfl))) hs2) hs2 rfl))
  obtain ⟨a, xs, ev, hq, q⟩ := q1
  subst ev
  obtain rfl : u = Value.ref a := r1
  obtain ⟨its, rv, p', hz⟩ := I1.list hq
  refine call_reversed_list p'.isList (args_nil ?_)
  have k0 : ∀ b o, s1.heap.get? b = some o → (s1.heap.push (revObj a ((its.toArray.size : Int) - 1))).get? b = some o := fun b o e => Heap.get?_push_of_some _ e
  have I2 : L2.Inv X pins σ H1 { s1 with heap := s1.heap.push (revObj a ((its.toArray.size : Int) - 1)) } := I1.kept (t' := s1.toks) k0
  obtain ⟨f0, f1, f2, f3, f4, f5⟩ := I1.fpOk (H' := H1) (b := s1.heap.objs.size) (Nat.le_refl _) (I1.hok.fresh (Nat.le_refl _))
  have hl := p'.isList
  obtain ⟨ol, hol, _⟩ := id hl
  have hne : a ≠ s1.heap.objs.size := Nat.ne_of_lt (Heap.lt_size hol)
  have hn : its.toArray.size ≤ sizeLine := by rw [List.size_toArray, ← rv.length]; exact hz
  refine call_list_rev (s := { s1 with heap := s1.heap.push (revObj a ((its.toArray.size : Int) - 1)) }) (I1.ok.hd hc) ⟨_, Heap.get?_push_size _ rfl, rfl, rfl⟩ (hl.push _) hne hn fun h' tk acc c hk hS hi => ?_
  have hle : s1.heap.objs.size ≤ (s1.heap.push (revObj a ((its.toArray.size : Int) - 1))).objs.size := by simp [Heap.push]
  have vr : Vals xs.reverse acc.toList := RT.vals_rev rv hi
  have I3 := I2.turnedNew (t' := tk) (T := (s1.heap.push (revObj a ((its.toArray.size : Int) - 1))).objs.size) (ch := [s1.heap.objs.size]) (ob := .lst xs.reverse) (h' := h') (fun b o hb e => hk b o (fun z => hb (by simp [z])) e) (fun b hb => by
    rw [List.mem_singleton] at hb
    subst hb
    exact ⟨f0, f1, f2, f3, f4, f5⟩) (Nat.le_refl _) ⟨by rw [List.length_reverse]; exact hz, acc.toList, c, vr, by rw [Array.toArray_toList]; exact hS⟩
  exact ⟨.ref (s1.heap.push (revObj a ((its.toArray.size : Int) - 1))).objs.size, _, I3, rfl, q _ (I1.hok.fresh hle)⟩
/-- a list turned about -/
def lrevR (x : D) (P : D → Prop) : Prop := ∃ ds, x = .list ds ∧ P (.list ds.reverse)
def dListRev (t : DT) : DT := fun ρ P Z => t ρ (fun x => lrevR x P) Z
theorem de_listRev {e : Expr} {t : DT} {p p2 pos2 : Pos} (h : DE X W m e t) (hm : X.mg "list" = none) (hm2 : X.mg "reversed" = none) (hc : X.calm = true := by rfl) (hg : Gl X "list" := by rfl) (hg2 : Gl X "reversed" := by rfl)
    (hs : starEach [e] X.env = (false, eval e X.env) :: starEach [] X.env := by rfl)
    (hs2 : starEach [.Call (.Name "reversed" p2) [e] [] pos2] X.env = (false, eval (.Call (.Name "reversed" p2) [e] [] pos2) X.env) :: starEach [] X.env := by rfl) (hsh : m.sh = true := by rfl) :
    DE X W .nw (.Call (.Name "list" p) [.Call (.Name "reversed" p2) [e] [] pos2] [] pos) (dListRev t) := by
  obtain ⟨te, pe, s⟩ := h.ok
  refine ⟨_, pe_listRev hc hg hm hg2 hm2 pe hs hs2, fun b F H σ ρ Q P Z R z q k => s b F H σ ρ _ _ Z R z q fun x v F1 H1 q1 g1 r _ => ?_⟩
  obtain ⟨ds, rfl, q1⟩ := q1
  have g0 := R.g.trans g1
  obtain ⟨a, xs, rfl, sq, dq⟩ := vr_lst g0.s (r.rd hsh g0)
  refine ⟨a, xs, rfl, sq, fun l nl => ?_⟩
  have g4 := Grow.own g0 (HO.lst xs.reverse) nl
  exact k _ _ _ _ q1 (g1.trans g4) (.inl ⟨l, rfl, g0.s.free nl, own_mkL upd_same dq.rev⟩) fun q e => by cases e; exact g1.h.free nl
/-! ### a < b < c < d -/
def tChain3 (r r' r'' : R2) (ta tb tc td : TE) : TE := fun σ H Q => ta σ H fun x H1 => tb σ H1 fun y H2 => r x y H2 fun z H3 => ∃ k, z = .bl k ∧
  (if k = true then tc σ H3 fun w' H4 => r' y w' H4 (fun z2 H5 => ∃ k2, z2 = .bl k2 ∧ (if k2 = true then td σ H5 fun w2 H6 => r'' w' w2 H6 Q else Q (.bl false) H5)) else Q (.bl false) H3)
theorem pe_chain3 {op op' op'' : CmpOp} {r r' r'' : R2} {a b c d : Expr} {ta tb tc td : TE} (ho : OpR X (compareOp op) r) (ho' : OpR X (compareOp op') r') (ho'' : OpR X (compareOp op'') r'') (ha : PE X a ta) (hb : PE X b tb) (hc : PE X c tc) (hd : PE X d td)
    (hm : lastMarks [op, op', op''] [b, c, d] = false := by with_unfolding_all rfl) : PE X (.Compare a [op, op', op''] [b, c, d] pos) (tChain3 r r' r'' ta tb tc td) := by
  refine ⟨fun pins s σ H Q I h => ?_⟩
  refine Compare_chain (thn (ha.run pins s σ H _ I h) fun v s1 ⟨x, H1, I1, r1, q1⟩ => chain_link (thn (hb.run pins s1 σ H1 _ I1 q1) fun u s2 ⟨y, H2, I2, r2, q2⟩ =>
    thn (ho pins s2 σ H2 x y v u _ I2 r1 r2 q2) fun d s3 ⟨z, H3, I3, r3, k, e, q3⟩ => ?_)) hm
  subst e
  cases r3
  refine wpAny_truthy_bool ?_
  cases k with
  | false => exact ite_ff ⟨.bl false, H3, I3, rfl, q3⟩
  | true =>
    refine ite_tt (chain_link (thn (hc.run pins s3 σ H3 _ I3 q3) fun w' s4 ⟨z', H4, I4, r4, q4⟩ => thn (ho' pins s4 σ H4 y z' u w' _ I4 r2 r4 q4) fun d2 s5 ⟨z2, H5, I5, r5, k2, e2, q5⟩ => ?_))
    subst e2
    cases r5
    refine wpAny_truthy_bool ?_
    cases k2 with
    | false => exact ite_ff ⟨.bl false, H5, I5, rfl, q5⟩
    | true => exact ite_tt (chain_last (thn (hd.run pins s5 σ H5 _ I5 q5) fun w2 s6 ⟨z3, H6, I6, r6, q6⟩ => ho'' pins s6 σ H6 z' z3 w' w2 Q I6 r4 r6 q6))
theorem pt_chain3 {op op' op'' : CmpOp} {r r' r'' : R2} {a b c d : Expr} {ta tb tc td : TE} (ho : OpR X (compareOp op) r) (ho' : OpR X (compareOp op') r') (ho'' : OpR X (compareOp op'') r'') (ha : PE X a ta) (hb : PE X b tb) (hc : PE X c tc) (hd : PE X d td)
    (hm : lastMarks [op, op', op''] [b, c, d] = false := by with_unfolding_all rfl) : PT X (.Compare a [op, op', op''] [b, c, d] pos) (tTest (tChain3 r r' r'' ta tb tc td)) := by
  refine ⟨fun pins s σ H Q I h => ?_⟩
  refine isTrue_chain (thn (ha.run pins s σ H _ I h) fun v s1 ⟨x, H1, I1, r1, q1⟩ => test_link (thn (hb.run pins s1 σ H1 _ I1 q1) fun u s2 ⟨y, H2, I2, r2, q2⟩ =>
    thn (ho pins s2 σ H2 x y v u _ I2 r1 r2 q2) fun d s3 ⟨z, H3, I3, r3, k, e, q3⟩ => ?_)) hm
  subst e
  cases r3
  refine wpAny_truthy_bool ?_
  cases k with
  | false =>
    obtain ⟨k', e', q'⟩ := q3
    cases e'
    exact ite_ff ⟨H3, I3, q'⟩
  | true =>
    refine ite_tt (test_link (thn (hc.run pins s3 σ H3 _ I3 q3) fun w' s4 ⟨z', H4, I4, r4, q4⟩ => thn (ho' pins s4 σ H4 y z' u w' _ I4 r2 r4 q4) fun d2 s5 ⟨z2, H5, I5, r5, k2, e2, q5⟩ => ?_))
    subst e2
    cases r5
    refine wpAny_truthy_bool ?_
    cases k2 with
    | false =>
      obtain ⟨k', e', q'⟩ := q5
      cases e'
      exact ite_ff ⟨H5, I5, q'⟩
    | true =>
      refine ite_tt (test_last (thn (hd.run pins s5 σ H5 _ I5 q5) fun w2 s6 ⟨z3, H6, I6, r6, q6⟩ => thn (ho'' pins s6 σ H6 z' z3 w' w2 _ I6 r4 r6 q6) fun d' s7 ⟨z4, H7, I7, r7, k4, e4, q7⟩ => ?_))
      subst e4
      cases r7
      exact wpAny_truthy_bool ⟨H7, I7, q7⟩
def dChain3 (r1 r2 r3 : D → D → (D → Prop) → Prop) (ta tb tc td : DT) : DT := fun ρ P Z => ta ρ (fun x => tb ρ (fun y => r1 x y (fun z => ∃ c, z = .bool c ∧ (c = true → tc ρ (fun w => r2 y w (fun z2 => ∃ c2, z2 = .bool c2 ∧ (c2 = true → td ρ (fun u => r3 w u P) Z) ∧ (c2 = false → P (.bool false)))) Z) ∧ (c = false → P (.bool false)))) Z) Z
theorem chain3_sem {m1 m2 m3 m4 : Md} {r1 r2 r3 : R2} {d1 d2 d3 : D → D → (D → Prop) → Prop} {ta tb tc td : DT} {te1 te2 te3 te4 : TE} (h1 : R2ok X.K m1 m2 .fz r1 d1) (h2 : R2ok X.K m2 m3 .fz r2 d2) (h3 : R2ok X.K m3 m4 .fz r3 d3)
    (s1 : ∀ (b : B) (F H : Hp) (σ : L2.St) (ρ : List Sl) (Q : VK) (P : D → Prop) (Z : Zs), Rep X.K b F H σ ρ → ZOk X.mg X.K b F Z W → ta ρ P Z → Goes m1 X.K b F H P Q → te1 σ H Q)
    (s2 : ∀ (b : B) (F H : Hp) (σ : L2.St) (ρ : List Sl) (Q : VK) (P : D → Prop) (Z : Zs), Rep X.K b F H σ ρ → ZOk X.mg X.K b F Z W → tb ρ P Z → Goes m2 X.K b F H P Q → te2 σ H Q)
    (s3 : ∀ (b : B) (F H : Hp) (σ : L2.St) (ρ : List Sl) (Q : VK) (P : D → Prop) (Z : Zs), Rep X.K b F H σ ρ → ZOk X.mg X.K b F Z W → tc ρ P Z → Goes m3 X.K b F H P Q → te3 σ H Q)
    (s4 : ∀ (b : B) (F H : Hp) (σ : L2.St) (ρ : List Sl) (Q : VK) (P : D → Prop) (Z : Zs), Rep X.K b F H σ ρ → ZOk X.mg X.K b F Z W → td ρ P Z → Goes m4 X.K b F H P Q → te4 σ H Q) :
    ∀ (b : B) (F H : Hp) (σ : L2.St) (ρ : List Sl) (Q : VK) (P : D → Prop) (Z : Zs), Rep X.K b F H σ ρ → ZOk X.mg X.K b F Z W → dChain3 d1 d2 d3 ta tb tc td ρ P Z → Goes .fz X.K b F H P Q → tChain3 r1 r2 r3 te1 te2 te3 te4 σ H Q := fun b F H σ ρ Q P Z R z q k =>
  s1 b F H σ ρ _ _ Z R z q fun dx x F1 H1 p1 g1 v1 _ => s2 b F1 H1 σ ρ _ _ Z (R.grow g1) (z.mono g1.f) p1 fun dy y F2 H2 p2 g2 v2 _ =>
    h1 b F2 H2 x y dx dy _ _ (R.g.trans (g1.trans g2)) (v1.grow g2) v2 p2 fun dz w F3 H3 p3 g3 v3 _ => by
      obtain ⟨c, rfl, p3⟩ := p3
      cases v3
      refine ⟨c, rfl, ?_⟩
      have R3 := ((R.grow g1).grow g2).grow g3
      have z3 := z.mono (g1.f.trans (g2.f.trans g3.f))
      cases c with
      | false => exact iteF (k _ _ F3 H3 (p3.2 rfl) (g1.trans (g2.trans g3)) (Dq.bl _) trivial)
      | true =>
        refine iteT (s3 b F3 H3 σ ρ _ _ Z R3 z3 (p3.1 rfl) fun dw u F4 H4 p4 g4 v4 _ => h2 b F4 H4 y u dy dw _ _ (R3.g.trans g4) ((v2.grow g3).grow g4) v4 p4 fun dz2 w2 F5 H5 p5 g5 v5 _ => ?_)
        obtain ⟨c2, rfl, p5⟩ := p5
        cases v5
        refine ⟨c2, rfl, ?_⟩
        have R5 := (R3.grow g4).grow g5
        have gg := g1.trans (g2.trans (g3.trans (g4.trans g5)))
        cases c2 with
        | false => exact iteF (k _ _ F5 H5 (p5.2 rfl) gg (Dq.bl _) trivial)
        | true => exact iteT (s4 b F5 H5 σ ρ _ _ Z R5 (z.mono gg.f) (p5.1 rfl) fun dv v F6 H6 p6 g6 v6 _ => h3 b F6 H6 u v dw dv _ _ (R5.g.trans g6) ((v4.grow g5).grow g6) v6 p6 (k.after (gg.trans g6)))
theorem de_chain3 {m1 m2 m3 m4 : Md} {op op' op'' : CmpOp} {a b' c d : Expr} {r1 r2 r3 : R2} {d1 d2 d3 : D → D → (D → Prop) → Prop} {ta tb tc td : DT} (ho : OpR X (compareOp op) r1) (h1 : R2ok X.K m1 m2 .fz r1 d1) (ho' : OpR X (compareOp op') r2) (h2 : R2ok X.K m2 m3 .fz r2 d2) (ho'' : OpR X (compareOp op'') r3) (h3 : R2ok X.K m3 m4 .fz r3 d3) (ha : DE X W m1 a ta) (hb : DE X W m2 b' tb) (hc : DE X W m3 c tc) (hd : DE X W m4 d td)
    (hm : lastMarks [op, op', op''] [b', c, d] = false := by with_unfolding_all rfl) : DE X W .fz (.Compare a [op, op', op''] [b', c, d] pos) (dChain3 d1 d2 d3 ta tb tc td) := by
  obtain ⟨te1, p1, s1⟩ := ha.ok
  obtain ⟨te2, p2, s2⟩ := hb.ok
  obtain ⟨te3, p3, s3⟩ := hc.ok
  obtain ⟨te4, p4, s4⟩ := hd.ok
  exact ⟨_, pe_chain3 ho ho' ho'' p1 p2 p3 p4 hm, chain3_sem h1 h2 h3 s1 s2 s3 s4⟩
theorem dt_chain3 {m1 m2 m3 m4 : Md} {op op' op'' : CmpOp} {a b' c d : Expr} {r1 r2 r3 : R2} {d1 d2 d3 : D → D → (D → Prop) → Prop} {ta tb tc td : DT} (ho : OpR X (compareOp op) r1) (h1 : R2ok X.K m1 m2 .fz r1 d1) (ho' : OpR X (compareOp op') r2) (h2 : R2ok X.K m2 m3 .fz r2 d2) (ho'' : OpR X (compareOp op'') r3) (h3 : R2ok X.K m3 m4 .fz r3 d3) (ha : DE X W m1 a ta) (hb : DE X W m2 b' tb) (hc : DE X W m3 c tc) (hd : DE X W m4 d td)
    (hm : lastMarks [op, op', op''] [b', c, d] = false := by with_unfolding_all rfl) : DEt X W (.Compare a [op, op', op''] [b', c, d] pos) (dB (dChain3 d1 d2 d3 ta tb tc td)) := by
  obtain ⟨te1, p1, s1⟩ := ha.ok
  obtain ⟨te2, p2, s2⟩ := hb.ok
  obtain ⟨te3, p3, s3⟩ := hc.ok
  obtain ⟨te4, p4, s4⟩ := hd.ok
  exact ⟨_, pt_chain3 ho ho' ho'' p1 p2 p3 p4 hm, fun b F H σ ρ Q P Z R z q k => chain3_sem h1 h2 h3 s1 s2 s3 s4 b F H σ ρ _ _ Z R z q fun d v F' H' p g r _ => by
    obtain ⟨cc, rfl, p⟩ := p
    cases r
    exact ⟨cc, rfl, k cc F' H' p g⟩⟩
/-! ### x.index(y), x.count(y) -/
def rIdxS (K : PySem.W.Frag) : V → List V → Hp → VK → Prop := fun x xs H Q => ∃ (a : Addr) (y : V) (d : D) (ds : List D) (j : Nat) (z : D), x = V.ref a ∧ xs = [y] ∧ Dp K H (V.ref a) (.list ds) ∧ Dp K H y d ∧ Shp 8 d ∧ (∀ z ∈ ds, Shp 8 z) ∧
  ds[j]? = some z ∧ PyData.eqv z d = true ∧ (∀ (m : Nat) (z' : D), m < j → ds[m]? = some z' → PyData.eqv z' d = false) ∧ Q (.int (j : Nat)) H
theorem mt_idxS (hu : X.A.units + 64 < cLine) : MtR X "list.index" (rIdxS X.K) := by
  intro pins s σ H x xs v us Q I rx rxs h
  obtain ⟨a, y, d, ds, j, z, rfl, rfl, hl, hy, sd, sl, hz, hzj, hno, q⟩ := h
  cases rx
  cases rxs with
  | cons ry rt =>
    rename_i uy ut
    cases rt
    obtain ⟨bs, r1⟩ := Dp.reads I d y uy hy ry
    obtain ⟨d1, d2, _⟩ := shp_ok 8 _ sd
    obtain ⟨e1, e2, _⟩ := shpA (shp_ok 8) ds sl
    have hroom : X.A.units + 1 + min (PyData.depthAll ds) d.depth < cLine := by have := Nat.min_le_right (PyData.depthAll ds) d.depth; omega
    cases hl with
    | lst hs ha =>
      obtain ⟨its, rv, ⟨⟨cls, dd, data, sls⟩, n, ho, hc, hdn, hdt⟩, hlen⟩ := I.list hs
      simp only at hc hdt
      subst hc hdt
      obtain ⟨as, h4⟩ := Dp.readsAll I ds _ its ha rv
      have hn : its.length = ds.length := SeqAt.ReadsAll.length ds its as h4
      have hmap : its.map (SeqAt.readOf s.heap) = ds := SeqAt.readsAll_map ds its as e1 h4
      have hvl := rv.length
      have hsl := sizeLine_eq
      obtain ⟨hjd, _⟩ := List.getElem?_eq_some_iff.mp hz
      have hjl : j < its.length := by omega
      have hj : j < its.toArray.size := by simpa using hjl
      have at_ : ∀ (m : Nat) (hm : m < its.toArray.size) (z' : PyData), ds[m]? = some z' → SeqAt.readOf s.heap its.toArray[m] = z' := by
        intro m hm z' hz'
        have hml : m < its.length := by simpa using hm
        rw [← hmap, List.getElem?_map, List.getElem?_eq_getElem hml] at hz'
        have e1 : SeqAt.readOf s.heap its[m] = z' := Option.some.inj (show some (SeqAt.readOf s.heap its[m]) = some z' from hz')
        simpa using e1
      refine call_meets PySem.F.slot_list_index ⟨_, ho, rfl⟩ PySem.F.entry_list_index (PySem.F.args_list_index_2 _ _)
        (SeqAt.list_indexAt a its.toArray n dd sls uy (fun u => PyData.eqv (SeqAt.readOf s.heap u) d) j hj (by omega) ?_ ?_) ⟨ho, SeqAt.items_eqAt (vs := its.toArray) (show ReadsAll s.heap its.toArray.toList ds as from h4) r1 e1 d1 hroom, ?_⟩
      · show PyData.eqv (SeqAt.readOf s.heap its.toArray[j]) d = true
        rw [at_ j hj z hz]
        exact hzj
      · intro m hm hmj
        have hmd : m < ds.length := by omega
        have hz' : ds[m]? = some ds[m] := List.getElem?_eq_getElem hmd
        show PyData.eqv (SeqAt.readOf s.heap its.toArray[m]) d = false
        rw [at_ m hm _ hz']
        exact hno m _ hmj hz'
      · exact ⟨.int (j : Nat), H, I.tok _, ⟨_, rfl⟩, q⟩
def rCntS (K : PySem.W.Frag) : V → List V → Hp → VK → Prop := fun x xs H Q => ∃ (a : Addr) (y : V) (d : D) (ds : List D), x = V.ref a ∧ xs = [y] ∧ Dp K H (V.ref a) (.list ds) ∧ Dp K H y d ∧ Shp 8 d ∧ (∀ z ∈ ds, Shp 8 z) ∧ Q (.int ((ds.countP fun z => PyData.eqv z d : Nat))) H
theorem mt_cntS (hu : X.A.units + 64 < cLine) : MtR X "list.count" (rCntS X.K) := by
  intro pins s σ H x xs v us Q I rx rxs h
  obtain ⟨a, y, d, ds, rfl, rfl, hl, hy, sd, sl, q⟩ := h
  cases rx
  cases rxs with
  | cons ry rt =>
    rename_i uy ut
    cases rt
    obtain ⟨bs, r1⟩ := Dp.reads I d y uy hy ry
    obtain ⟨d1, d2, _⟩ := shp_ok 8 _ sd
    obtain ⟨e1, e2, _⟩ := shpA (shp_ok 8) ds sl
    have hroom : X.A.units + 1 + min (PyData.depthAll ds) d.depth < cLine := by have := Nat.min_le_right (PyData.depthAll ds) d.depth; omega
    cases hl with
    | lst hs ha =>
      obtain ⟨its, rv, ⟨⟨cls, dd, data, sls⟩, n, ho, hc, hdn, hdt⟩, hlen⟩ := I.list hs
      simp only at hc hdt
      subst hc hdt
      obtain ⟨as, h4⟩ := Dp.readsAll I ds _ its ha rv
      have hmap : its.map (SeqAt.readOf s.heap) = ds := SeqAt.readsAll_map ds its as e1 h4
      refine call_meets PySem.F.slot_list_count ⟨_, ho, rfl⟩ PySem.F.entry_list_count (PySem.F.args_list_count_2 _ _)
        (SeqAt.list_countAt a its.toArray n dd sls uy (fun u => PyData.eqv (SeqAt.readOf s.heap u) d)) ⟨ho, SeqAt.items_eqAt (vs := its.toArray) (show ReadsAll s.heap its.toArray.toList ds as from h4) r1 e1 d1 hroom, ?_⟩
      have ec : its.toArray.toList.countP (fun u => PyData.eqv (SeqAt.readOf s.heap u) d) = ds.countP (fun z => PyData.eqv z d) := by
        rw [← hmap, List.countP_map]
        rfl
      exact ⟨.int ((ds.countP fun z => PyData.eqv z d : Nat)), H, I.tok _, ⟨s.toks, by rw [ec]⟩, q⟩
def idxR (ds : List D) (y : D) (P : D → Prop) : Prop := Shp 8 y ∧ (∀ z ∈ ds, Shp 8 z) ∧ ∃ j z, ds[j]? = some z ∧ PyData.eqv z y = true ∧ (∀ (m : Nat) (z' : D), m < j → ds[m]? = some z' → PyData.eqv z' y = false) ∧ P (.int (j : Nat))
def dIdx (t u : DT) : DT := fun ρ P Z => t ρ (fun x => ∃ ds, x = .list ds ∧ u ρ (fun y => idxR ds y P) Z) Z
theorem de_idx {m1 m2 : Md} {o e : Expr} {t u : DT} {apos : Pos} (hu : X.A.units + 64 < cLine) (ho : DE X W m1 o t) (he : DE X W m2 e u) (h1 : m1.sh = true := by rfl) (h2 : m2.sh = true := by rfl)
    (hbase : attributeBase o "index" X.env (eval o X.env) = eval o X.env := by rfl)
    (hfew : ((backTo pos (starEach (e :: []) X.env)).all (fun x => !x.1) && (backToKw pos (keywordEach [] X.env)).all (fun x => x.1.isSome)
      && decide ((e :: []).length + ([] : List Keyword).length + (if ([] : List Keyword).isEmpty then 0 else 1) < 30)) = true := by rfl)
    (hline : (apos.endLine == pos.line) = true := by rfl) (hs : starEach (e :: []) X.env = (false, eval e X.env) :: starEach [] X.env := by rfl) (hplain : (backTo pos (starEach [] X.env)).any (·.1) = false := by rfl) :
    DE X W .fz (.Call (.Attribute o "index" apos) [e] [] pos) (dIdx t u) := by
  obtain ⟨te1, p1, s1⟩ := ho.ok
  obtain ⟨te2, p2, s2⟩ := he.ok
  refine ⟨_, pe_bm PySem.F.plainAttrs_list PySem.F.slot_list_index PySem.F.type_list_index (mt_idxS hu) p1 (pa_cons p2 pa_nil hs) hbase hfew hline hs hplain, fun b F H σ ρ Q P Z R z q k => s1 b F H σ ρ _ _ Z R z q fun x v F1 H1 q1 g1 r1 _ => ?_⟩
  obtain ⟨ds, rfl, q1⟩ := q1
  have g0 := R.g.trans g1
  obtain ⟨a, xs, rfl, sq, dq⟩ := vr_lst g0.s (r1.rd h1 g0)
  refine ⟨.inl ⟨rfl, _, sq⟩, s2 b F1 H1 σ ρ _ _ Z (R.grow g1) (z.mono g1.f) q1 fun y w F2 H2 q2 g2 r2 _ => ?_⟩
  obtain ⟨sy, sds, j, zz, a1, a2, a3, p⟩ := q2
  have gg := R.g.trans (g1.trans g2)
  have fl := (shpA (shp_ok 8) ds sds).2.2
  exact ⟨a, w, y, ds, j, zz, rfl, rfl, .lst (seqE g2.h sq) ((dq.mono g2.f).dp gg.s fl), VR.dp gg.s (r2.rd h2 gg) (shp_ok 8 _ sy).2.2, sy, sds, a1, a2, a3, k _ _ F2 H2 p (g1.trans g2) (Dq.int _) trivial⟩
def cntR (ds : List D) (y : D) (P : D → Prop) : Prop := Shp 8 y ∧ (∀ z ∈ ds, Shp 8 z) ∧ P (.int ((ds.countP fun z => PyData.eqv z y : Nat)))
def dCnt (t u : DT) : DT := fun ρ P Z => t ρ (fun x => ∃ ds, x = .list ds ∧ u ρ (fun y => cntR ds y P) Z) Z
theorem de_cnt {m1 m2 : Md} {o e : Expr} {t u : DT} {apos : Pos} (hu : X.A.units + 64 < cLine) (ho : DE X W m1 o t) (he : DE X W m2 e u) (h1 : m1.sh = true := by rfl) (h2 : m2.sh = true := by rfl)
    (hbase : attributeBase o "count" X.env (eval o X.env) = eval o X.env := by rfl)
    (hfew : ((backTo pos (starEach (e :: []) X.env)).all (fun x => !x.1) && (backToKw pos (keywordEach [] X.env)).all (fun x => x.1.isSome)
      && decide ((e :: []).length + ([] : List Keyword).length + (if ([] : List Keyword).isEmpty then 0 else 1) < 30)) = true := by rfl)
    (hline : (apos.endLine == pos.line) = true := by rfl) (hs : starEach (e :: []) X.env = (false, eval e X.env) :: starEach [] X.env := by rfl) (hplain : (backTo pos (starEach [] X.env)).any (·.1) = false := by rfl) :
    DE X W .fz (.Call (.Attribute o "count" apos) [e] [] pos) (dCnt t u) := by
  obtain ⟨te1, p1, s1⟩ := ho.ok
  obtain ⟨te2, p2, s2⟩ := he.ok
  refine ⟨_, pe_bm PySem.F.plainAttrs_list PySem.F.slot_list_count PySem.F.type_list_count (mt_cntS hu) p1 (pa_cons p2 pa_nil hs) hbase hfew hline hs hplain, fun b F H σ ρ Q P Z R z q k => s1 b F H σ ρ _ _ Z R z q fun x v F1 H1 q1 g1 r1 _ => ?_⟩
  obtain ⟨ds, rfl, q1⟩ := q1
  have g0 := R.g.trans g1
  obtain ⟨a, xs, rfl, sq, dq⟩ := vr_lst g0.s (r1.rd h1 g0)
  refine ⟨.inl ⟨rfl, _, sq⟩, s2 b F1 H1 σ ρ _ _ Z (R.grow g1) (z.mono g1.f) q1 fun y w F2 H2 q2 g2 r2 _ => ?_⟩
  obtain ⟨sy, sds, p⟩ := q2
  have gg := R.g.trans (g1.trans g2)
  have fl := (shpA (shp_ok 8) ds sds).2.2
  exact ⟨a, w, y, ds, rfl, rfl, .lst (seqE g2.h sq) ((dq.mono g2.f).dp gg.s fl), VR.dp gg.s (r2.rd h2 gg) (shp_ok 8 _ sy).2.2, sy, sds, k _ _ F2 H2 p (g1.trans g2) (Dq.int _) trivial⟩
/-! ### all -/
def allR : List D → (D → Prop) → Prop := fun ds P => ∃ bs : List Bool, ds = [.list (bs.map .bool)] ∧ P (.bool (bs.all id))
theorem dq_bls {F : Hp} : ∀ {bs : List Bool} {vs : List V}, DqA F vs (bs.map .bool) → vs = bs.map V.bl
  | [], _, h => by cases h; rfl
  | b :: bs, _, h => by
    cases h with
    | cons a q =>
      cases a
      rw [dq_bls q]
      rfl
theorem ra_all {K : PySem.W.Frag} (hsh : m.sh = true := by rfl) : RAok K [m] .fz (rAll K) allR := fun b F H xs ds Q P g0 r h k => by
  obtain ⟨bs, rfl, p⟩ := h
  obtain ⟨v, rfl, r1⟩ := vrs1 (ms := []) r
  obtain ⟨a, xs, rfl, sq, dq⟩ := vr_lst g0.s (r1.rd hsh g0)
  rw [dq_bls dq] at sq
  exact ⟨a, bs, rfl, sq, k _ _ F H p (.refl g0) (Dq.bl _) trivial⟩
end
end DL
set_option maxRecDepth 100000
set_option maxHeartbeats 4000000
/-! DMZ: zip of two lists (or of two tuples). -/
namespace DL
open PySem PySem.Spec PyProof.Rows L2
/-- the items of two rows side by side -/
def zipD (xs ys : List D) : List D := List.zipWith (fun x y => .tuple [x, y]) xs ys
theorem zipD_get {xs ys : List D} {i : Nat} {d : D} (h : (zipD xs ys)[i]? = some d) : ∃ x y, xs[i]? = some x ∧ ys[i]? = some y ∧ d = .tuple [x, y] := by
  unfold zipD at h
  rw [List.getElem?_zipWith] at h
  revert h
  cases hx : xs[i]? with
  | none => intro h; cases h
  | some x =>
    cases hy : ys[i]? with
    | none => intro h; cases h
    | some y =>
      intro h
      cases h
      exact ⟨x, y, rfl, rfl, rfl⟩
theorem zipD_len {xs ys : List D} : (zipD xs ys).length = min xs.length ys.length := by unfold zipD; rw [List.length_zipWith]
theorem itz_ok {c : Bool} {K : PySem.W.Frag} {b : B} {F0 H0 : Hp} {a a2 : Addr} {ds ds2 : List D} (get : ∀ F H, Same F0 F → Grow b.T b.F b.H F H → (c = true → Ext b.T H0 H) → ∃ xs, SqL K H a xs ∧ DqA F xs ds)
    (get2 : ∀ F H, Same F0 F → Grow b.T b.F b.H F H → (c = true → Ext b.T H0 H) → ∃ xs, SqL K H a2 xs ∧ DqA F xs ds2) : ItOk c b F0 H0 (Itz K a a2) (zipD ds ds2) := by
  refine ⟨fun i F H hi s g hc => ?_, fun F H s g hc => ?_, fun i F H x H' d hd s g hc y => ?_⟩
  · obtain ⟨xs, q, dq⟩ := get F H s g hc
    obtain ⟨ys, q2, dq2⟩ := get2 F H s g hc
    rw [zipD_len] at hi
    have hx : i < xs.length := by rw [dq.length]; omega
    have hy : i < ys.length := by rw [dq2.length]; omega
    exact ⟨xs, ys, xs[i], ys[i], q, q2, List.getElem?_eq_getElem hx, List.getElem?_eq_getElem hy⟩
  · obtain ⟨xs, q, dq⟩ := get F H s g hc
    obtain ⟨ys, q2, dq2⟩ := get2 F H s g hc
    refine ⟨xs, ys, q, q2, ?_⟩
    rw [dq.length, dq2.length, zipD_len]
    omega
  · obtain ⟨xs, q, dq⟩ := get F H s g hc
    obtain ⟨ys, q2, dq2⟩ := get2 F H s g hc
    obtain ⟨T, w, w2, rfl, nT, rfl, y, y2⟩ := y
    obtain ⟨d1, d2, h1, h2, rfl⟩ := zipD_get hd
    obtain ⟨d1', e1, h1'⟩ := dq.get' (y xs q)
    obtain ⟨d2', e2, h2'⟩ := dq2.get' (y2 ys q2)
    rw [h1] at e1
    rw [h2] at e2
    cases e1
    cases e2
    have g2 := Grow.new g (HO.tup [w, w2]) nT
    exact ⟨_, g2, .tup upd_same (.cons (h1'.mono g2.f) (.cons (h2'.mono g2.f) .nil))⟩
/-- a list at a and a tuple at b, side by side -/
def ItzM (K : PySem.W.Frag) (a b : Addr) : It :=
  ⟨fun i H => ∃ (la lb : List V) (p q : V), SqL K H a la ∧ SqT K H b lb ∧ la[i]? = some p ∧ lb[i]? = some q,
    fun i H v H' => ∃ T p q, v = .ref T ∧ H T = none ∧ H' = upd H T (.tup [p, q]) ∧ (∀ la, SqL K H a la → la[i]? = some p) ∧ (∀ lb, SqT K H b lb → lb[i]? = some q),
    fun i H => ∃ la lb : List V, SqL K H a la ∧ SqT K H b lb ∧ i ≤ la.length ∧ i ≤ lb.length ∧ (i = la.length ∨ i = lb.length)⟩
abbrev ZMSt (z TI TO i1 i2 a b : Addr) (i : Nat) (h : Heap) : Prop := IsZip h z TI TO .none ∧ IsTupOf2 h TI (.ref i1) (.ref i2) ∧ (∃ p q, IsTupOf2 h TO p q) ∧ h.IsListIter i1 a i ∧ h.IsTupleIter i2 b i
theorem five {c z TI TO i1 i2 : Addr} (h : c ∈ [z, TI, TO, i1, i2]) : c = z ∨ c = TI ∨ c = TO ∨ c = i1 ∨ c = i2 := by simpa using h
theorem turn_zipM {P : Program} {w : World} {K : PySem.W.Frag} {elts : List Expr} {kk : Nat} {tpos : Pos} {a b z TI TO i1 i2 : Addr} (S : ZipSep2 z TI TO i1 i2 [i1, a] [i2, b]) (n1 : a ≠ i1) (n2 : b ≠ i2) :
    Turn P w K (.Tuple elts kk tpos) (ItzM K a b) [z, TI, TO, i1, i2] z (ZMSt z TI TO i1 i2 a b) where
  mem := by simp
  obj := fun i h st c hc => by
    obtain ⟨hz, hTI, ⟨p, q, hTO⟩, ⟨ob1, e1, -, d1⟩, ⟨ob2, e2, -, d2⟩⟩ := st
    rcases five hc with r | r | r | r | r <;> subst r
    · exact ⟨_, hz, fun v n => nomatch n⟩
    · exact ⟨_, hTI, fun v n => nomatch n⟩
    · exact ⟨_, hTO, fun v n => nomatch n⟩
    · refine ⟨ob1, e1, fun v n => ?_⟩
      rw [d1] at n
      cases n
    · refine ⟨ob2, e2, fun v n => ?_⟩
      rw [d2] at n
      cases n
  keep := fun i h h' st k => by
    obtain ⟨hz, hTI, ⟨p, q, hTO⟩, hi1, hi2⟩ := st
    refine ⟨k z (by simp) _ hz, k TI (by simp) _ hTI, ⟨p, q, k TO (by simp) _ hTO⟩, ?_, ?_⟩
    · exact hi1.at fun o n => k i1 (by simp) o n
    · exact hi2.at fun o n => k i2 (by simp) o n
  item := by
    intro X hP hw hK hc i pins s σ H E I hf st hg
    subst hP hw hK
    obtain ⟨hz, hTI, ⟨p0, q0, hTO⟩, hi1, hi2⟩ := st
    obtain ⟨la, lb, p, q, qa, qb, ga, gb⟩ := hg
    obtain ⟨va, ra, pa, _⟩ := I.list qa
    obtain ⟨vb, rb, pb, _⟩ := I.tuple qb
    obtain ⟨u, hu, ru⟩ := ra.get ga
    obtain ⟨u2, hu2, ru2⟩ := rb.get gb
    have hzl : z < s.heap.objs.size := Heap.lt_size hz
    have hd : X.A.in1.handled = none := I.ok.hd hc
    refine wpAny_pyNext_zipD2_item (A := X.A) S (Draws.list hd i1 a n1 va.toArray) (Draws.tuple hd i2 b n2 vb.toArray) hz hTI hTO ⟨hi1, pa.isList⟩ ⟨hi2, isTuple_of pb⟩ (by rw [List.size_toArray]; exact (List.getElem?_eq_some_iff.mp hu).1) (by rw [List.size_toArray]; exact (List.getElem?_eq_some_iff.mp hu2).1) fun x1 x2 h' tk y1 y2 z' TO' st1 st2 hT hsz hk => ?_
    have e1 : x1 = u := by
      have t : va.toArray[i]? = some x1 := y1
      rw [List.getElem?_toArray, hu] at t
      exact (Option.some.inj t).symm
    have e2 : x2 = u2 := by
      have t : vb.toArray[i]? = some x2 := y2
      rw [List.getElem?_toArray, hu2] at t
      exact (Option.some.inj t).symm
    subst e1 e2
    refine ⟨_, rfl, wpAny_letOwnedTupleGo_zip (s := { s with heap := h', toks := tk }) z' fun h'' z'' sb => ?_⟩
    have hT2 : h''.get? s.heap.objs.size = some { cls := .type "tuple", data := .seq #[x1, x2] } := (sb.2 _ (Nat.ne_of_gt hzl)).trans hT
    have new : ObjOk X.prog X.w (upd H s.heap.objs.size (.tup [p, q])) h'' s.heap.objs.size (.tup [p, q]) :=
      ⟨by show 2 ≤ sizeLine; decide, [x1, x2], .cons ru (.cons ru2 .nil), ⟨_, hT2, rfl, _, rfl⟩⟩
    have ne5 : ∀ {c : Addr}, c ∉ [z, TI, TO, i1, i2] → c ≠ z ∧ c ≠ TI ∧ c ≠ TO ∧ c ≠ i1 ∧ c ≠ i2 := fun hb => by simpa using hb
    have I1 : Inv X pins σ (upd H s.heap.objs.size (.tup [p, q])) { s with heap := h'', toks := tk } :=
      I.turnedNew (t' := tk) (ch := [z, TI, TO, i1, i2]) (fun c o hb n => by
        obtain ⟨c1, c2, c3, c4, c5⟩ := ne5 hb
        exact (sb.2 c c1).trans (hk c o c1 c3 c4 c5 n)) hf (Nat.le_refl _) new
    refine ⟨.ref s.heap.objs.size, _, I1, rfl, ⟨_, p, q, rfl, I.hok.fresh (Nat.le_refl _), rfl, fun l hl => ?_, fun l hl => ?_⟩, ⟨z'', ?_, ⟨x1, x2, ?_⟩, ?_, ?_⟩, fun c hcm => ?_⟩
    · rw [I.list_inj hl qa]
      exact ga
    · rw [I.tuple_inj hl qb]
      exact gb
    · exact (sb.2 _ S.TIz).trans (hk _ _ S.TIz S.TITO S.TIi1 S.TIi2 hTI)
    · exact (sb.2 _ S.TOz).trans TO'
    · exact st1.1.at fun o n => (sb.2 _ (Ne.symm S.zi1)).trans n
    · exact st2.1.at fun o n => (sb.2 _ (Ne.symm S.zi2)).trans n
    · have hlt : c < s.heap.objs.size := by
        rcases five hcm with r | r | r | r | r <;> subst r
        · exact hzl
        · exact Heap.lt_size hTI
        · exact Heap.lt_size hTO
        · obtain ⟨_, t, _⟩ := hi1
          exact Heap.lt_size t
        · obtain ⟨_, t, _⟩ := hi2
          exact Heap.lt_size t
      rw [upd_ne (Nat.ne_of_lt hlt)]
      exact (hf c hcm).1
  done := by
    intro X hP hw hK hc i pins s σ H E I hf st hg
    subst hP hw hK
    obtain ⟨hz, hTI, ⟨p0, q0, hTO⟩, hi1, hi2⟩ := st
    obtain ⟨la, lb, qa, qb, l1, l2, l3⟩ := hg
    obtain ⟨va, ra, pa, _⟩ := I.list qa
    obtain ⟨vb, rb, pb, _⟩ := I.tuple qb
    have w1 := ra.length
    have w2 := rb.length
    have hd : X.A.in1.handled = none := I.ok.hd hc
    have ne5 : ∀ {c : Addr}, c ∉ [z, TI, TO, i1, i2] → c ≠ z ∧ c ≠ TI ∧ c ≠ TO ∧ c ≠ i1 ∧ c ≠ i2 := fun hb => by simpa using hb
    refine wpAny_pyNext_zipD2_end (A := X.A) S (Draws.list hd i1 a n1 va.toArray) (Draws.tuple hd i2 b n2 vb.toArray) hz hTI hTO ⟨hi1, pa.isList⟩ ⟨hi2, isTuple_of pb⟩ (by rw [List.size_toArray]; omega) (by rw [List.size_toArray]; omega) (by rw [List.size_toArray, List.size_toArray]; omega) fun h' tk hk => ⟨rfl, I.turnedL (t' := tk) (ch := [z, TI, TO, i1, i2]) (fun c o hb n => by
      obtain ⟨c1, c2, c3, c4, c5⟩ := ne5 hb
      exact hk c o c1 c3 c4 c5 n) hf⟩
  self := fun A i s Q E st h => wpAny_pyIter_zip st.1 h
def iZipM (K : PySem.W.Frag) (ta : TA) : TI := fun σ H R => ta σ H fun vs H1 => ∃ a b la lb, vs = [.ref a, .ref b] ∧ SqL K H1 a la ∧ ((SqL K H1 b lb ∧ R (Itz K a b) H1) ∨ (SqT K H1 b lb ∧ R (ItzM K a b) H1))
theorem pi_zipM {X : Cx} {e e2 : Expr} {ta : TA} {p pos tpos : Pos} {elts : List Expr} {kk : Nat} (hg : Gl X "zip") (hm : X.mg "zip" = none) (ha : PA X [e, e2] ta)
    (hs : starEach [e, e2] X.env = (false, eval e X.env) :: starEach [e2] X.env := by rfl) (hpl : (backTo pos (starEach [e2] X.env)).any (·.1) = false := by rfl) :
    PI X (.Tuple elts kk tpos) (.Call (.Name "zip" p) [e, e2] [] pos) (iZipM X.K ta) := by
  refine ⟨fun pins s σ H R I h => ?_⟩
  refine Call_ (ld_blt I hg hm PyProof.Rows.boot_zip (PyProof.Rows.callWith_type1 (thn (ha.run pos pins s σ H _ I h) fun us s1 ⟨vs, H1, I1, r1, q1⟩ => ?_) hs hpl))
  obtain ⟨a, b, la, lb, ex, qa, q1⟩ := q1
  subst ex
  cases r1 with
  | cons r rr =>
    cases rr with
    | cons r2 rr =>
      cases rr
      cases r
      cases r2
      generalize hN : s1.heap.objs.size = N at *
      have five_fresh : ∀ c ∈ [N + 4, N + 2, N + 3, N, N + 1], FpOk X pins H1 c := fun c hcm => by
        have hle : s1.heap.objs.size ≤ c := by
          have e' : c = N + 4 ∨ c = N + 2 ∨ c = N + 3 ∨ c = N ∨ c = N + 1 := by simpa using hcm
          rw [hN]
          rcases e' with t | t | t | t | t <;> rw [t] <;> first | exact Nat.le_refl _ | exact Nat.le_add_right _ _
        exact I1.fpOk hle (I1.hok.fresh hle)
      obtain ⟨va, ra, pa, _⟩ := I1.list qa
      have lta : a < N := by rw [← hN]; exact pa.lt
      rcases q1 with ⟨qb, q⟩ | ⟨qb, q⟩
      · obtain ⟨vb, rb, pb, _⟩ := I1.list qb
        refine call_zip_2 pa.isList pb.isList fun h' hz hTI hTO hi1 hi2 hsz hk => ?_
        rw [hN] at hz hTI hTO hi1 hi2 ⊢
        refine wpAny_pyIter_zip hz ?_
        have I2 : Inv X pins σ H1 { s1 with heap := h' } := I1.kept (t' := s1.toks) hk
        exact ⟨N + 4, [N + 4, N + 2, N + 3, N, N + 1], _, _, H1, rfl, I2, turn_zip (PySem.W.ktu_apart N a b lta (by rw [← hN]; exact pb.lt)), ⟨hz, hTI, ⟨_, _, hTO⟩, hi1, hi2⟩, five_fresh, q⟩
      · obtain ⟨vb, rb, pb, _⟩ := I1.tuple qb
        obtain ⟨ob, hob, _⟩ := id pb
        have ltb : b < N := by rw [← hN]; exact Heap.lt_size hob
        refine zip_begins2 (begins_list a va.toArray) (begins_tuple b vb.toArray) pa.isList (isTuple_of pb) fun h' hz hTI hTO hi1 hi2 hsz hk => ?_
        rw [hN] at hz hTI hTO hi1 hi2 ⊢
        refine wpAny_pyIter_zip hz ?_
        have I2 : Inv X pins σ H1 { s1 with heap := h' } := I1.kept (t' := s1.toks) hk
        exact ⟨N + 4, [N + 4, N + 2, N + 3, N, N + 1], _, _, H1, rfl, I2, turn_zipM (zip_sep2 (fp1 := [a]) (fp2 := [b]) (by simpa using lta) (by simpa using ltb)) (Nat.ne_of_lt lta) (Nat.ne_of_lt (Nat.lt_succ_of_lt ltb)), ⟨hz, hTI, ⟨_, _, hTO⟩, ⟨_, hi1, rfl, rfl⟩, ⟨_, hi2, rfl, rfl⟩⟩, five_fresh, q⟩
theorem itzM_ok {c : Bool} {K : PySem.W.Frag} {b : B} {F0 H0 : Hp} {a a2 : Addr} {ds ds2 : List D} (get : ∀ F H, Same F0 F → Grow b.T b.F b.H F H → (c = true → Ext b.T H0 H) → ∃ xs, SqL K H a xs ∧ DqA F xs ds)
    (get2 : ∀ F H, Same F0 F → Grow b.T b.F b.H F H → (c = true → Ext b.T H0 H) → ∃ xs, SqT K H a2 xs ∧ DqA F xs ds2) : ItOk c b F0 H0 (ItzM K a a2) (zipD ds ds2) := by
  refine ⟨fun i F H hi s g hc => ?_, fun F H s g hc => ?_, fun i F H x H' d hd s g hc y => ?_⟩
  · obtain ⟨xs, q, dq⟩ := get F H s g hc
    obtain ⟨ys, q2, dq2⟩ := get2 F H s g hc
    rw [zipD_len] at hi
    have hx : i < xs.length := by rw [dq.length]; omega
    have hy : i < ys.length := by rw [dq2.length]; omega
    exact ⟨xs, ys, xs[i], ys[i], q, q2, List.getElem?_eq_getElem hx, List.getElem?_eq_getElem hy⟩
  · obtain ⟨xs, q, dq⟩ := get F H s g hc
    obtain ⟨ys, q2, dq2⟩ := get2 F H s g hc
    refine ⟨xs, ys, q, q2, ?_⟩
    rw [dq.length, dq2.length, zipD_len]
    omega
  · obtain ⟨xs, q, dq⟩ := get F H s g hc
    obtain ⟨ys, q2, dq2⟩ := get2 F H s g hc
    obtain ⟨T, w, w2, rfl, nT, rfl, y, y2⟩ := y
    obtain ⟨d1, d2, h1, h2, rfl⟩ := zipD_get hd
    obtain ⟨d1', e1, h1'⟩ := dq.get' (y xs q)
    obtain ⟨d2', e2, h2'⟩ := dq2.get' (y2 ys q2)
    rw [h1] at e1
    rw [h2] at e2
    cases e1
    cases e2
    have g2 := Grow.new g (HO.tup [w, w2]) nT
    exact ⟨_, g2, .tup upd_same (.cons (h1'.mono g2.f) (.cons (h2'.mono g2.f) .nil))⟩
def dZip (ta : DTa) : DTi := fun ρ P Z => ta ρ (fun ds => ∃ xs ys d2, ds = [.list xs, d2] ∧ (d2 = .list ys ∨ d2 = .tuple ys) ∧ P (zipD xs ys)) Z
theorem di_zip {X : Cx} {W : WT} {c : Bool} {m m2 : Md} {elts : List Expr} {kk : Nat} {tpos p pos : Pos} {e e2 : Expr} {ta : DTa} (hm : X.mg "zip" = none) (ha : DA X W [m, m2] [e, e2] ta) (hw : Wkb c m := by first | exact .inl rfl | exact .inr ⟨rfl, rfl⟩) (hw2 : Wkb c m2 := by first | exact .inl rfl | exact .inr ⟨rfl, rfl⟩) (hg : Gl X "zip" := by rfl)
    (hs : starEach [e, e2] X.env = (false, eval e X.env) :: starEach [e2] X.env := by rfl) (hpl : (backTo pos (starEach [e2] X.env)).any (·.1) = false := by rfl) : DI X W c (.Tuple elts kk tpos) (.Call (.Name "zip" p) [e, e2] [] pos) (dZip ta) := by
  obtain ⟨te, p, s⟩ := ha.ok
  refine ⟨_, pi_zipM hg hm p hs hpl, fun b F H σ ρ R P Z R1 z q k => s b F H σ ρ _ _ Z R1 z q fun ds vs F' H' p g r => ?_⟩
  obtain ⟨xs, ys, d2, rfl, hd2, p⟩ := p
  cases r with
  | cons r rr =>
    cases rr with
    | cons r2 rr =>
      cases rr
      have g0 := R1.g.trans g
      have w := wk_vr hw r
      have w2 := wk_vr hw2 r2
      obtain ⟨a, vs, e, q, dq⟩ := vr_lst g0.s (w F' H' (Same.refl _) g0 fun _ => Ext.refl _)
      rcases hd2 with rfl | rfl
      · obtain ⟨a2, vs2, e2, q2, dq2⟩ := vr_lst g0.s (w2 F' H' (Same.refl _) g0 fun _ => Ext.refl _)
        exact ⟨a, a2, vs, vs2, by rw [e, e2], q, .inl ⟨q2, k _ _ F' H' p g (itz_ok (getL w e) (getL w2 e2))⟩⟩
      · obtain ⟨a2, vs2, e2, q2, dq2⟩ := vr_tup g0.s (w2 F' H' (Same.refl _) g0 fun _ => Ext.refl _)
        exact ⟨a, a2, vs, vs2, by rw [e, e2], q, .inr ⟨q2, k _ _ F' H' p g (itzM_ok (getL w e) (getT w2 e2))⟩⟩
theorem e_zip {ta : DTa} {ρ : List Sl} {Pi : List D → Prop} {Z : Zs} : dZip ta ρ Pi Z ↔ ta ρ (fun ds => ∃ xs ys d2, ds = [.list xs, d2] ∧ (d2 = .list ys ∨ d2 = .tuple ys) ∧ Pi (zipD xs ys)) Z := Iff.rfl
end DL
set_option maxRecDepth 100000
set_option maxHeartbeats 4000000
/-! DMP: x.pop(k) of a list, as a statement, and within what is put to its end. -/
namespace DL
open PySem PySem.Spec PyProof.Rows L2
abbrev DTp := List Sl → (D → List Sl → Prop) → Zs → Prop
/-- an expression that changes its root -/
structure DP (X : Cx) (W : WT) (i : Nat) (e : Expr) (t : DTp) : Prop where
  ok : ∃ te : TE, PE X e te ∧ ∀ (b : B) (F H : Hp) (σ : L2.St) (ρ : List Sl) (Q : VK) (P : D → List Sl → Prop) (Z : Zs), Rep X.K b F H σ ρ → ZOk X.mg X.K b F Z W → t ρ P Z →
    (∀ d v F' H' ρ', P d ρ' → Rep X.K b F' H' σ ρ' → Same F F' → Dq F' v d → Q v H') → te σ H Q
section
variable {X : Cx} {W : WT} {rm : Md} {x : Str} {p0 apos cpos pos : Pos} {e : Expr} {t : DT}
def popR (ds : List D) (k : D) (P : D → List D → Prop) : Prop := ∃ (j : Nat) (y : D), k = .int (j : Nat) ∧ j < 2 ^ 62 ∧ ds[j]? = some y ∧ P y (ds.eraseIdx j)
theorem seqIx {j n : Nat} (h : j < n) : seqIndex? (j : Int) n = some j := by
  unfold seqIndex?
  simp
  omega
def dpPop (i : Nat) (t : DT) : DTp := fun ρ P Z => ∃ ds, ρ[i]? = some (.ow (.list ds)) ∧ t ρ (fun k => popR ds k fun y es => P y (ρ.set i (.ow (.list es)))) Z
theorem dp_pop (i : Nat) (hx : PE X (.Name x p0) (tVar i)) (h : DE X W .fz e t)
    (hbase : attributeBase (.Name x p0) "pop" X.env (eval (.Name x p0) X.env) = eval (.Name x p0) X.env := by rfl)
    (hfew : ((backTo cpos (starEach (e :: []) X.env)).all (fun x => !x.1) && (backToKw cpos (keywordEach [] X.env)).all (fun x => x.1.isSome)
      && decide ((e :: []).length + ([] : List Keyword).length + (if ([] : List Keyword).isEmpty then 0 else 1) < 30)) = true := by rfl)
    (hline : (apos.endLine == cpos.line) = true := by rfl) (hs : starEach (e :: []) X.env = (false, eval e X.env) :: starEach [] X.env := by rfl) (hplain : (backTo cpos (starEach [] X.env)).any (·.1) = false := by rfl) :
    DP X W i (.Call (.Attribute (.Name x p0) "pop" apos) [e] [] cpos) (dpPop i t) := by
  obtain ⟨te, p, s⟩ := h.ok
  refine ⟨_, pe_bm PySem.F.plainAttrs_list PySem.F.slot_list_pop PySem.F.type_list_pop mt_popAt hx (pa_cons p pa_nil hs) hbase hfew hline hs hplain, fun b F H σ ρ Q P Z R z q k => ?_⟩
  obtain ⟨ds, e1, q⟩ := q
  obtain ⟨a, es, n, n2, xs, hH, hq⟩ := R.ow e1 rfl
  refine ⟨.ref a, es, .inl ⟨rfl, _, SqL.of hH⟩, s b F H σ ρ _ _ Z R z q fun y v F1 H1 p1 g r f => ?_⟩
  obtain ⟨j, w, rfl, hj, hw, p1⟩ := p1
  cases r
  have hq1 := hq.mono g.f
  obtain ⟨u, hu, ru⟩ := hq1.get hw
  refine ⟨a, xs, (j : Nat), j, u, rfl, rfl, g.h.ap hH, by omega, by omega, seqIx (List.getElem?_eq_some_iff.mp hu).1, hu, ?_⟩
  exact k _ _ F1 _ _ p1 ((R.grow g).write e1 es (own_mkL upd_same (hq1.eraseIdx j))) g.f ru
def dPopS (i : Nat) (t : DT) : DS := fun d Z ρ => dpPop i t ρ (fun _ ρ' => d.nx ρ') Z
theorem ds_popS {i : Nat} (h : DP X W i e (dpPop i t)) (hs0 : swapsWith e none pos.line X.env = pure false := by rfl) : DS1 X W rm (.Expr e pos) (dPopS i t) := by
  obtain ⟨te, p, s⟩ := h.ok
  refine ⟨_, ps_expr p hs0, fun b F H σ ρ D d Z R z q c => s b F H σ ρ _ _ Z R z q fun y v F1 H1 ρ1 p1 R1 g r => ?_⟩
  exact c.nx _ F1 _ σ g R1 p1
def dAppP (i : Nat) (tp : DTp) : DS := fun d Z ρ => ∃ ds0, ρ[i]? = some (.ow (.list ds0)) ∧ tp ρ (fun y ρ' => ∃ ds, ρ'[i]? = some (.ow (.list ds)) ∧ ds.length ≤ 100000 ∧ d.nx (ρ'.set i (.ow (.list (ds ++ [y]))))) Z
theorem ds_appP {tp : DTp} (i : Nat) (hx : PE X (.Name x p0) (tVar i)) (h : DP X W i e tp) (hs0 : swapsWith (.Call (.Attribute (.Name x p0) "append" apos) [e] [] cpos) none pos.line X.env = pure false := by rfl)
    (hbase : attributeBase (.Name x p0) "append" X.env (eval (.Name x p0) X.env) = eval (.Name x p0) X.env := by rfl)
    (hfew : ((backTo cpos (starEach (e :: []) X.env)).all (fun x => !x.1) && (backToKw cpos (keywordEach [] X.env)).all (fun x => x.1.isSome)
      && decide ((e :: []).length + ([] : List Keyword).length + (if ([] : List Keyword).isEmpty then 0 else 1) < 30)) = true := by rfl)
    (hline : (apos.endLine == cpos.line) = true := by rfl) (hs : starEach (e :: []) X.env = (false, eval e X.env) :: starEach [] X.env := by rfl) (hplain : (backTo cpos (starEach [] X.env)).any (·.1) = false := by rfl) :
    DS1 X W rm (.Expr (.Call (.Attribute (.Name x p0) "append" apos) [e] [] cpos) pos) (dAppP i tp) := by
  obtain ⟨te, p, s⟩ := h.ok
  refine ⟨_, ps_expr (pe_bm PySem.F.plainAttrs_list PySem.F.slot_list_append PySem.F.type_list_append mt_append hx (pa_cons p pa_nil hs) hbase hfew hline hs hplain) hs0, fun b F H σ ρ D d Z R z q c => ?_⟩
  obtain ⟨ds, e1, q⟩ := q
  obtain ⟨a, es, n, n2, xs, hH, hq⟩ := R.ow e1 rfl
  refine ⟨.ref a, es, .inl ⟨rfl, _, SqL.of hH⟩, s b F H σ ρ _ _ Z R z q fun y v F1 H1 ρ1 p1 R1 g r => ?_⟩
  obtain ⟨ds1, e2, hl, p1⟩ := p1
  obtain ⟨a1, es1, n1, n3, xs1, hH1, hq1⟩ := R1.ow e2 rfl
  rw [es] at es1
  cases es1
  refine ⟨a, xs1, v, rfl, rfl, hH1, by rw [hq1.length]; exact lt5 hl, ?_⟩
  exact c.nx _ F1 _ σ g (R1.write e2 es (own_mkL upd_same (hq1.snoc r))) p1
end
section
variable {i : Nat} {t : DT} {tp : DTp} {d : DEnds} {Z : Zs} {ρ : List Sl}
theorem e_popS : dPopS i t d Z ρ ↔ ∃ ds, ρ[i]? = some (.ow (.list ds)) ∧ t ρ (fun k => popR ds k fun _ es => d.nx (ρ.set i (.ow (.list es)))) Z := Iff.rfl
theorem e_appP : dAppP i (dpPop i t) d Z ρ ↔ ∃ ds0, ρ[i]? = some (.ow (.list ds0)) ∧ ∃ ds, ρ[i]? = some (.ow (.list ds)) ∧ t ρ (fun k => popR ds k fun y es => ∃ ds2, (ρ.set i (.ow (.list es)))[i]? = some (.ow (.list ds2)) ∧ ds2.length ≤ 100000 ∧ d.nx ((ρ.set i (.ow (.list es))).set i (.ow (.list (ds2 ++ [y]))))) Z := Iff.rfl
end
end DL
set_option maxRecDepth 100000
set_option maxHeartbeats 4000000
/-! DMQ: operators over an expression that changes its root. -/
namespace DL
open PySem PySem.Spec PyProof.Rows L2
section
variable {X : Cx} {W : WT}
def d2p (rd : D → D → (D → Prop) → Prop) (tp : DTp) (tb : DT) : DTp := fun ρ P Z => tp ρ (fun x ρ' => tb ρ' (fun y => rd x y (fun z => P z ρ')) Z) Z
theorem dp_op {i : Nat} {op : Operator} {ea eb : Expr} {tp : DTp} {tb : DT} {r : R2} {rd : D → D → (D → Prop) → Prop} {pos : Pos} (ho : OpR X (binaryOp op) r) (hr : R2ok X.K .fz .fz .fz r rd) (ha : DP X W i ea tp) (hb : DE X W .fz eb tb) :
    DP X W i (.BinOp ea op eb pos) (d2p rd tp tb) := by
  obtain ⟨te1, p1, s1⟩ := ha.ok
  obtain ⟨te2, p2, s2⟩ := hb.ok
  refine ⟨_, pe_op ho p1 p2, fun b F H σ ρ Q P Z R z q k => s1 b F H σ ρ _ _ Z R z q fun x v F1 H1 ρ1 p R1 g r1 => s2 b F1 H1 σ ρ1 _ _ Z R1 (z.mono g) p fun y v' F2 H2 p2 g2 r2 _ => ?_⟩
  exact hr b F2 H2 v v' x y Q _ (R1.g.trans g2) (r1.mono g2.f) r2 p2 fun z0 v0 F3 H3 p3 g3 r3 _ => k _ _ F3 H3 ρ1 p3 ((R1.grow g2).grow g3) (g.trans (g2.f.trans g3.f)) r3
theorem e_appQ {i : Nat} {tp : DTp} {d : DEnds} {Z : Zs} {ρ : List Sl} : dAppP i tp d Z ρ ↔ ∃ ds0, ρ[i]? = some (.ow (.list ds0)) ∧ tp ρ (fun y ρ' => ∃ ds, ρ'[i]? = some (.ow (.list ds)) ∧ ds.length ≤ 100000 ∧ d.nx (ρ'.set i (.ow (.list (ds ++ [y]))))) Z := Iff.rfl
theorem e_d2p {rd : D → D → (D → Prop) → Prop} {tp : DTp} {tb : DT} {ρ : List Sl} {P : D → List Sl → Prop} {Z : Zs} : d2p rd tp tb ρ P Z ↔ tp ρ (fun x ρ' => tb ρ' (fun y => rd x y (fun z => P z ρ')) Z) Z := Iff.rfl
theorem e_dpPop {i : Nat} {t : DT} {ρ : List Sl} {P : D → List Sl → Prop} {Z : Zs} : dpPop i t ρ P Z ↔ ∃ ds, ρ[i]? = some (.ow (.list ds)) ∧ t ρ (fun k => popR ds k fun y es => P y (ρ.set i (.ow (.list es)))) Z := Iff.rfl
end
end DL
set_option maxRecDepth 100000
set_option maxHeartbeats 4000000
/-! DMK: a dict by tuples whose values are own lists; locked for good when it goes out; its keys walked. -/
namespace DL
open PySem PySem.Spec PyProof.Rows L2
theorem tr_dT {F H : Hp} {v : V} {kds : List (List Key × D)} {A : List Addr} (t : Tr F H v (dctT kds) A) : ∃ (p : Addr) (A' : List Addr) (kvs : List (List Key × V)), v = .ref p ∧ F p = none ∧ A = p :: A' ∧ p ∉ A' ∧ H p = some (.dT kvs) ∧ kvs.map (·.1) = kds.map (·.1) ∧ Kids F H (kvs.map (·.2)) (kds.map (·.2)) A' := by
  obtain ⟨p, A', e, n, eA, hp, kvs, kds', e1, hH, hk, kd⟩ := t
  have h : kds = kds' := dctT_inj (congrArg PyData.dict e1)
  subst h
  exact ⟨p, A', kvs, e, n, eA, hp, hH, hk, kd⟩
theorem valD_any {κ : Type} [DecidableEq κ] {kds : List (κ × D)} {k : κ} : (valD kds k).isSome = kds.any fun p => decide (p.1 = k) := by
  unfold valD
  rw [Option.isSome_map]
  refine Bool.eq_iff_iff.mpr ?_
  rw [List.find?_isSome, List.any_eq_true]
theorem val_at {κ : Type} [DecidableEq κ] {k : κ} : ∀ {kvs : List (κ × V)} {j : Nat} {v : V}, kvs[j]? = some (k, v) → (∀ m, m < j → ∀ p, kvs[m]? = some p → p.1 ≠ k) → valV kvs k = some v
  | [], _, _, h, _ => by simp at h
  | p :: kvs, 0, v, h, _ => by
    simp only [List.getElem?_cons_zero, Option.some.injEq] at h
    subst h
    exact valV_pos rfl
  | p :: kvs, j + 1, v, h, h2 => by
    rw [valV_neg (h2 0 (by omega) p rfl)]
    exact val_at (by simpa using h) fun m hm q hq => h2 (m + 1) (by omega) q (by simpa using hq)
theorem put_new {κ : Type} [DecidableEq κ] {β : Type} {kvs : List (κ × V)} {kds : List (κ × D)} (h : kvs.map (·.1) = kds.map (·.1)) {k : κ} (hn : valD kds k = none) (v : V) : putK kvs k v = kvs ++ [(k, v)] := by
  unfold putK
  rw [if_neg]
  rw [kd_any h, ← valD_any, hn]
  simp
theorem Grow.lock {T : List (Addr × Str)} {F0 H0 F H : Hp} (g : Grow T F0 H0 F H) {p : Addr} {u : HO} (n : F p = none) (n0 : Nn H0 p) (hH : H p = some u) (iu : IsD u) (o : HO) (hk : ∀ k : List Key, o ≠ .tup (k.map kV) := by intro k z; cases z) (hn : ∀ ps, o ≠ .tbl ps := by intro ps z; cases z) : Grow T F0 H0 (upd F p o) (upd H p o) := by
  refine ⟨g.h.put o n0 (fun w e => by rw [hH] at e; cases e; exact iu), g.f.trans (same_new n), fun a w e => ?_, fun a w e nt => ?_, fun a ps e => ?_, fun a k e => ?_⟩
  · by_cases q : a = p
    · subst q
      rw [upd_same] at e ⊢
      exact e
    · rw [upd_ne q] at e ⊢
      exact g.s a w e
  · rw [upd_ne (nn_ne n0 e nt)]
    exact g.k a w e nt
  · by_cases q : a = p
    · subst q
      rw [upd_same] at e
      exact hn ps (Option.some.inj e)
    · rw [upd_ne q] at e
      exact g.n a ps e
  · by_cases q : a = p
    · subst q
      rw [upd_same] at e
      exact absurd (Option.some.inj e) (hk k)
    · rw [upd_ne q] at e ⊢
      exact g.c a k e
section
variable {X : Cx} {W : WT} {rm : Md} {pos : Pos}
theorem de_dnew2T {pos : Pos} : DE X W .n2 (.Dict [] [] pos) (dC (dctT [])) := ⟨_, pe_dnewT, fun b F H σ ρ Q P Z R z q k a na => by
  have n := R.same.free na
  have t : Tr F (upd H a (.dT [])) (.ref a) (dctT []) [a] := ⟨a, [], rfl, n, rfl, by simp, [], [], rfl, upd_same, rfl, .nil⟩
  refine k _ _ _ _ q (.own R.g (HO.dT []) na) ⟨[a], t⟩ fun A t2 c hc => ?_
  rw [← t.uniq (fun _ _ e _ => e) t2, List.mem_singleton] at hc
  subst hc
  exact nn_of na⟩
/-- k in x, x a dict that is being made -/
def dDInT (neg : Bool) (i : Nat) (tk : DT) : DT := fun ρ P Z => tk ρ (fun y => ∃ v kds ks, ρ[i]? = some (.tr v (dctT kds)) ∧ y = keyT ks ∧ P (.bool ((valD kds ks).isSome ^^ neg))) Z
theorem dt_dinT (i : Nat) {x : Str} {p0 : Pos} {k : Expr} {tk : DT} (hu : X.A.units + 1 < cLine) (hx : PE X (.Name x p0) (tVar i)) (hk : DE X W .fz k tk) (hm : behindInMarks .In (.Name x p0) = false := by rfl) : DEt X W (.Compare k [.In] [.Name x p0] pos) (dB (dDInT false i tk)) := by
  obtain ⟨te, p, s⟩ := hk.ok
  refine ⟨_, pt_cmp (pc_din hu p hx) hm, dcB fun b F H σ ρ Q P Z R z q kk => s b F H σ ρ _ _ Z R z q fun y v F1 H1 p1 g r _ => ?_⟩
  obtain ⟨v0, kds, ks, e, rfl, p1⟩ := p1
  have R1 := R.grow g
  obtain ⟨e1, A, t, _⟩ := R1.sl i _ e
  obtain ⟨a, A', kvs, rfl, n, rfl, hp, hH, hk1, kd⟩ := tr_dT t
  obtain ⟨c, rfl, ec⟩ := keyT_dq r
  refine ⟨_, e1, a, _, rfl, DGet.t hH (R1.g.s _ _ ec), ?_⟩
  rw [← valV_any, kd_any hk1, ← valD_any]
  rw [Bool.xor_false] at p1
  exact kk _ _ F1 H1 p1 g (Dq.bl _) trivial
theorem dt_dnotinT (i : Nat) {x : Str} {p0 : Pos} {k : Expr} {tk : DT} (hu : X.A.units + 1 < cLine) (hx : PE X (.Name x p0) (tVar i)) (hk : DE X W .fz k tk) (hm : behindInMarks .NotIn (.Name x p0) = false := by rfl) : DEt X W (.Compare k [.NotIn] [.Name x p0] pos) (dB (dDInT true i tk)) := by
  obtain ⟨te, p, s⟩ := hk.ok
  refine ⟨_, pt_cmp (pc_dnotin hu p hx) hm, dcB fun b F H σ ρ Q P Z R z q kk => s b F H σ ρ _ _ Z R z q fun y v F1 H1 p1 g r _ => ?_⟩
  obtain ⟨v0, kds, ks, e, rfl, p1⟩ := p1
  have R1 := R.grow g
  obtain ⟨e1, A, t, _⟩ := R1.sl i _ e
  obtain ⟨a, A', kvs, rfl, n, rfl, hp, hH, hk1, kd⟩ := tr_dT t
  obtain ⟨c, rfl, ec⟩ := keyT_dq r
  refine ⟨_, e1, a, _, rfl, DGet.t hH (R1.g.s _ _ ec), ?_⟩
  rw [← valV_any, kd_any hk1, ← valD_any]
  rw [Bool.xor_true] at p1
  exact kk _ _ F1 H1 p1 g (Dq.bl _) trivial
/-- x[k] = e: a new key, e an own root -/
def dPutNT (i : Nat) (tk t : DT) : DS := fun d Z ρ => ∃ v kds, ρ[i]? = some (.tr v (dctT kds)) ∧ kds.length ≤ 100000 ∧ t ρ (fun y => atmB y = false ∧ tk ρ (fun k => ∃ ks, k = keyT ks ∧ valD kds ks = none ∧ d.nx (ρ.set i (.tr v (dctT (kds ++ [(ks, y)]))))) Z) Z
theorem ds_putNT (i : Nat) {x : Str} {p0 tpos : Pos} {k e : Expr} {tk t : DT} (hu : X.A.units + 1 < cLine) (hx : PE X (.Name x p0) (tVar i)) (hk : DE X W .fz k tk) (h : DE X W .nw e t)
    (hs : swapsWith e (some (.Subscript (.Name x p0) k tpos)) pos.line X.env = pure false := by rfl) : DS1 X W rm (.Assign [.Subscript (.Name x p0) k tpos] e pos) (dPutNT i tk t) := by
  obtain ⟨te, p, s⟩ := h.ok
  obtain ⟨tek, pk, sk⟩ := hk.ok
  refine ⟨_, ps_dput hu hx pk p hs, fun b F H σ ρ D d Z R z q c => ?_⟩
  obtain ⟨v0, kds, e1, hl, q⟩ := q
  obtain ⟨es, A, t, nA⟩ := R.sl i _ e1
  refine s b F H σ ρ _ _ Z R z q fun y v F1 H1 p1 g r f => ⟨v0, es, sk b F1 H1 σ ρ _ _ Z (R.grow g) (z.mono g.f) p1.2 fun y2 v2 F2 H2 p2 g2 r2 f2 => ?_⟩
  obtain ⟨ks, rfl, hn, p2⟩ := p2
  obtain ⟨c2, rfl, ec⟩ := keyT_dq r2
  have t2 : Tr F2 H2 v0 (dctT kds) A := (t.grow g).grow g2
  obtain ⟨a, A', kvs, rfl, n, rfl, hp, hH, hk1, kd⟩ := tr_dT t2
  have own : ∃ q1, v = .ref q1 ∧ F2 q1 = none ∧ Own F2 H2 q1 y := by
    rcases VR.grow g2 r with ⟨q1, e, n, o⟩ | r
    · exact ⟨q1, e, n, o⟩
    · have := p1.1
      unfold Atm at r
      cases r <;> first | (simp [atmB] at this; done) | (rename_i z _; cases z) | (rename_i z _ _; cases z)
  obtain ⟨q1, rfl, nq, oq⟩ := own
  have fq : Nn H q1 := f q1 rfl
  have out : ∀ m ∈ a :: A', m ≠ q1 := fun c hc z => by
    obtain ⟨_, u, eu, iu⟩ := t.nn c hc
    obtain ⟨ps, z⟩ := fq u (z ▸ eu)
    exact isD_n iu ps z
  refine ⟨a, _, rfl, DPut.t hH (g2.s _ _ ec) (by rw [kd_len hk1]; exact lt5 hl), ?_⟩
  rw [put_new (β := Unit) hk1 hn]
  refine c.nx _ F2 _ σ (g.f.trans g2.f) (R.chg (q := a) (g.trans g2) e1 fun B s1 s2 => ?_) p2
  have eB : B = a :: A' := s1.2.1.uniq (fun _ _ e _ => e) t
  subst eB
  refine ⟨by simp, a :: (A' ++ [q1]), ⟨es, ⟨a, A' ++ [q1], rfl, n, rfl, ?_, kvs ++ [(ks, .ref q1)], kds ++ [(ks, y)], rfl, upd_same, ?_, ?_⟩, fun m hm => ?_⟩, fun m hm => ?_⟩
  · intro z
    rcases List.mem_append.mp z with z | z
    · exact hp z
    · exact out a (by simp) (by simpa using z)
  · rw [List.map_append, List.map_append, hk1]
    rfl
  · rw [List.map_append, List.map_append]
    refine (kd.mono (Same.refl _) fun m hm => ⟨(kd.nn m hm).1, upd_ne (fun (z : m = a) => hp (by rw [← z]; exact hm))⟩).append (.own nq (oq.mono (Same.refl _) (upd_ne (Ne.symm (out a (by simp))))) .nil (by simp)) fun m hm z => out m (by simp [hm]) (by simpa using z)
  · rcases List.mem_cons.mp hm with rfl | hm
    · exact nA _ (by simp)
    · rcases List.mem_append.mp hm with hm | hm
      · exact nA _ (by simp [hm])
      · rw [List.mem_singleton] at hm
        subst hm
        exact R.g.h.nn fq
  · rcases List.mem_cons.mp hm with rfl | hm
    · exact .inl (by simp)
    · rcases List.mem_append.mp hm with hm | hm
      · exact .inl (by simp [hm])
      · rw [List.mem_singleton] at hm
        subst hm
        exact .inr fq
/-- x[k], a child that is to be changed -/
def dChK (i : Nat) (tk : DT) : DTc := fun ρ P Z => ∃ v kds, ρ[i]? = some (.tr v (dctT kds)) ∧ tk ρ (fun kd => ∃ ks j c, kd = keyT ks ∧ kds[j]? = some (ks, c) ∧ (∀ m, m < j → ∀ p, kds[m]? = some p → p.1 ≠ ks) ∧ atmB c = false ∧ P v (dctT kds) j c) Z
theorem dc_key (i : Nat) {x : Str} {p0 : Pos} {k : Expr} {tk : DT} (hu : X.A.units + 1 < cLine) (hx : PE X (.Name x p0) (tVar i)) (hk : DE X W .fz k tk) (hs : NoSl k) : DCh X W i (.Subscript (.Name x p0) k pos) (dChK i tk) := by
  obtain ⟨te, p, s⟩ := hk.ok
  refine ⟨_, pe_dget hu hx p hs, fun b F H σ ρ Q P Z R z q kk => ?_⟩
  obtain ⟨v, kds, e, q⟩ := q
  refine ⟨v, (R.sl i _ e).1, s b F H σ ρ _ _ Z R z q fun kd kv F1 H1 p1 g r _ => ?_⟩
  obtain ⟨ks, j, c, rfl, hj, hf, ha, p1⟩ := p1
  have R1 := R.grow g
  obtain ⟨_, A, t, _⟩ := R1.sl i _ e
  obtain ⟨a, A', kvs, rfl, n, rfl, hp, hH, hk1, kd⟩ := tr_dT t
  obtain ⟨c2, rfl, ec⟩ := keyT_dq r
  have hc : (kds.map (·.2))[j]? = some c := by rw [List.getElem?_map, hj]; rfl
  obtain ⟨q, h1, h2, h3⟩ := kd.child hc ha
  have hkey : ∀ m : Nat, (kvs[m]?).map Prod.fst = (kds[m]?).map Prod.fst := fun m => by rw [← List.getElem?_map, ← List.getElem?_map, hk1]
  have hkv : kvs[j]? = some (ks, .ref q) := by
    rw [List.getElem?_map] at h1
    obtain ⟨pr, e2, e3⟩ := Option.map_eq_some_iff.mp h1
    have := hkey j
    rw [e2, hj] at this
    have e4 : pr.1 = ks := Option.some.inj this
    rw [e2, ← e3, ← e4]
  have hv : valV kvs ks = some (.ref q) := val_at hkv fun m hm pr e2 => by
    have := hkey m
    rw [e2] at this
    obtain ⟨pd, e3, e4⟩ := Option.map_eq_some_iff.mp this.symm
    rw [← e4]
    exact hf m hm pd e3
  refine ⟨a, .ref q, rfl, ?_, ?_⟩
  · rw [← hv]
    exact DGet.t hH (R1.g.s _ _ ec)
  · refine kk _ _ j c q F1 H1 p1 g e ⟨a, A', kvs.map (·.2), rfl, n, hp, ⟨kvs, kds, rfl, hH, hk1, rfl⟩, ?_, h1, ?_, ha⟩
    · show Kids F1 H1 _ ((kds.map fun p => (keyT p.1, p.2)).map (·.2)) A'
      rw [kids_dict]
      exact kd
    · show ((kds.map fun p => (keyT p.1, p.2)).map (·.2))[j]? = some c
      rw [kids_dict]
      exact hc
theorem setCh_dT {kds : List (List Key × D)} {j : Nat} {ks : List Key} {c0 c : D} (h : kds[j]? = some (ks, c0)) : setCh (dctT kds) j c = dctT (kds.set j (ks, c)) := by
  unfold dctT setCh
  refine congrArg PyData.dict (List.ext_getElem? fun m => ?_)
  rw [List.getElem?_mapIdx, List.getElem?_map, List.getElem?_map, List.getElem?_set]
  by_cases q : j = m
  · subst q
    have hl := (List.getElem?_eq_some_iff.mp h).1
    rw [if_pos rfl, if_pos hl, h]
    simp
  · rw [if_neg q]
    cases kds[m]? with
    | none => rfl
    | some p => simp [Ne.symm q]
/-! ### locked for good -/
def tLockF (t : TE) : TE := fun σ H Q => ∃ d u, H d = some u ∧ Mut (some u) ∧ ∀ od, t σ (upd H d (.frz od u)) Q
theorem pe_lockF {e : Expr} {t : TE} (h : PE X e t) : PE X e (tLockF t) := by
  refine ⟨fun pins s σ H Q I hw => ?_⟩
  obtain ⟨d, u, hd, mu, hw⟩ := hw
  obtain ⟨od, I1⟩ := I.lock hd mu
  exact h.run pins s σ _ Q I1 (hw od)
def dRetL (i : Nat) : DS := fun d _ ρ => ∃ v kds, ρ[i]? = some (.tr v (dctT kds)) ∧ d.rt (lkT kds)
theorem ds_retL (i : Nat) {x : Str} {p0 : Pos} (hN : X.N[i]? = some x := by rfl) (hv : Vis X.env.scope x := by first | exact Or.inl rfl | exact Or.inr (Or.inl rfl) | exact Or.inr (Or.inr rfl)) (hd : (x == ("__debug__" : Str)) = false := by decide)
    (hcd : (x == ("__classdict__" : Str)) = false := by decide) : DS1 X W .fz (.Return (some (.Name x p0)) pos) (dRetL i) := by
  refine ⟨_, ps_ret (pe_lockF (pe_var hN hv hd hcd)), fun b F H σ ρ D d Z R z q c => ?_⟩
  obtain ⟨v, kds, e, p⟩ := q
  obtain ⟨e1, A, t, n⟩ := R.sl i _ e
  obtain ⟨a, A', kvs, rfl, nf, rfl, hp, hH, hk1, kd⟩ := tr_dT t
  refine ⟨a, _, hH, trivial, fun od => ⟨_, e1, ?_⟩⟩
  have hA : ∀ m ∈ A', F m = none ∧ Nn b.H m ∧ ∃ u, H m = some u ∧ IsD u := fun m hm => ⟨(kd.nn m hm).1, n m (by simp [hm]), (kd.nn m hm).2⟩
  have g2 := seal_grow R.g hA
  have nf2 : sealA F H A' a = none := (seal_out hp).trans nf
  have dq : DqA (sealA F H A') (kvs.map (·.2)) (kds.map (·.2)) := kd.seal (seal_same fun m hm => (hA m hm).1) fun m hm => seal_in hm
  exact c.rt _ _ _ _ (g2.lock nf2 (n a (by simp)) hH trivial (.frz od (.dT kvs))) (Dq.dL upd_same hk1 (dq.mono (same_new nf2))) trivial p
/-! ### its keys, walked -/
theorem dqA_keys {F : Hp} : ∀ ks : List Key, DqA F (ks.map kV) (ks.map keyD)
  | [] => .nil
  | .inl i :: ks => .cons (.int i) (dqA_keys ks)
  | .inr x :: ks => .cons (.str x) (dqA_keys ks)
def keysD (kds : List (List Key × D)) : List D := kds.map fun p => keyT p.1
def dKeys (t : DT) : DTi := fun ρ P Z => t ρ (fun x => ∃ kds, x = lkT kds ∧ P (keysD kds)) Z
theorem itkt_ok {c : Bool} {b : B} {F0 H0 : Hp} {a : Addr} {o : Obj} {kvs : List (List Key × V)} {kds : List (List Key × D)} (hF : F0 a = some (.frz o (.dT kvs))) (hk : kvs.map (·.1) = kds.map (·.1)) : ItOk c b F0 H0 (Itkt a o kvs) (keysD kds) := by
  have hl : (keysD kds).length = kvs.length := by rw [keysD, List.length_map, ← kd_len hk]
  refine ⟨fun i F H hi s g hc => ⟨g.s _ _ (s _ _ hF), by rw [← hl]; exact hi⟩, fun F H s g hc => ⟨g.s _ _ (s _ _ hF), by rw [hl]; exact Nat.le_refl _⟩, fun i F H x H' d hd s g hc y => ?_⟩
  obtain ⟨rfl, k, v, q, h1, rfl, h2⟩ := y
  refine ⟨F, .refl g, ?_⟩
  have e : d = keyT k := by
    rw [keysD, List.getElem?_map] at hd
    obtain ⟨pd, e3, e4⟩ := Option.map_eq_some_iff.mp hd
    have : (kvs[i]?).map Prod.fst = (kds[i]?).map Prod.fst := by rw [← List.getElem?_map, ← List.getElem?_map, hk]
    rw [h1, e3] at this
    rw [← e4, ← Option.some.inj this]
  subst e
  exact .tup (g.c _ _ h2) (dqA_keys k)
theorem di_keys {c : Bool} {tg e : Expr} {t : DT} (h : DE X W .fz e t) : DI X W c tg e (dKeys t) := by
  obtain ⟨te, p, s⟩ := h.ok
  refine ⟨_, pi_keys p, fun b F H σ ρ R P Z R1 z q k => s b F H σ ρ _ _ Z R1 z q fun x v F' H' p g r f => ?_⟩
  obtain ⟨kds, rfl, p⟩ := p
  obtain ⟨a, rfl, o⟩ := vr_dict (K := X.K) (b := b) (Same.refl F') (.inl r)
  replace o := o.resolve_left fun z => own_noL z
  obtain ⟨od, kvs, hH, hk, hq⟩ := lk_T o
  exact ⟨a, od, rfl, .inr ⟨kvs, (R1.g.trans g).s _ _ hH, k _ _ F' H' p g (itkt_ok hH hk)⟩⟩
end
section
variable {i : Nat} {t tk : DT} {d : DEnds} {Z : Zs} {ρ : List Sl} {P : D → Prop}
theorem e_dinT {neg : Bool} : dDInT neg i tk ρ P Z ↔ tk ρ (fun y => ∃ v kds ks, ρ[i]? = some (.tr v (dctT kds)) ∧ y = keyT ks ∧ P (.bool ((valD kds ks).isSome ^^ neg))) Z := Iff.rfl
theorem e_putNT : dPutNT i tk t d Z ρ ↔ ∃ v kds, ρ[i]? = some (.tr v (dctT kds)) ∧ kds.length ≤ 100000 ∧ t ρ (fun y => atmB y = false ∧ tk ρ (fun k => ∃ ks, k = keyT ks ∧ valD kds ks = none ∧ d.nx (ρ.set i (.tr v (dctT (kds ++ [(ks, y)]))))) Z) Z := Iff.rfl
theorem e_chK {P : V → D → Nat → D → Prop} : dChK i tk ρ P Z ↔ ∃ v kds, ρ[i]? = some (.tr v (dctT kds)) ∧ tk ρ (fun kd => ∃ ks j c, kd = keyT ks ∧ kds[j]? = some (ks, c) ∧ (∀ m, m < j → ∀ p, kds[m]? = some p → p.1 ≠ ks) ∧ atmB c = false ∧ P v (dctT kds) j c) Z := Iff.rfl
theorem e_retL : dRetL i d Z ρ ↔ ∃ v kds, ρ[i]? = some (.tr v (dctT kds)) ∧ d.rt (lkT kds) := Iff.rfl
theorem e_keys {P : List D → Prop} : dKeys t ρ P Z ↔ t ρ (fun x => ∃ kds, x = lkT kds ∧ P (keysD kds)) Z := Iff.rfl
end
end DL
set_option maxRecDepth 100000
set_option maxHeartbeats 4000000
/-! DMT: sorted of a tuple. -/
namespace DL
open PySem PySem.Calls PySem.Spec PyProof.Rows PyProof.V PySem.W
section
variable {prog : Program} {w : World} {A : Around} {E : Value → Shared → Prop} {s : Shared}
/-- the items of a tuple, gathered -/
theorem collect_tupV {t : Addr} {vs : List Value} {o : Obj} {n : Nat} {Q : List Value → Shared → Prop} (ho : s.heap.get? t = some o) (hc : o.cls = .type "tuple") (hd : o.data = .seq vs.toArray n)
    (h : Q vs { s with heap := (s.heap.push (seqObj "list" #[] 0)).update s.heap.objs.size (Obj.mapSeq (· ++ vs.toArray)) }) (hsz : vs.length ≤ sizeLine) : wpAny (model prog w) A (collect (.ref t)) Q E s := by
  unfold collect
  refine wpAny_bind (wpAny_runValue (codeAny_builtin entry_proto_collect' ?_))
  show wpAny _ _ (do again (.builtin "list.__iadd__" ⟨[← newList [], .ref t], []⟩)) _ _ s
  refine wpAny_bind (wpAny_newList (wpAny_pure ⟨Code.quiet_builtin _ (by decide +kernel), codeAny_builtin entry_list_iadd' ?_⟩))
  show wpAny _ _ (Builtin.List.listExtendWith (.ref s.heap.objs.size) (.ref t) (.ref s.heap.objs.size)) _ _ { s with heap := s.heap.push (seqObj "list" #[] 0) }
  unfold Builtin.List.listExtendWith
  have ho' : (s.heap.push (seqObj "list" #[] 0)).get? t = some o := Heap.get?_push_of_some _ ho
  refine wpAny_bind (wpAny_typeOf (T := "tuple") ⟨o, ho', hc⟩ ?_)
  have ht : (Value.type "tuple" == Value.type "tuple") = true := by rfl
  rw [if_pos (by rw [ht]; simp)]
  refine wpAny_bind (listItems_at ho' hd ?_)
  refine wpAny_bind (listItems_at (xs := #[]) (n := 0) (Heap.get?_push_size _ rfl) rfl ?_)
  rw [if_neg (by simp)]
  refine wpAny_bind (listUpdate_at (xs := #[]) (n := 0) (Heap.get?_push_size _ rfl) rfl ?_ (Nat.zero_le _) (by show (#[] ++ vs.toArray).size ≤ sizeLine + 1; simp only [Array.size_append, List.size_toArray, List.length_nil]; omega))
  refine wpAny_pure ?_
  show wpAny (model prog w) A (do
      let o ← load s.heap.objs.size
      match o.data with
      | .seq xs _ => pure xs.toList
      | _ => unsupported "internal:collect") Q E { s with heap := (s.heap.push (seqObj "list" #[] 0)).update s.heap.objs.size (Obj.mapSeq (· ++ vs.toArray)) }
  refine wpAny_bind (wpAny_load (get?_update_seq (Heap.get?_push_size _ rfl) _) ?_)
  show wpAny _ _ (pure ((#[] : Array Value) ++ vs.toArray).toList) Q E _
  rw [show ((#[] : Array Value) ++ vs.toArray).toList = vs by simp]
  exact wpAny_pure h
/-- .. and laid in order in a new list -/
theorem sorted_tupV {t : Addr} {vs : List Value} {o : Obj} {n : Nat} {Q : Value → Shared → Prop} {κ : PyProof.Rows.KeyKind} (ho : s.heap.get? t = some o) (hc : o.cls = .type "tuple") (hd : o.data = .seq vs.toArray n)
    (S : SortsAt prog w A.in1.in1 { s with heap := sortingHeap (copyHeap s.heap vs) (s.heap.objs.size + 1) vs } κ vs) (hL : vs.length ≤ sizeLine)
    (h : Q (.ref (s.heap.objs.size + 1)) { s with heap := sortedAll s.heap vs (sortVals κ false vs vs).toArray }) : wpAny (model prog w) A (call (.builtin "sorted") [.ref t]) Q E s := by
  refine call_function_entry_kw kind_sorted plain_sorted entry_sorted (args_sorted1 _) ?_
  unfold Builtin.«sorted»
  refine wpAny_bind (m := checkCount "sorted" 1 1 _) (wpAny_pure ?_)
  refine wpAny_bind (collect_tupV ho hc hd ?_ hL)
  refine wpAny_bind (wpAny_newList ?_ hL)
  have hsz : ((s.heap.push (seqObj "list" #[] 0)).update s.heap.objs.size (Obj.mapSeq (· ++ vs.toArray))).objs.size = s.heap.objs.size + 1 := by
    rw [Heap.size_update, size_push']
  show wpAny _ _ _ _ _ { s with heap := copyHeap s.heap vs }
  rw [hsz]
  refine wpAny_bind (wpAny_holding (wpAny_call_entry_kw slot_list_sort ⟨_, copyHeap_at s.heap vs, rfl⟩ entry_list_sort ?body (args_list_sort _)))
  case body =>
    show wpAny (model prog w) A.in1.in1 (Builtin.«list.sort» ⟨[.ref (s.heap.objs.size + 1)], []⟩) _ _ _
    refine wpAny_mono (list_sort_vals (s := { s with heap := copyHeap s.heap vs }) (P := fun f s' => f = .done (.ret .none) ∧ Q (.ref (s.heap.objs.size + 1)) s') (copyHeap_at s.heap vs) S hL ⟨rfl, h⟩) (fun f s' hf => ?_) fun _ _ e => e
    obtain ⟨rfl, hq⟩ := hf
    exact ⟨_, rfl, wpAny_pure ⟨_, rfl, hq⟩⟩
/-- .. of data -/
theorem sorted_tupD {β : Type} {bs : List β} {enc : β → PyData} {R : Value → β → Prop} {t : Addr} {vs : List Value} {o : Obj} {n : Nat} {Q : Value → Shared → Prop} (ho : s.heap.get? t = some o) (hc : o.cls = .type "tuple") (hd : o.data = .seq vs.toArray n)
    (e : EachIs R vs bs) (er : EachIs (fun v b => ∃ as, Reads s.heap v (enc b) as) vs bs) (hal : AllAlike (bs.map enc)) (hk : Sortable (bs.map enc)) (hL : bs.length ≤ sizeLine)
    (hu : ∀ b, b ∈ bs → A.units + 2 + (enc b).depth < cLine) (h : ∀ out, out.length = bs.length → EachIs R out (bs.mergeSort (dataLe false enc)) → Q (.ref (s.heap.objs.size + 1)) { s with heap := sortedAll s.heap vs (List.toArray out) }) :
    wpAny (model prog w) A (call (.builtin "sorted") [.ref t]) Q E s := by
  have er' : EachIs (fun v b => ∃ as, Reads (sortingHeap (copyHeap s.heap vs) (s.heap.objs.size + 1) vs) v (enc b) as) vs bs := er.mono fun _ _ ⟨as, r⟩ => ⟨as, PyProof.Rows.Reads.keeps (fun _ _ => sorting_copy_old) r⟩
  exact sorted_tupV ho hc hd (SortsAt.data (s := { s with heap := sortingHeap (copyHeap s.heap vs) (s.heap.objs.size + 1) vs }) (each_map (R := fun v d => ∃ as, Reads (sortingHeap (copyHeap s.heap vs) (s.heap.objs.size + 1) vs) v d as) enc er') hal hk (bound_map hu)) (by rw [e.length]; exact hL)
    (h _ (by rw [sortVals_length false rfl]; exact e.length) (sortVals_data false e er' hal))
end
end DL
namespace DL
open PySem PySem.Spec PyProof.Rows L2
def rSortT (K : PySem.W.Frag) : List V → Hp → VK → Prop := fun vs H Q => ∃ (a : Addr) (xs : List V) (F : Hp) (ds : List D), vs = [V.ref a] ∧ SqT K H a xs ∧ Same F H ∧ DqA F xs ds ∧ SortOk ds ∧
  ∀ ys p, H p = none → DqA F ys (srtD ds) → Q (.ref p) (upd H p (.lst ys))
theorem cr_sortT {X : Cx} (hu : X.A.units + 64 < cLine) : CallR X (.builtin "sorted") (rSortT X.K) := by
  intro pins s σ H vs us Q I r h
  obtain ⟨a, xs, F, ds, rfl, hs, sm, dq, ⟨o1, o2, o3, o4⟩, q⟩ := h
  obtain ⟨its, rv, ⟨o, ho, hc, n, hd⟩, _⟩ := I.tuple hs
  rw [Vals.ref1 r]
  obtain ⟨e1, e2⟩ := each_of_dq I sm dq rv o4
  refine sorted_tupD (enc := id) ho hc hd e1 e2 (by rw [List.map_id]; exact o1) (by rw [List.map_id]; exact o2) (sz5 o3) (fun d hd => ?_) fun out h1 h2 => ?_
  · have := (shp_ok 8 d (o4 d hd)).2.1
    show X.A.units + 2 + (id d).depth < cLine
    simp only [id]
    omega
  · obtain ⟨ep, he'⟩ := PyProof.Rows.sortedAll_at s.heap its out.toArray
    obtain ⟨ys, v1, d1⟩ := dq_of_each h2
    have hlen : ys.length ≤ sizeLine := by rw [v1.length, h1]; exact sz5 o3
    exact ⟨.ref _, upd H (s.heap.objs.size + 1) (.lst ys), I.laid (t' := s.toks) (fun _ _ => PyProof.Rows.sortedAll_old) (Nat.le_succ _) ⟨hlen, out, ep, v1, he'⟩, rfl, q ys _ (I.hok.fresh (Nat.le_succ _)) d1⟩
theorem cr_sortA {X : Cx} (hu : X.A.units + 64 < cLine) : CallR X (.builtin "sorted") (fun xs H Q => rSortD X.K xs H Q ∨ rSortT X.K xs H Q) := (cr_sortD hu).or (cr_sortT hu)
/-- sorted of a list or a tuple -/
def sortAR : List D → (D → Prop) → Prop := fun ds P => ∃ xs, (ds = [.list xs] ∨ ds = [.tuple xs]) ∧ SortOk xs ∧ P (.list (srtD xs))
theorem ra_sortA {K : PySem.W.Frag} {m : Md} (hsh : m.sh = true := by rfl) : RAok K [m] .nw (fun xs H Q => rSortD K xs H Q ∨ rSortT K xs H Q) sortAR := fun b F H xs ds Q P g0 r h k => by
  obtain ⟨ls, e, o, p⟩ := h
  rcases e with rfl | rfl
  · exact .inl (ra_sort hsh b F H xs [.list ls] Q P g0 r ⟨ls, rfl, o, p⟩ k)
  · obtain ⟨v, rfl, r1⟩ := vrs1 (ms := []) r
    obtain ⟨a, xs, rfl, sq, dq⟩ := vr_tup g0.s (r1.rd hsh g0)
    refine .inr ⟨a, xs, F, ls, rfl, sq, g0.s, dq, o, fun ys l nl d => ?_⟩
    have g4 := Grow.own g0 (HO.lst ys) nl
    exact k _ _ _ _ p g4 (.inl ⟨l, rfl, g0.s.free nl, own_mkL upd_same d⟩) fun q e => by cases e; exact nn_of nl
theorem x_sortAL {ds : List D} {P : D → Prop} : sortAR [.list ds] P ↔ SortOk ds ∧ P (.list (srtD ds)) := ⟨fun ⟨xs, h1, h⟩ => by
  rcases h1 with h1 | h1 <;> cases h1
  exact h, fun h => ⟨ds, .inl rfl, h⟩⟩
theorem x_sortAT {ds : List D} {P : D → Prop} : sortAR [.tuple ds] P ↔ SortOk ds ∧ P (.list (srtD ds)) := ⟨fun ⟨xs, h1, h⟩ => by
  rcases h1 with h1 | h1 <;> cases h1
  exact h, fun h => ⟨ds, .inr rfl, h⟩⟩
end DL
set_option maxRecDepth 100000
set_option maxHeartbeats 4000000
/-! DMU: tuple + tuple, slices of tuples, of any kind. -/
namespace DL
open PySem PySem.Spec PyProof.Rows L2
def addA : D → D → (D → Prop) → Prop
  | .int i, .int j, P => P (.int (i + j))
  | .list a, .list b, P => a.length + b.length ≤ 100000 ∧ P (.list (a ++ b))
  | .tuple a, .tuple b, P => a.length + b.length ≤ 100000 ∧ P (.tuple (a ++ b))
  | _, _, _ => False
def rAddA (K : PySem.W.Frag) : R2 := fun x y H Q => (rI0 (fun i j => .int (i + j))) x y H Q ∨ rCat x y H Q ∨ rCatA K x y H Q
theorem op_addA {X : Cx} : OpR X (binaryOp .Add) (rAddA X.K) := op_add.or (op_cat.or op_catA)
theorem r2_addA {K : PySem.W.Frag} : R2ok K .fz .fz .fz (rAddA K) addA := fun b F H x y dx dy Q P g0 rx ry h k => by
  cases dx with
  | int i =>
    cases dy with
    | int j =>
      cases rx
      cases ry
      exact .inl ⟨i, j, rfl, rfl, k _ _ F H h (.refl g0) (Dq.int _) trivial⟩
    | _ => exact h.elim
  | list ds =>
    cases dy with
    | list es =>
      cases rx with
      | lst e1 q1 =>
        cases ry with
        | lst e2 q2 =>
          rename_i a1 xs a2 ys
          refine .inr (.inl ⟨_, _, _, _, rfl, rfl, g0.s _ _ e1, g0.s _ _ e2, by rw [q1.length, q2.length]; exact sz5 h.1, fun p np => ?_⟩)
          have g2 := Grow.new g0 (HO.lst (xs ++ ys)) np
          exact k _ _ _ _ h.2 g2 (Dq.lst upd_same ((q1.append q2).mono g2.f)) trivial
    | _ => exact h.elim
  | tuple ds =>
    cases dy with
    | tuple es =>
      cases rx with
      | tup e1 q1 =>
        cases ry with
        | tup e2 q2 =>
          rename_i a1 xs a2 ys
          obtain ⟨h2, p⟩ := h
          refine .inr (.inr ⟨_, _, _, _, rfl, rfl, .of (g0.s _ _ e1), .of (g0.s _ _ e2), by rw [q1.length, q2.length]; exact sz5 h2, fun e => ?_, fun _ e => ?_, fun _ _ q nq => ?_⟩)
          · subst e
            have : ds = [] := List.eq_nil_of_length_eq_zero q1.length.symm
            subst this
            exact k _ _ F H p (.refl g0) (Dq.tup e2 q2) trivial
          · subst e
            have : es = [] := List.eq_nil_of_length_eq_zero q2.length.symm
            subst this
            rw [List.append_nil] at p
            exact k _ _ F H p (.refl g0) (Dq.tup e1 q1) trivial
          · have g2 := Grow.new g0 (HO.tup (xs ++ ys)) nq
            exact k _ _ _ _ p g2 (Dq.tup upd_same ((q1.append q2).mono g2.f)) trivial
    | _ => exact h.elim
  | _ => exact h.elim
section
variable {X : Cx} {W : WT} {pos p2 : Pos}
def cutA (x : D) (lo hi : Option Int) (P : D → Prop) : Prop := match x with
  | .list ds => P (.list (cutD ds lo hi))
  | .tuple ds => P (.tuple (cutD ds lo hi))
  | _ => False
theorem cut_whole {ds : List D} {lo hi : Option Int} (h : HT.sIx ds.length 0 lo = 0 ∧ HT.sIx ds.length ds.length hi = ds.length) : cutD ds lo hi = ds := by
  unfold cutD
  rw [h.1, h.2, List.drop_zero, Nat.sub_zero, List.take_length]
def dSliceA (t : DT) (tl th : DTo) : DT := fun ρ P Z => t ρ (fun x => tl ρ (fun lo => th ρ (fun hi => cutA x lo hi P) Z) Z) Z
theorem de_sliceA {e : Expr} {lo hi : Option Expr} {t : DT} {tl th : DTo} (h : DE X W .fz e t) (hl : DO X W lo tl) (hh : DO X W hi th) : DE X W .fz (.Subscript e (.Slice lo hi none p2) pos) (dSliceA t tl th) := by
  obtain ⟨te, p, s⟩ := h.ok
  obtain ⟨te1, p1, s1⟩ := hl.ok
  obtain ⟨te2, p2, s2⟩ := hh.ok
  refine ⟨_, pe_slice (sl_list.or sl_tupA) p p1 p2, fun b F H σ ρ Q P Z R z q k => s b F H σ ρ _ _ Z R z q fun x v F1 H1 q1 g1 r _ => s1 b F1 H1 σ ρ _ _ Z (R.grow g1) (z.mono g1.f) q1 fun l F2 H2 q2 g2 => s2 b F2 H2 σ ρ _ _ Z ((R.grow g1).grow g2) (z.mono (g1.f.trans g2.f)) q2 fun u F3 H3 q3 g3 => ?_⟩
  have g0 := R.g.trans (g1.trans (g2.trans g3))
  have r3 : Dq F3 v x := Dq.mono (g2.f.trans g3.f) r
  cases x with
  | list ds =>
    cases r3 with
    | @lst a xs _ e1 dq =>
      refine .inl ⟨a, xs, rfl, .of (g0.s _ _ e1), fun p np => ?_⟩
      have g4 := Grow.new g0 (HO.lst (cutV xs l u)) np
      exact k _ _ _ _ q3 (g1.trans (g2.trans (g3.trans g4))) (Dq.lst upd_same ((cut_dq dq l u).mono g4.f)) trivial
  | tuple ds =>
    cases r3 with
    | @tup a xs _ e1 dq =>
      refine .inr ⟨a, xs, rfl, .of (g0.s _ _ e1), fun hw => ?_, fun hw p np => ?_⟩
      · rw [dq.length] at hw
        have q4 : P (.tuple (cutD ds l u)) := q3
        rw [cut_whole hw] at q4
        exact k _ _ F3 H3 q4 (g1.trans (g2.trans g3)) (Dq.tup e1 dq) trivial
      · have g4 := Grow.new g0 (HO.tup (cutV xs l u)) np
        exact k _ _ _ _ q3 (g1.trans (g2.trans (g3.trans g4))) (Dq.tup upd_same ((cut_dq dq l u).mono g4.f)) trivial
  | _ => exact q3.elim
/-! ### a, b = x, y with plain names: stored from the right -/
variable {rm : Md} {x y : Str} {a b : Expr} {px py pt : Pos} {i j : Nat}
def dPar (i j : Nat) (ta : DTa) : DS := fun d Z ρ => ta ρ (fun ds => ∃ u v, ds = [u, v] ∧ d.nx ((ρ.set i (.fz u)).set j (.fz v))) Z
theorem ds_par (i j : Nat) {ta : DTa} {kt k2 pt2} (hc : X.calm = true) (hN : X.N.Nodup) (ha : DA X W [.fz, .fz] [a, b] ta) (hi : X.N[i]? = some x := by rfl) (hj : X.N[j]? = some y := by rfl) (hij : i ≠ j := by decide)
    (hx : X.env.scope.names.lookup x = some .local := by rfl) (hy : X.env.scope.names.lookup y = some .local := by rfl)
    (hw : swappedStores [.Tuple [.Name x px, .Name y py] kt pt] (.Tuple [a, b] k2 pt2) X.env = pure (some [x, y]) := by rfl)
    (hs : swapsWithSole [.Tuple [.Name x px, .Name y py] kt pt] (.Tuple [a, b] k2 pt2) pos.line X.env = pure false := by rfl) : DS1 X W rm (.Assign [.Tuple [.Name x px, .Name y py] kt pt] (.Tuple [a, b] k2 pt2) pos) (dPar i j ta) := by
  obtain ⟨te, p, s⟩ := ha.ok
  refine ⟨_, ps_par hc hN hi hj hij hx hy p hw hs, fun b F H σ ρ D d Z R z q c => s b F H σ ρ _ _ Z R z q fun ds vs F' H' p g r => ?_⟩
  obtain ⟨u, v, rfl, p⟩ := p
  cases r with
  | cons r1 r =>
    cases r with
    | cons r2 r =>
      cases r
      exact ⟨_, _, rfl, c.nx _ F' H' _ g.f (((R.grow g).setF i r1).setF j r2) p⟩
end
section
variable {ρ : List Sl} {P : D → Prop} {Z : Zs} {t : DT} {tl th : DTo} {lo hi : Option Int}
theorem e_sliceA : dSliceA t tl th ρ P Z ↔ t ρ (fun x => tl ρ (fun lo => th ρ (fun hi => cutA x lo hi P) Z) Z) Z := Iff.rfl
theorem x_cutAL {a : List D} : cutA (.list a) lo hi P ↔ P (.list (cutD a lo hi)) := Iff.rfl
theorem x_cutAT {a : List D} : cutA (.tuple a) lo hi P ↔ P (.tuple (cutD a lo hi)) := Iff.rfl
theorem x_aaI {i j : Int} : addA (.int i) (.int j) P ↔ P (.int (i + j)) := Iff.rfl
theorem x_aaL {a b : List D} : addA (.list a) (.list b) P ↔ a.length + b.length ≤ 100000 ∧ P (.list (a ++ b)) := Iff.rfl
theorem x_aaT {a b : List D} : addA (.tuple a) (.tuple b) P ↔ a.length + b.length ≤ 100000 ∧ P (.tuple (a ++ b)) := Iff.rfl
theorem e_par {i j : Nat} {ta : DTa} {d : DEnds} : dPar i j ta d Z ρ ↔ ta ρ (fun ds => ∃ u v, ds = [u, v] ∧ d.nx ((ρ.set i (.fz u)).set j (.fz v))) Z := Iff.rfl
end
end DL
set_option maxRecDepth 100000
set_option maxHeartbeats 4000000
/-! DMV: set of a list of ints: sorted(set(x)), len(set(x)). -/
namespace L2
open PySem PySem.Spec PyProof.Rows
section
variable {P : Program} {w : World} {A : Around} {E : Value → Shared → Prop} {s : Shared}
set_option maxHeartbeats 3200000 in
theorem call_set_listI {l : Addr} {items : Array Value} (ns : List Int) {Q : Value → Shared → Prop} (hh : A.handled = none) (hl : s.heap.IsList l items) (hit : IntsAre items.toList ns) (hb : ns.length + 1 < scanBound)
    (h : ∀ (h' : Heap) (tk c : Nat), SetR w h' s.heap.objs.size (fun j => decide (j ∈ ns)) c → c ≤ ns.length → (∀ b o, s.heap.get? b = some o → h'.get? b = some o) → Q (.ref s.heap.objs.size) { s with heap := h', toks := tk }) :
    wpAny (model P w) A (call (.type "set") [.ref l]) Q E s := by
  have hisz : items.size = ns.length := by
    have q := IntsAre.length hit
    rw [Array.length_toList] at q
    exact q
  obtain ⟨c, tl, hmro⟩ := F.called_set.mro
  have hmade := F.called_set.made
  have hsub := F.called_set.sub
  refine wpAny_call (codeAny_of_tree ?_)
  show wpAny _ _ (callAny (.type "set") _) _ _ _
  refine wpAny_pure ⟨Code.quiet_builtin _ (by decide +kernel), codeAny_builtin F.entry_type_call ?_⟩
  rw [Around.under_plain (weight_type_call_type "set" [.ref l] []) rfl]
  have h1 := F.called_set.notType
  have h2 := F.called_set.canCreate
  have hct := F.typeCall_set_1 (.ref l)
  repeat (any_goals (first | assumption | wp_step))
  refine codeAny_mono (code_set_led1 (.ref l) (E := E) (Q₁ := fun obj s₁ => obj = .ref s.heap.objs.size ∧ s₁ = { s with heap := s.heap.push { cls := .type "set", dict := none, data := .set #[] 0 (.fresh 0 0 (!w.params.followText "set-order")) } }) ⟨rfl, rfl⟩) fun r s₁ hr => ?_
  cases r with
  | error e => exact hr
  | ok fl =>
    cases fl with
    | ret obj =>
      obtain ⟨rfl, rfl⟩ := hr
      have hS : (s.heap.push { cls := .type "set", dict := none, data := .set #[] 0 (.fresh 0 0 (!w.params.followText "set-order")) }).get? s.heap.objs.size = some { cls := .type "set", dict := none, data := .set #[] 0 (.fresh 0 0 (!w.params.followText "set-order")) } := Heap.get?_push_size _ rfl
      have hT : Shared.TypeIs { s with heap := s.heap.push { cls := .type "set", dict := none, data := .set #[] 0 (.fresh 0 0 (!w.params.followText "set-order")) } } (.ref s.heap.objs.size) "set" := ⟨_, hS, rfl⟩
      have hli := F.called_set.init.lookup
      have hbi := F.called_set.init.bind (.ref s.heap.objs.size)
      repeat (any_goals (first | assumption | wp_step))
      refine codeAny_mono (codeAny_call_builtin (R := wants (fun r s₂ => r = .none ∧ ∃ h' tk c, s₂ = { s with heap := h', toks := tk } ∧ SetR w h' s.heap.objs.size (fun j => decide (j ∈ ns)) c ∧ c ≤ ns.length ∧
          (∀ b o, s.heap.get? b = some o → h'.get? b = some o)) E) F.called_set.init.plain F.entry_set_init (check_set_init_1 hT ?_)) fun r₂ s₂ hr₂ => ?_
      · obtain ⟨ol, hol, hcl, nl, hdl⟩ := hl
        obtain ⟨ocls, odict, odata, oslots⟩ := ol
        simp only at hcl hdl
        subst hcl; subst hdl
        have hol' : (s.heap.push { cls := .type "set", dict := none, data := .set #[] 0 (.fresh 0 0 (!w.params.followText "set-order")) }).get? l = some { cls := .type "list", dict := odict, data := .seq items nl, slots := oslots } := Heap.get?_push_of_some _ hol
        have hsls := F.sub_list_set
        have hslf := F.sub_list_frozenset
        have hne : (Value.type "list" == Value.type "dict") = false := by decide
        have hl1 : (s.heap.push { cls := .type "set", dict := none, data := .set #[] 0 (.fresh 0 0 (!w.params.followText "set-order")) }).IsList l items := ⟨_, hol', rfl, nl, rfl⟩
        unfold Builtin.«set.__init__» noKeywords Builtin.Frozenset.updateFrom
        generalize hPI : pyIter = PI
        wp_walk
        subst hPI
        refine wpAny_pyIter_list hl1 ?_
        refine wpAny_bind (wpAny_runValue ?_)
        have hlS : l < s.heap.objs.size := Heap.lt_size hol
        have hh3 : A.in1.in1.in1.handled = none := by simp [hh]
        have hz1 : (s.heap.push { cls := .type "set", dict := none, data := .set #[] 0 (.fresh 0 0 (!w.params.followText "set-order")) }).objs.size = s.heap.objs.size + 1 := Heap.size_push ..
        have hneI : l ≠ (s.heap.push { cls := .type "set", dict := none, data := .set #[] 0 (.fresh 0 0 (!w.params.followText "set-order")) }).objs.size := by
          rw [Heap.size_push]; exact Nat.ne_of_lt (Nat.lt_succ_of_lt hlS)
        have hSf : s.heap.objs.size ∉ [(s.heap.push { cls := .type "set", dict := none, data := .set #[] 0 (.fresh 0 0 (!w.params.followText "set-order")) }).objs.size, l] := by
          rw [Heap.size_push]; simp only [List.mem_cons, List.mem_singleton, List.not_mem_nil, or_false, not_or]
          exact ⟨Nat.ne_of_lt (Nat.lt_succ_self _), Nat.ne_of_gt hlS⟩
        have hval : ∀ (i : Nat) (v : Value), items[i]? = some v → ∃ k t, ns[i]? = some k ∧ v = .int k t := fun i v hv => by
          have hi : i < ns.length := by rw [← hisz]; exact (Array.getElem?_eq_some_iff.mp hv).1
          obtain ⟨t, e⟩ := PyProof.Rows.IntsAre.int_at hit i v (by rw [Array.getElem?_toList]; exact hv)
          refine ⟨ns[i], t, List.getElem?_eq_getElem hi, ?_⟩
          rw [e, List.getD_eq_getElem?_getD, List.getElem?_eq_getElem hi] <;> rfl
        refine set_update_ints ((Walks.list hh3 _ l hneI items).toS) s.heap.objs.size
          hSf ns hisz hb hval (items.size - 0) 0 _ (by omega) (Nat.zero_le _)
          ⟨⟨_, Heap.get?_push_size _ rfl, rfl, rfl⟩, (hl1.push _)⟩ ?hS0 ?hR
        case hS0 =>
          have hget : ((s.heap.push { cls := .type "set", dict := none, data := .set #[] 0 (.fresh 0 0 (!w.params.followText "set-order")) }).push { cls := .type "list_iterator", data := .fields #[.ref l, .int 0 0] }).get? s.heap.objs.size
              = some { cls := .type "set", dict := none, data := .set #[] 0 (.fresh 0 0 (!w.params.followText "set-order")) } := Heap.get?_push_of_some _ hS
          exact ⟨0, Nat.le_refl 0, setR_new_at hget⟩
        case hR =>
          intro s' c' hm hc' hS'
          obtain ⟨h', g2, d', tk', os'⟩ := s'
          have eg : g2 = s.gens := hm.gens
          have ed : d' = s.drawn := hm.drawn
          have eo : os' = s.os := hm.os
          subst eg; subst ed; subst eo
          show wpAny _ _ _ _ _ _
          refine wpAny_pure ?_
          show wpAny _ _ (ret Value.none) _ _ _
          rw [hisz] at hc'
          refine wpAny_pure ⟨rfl, h', tk', c', rfl, hS', hc', fun b o e => ?_⟩
          have hb0 : b < s.heap.objs.size := Heap.lt_size e
          have hb1 : b ≠ s.heap.objs.size := Nat.ne_of_lt hb0
          have hb2 : b ≠ (s.heap.push { cls := .type "set", dict := none, data := .set #[] 0 (.fresh 0 0 (!w.params.followText "set-order")) }).objs.size := by
            rw [Heap.size_push]; exact Nat.ne_of_lt (Nat.lt_succ_of_lt hb0)
          exact hm.heap b o (by simp only [List.mem_cons, List.mem_singleton, List.not_mem_nil, or_false, not_or]; exact ⟨hb1, hb2⟩) (Heap.get?_push_of_some _ (Heap.get?_push_of_some _ e))
      · cases r₂ with
        | error e => exact hr₂
        | ok fl₂ =>
          cases fl₂ with
          | ret r =>
            obtain ⟨rfl, h', tk, c, rfl, hS', hc', hk'⟩ := hr₂
            repeat (any_goals (first | assumption | wp_step))
            exact h _ _ _ hS' hc' hk'
          | _ => exact hr₂.elim
    | _ => exact hr.elim
end
end L2
/-! ### distinct ones -/
namespace DL
def uniqL : List Int → List Int
  | [] => []
  | a :: l => if a ∈ l then uniqL l else a :: uniqL l
theorem mem_uniqL : ∀ {l : List Int} {j : Int}, j ∈ uniqL l ↔ j ∈ l
  | [], j => Iff.rfl
  | a :: l, j => by
    unfold uniqL
    split
    · rename_i h
      rw [mem_uniqL, List.mem_cons]
      exact ⟨.inr, fun q => q.elim (fun e => e ▸ h) id⟩
    · rw [List.mem_cons, List.mem_cons, mem_uniqL]
theorem uniqL_nodup : ∀ (l : List Int), (uniqL l).Nodup
  | [] => List.nodup_nil
  | a :: l => by
    unfold uniqL
    split
    · exact uniqL_nodup l
    · rename_i h
      exact List.nodup_cons.mpr ⟨fun q => h (mem_uniqL.mp q), uniqL_nodup l⟩
def srtU (l : List Int) : List Int := (uniqL l).mergeSort (fun a b => decide (a ≤ b))
def cntU (l : List Int) : Nat := (uniqL l).length
theorem cntU_eq {us l : List Int} (h : us.Nodup) (hm : ∀ j, j ∈ us ↔ j ∈ l) : us.length = cntU l := by
  have := (List.perm_ext_iff_of_nodup h (uniqL_nodup l)).mpr fun j => (hm j).trans mem_uniqL.symm
  exact this.length_eq
theorem mem_srtU {l : List Int} {j : Int} : j ∈ srtU l ↔ j ∈ l := by
  unfold srtU
  rw [List.mem_mergeSort, mem_uniqL]
theorem srtU_le (l : List Int) : (srtU l).Pairwise (· ≤ ·) := by
  have := List.pairwise_mergeSort (le := fun a b : Int => decide (a ≤ b)) (fun a b c h1 h2 => by simp only [decide_eq_true_eq] at *; omega) (fun a b => by simp only [Bool.or_eq_true, decide_eq_true_eq]; omega) (uniqL l)
  exact this.imp fun h => by simpa using h
theorem srtU_nodup (l : List Int) : (srtU l).Nodup := (List.mergeSort_perm _ _).nodup_iff.mpr (uniqL_nodup l)
theorem srtU_lt (l : List Int) : (srtU l).Pairwise (· < ·) := ((srtU_le l).and (srtU_nodup l)).imp fun h => by have := h.1; have := h.2; omega
theorem srtU_len (l : List Int) : (srtU l).length = cntU l := (List.mergeSort_perm _ _).length_eq
theorem srtU_eq {us l : List Int} (h : us.Pairwise (· < ·)) (hm : ∀ j, j ∈ us ↔ j ∈ l) : us = srtU l := by
  have hn : us.Nodup := h.imp fun q => by omega
  have hp : us.Perm (srtU l) := (List.perm_ext_iff_of_nodup hn (srtU_nodup l)).mpr fun j => (hm j).trans mem_srtU.symm
  exact List.Perm.eq_of_pairwise (le := fun a b : Int => a ≤ b) (fun a b _ _ h1 h2 => by omega) (h.imp fun q => by omega) (srtU_le l) hp
theorem cntU_le : ∀ (l : List Int), cntU l ≤ l.length
  | [] => Nat.le_refl _
  | a :: l => by
    have := cntU_le l
    unfold cntU at *
    unfold uniqL
    split
    · simp; omega
    · simp; omega
end DL
namespace L2
open PySem PySem.Spec PyProof.Rows
section
variable {X : Cx}
theorem setR_cnt {w : World} {h : Heap} {a : Addr} {ns : List Int} {c : Nat} (R : SetR w h a (fun j => decide (j ∈ ns)) c) : c = DL.cntU ns := by
  obtain ⟨o, es, ep, t, ho, hx, hd, g, nd, hm, hb, hf, hn, _⟩ := R
  rw [← hn, ← Array.length_toList, ← List.length_map (f := keyOf)]
  exact DL.cntU_eq nd fun j => (hm j).symm.trans decide_eq_true_iff
def rSetLI (K : PySem.W.Frag) (w : World) : List V → Hp → VK → Prop := fun vs H Q => ∃ (a : Addr) (ns : List Int), vs = [V.ref a] ∧ SqL K H a (ns.map V.int) ∧ ns.length ≤ 4000 ∧ ∀ p, H p = none → Q (.ref p) (upd H p (SetO w p (fun j => decide (j ∈ ns)) (DL.cntU ns)))
theorem cr_setL (hc : X.calm = true) : CallR X (.type "set") (rSetLI X.K X.w) := by
  intro pins s σ H vs us Q I r h
  obtain ⟨a, ns, rfl, hq, hl, q⟩ := h
  rw [Vals.ref1 r]
  obtain ⟨its, rv, pl, hz⟩ := I.list hq
  refine call_set_listI ns (I.ok.hd hc) pl.isList (by simpa using ints_of_vals rv) (by unfold scanBound; omega) fun h' tk c new hc2 hk => ?_
  have e := setR_cnt new
  subst e
  exact ⟨.ref _, upd H s.heap.objs.size (SetO X.w s.heap.objs.size (fun j => decide (j ∈ ns)) (DL.cntU ns)), I.laid (t' := tk) hk (Nat.le_refl _) (setO_new new), rfl, q _ (I.hok.fresh (Nat.le_refl _))⟩
def rLenSetO (w : World) : List V → Hp → VK → Prop := fun vs H Q => ∃ (a : Addr) (S : Int → Bool) (n : Nat), vs = [V.ref a] ∧ H a = some (SetO w a S n) ∧ Q (.int n) H
theorem cr_lenSetO : CallR X (.builtin "len") (rLenSetO X.w) := by
  intro pins s σ H vs us Q I r h
  obtain ⟨a, S, n, rfl, ha, q⟩ := h
  have R := setO_get I ha
  rw [Vals.ref1 r]
  obtain ⟨o, es, ep, t, ho, hex, hd, g, nd, hm, hb, hf, hn, _⟩ := R
  refine call_len_set ho hex hd hf (by unfold scanBound at hb; omega) ⟨.int n, H, I.tok _, ⟨_, by rw [hn]⟩, q⟩
end
end L2
namespace DL
open PySem PySem.Spec PyProof.Rows L2
section
variable {X : Cx} {W : WT} {pos : Pos} {m : Md}
def sortSetR (x : D) (P : D → Prop) : Prop := ∃ ns : List Int, x = .list (ns.map .int) ∧ ns.length ≤ 63 ∧ P (.list ((srtU ns).map .int))
def dSortSet (t : DT) : DT := fun ρ P Z => t ρ (fun x => sortSetR x P) Z
def lenSetR (x : D) (P : D → Prop) : Prop := ∃ ns : List Int, x = .list (ns.map .int) ∧ ns.length ≤ 4000 ∧ P (.int (cntU ns : Nat))
def dLenSet (t : DT) : DT := fun ρ P Z => t ρ (fun x => lenSetR x P) Z
theorem de_sortSet {e : Expr} {t : DT} {p p2 pos2 : Pos} (h : DE X W m e t) (hm : X.mg "sorted" = none) (hm2 : X.mg "set" = none) (hc : X.calm = true := by rfl) (hg : Gl X "sorted" := by rfl) (hg2 : Gl X "set" := by rfl)
    (hs : starEach [e] X.env = (false, eval e X.env) :: starEach [] X.env := by rfl)
    (hs2 : starEach [.Call (.Name "set" p2) [e] [] pos2] X.env = (false, eval (.Call (.Name "set" p2) [e] [] pos2) X.env) :: starEach [] X.env := by rfl) (hsh : m.sh = true := by rfl) :
    DE X W .nw (.Call (.Name "sorted" p) [.Call (.Name "set" p2) [e] [] pos2] [] pos) (dSortSet t) := by
  obtain ⟨te, pe, s⟩ := h.ok
  refine ⟨_, pe_callB (cr_sortedSet hc) hg hm PyProof.Rows.boot_sorted (pa_cons (pe_callTy (cr_setL hc) hg2 hm2 boot_set (pa_cons pe pa_nil hs) (by decide) (by decide) hs rfl) pa_nil hs2) (by decide) (by decide) hs2 rfl, fun b F H σ ρ Q P Z R z q k => s b F H σ ρ _ _ Z R z q fun x v F1 H1 q1 g1 r _ => ?_⟩
  obtain ⟨ns, rfl, hl, q1⟩ := q1
  have g0 := R.g.trans g1
  obtain ⟨a, xs, rfl, sq, dq⟩ := vr_lst g0.s (r.rd hsh g0)
  rw [ints_dq dq] at sq
  refine ⟨a, ns, rfl, sq, by omega, fun l nl => ?_⟩
  have g4 := Grow.own g0 (SetO X.w l (fun j => decide (j ∈ ns)) (cntU ns)) nl
  refine ⟨l, _, _, rfl, upd_same, Nat.lt_of_le_of_lt (cntU_le ns) (by omega), fun ys l2 h1 h2 h3 nl2 => ?_⟩
  have e : ys = srtU ns := srtU_eq h1 fun j => (h2 j).trans decide_eq_true_iff
  subst e
  have g5 := Grow.own (g0.trans g4) (HO.lst ((srtU ns).map V.int)) nl2
  refine k _ _ _ _ q1 ((g1.trans g4).trans g5) (.inl ⟨l2, rfl, (g0.trans g4).s.free nl2, own_mkL upd_same (dqA_ints _)⟩) fun q e => by cases e; exact (g1.trans g4).h.free nl2
theorem de_lenSet {e : Expr} {t : DT} {p p2 pos2 : Pos} (h : DE X W m e t) (hm : X.mg "len" = none) (hm2 : X.mg "set" = none) (hc : X.calm = true := by rfl) (hg : Gl X "len" := by rfl) (hg2 : Gl X "set" := by rfl)
    (hs : starEach [e] X.env = (false, eval e X.env) :: starEach [] X.env := by rfl)
    (hs2 : starEach [.Call (.Name "set" p2) [e] [] pos2] X.env = (false, eval (.Call (.Name "set" p2) [e] [] pos2) X.env) :: starEach [] X.env := by rfl) (hsh : m.sh = true := by rfl) :
    DE X W .fz (.Call (.Name "len" p) [.Call (.Name "set" p2) [e] [] pos2] [] pos) (dLenSet t) := by
  obtain ⟨te, pe, s⟩ := h.ok
  refine ⟨_, pe_callB cr_lenSetO hg hm boot_len (pa_cons (pe_callTy (cr_setL hc) hg2 hm2 boot_set (pa_cons pe pa_nil hs) (by decide) (by decide) hs rfl) pa_nil hs2) (by decide) (by decide) hs2 rfl, fun b F H σ ρ Q P Z R z q k => s b F H σ ρ _ _ Z R z q fun x v F1 H1 q1 g1 r _ => ?_⟩
  obtain ⟨ns, rfl, hl, q1⟩ := q1
  have g0 := R.g.trans g1
  obtain ⟨a, xs, rfl, sq, dq⟩ := vr_lst g0.s (r.rd hsh g0)
  rw [ints_dq dq] at sq
  refine ⟨a, ns, rfl, sq, by omega, fun l nl => ?_⟩
  have g4 := Grow.own g0 (SetO X.w l (fun j => decide (j ∈ ns)) (cntU ns)) nl
  exact ⟨l, _, _, rfl, upd_same, k _ _ _ _ q1 (g1.trans g4) (Dq.int _) trivial⟩
end
end DL

/-! ### a comprehension within one; is None of a tree; x.append(e), x a tree, e an own root -/
namespace DL
open PySem PySem.Spec PyProof.Rows L2
theorem blkOk_in {X : Cx} {s : Shared} {H : Hp} {scope inner sc0 : Scope} {C : Addr} {cl : List (Str × Addr)} {fp : List Addr} {N : List Str} {own : List (Str × Nat)} (hN : X.N = N) (e : X.env.scope = sc0) (h : blkC N (relS scope sc0) inner own = true) :
    BlkOk (X.blk s H scope (compEnvC scope cl C X.env) fp).N (X.blk s H scope (compEnvC scope cl C X.env) fp).env.scope inner own := by
  subst hN
  subst e
  exact blkOk_by h
theorem r2_isT {K : PySem.W.Frag} {ma mb : Md} {neg : Bool} (ha : ma ≠ .n2 := by intro z; cases z) (hb : mb.sh = true := by rfl) : R2ok K ma mb .fz (rIs neg) (isR neg) := fun b F H x y dx dy Q P g0 rx ry h k => by
  have rt := rx.rt g0 fun z => absurd z ha
  rcases rt with r1 | ⟨p, rfl, r1⟩
  · exact r2_is (ma := .rd) rfl hb b F H x y dx dy Q P g0 r1 ry h k
  · rcases h with ⟨rfl, q⟩ | ⟨a, c, rfl, rfl, q⟩
    · refine .inl ⟨vr_non (ry.rd hb g0), ?_⟩
      have : decide (V.ref p = .non) = isN dx := by
        cases dx <;> first | exact False.elim r1 | simp [isN]
      rw [this]
      exact k _ _ F H q (.refl g0) (Dq.bl _) trivial
    · exact False.elim r1
section
variable {X : Cx} {W : WT} {pos : Pos} {rm : Md}
def dAppT (i : Nat) (t : DT) : DS := fun d Z ρ => ∃ v ds, ρ[i]? = some (.tr v (.list ds)) ∧ ds.length ≤ 100000 ∧ t ρ (fun y => atmB y = false ∧ d.nx (ρ.set i (.tr v (.list (ds ++ [y]))))) Z
theorem ds_appT (i : Nat) {x : Str} {p0 apos cpos : Pos} {e : Expr} {t : DT} (hx : PE X (.Name x p0) (tVar i)) (h : DE X W .nw e t) (hs0 : swapsWith (.Call (.Attribute (.Name x p0) "append" apos) [e] [] cpos) none pos.line X.env = pure false := by rfl)
    (hbase : attributeBase (.Name x p0) "append" X.env (eval (.Name x p0) X.env) = eval (.Name x p0) X.env := by rfl)
    (hfew : ((backTo cpos (starEach (e :: []) X.env)).all (fun x => !x.1) && (backToKw cpos (keywordEach [] X.env)).all (fun x => x.1.isSome)
      && decide ((e :: []).length + ([] : List Keyword).length + (if ([] : List Keyword).isEmpty then 0 else 1) < 30)) = true := by rfl)
    (hline : (apos.endLine == cpos.line) = true := by rfl) (hs : starEach (e :: []) X.env = (false, eval e X.env) :: starEach [] X.env := by rfl) (hplain : (backTo cpos (starEach [] X.env)).any (·.1) = false := by rfl) :
    DS1 X W rm (.Expr (.Call (.Attribute (.Name x p0) "append" apos) [e] [] cpos) pos) (dAppT i t) := by
  obtain ⟨te, p, s⟩ := h.ok
  refine ⟨_, ps_expr (pe_bm PySem.F.plainAttrs_list PySem.F.slot_list_append PySem.F.type_list_append mt_append hx (pa_cons p pa_nil hs) hbase hfew hline hs hplain) hs0, fun b F H σ ρ D d Z R z q c => ?_⟩
  obtain ⟨v0, ds, e1, hl, q⟩ := q
  obtain ⟨es, A, t, nA⟩ := R.sl i _ e1
  obtain ⟨a, A', rfl, n, rfl, hp, xs, hH, kd⟩ := id t
  refine ⟨.ref a, es, .inl ⟨rfl, _, SqL.of hH⟩, s b F H σ ρ _ _ Z R z q fun y v F1 H1 p1 g r f => ?_⟩
  obtain ⟨p1, p2⟩ := p1
  have hH1 : H1 a = some (.lst xs) := g.h.ap hH
  refine ⟨a, xs, v, rfl, rfl, hH1, by rw [kd.len]; exact lt5 hl, ?_⟩
  have own : ∃ q1, v = .ref q1 ∧ F1 q1 = none ∧ Own F1 H1 q1 y := by
    rcases r with ⟨q1, e, n, o⟩ | r
    · exact ⟨q1, e, n, o⟩
    · unfold Atm at r
      cases r <;> first | (simp [atmB] at p1; done) | (rename_i z _; cases z) | (rename_i z _ _; cases z)
  obtain ⟨q1, rfl, nq, oq⟩ := own
  have fq : Nn H q1 := f q1 rfl
  have out : ∀ m ∈ a :: A', m ≠ q1 := fun c hc z => by
    obtain ⟨_, u, eu, iu⟩ := t.nn c hc
    obtain ⟨ps, z⟩ := fq u (z ▸ eu)
    exact isD_n iu ps z
  have kd1 : Kids F1 H1 xs ds A' := kd.grow g
  refine c.nx _ F1 _ σ g.f (R.chg (q := a) g e1 fun B s1 s2 => ?_) p2
  have eB : B = a :: A' := s1.2.1.uniq (fun _ _ e _ => e) t
  subst eB
  have t1 : Tr F1 H1 (.ref a) (.list ds) (a :: A') := t.grow g
  have n1 : F1 a = none := (t1.nn a (by simp)).1
  refine ⟨by simp, a :: (A' ++ [q1]), ⟨es, ⟨a, A' ++ [q1], rfl, n1, rfl, ?_, xs ++ [.ref q1], upd_same, ?_⟩, fun m hm => ?_⟩, fun m hm => ?_⟩
  · intro z
    rcases List.mem_append.mp z with z | z
    · exact hp z
    · exact out a (by simp) (by simpa using z)
  · refine (kd1.mono (Same.refl _) fun m hm => ⟨(kd1.nn m hm).1, upd_ne (fun (z : m = a) => hp (by rw [← z]; exact hm))⟩).append (.own nq (oq.mono (Same.refl _) (upd_ne (Ne.symm (out a (by simp))))) .nil (by simp)) fun m hm z => out m (by simp [hm]) (by simpa using z)
  · rcases List.mem_cons.mp hm with rfl | hm
    · exact nA _ (by simp)
    · rcases List.mem_append.mp hm with hm | hm
      · exact nA _ (by simp [hm])
      · rw [List.mem_singleton] at hm
        subst hm
        exact R.g.h.nn fq
  · rcases List.mem_cons.mp hm with rfl | hm
    · exact .inl (by simp)
    · rcases List.mem_append.mp hm with hm | hm
      · exact .inl (by simp [hm])
      · rw [List.mem_singleton] at hm
        subst hm
        exact .inr fq
def dVl (i : Nat) : DT := fun ρ P _ => ∃ d, ρ[i]? = some (.lt d) ∧ P d
theorem de_vl (i : Nat) {x : Str} {pos : Pos} (hN : X.N[i]? = some x := by rfl) (hv : Vis X.env.scope x := by first | exact Or.inl rfl | exact Or.inr (Or.inl rfl) | exact Or.inr (Or.inr rfl)) (hd : (x == ("__debug__" : Str)) = false := by decide)
    (hcd : (x == ("__classdict__" : Str)) = false := by decide) : DE X W .rt (.Name x pos) (dVl i) := by
  refine ⟨_, pe_var hN hv hd hcd, fun b F H σ ρ Q P Z R z q k => ?_⟩
  obtain ⟨d, e, p⟩ := q
  obtain ⟨v, e1, r⟩ := R.sl i _ e
  exact ⟨v, e1, goes_now k R.g p (RTr.same R.g.f R.g.h r) trivial⟩
end
end DL
set_option maxRecDepth 100000
set_option maxHeartbeats 4000000
/-! DMW: list of a dict by ints and texts; a tuple of two own roots; sorted(.., reverse=True); list.remove. -/
namespace DL
open PySem PySem.Spec PyProof.Rows L2
variable {T : List (Addr × Str)}
section
variable {X : Cx} {W : WT} {pos : Pos} {m : Md}
/-! ### list(d) -/
def rListD : List V → Hp → VK → Prop := fun xs H Q => ∃ (a : Addr) (kvs : List (Key × V)), xs = [.ref a] ∧ Rd H a (.dK kvs) ∧ ∀ p, H p = none → Q (.ref p) (upd H p (.lst (kvs.map fun kv => kV kv.1)))
theorem cr_listDK (hc : X.calm = true) : CallR X (.type "list") rListD := call_listD hc
def listDR : List D → (D → Prop) → Prop := fun xs P => ∃ kds : List (Key × D), xs = [dctK kds] ∧ P (.list (kds.map fun p => keyD p.1))
theorem ra_listD {K : PySem.W.Frag} (hsh : m.sh = true := by rfl) : RAok K [m] .nw rListD listDR := fun b F H xs ds Q P g0 r h k => by
  obtain ⟨kds, rfl, p⟩ := h
  obtain ⟨v, rfl, r1⟩ := vrs1 (ms := []) r
  obtain ⟨a, rfl, o⟩ := vr_dict g0.s (r1.rd hsh g0)
  replace o := o.resolve_right fun z => by
    rcases z with ⟨_, _, _, e, _⟩ | ⟨_, _, _, e, _⟩ <;> cases e
  obtain ⟨kvs, hH, hk, hq⟩ := own_K o
  refine ⟨a, kvs, rfl, .inl hH, fun l nl => ?_⟩
  have e : (kvs.map fun kv => kV kv.1) = (kds.map (·.1)).map kV := by rw [← hk, List.map_map]; rfl
  have e2 : (kds.map fun p => keyD p.1) = (kds.map (·.1)).map keyD := by rw [List.map_map]; rfl
  rw [e]
  rw [e2] at p
  have g4 := Grow.own g0 (HO.lst ((kds.map (·.1)).map kV)) nl
  exact k _ _ _ _ p g4 (.inl ⟨l, rfl, g0.s.free nl, own_mkL upd_same (dqA_keys _)⟩) fun q e => by cases e; exact nn_of nl
/-! ### a tuple of two own roots -/
theorem tr_two {F H : Hp} {a : Addr} {v w : V} {x y : D} (na : H a = none) (fa : F a = none) (hx : (∃ p, v = .ref p ∧ F p = none ∧ Own F H p x) ∨ Atm v x) (hy : (∃ p, w = .ref p ∧ F p = none ∧ Own F H p y) ∨ Atm w y) (hne : ∀ p, v = .ref p → w = .ref p → False) :
    ∃ A, Tr F (upd H a (.tup [v, w])) (.ref a) (.tuple [x, y]) (a :: A) ∧ ∀ q ∈ A, v = .ref q ∨ w = .ref q := by
  have mono : ∀ {p : Addr} {d : D}, Own F H p d → a ≠ p ∧ Own F (upd H a (.tup [v, w])) p d := fun {p d} o => by
    have hp : a ≠ p := by
      rintro rfl
      obtain ⟨u, e, _⟩ := o.some
      rw [na] at e
      cases e
    exact ⟨hp, o.mono (Same.refl _) (upd_ne (Ne.symm hp))⟩
  rcases hx with ⟨p, rfl, n1, o1⟩ | hx
  · obtain ⟨h1, o1⟩ := mono o1
    rcases hy with ⟨q, rfl, n2, o2⟩ | hy
    · obtain ⟨h2, o2⟩ := mono o2
      refine ⟨[p, q], ⟨a, [p, q], rfl, fa, rfl, by simp [h1, h2], _, upd_same, .own n1 o1 (.own n2 o2 .nil (by simp)) ?_⟩, by simp⟩
      rw [List.mem_singleton]
      rintro rfl
      exact hne _ rfl rfl
    · exact ⟨[p], ⟨a, [p], rfl, fa, rfl, by simp [h1], _, upd_same, .own n1 o1 (.atm hy .nil) (by simp)⟩, by simp⟩
  · rcases hy with ⟨q, rfl, n2, o2⟩ | hy
    · obtain ⟨h2, o2⟩ := mono o2
      exact ⟨[q], ⟨a, [q], rfl, fa, rfl, by simp [h2], _, upd_same, .atm hx (.own n2 o2 .nil (by simp))⟩, by simp⟩
    · exact ⟨[], ⟨a, [], rfl, fa, rfl, by simp, _, upd_same, .atm hx (.atm hy .nil)⟩, by simp⟩
theorem nw_key {F H : Hp} {v : V} {x : D} (hx : (∃ p, v = .ref p ∧ F p = none ∧ Own F H p x) ∨ Atm v x) (ha : atmB x = false) : ∃ p, v = .ref p := by
  rcases hx with ⟨p, e, _⟩ | hx
  · exact ⟨p, e⟩
  · unfold Atm at hx
    cases hx <;> first | (simp [atmB] at ha; done) | (rename_i z _; cases z) | (rename_i z _ _; cases z)
theorem notK {v w : V} (h : (∃ p, v = .ref p) ∨ ∃ p, w = .ref p) : ∀ k : List Key, HO.tup [v, w] ≠ .tup (k.map kV) := by
  intro k z
  injection z with z
  match k, z with
  | [k1, k2], z =>
    simp only [List.map_cons, List.map_nil, List.cons.injEq, and_true] at z
    rcases h with ⟨p, rfl⟩ | ⟨p, rfl⟩
    · have := z.1
      cases k1 <;> cases this
    · have := z.2
      cases k2 <;> cases this
def dTup2 (ta tb : DT) : DT := fun ρ P Z => ta ρ (fun x => tb ρ (fun y => (atmB x = false ∨ atmB y = false) ∧ P (.tuple [x, y])) Z) Z
theorem de_tup2 {ea eb : Expr} {x1} {ta tb : DT} (ha : DE X W .nw ea ta) (hb : DE X W .nw eb tb) (hs : starEach [ea, eb] X.env = (false, eval ea X.env) :: starEach [eb] X.env := by rfl) (hs2 : starEach [eb] X.env = (false, eval eb X.env) :: starEach [] X.env := by rfl) :
    DE X W .n2 (.Tuple [ea, eb] x1 pos) (dTup2 ta tb) := by
  obtain ⟨te1, p1, s1⟩ := ha.ok
  obtain ⟨te2, p2, s2⟩ := hb.ok
  refine ⟨_, pe_tup (pa_cons p1 (pa_cons p2 pa_nil hs2) hs), fun b F H σ ρ Q P Z R z q k => s1 b F H σ ρ _ _ Z R z q fun x v F1 H1 q1 g1 r1 f1 => s2 b F1 H1 σ ρ _ _ Z (R.grow g1) (z.mono g1.f) q1 fun y w F2 H2 q2 g2 r2 f2 => ?_⟩
  obtain ⟨hat, q2⟩ := q2
  have r1' : VR .nw X.K b F2 H2 v x := VR.grow g2 r1
  refine ⟨sz5 (by simp), fun a na => ?_⟩
  have R2 := (R.grow g1).grow g2
  have fa : F2 a = none := R2.same.free na
  have hne : ∀ p, v = .ref p → w = .ref p → False := fun p e1 e2 => by
    subst e1
    rcases r1 with ⟨p', e, _, o⟩ | r1
    · cases e
      obtain ⟨u, eu, iu⟩ := o.some
      obtain ⟨ps, z⟩ := f2 _ e2 u eu
      exact isD_n iu ps z
    · exact atm_ref r1
  obtain ⟨A, t, hA⟩ := tr_two na fa r1' r2 hne
  have hk : (∃ p, v = .ref p) ∨ ∃ p, w = .ref p := hat.imp (nw_key r1') (nw_key r2)
  have g4 := Grow.own R2.g (HO.tup [v, w]) na (notK hk)
  refine k _ _ _ _ q2 ((g1.trans g2).trans g4) ⟨_, t⟩ fun A2 t2 c hc => ?_
  rw [← t.uniq (fun _ _ e _ => e) t2] at hc
  rcases List.mem_cons.mp hc with rfl | hc
  · exact (g1.trans g2).h.free na
  · rcases hA c hc with e | e
    · exact f1 c e
    · exact g1.h.nn (f2 c e)
def dRetP (i j : Nat) : DS := fun d _ ρ => ∃ x y, ρ[i]? = some (.ow x) ∧ ρ[j]? = some (.ow y) ∧ (atmB x = false ∨ atmB y = false) ∧ d.rt (.tuple [x, y])
theorem ds_retP (i j : Nat) {x y : Str} {p0 p1 p2 : Pos} {x1} (hx : PE X (.Name x p0) (tVar i)) (hy : PE X (.Name y p1) (tVar j)) (hij : i ≠ j := by decide)
    (hs : starEach [.Name x p0, .Name y p1] X.env = (false, eval (.Name x p0) X.env) :: starEach [.Name y p1] X.env := by rfl) (hs2 : starEach [.Name y p1] X.env = (false, eval (.Name y p1) X.env) :: starEach [] X.env := by rfl) :
    DS1 X W .n2 (.Return (some (.Tuple [.Name x p0, .Name y p1] x1 p2)) pos) (dRetP i j) := by
  refine ⟨_, ps_ret (pe_tup (pa_cons hx (pa_cons hy pa_nil hs2) hs)), fun b F H σ ρ D d Z R z q c => ?_⟩
  obtain ⟨x, y, ei, ej, hat, p⟩ := q
  obtain ⟨fp, f1, f2, f3⟩ := R.ex
  obtain ⟨v, ev, r1⟩ := f1 i _ ei
  obtain ⟨w, ew, r2⟩ := f1 j _ ej
  refine ⟨v, ev, w, ew, sz5 (by simp), fun a na => ?_⟩
  have hne : ∀ p, v = .ref p → w = .ref p → False := fun p e1 e2 => by
    subst e1
    subst e2
    rcases r1 with ⟨_, r1⟩ | ⟨q, e, eA, _⟩
    · exact atm_ref r1
    · cases e
      rcases r2 with ⟨_, r2⟩ | ⟨q2, e2, eB, _⟩
      · exact atm_ref r2
      · cases e2
        exact f3 i j p hij (by rw [eA]; simp) (by rw [eB]; simp)
  have r1' : (∃ p, v = .ref p ∧ F p = none ∧ Own F H p x) ∨ Atm v x := r1.elim (fun r => .inr r.2) fun ⟨p, e, _, n, _, o⟩ => .inl ⟨p, e, n, o⟩
  have r2' : (∃ p, w = .ref p ∧ F p = none ∧ Own F H p y) ∨ Atm w y := r2.elim (fun r => .inr r.2) fun ⟨p, e, _, n, _, o⟩ => .inl ⟨p, e, n, o⟩
  have n1 : ∀ q, v = .ref q → Nn b.H q := fun q e => by
    subst e
    rcases r1 with ⟨_, r1⟩ | ⟨q', e, _, _, n, _⟩
    · exact (atm_ref r1).elim
    · cases e
      exact n
  have n2 : ∀ q, w = .ref q → Nn b.H q := fun q e => by
    subst e
    rcases r2 with ⟨_, r2⟩ | ⟨q', e, _, _, n, _⟩
    · exact (atm_ref r2).elim
    · cases e
      exact n
  have fa : F a = none := R.same.free na
  obtain ⟨A, t, hA⟩ := tr_two na fa r1' r2' hne
  have hk : (∃ p, v = .ref p) ∨ ∃ p, w = .ref p := hat.imp (nw_key r1') (nw_key r2')
  have g4 := Grow.own R.g (HO.tup [v, w]) na (notK hk)
  refine c.rt _ _ F _ (R.g.trans g4) ⟨_, t⟩ (fun A2 t2 c hc => ?_) p
  rw [← t.uniq (fun _ _ e _ => e) t2] at hc
  rcases List.mem_cons.mp hc with rfl | hc
  · exact R.g.h.free na
  · rcases hA c hc with e | e
    · exact n1 c e
    · exact n2 c e
/-! ### sorted(x, reverse=True) -/
end
end DL
namespace DL
open PySem PySem.Calls PySem.Spec PyProof.Rows PyProof.V PySem.W SrtO SrtR
section
variable {prog : Program} {w : World} {A : Around} {E : Value → Shared → Prop} {s : Shared}
theorem sorted_ordT {l : Addr} {vs : List Value} {o : Obj} {n : Nat} {b : Bool} {kw : List (Str × Value)} {ltv : Value → Value → Bool} {Q : Value → Shared → Prop} (hk : ∀ a, Builtin.«list.sort» ⟨[.ref a], kw⟩ = Builtin.«list.sort» ⟨[.ref a], [(Str.ofString "reverse", .bool b)]⟩)
    (ha1 : argsOk "sorted" ⟨[.ref l], kw⟩) (ha2 : ∀ a, argsOk "list.sort" ⟨[a], kw⟩) (O : Swo ltv) (ho : s.heap.get? l = some o) (hc : o.cls = .type "tuple") (hd : o.data = .seq vs.toArray n) (hz : vs.length ≤ sizeLine)
    (hS : 2 ≤ vs.length → ∀ (h₁ : Heap) (a : Addr), h₁.get? a = some (seqObj "list" vs.toArray 0) → (∀ b o, s.heap.get? b = some o → b ≠ a ∧ h₁.get? b = some o) → SortableO prog w A.in1.in1 { s with heap := h₁ } a vs ltv)
    (h : ∀ out : List Value, Srtd ltv out → Stb ltv out (if b = true then vs.reverse else vs) → Q (.ref (s.heap.objs.size + 1)) { s with heap := sortedAll s.heap vs (if b = true then out.toArray.reverse else out.toArray) }) :
    wpAny (model prog w) A (call (.builtin "sorted") [.ref l] kw) Q E s := by
  refine call_function_entry_kw kind_sorted plain_sorted entry_sorted ha1 ?_
  unfold Builtin.«sorted»
  refine wpAny_bind (m := checkCount "sorted" 1 1 _) (wpAny_pure ?_)
  refine wpAny_bind (collect_tupV ho hc hd ?_ hz)
  refine wpAny_bind (wpAny_newList ?_ hz)
  have hsz : ((s.heap.push (seqObj "list" #[] 0)).update s.heap.objs.size (Obj.mapSeq (· ++ vs.toArray))).objs.size = s.heap.objs.size + 1 := by
    rw [Heap.size_update, size_push']
  have hoL : (((s.heap.push (seqObj "list" #[] 0)).update s.heap.objs.size (Obj.mapSeq (· ++ vs.toArray))).push (seqObj "list" vs.toArray 0)).get? (s.heap.objs.size + 1) = some (seqObj "list" vs.toArray 0) := by
    rw [← hsz]; exact Heap.get?_push_size _ rfl
  have keep : ∀ b o, s.heap.get? b = some o → b ≠ s.heap.objs.size + 1 ∧ (((s.heap.push (seqObj "list" #[] 0)).update s.heap.objs.size (Obj.mapSeq (· ++ vs.toArray))).push (seqObj "list" vs.toArray 0)).get? b = some o := fun b o q => by
    have hlt : b < s.heap.objs.size := Heap.lt_size q
    refine ⟨Nat.ne_of_lt (Nat.lt_succ_of_lt hlt), Heap.get?_push_of_some _ ?_⟩
    rw [Heap.get?_update_ne _ _ _ _ (Nat.ne_of_lt hlt)]
    exact Heap.get?_push_of_some _ q
  show wpAny _ _ _ _ _ { s with heap := ((s.heap.push (seqObj "list" #[] 0)).update s.heap.objs.size (Obj.mapSeq (· ++ vs.toArray))).push (seqObj "list" vs.toArray 0) }
  rw [hsz]
  refine wpAny_bind (wpAny_holding (wpAny_call_entry_kw slot_list_sort ⟨_, hoL, rfl⟩ entry_list_sort ?_ (ha2 _)))
  rw [hk]
  refine list_sort_ordR O hoL hz (fun h2 => hS h2 _ _ hoL keep) fun out hs hb => ⟨_, rfl, ?_⟩
  exact wpAny_pure ⟨_, rfl, h out hs hb⟩
end
end DL
namespace DL
open PySem PySem.Spec PyProof.Rows L2
def rSortRT (K : PySem.W.Frag) : List V → List V → Hp → VK → Prop := fun vs zs H Q => ∃ (a : Addr) (ns : List Int), vs = [V.ref a] ∧ zs = [V.bl true] ∧ SqT K H a (ns.map V.int) ∧ ns.length ≤ 100000 ∧
  ∀ (ns' : List Int) (p : Addr), ns'.Perm ns → OrdB true ns' → H p = none → Q (.ref p) (upd H p (.lst (ns'.map V.int)))
theorem cr_sortRT {X : Cx} : CallRK X (.builtin "sorted") [Str.ofString "reverse"] (rSortRT X.K) := by
  intro pins s σ H vs zs us ws Q I r rz h
  obtain ⟨a, ns, rfl, rfl, hs, hl, q⟩ := h
  obtain rfl := Vals.ref1 r
  obtain ⟨w1, rfl, e1⟩ := vals1 rz
  obtain rfl : w1 = Value.bool true := e1
  obtain ⟨its, rv, ⟨o, ho, hc, n, hd⟩, _⟩ := I.tuple hs
  have hi := rv.ints
  have hlI : its.length = ns.length := by rw [← rv.length, List.length_map]
  refine sorted_ordT (b := true) (fun _ => rfl) (PyProof.Rows.args_sorted_rev _ _) (fun _ => PyProof.Rows.args_list_sort_rev _ _) SrtO.swo_int ho hc hd (sz5 (by omega)) (fun h2 h₁ a' _ _ => SrtO.ints_sortable hi h2) fun out h1 h2 => ?_
  obtain ⟨ns', k1, k2, k3⟩ := SrtR.ints_outR hi h1 h2
  obtain ⟨ep, he'⟩ := PyProof.Rows.sortedAll_at s.heap its (if true = true then out.toArray.reverse else out.toArray)
  have hlen : (ns'.map V.int).length ≤ sizeLine := by
    rw [List.length_map, k2.length_eq]
    exact sz5 hl
  have e0 : ((if true = true then out.toArray.reverse else out.toArray).toList).toArray = (if true = true then out.toArray.reverse else out.toArray) := by rw [Array.toArray_toList]
  exact ⟨.ref _, upd H (s.heap.objs.size + 1) (.lst (ns'.map V.int)), I.laid (t' := s.toks) (fun _ _ => PyProof.Rows.sortedAll_old) (Nat.le_succ _) ⟨hlen, _, ep, vals_of_ints k1, by rw [e0]; exact he'⟩, rfl, q ns' _ k2 k3 (I.hok.fresh (Nat.le_succ _))⟩
section
variable {X : Cx} {W : WT} {pos : Pos} {m : Md}
def sortRevR (x : D) (P : D → Prop) : Prop := ∃ ns : List Int, (x = .list (ns.map .int) ∨ x = .tuple (ns.map .int)) ∧ ns.length ≤ 100000 ∧ ∀ ns' : List Int, ns'.Perm ns → ns'.Pairwise (· ≥ ·) → P (.list (ns'.map .int))
def dSortRev (t : DT) : DT := fun ρ P Z => t ρ (fun x => sortRevR x P) Z
theorem de_sortRev {e : Expr} {t : DT} {p kp : Pos} {ki kj} (h : DE X W m e t) (hm : X.mg "sorted" = none) (hg : Gl X "sorted" := by rfl)
    (he : starEach [e] X.env = (false, eval e X.env) :: starEach [] X.env := by rfl)
    (he2 : backTo pos (starEach [e] X.env) = (false, eval e X.env) :: backTo pos (starEach [] X.env) := by rfl) (hpl : (backTo pos (starEach [e] X.env)).any (·.1) = false := by rfl)
    (hall : (backToKw pos (keywordEach [⟨some "reverse", .Constant (.bool true) ki kj, kp⟩] X.env)).all (·.1.isSome) = true := by rfl) (hnone : (backToKw pos (keywordEach [⟨some "reverse", .Constant (.bool true) ki kj, kp⟩] X.env)).any (·.1.isNone) = false := by rfl) (hks : (backToKw pos (keywordEach [⟨some "reverse", .Constant (.bool true) ki kj, kp⟩] X.env)).filterMap (·.1) = [Str.ofString "reverse"] := by rfl) (hsh : m.sh = true := by rfl) :
    DE X W .nw (.Call (.Name "sorted" p) [e] [⟨some "reverse", .Constant (.bool true) ki kj, kp⟩] pos) (dSortRev t) := by
  obtain ⟨te, pe, s⟩ := h.ok
  refine ⟨_, pe_callBK (r := fun vs zs H Q => rSortedKw X.K true [.bl true] vs zs H Q ∨ rSortRT X.K vs zs H Q) (fun pins s σ H xs zs us ws Q I r1 r2 h => h.elim (cr_sortedRev pins s σ H xs zs us ws Q I r1 r2) (cr_sortRT pins s σ H xs zs us ws Q I r1 r2)) hg hm PyProof.Rows.boot_sorted (pa_cons pe pa_nil he) (pk_cons pe_bl pk_nil) (by decide) (by decide) he2 hpl hall hnone hks, fun b F H σ ρ Q P Z R z q k => s b F H σ ρ _ _ Z R z q fun x v F1 H1 q1 g1 r _ => ?_⟩
  obtain ⟨ns, e, hl, q1⟩ := q1
  have g0 := R.g.trans g1
  have fin : ∀ (ns' : List Int) (p : Addr), ns'.Perm ns → OrdB true ns' → H1 p = none → Q (.ref p) (upd H1 p (.lst (ns'.map V.int))) := fun ns' p h1 h2 nl => by
    have g4 := Grow.own g0 (HO.lst (ns'.map V.int)) nl
    exact k _ _ _ _ (q1 ns' h1 h2) (g1.trans g4) (.inl ⟨p, rfl, g0.s.free nl, own_mkL upd_same (dqA_ints _)⟩) fun q e => by cases e; exact g1.h.free nl
  rcases e with rfl | rfl
  · obtain ⟨a, xs, rfl, sq, dq⟩ := vr_lst g0.s (r.rd hsh g0)
    rw [ints_dq dq] at sq
    exact .inl ⟨a, ns, rfl, rfl, sq, fin⟩
  · obtain ⟨a, xs, rfl, sq, dq⟩ := vr_tup g0.s (r.rd hsh g0)
    rw [ints_dq dq] at sq
    exact .inr ⟨a, ns, rfl, rfl, sq, hl, fin⟩
/-! ### x.remove(e) -/
def RemAt (ds : List D) (y : D) (j : Nat) : Prop := ∃ z, ds[j]? = some z ∧ PyData.eqv z y = true ∧ ∀ (m : Nat) (z' : D), m < j → ds[m]? = some z' → PyData.eqv z' y = false
def rRemS (K : PySem.W.Frag) : V → List V → Hp → VK → Prop := fun x xs H Q => ∃ (a : Addr) (y : V) (d : D) (vs : List V) (ds : List D) (j : Nat), x = V.ref a ∧ xs = [y] ∧ H a = some (.lst vs) ∧ DpAll K H vs ds ∧ Dp K H y d ∧ Shp 8 d ∧ (∀ z ∈ ds, Shp 8 z) ∧ RemAt ds d j ∧ Q .non (upd H a (.lst (vs.eraseIdx j)))
theorem mt_remS (hu : X.A.units + 64 < cLine) : MtR X "list.remove" (rRemS X.K) := by
  intro pins s σ H x xs v us Q I rx rxs h
  obtain ⟨a, y, d, vs, ds, j, rfl, rfl, hH, hl, hy, sd, sl, ⟨zz, hz, hzj, hno⟩, q⟩ := h
  cases rx
  cases rxs with
  | cons ry rt =>
    rename_i uy ut
    cases rt
    obtain ⟨bs, r1⟩ := Dp.reads I d y uy hy ry
    obtain ⟨d1, d2, _⟩ := shp_ok 8 _ sd
    obtain ⟨e1, e2, _⟩ := shpA (shp_ok 8) ds sl
    have hroom : X.A.units + 1 + min (PyData.depthAll ds) d.depth < cLine := by have := Nat.min_le_right (PyData.depthAll ds) d.depth; omega
    obtain ⟨z, its, n, rv, hlen, e⟩ := I.lstM hH
    obtain ⟨as, h4⟩ := Dp.readsAll I ds _ its hl rv
    have hn : its.length = ds.length := SeqAt.ReadsAll.length ds its as h4
    have hmap : its.map (SeqAt.readOf s.heap) = ds := SeqAt.readsAll_map ds its as e1 h4
    obtain ⟨hjd, _⟩ := List.getElem?_eq_some_iff.mp hz
    have hjl : j < its.length := by omega
    have hj : j < its.toArray.size := by simpa using hjl
    have at_ : ∀ (m : Nat) (hm : m < its.toArray.size) (z' : PyData), ds[m]? = some z' → SeqAt.readOf s.heap its.toArray[m] = z' := by
      intro m hm z' hz'
      have hml : m < its.length := by simpa using hm
      rw [← hmap, List.getElem?_map, List.getElem?_eq_getElem hml] at hz'
      have e1 : SeqAt.readOf s.heap its[m] = z' := Option.some.inj (show some (SeqAt.readOf s.heap its[m]) = some z' from hz')
      simpa using e1
    refine call_meets PySem.F.slot_list_remove ⟨_, e, rfl⟩ PySem.F.entry_list_remove (PySem.F.args_list_remove_2 _ _)
      (SeqAt.list_removeAt a its.toArray n none #[] uy (fun u => PyData.eqv (SeqAt.readOf s.heap u) d) j hj ?_ ?_ (by rw [List.size_toArray]; omega)) ⟨e, SeqAt.items_eqAt (vs := its.toArray) (show ReadsAll s.heap its.toArray.toList ds as from h4) r1 e1 d1 hroom, ?_⟩
    · show PyData.eqv (SeqAt.readOf s.heap its.toArray[j]) d = true
      rw [at_ j hj zz hz]
      exact hzj
    · intro m hm hmj
      have hmd : m < ds.length := by omega
      have hz' : ds[m]? = some ds[m] := List.getElem?_eq_getElem hmd
      show PyData.eqv (SeqAt.readOf s.heap its.toArray[m]) d = false
      rw [at_ m hm _ hz']
      exact hno m _ hmj hz'
    · refine ⟨.non, _, I.lset (its' := its.eraseIdx j) (t' := s.toks) hH e ?_ (rv.eraseIdx j) ?_, rfl, q⟩
      · show its.toArray.eraseIdxIfInBounds j = (its.eraseIdx j).toArray
        rw [List.eraseIdxIfInBounds_toArray]
      · rw [List.length_eraseIdx]
        split <;> omega
def dRem (i : Nat) (t : DT) : DS := fun d Z ρ => ∃ ds, ρ[i]? = some (.ow (.list ds)) ∧ t ρ (fun y => ∃ j, Shp 8 y ∧ (∀ z ∈ ds, Shp 8 z) ∧ RemAt ds y j ∧ d.nx (ρ.set i (.ow (.list (ds.eraseIdx j))))) Z
theorem DqA.erase {F : Hp} : ∀ {vs : List V} {ds : List D} (j : Nat), DqA F vs ds → DqA F (vs.eraseIdx j) (ds.eraseIdx j)
  | _, _, _, .nil => .nil
  | _, _, 0, .cons _ q => q
  | _, _, j + 1, .cons a q => .cons a (DqA.erase j q)
theorem ds_rem {rm : Md} (i : Nat) {x : Str} {p0 apos cpos : Pos} {e : Expr} {t : DT} (hu : X.A.units + 64 < cLine) (hx : PE X (.Name x p0) (tVar i)) (h : DE X W .fz e t) (hs0 : swapsWith (.Call (.Attribute (.Name x p0) "remove" apos) [e] [] cpos) none pos.line X.env = pure false := by rfl)
    (hbase : attributeBase (.Name x p0) "remove" X.env (eval (.Name x p0) X.env) = eval (.Name x p0) X.env := by rfl)
    (hfew : ((backTo cpos (starEach (e :: []) X.env)).all (fun x => !x.1) && (backToKw cpos (keywordEach [] X.env)).all (fun x => x.1.isSome)
      && decide ((e :: []).length + ([] : List Keyword).length + (if ([] : List Keyword).isEmpty then 0 else 1) < 30)) = true := by rfl)
    (hline : (apos.endLine == cpos.line) = true := by rfl) (hs : starEach (e :: []) X.env = (false, eval e X.env) :: starEach [] X.env := by rfl) (hplain : (backTo cpos (starEach [] X.env)).any (·.1) = false := by rfl) :
    DS1 X W rm (.Expr (.Call (.Attribute (.Name x p0) "remove" apos) [e] [] cpos) pos) (dRem i t) := by
  obtain ⟨te, p, s⟩ := h.ok
  refine ⟨_, ps_expr (pe_bm PySem.F.plainAttrs_list PySem.F.slot_list_remove PySem.F.type_list_remove (mt_remS hu) hx (pa_cons p pa_nil hs) hbase hfew hline hs hplain) hs0, fun b F H σ ρ D d Z R z q c => ?_⟩
  obtain ⟨ds, e1, q⟩ := q
  obtain ⟨a, es, n, n2, xs, hH, hq⟩ := R.ow e1 rfl
  refine ⟨.ref a, es, .inl ⟨rfl, _, SqL.of hH⟩, s b F H σ ρ _ _ Z R z q fun y v F1 H1 p1 g r f => ?_⟩
  obtain ⟨j, sy, sds, hp, p1⟩ := p1
  have R1 := R.grow g
  have fl := (shpA (shp_ok 8) ds sds).2.2
  refine ⟨a, v, y, xs, ds, j, rfl, rfl, g.h.ap hH, (hq.mono g.f).dp R1.same fl, VR.dp (b := b) R1.same (.inl r) (shp_ok 8 _ sy).2.2, sy, sds, hp, ?_⟩
  exact c.nx _ F1 _ σ g.f (R1.write e1 es (own_mkL upd_same (DqA.erase j (hq.mono g.f)))) p1
end
end DL
set_option maxRecDepth 100000
set_option maxHeartbeats 4000000
/-! DMX: a, b = e, e a new tuple of two own roots. -/
namespace DL
open PySem PySem.Spec PyProof.Rows L2
theorem Rep.storeD {K : PySem.W.Frag} {b : B} {F H : Hp} {σ : L2.St} {ρ : List Sl} (R : Rep K b F H σ ρ) (i : Nat) (v : Option V) (s : Sl) {A : List Addr} (ok : SlF K b F H (some v) s A)
    (fr : ∀ fp : Nat → List Addr, (∀ (i : Nat) (s : Sl), ρ[i]? = some s → SlF K b F H σ[i]? s (fp i)) → ∀ (m : Nat) (t : Sl), ρ[m]? = some t → ∀ a ∈ A, a ∉ fp m) : Rep K b F H (σ.set i v) (ρ.set i s) := by
  obtain ⟨fp, f1, f2, f3⟩ := R.ex
  by_cases hi : i < ρ.length
  · refine ⟨R.g, R.tt, by rw [List.length_set, List.length_set]; exact R.len, ovr fp (fun j => decide (j = i)) A, fun j t e => ?_, fun j e => ?_, fun j k a hjk h1 h2 => ?_⟩
    · by_cases hj : j = i
      · subst hj
        rw [List.getElem?_set_self hi] at e
        cases e
        rw [ovr_pos (by simp), List.getElem?_set_self (by rw [R.len]; exact hi)]
        exact ok
      · rw [List.getElem?_set_ne (Ne.symm hj)] at e ⊢
        rw [ovr_neg (by simpa using hj)]
        exact f1 j t e
    · have hj : j ≠ i := by
        rintro rfl
        rw [List.getElem?_set_self hi] at e
        cases e
      rw [List.getElem?_set_ne (Ne.symm hj)] at e
      rw [ovr_neg (by simpa using hj)]
      exact f2 j e
    · have out : ∀ m, a ∈ fp m → a ∈ A → False := fun m h1 h2 => by
        cases e : ρ[m]? with
        | none => rw [f2 m e] at h1; simp at h1
        | some t => exact fr fp f1 m t e a h2 h1
      by_cases hj : j = i
      · rw [ovr_pos (by simpa using hj)] at h1
        by_cases hk : k = i
        · exact hjk (hj.trans hk.symm)
        · rw [ovr_neg (by simpa using hk)] at h2
          exact out k h2 h1
      · rw [ovr_neg (by simpa using hj)] at h1
        by_cases hk : k = i
        · rw [ovr_pos (by simpa using hk)] at h2
          exact out j h1 h2
        · rw [ovr_neg (by simpa using hk)] at h2
          exact f3 j k a hjk h1 h2
  · rw [List.set_eq_of_length_le (by rw [R.len]; omega), List.set_eq_of_length_le (by omega)]
    exact R
theorem own_sl {K : PySem.W.Frag} {b : B} {F H : Hp} {v : V} {x : D} (hx : (∃ p, v = .ref p ∧ F p = none ∧ Own F H p x) ∨ Atm v x) (hn : ∀ p, v = .ref p → Nn b.H p) : ∃ A, SlF K b F H (some (some v)) (.ow x) A ∧ ∀ a ∈ A, v = .ref a := by
  rcases hx with ⟨p, rfl, n, o⟩ | hx
  · exact ⟨[p], ⟨_, rfl, .inr ⟨p, rfl, rfl, n, hn p rfl, o⟩⟩, by simp⟩
  · exact ⟨[], ⟨_, rfl, .inl ⟨rfl, hx⟩⟩, by simp⟩
theorem kids2 {F H : Hp} {xs : List V} {x y : D} {A : List Addr} (k : Kids F H xs [x, y] A) : ∃ v w, xs = [v, w] ∧ ((∃ p, v = .ref p ∧ F p = none ∧ Own F H p x) ∨ Atm v x) ∧ ((∃ p, w = .ref p ∧ F p = none ∧ Own F H p y) ∨ Atm w y) ∧ (∀ p, v = .ref p → p ∈ A) ∧ (∀ p, w = .ref p → p ∈ A) ∧ ∀ p, v = .ref p → w = .ref p → False := by
  cases k with
  | own n o k m =>
    cases k with
    | own n2 o2 k2 m2 =>
      cases k2
      refine ⟨_, _, rfl, .inl ⟨_, rfl, n, o⟩, .inl ⟨_, rfl, n2, o2⟩, fun p e => by cases e; simp, fun p e => by cases e; simp, fun p e1 e2 => ?_⟩
      cases e1
      cases e2
      simp at m
    | atm a2 k2 =>
      cases k2
      exact ⟨_, _, rfl, .inl ⟨_, rfl, n, o⟩, .inr a2, fun p e => by cases e; simp, fun p e => by subst e; exact (atm_ref a2).elim, fun p e1 e2 => by subst e2; exact atm_ref a2⟩
  | atm a1 k =>
    cases k with
    | own n2 o2 k2 m2 =>
      cases k2
      exact ⟨_, _, rfl, .inr a1, .inl ⟨_, rfl, n2, o2⟩, fun p e => by subst e; exact (atm_ref a1).elim, fun p e => by cases e; simp, fun p e1 e2 => by subst e1; exact atm_ref a1⟩
    | atm a2 k2 =>
      cases k2
      exact ⟨_, _, rfl, .inr a1, .inr a2, fun p e => by subst e; exact (atm_ref a1).elim, fun p e => by subst e; exact (atm_ref a2).elim, fun p e1 e2 => by subst e1; exact atm_ref a1⟩
section
variable {X : Cx} {W : WT} {pos : Pos} {rm : Md}
def dAsgP (i j : Nat) (t : DT) : DS := fun d Z ρ => t ρ (fun z => ∃ x y, z = .tuple [x, y] ∧ d.nx ((ρ.set i (.ow x)).set j (.ow y))) Z
theorem ds_asgP (i j : Nat) {x y : Str} {px py pt : Pos} {kt} {e : Expr} {t : DT} (hc : X.calm = true) (hN : X.N.Nodup) (h : DE X W .n2 e t) (hi : X.N[i]? = some x := by rfl) (hj : X.N[j]? = some y := by rfl) (hij : i ≠ j := by decide)
    (hx : Loc X.env.scope x := by first | exact Or.inl rfl | exact Or.inr rfl) (hy : Loc X.env.scope y := by first | exact Or.inl rfl | exact Or.inr rfl)
    (hfx : X.fn x = true ∨ X.env.scope.names.lookup x = some .local := by first | exact .inl rfl | exact .inr rfl) (hfy : X.fn y = true ∨ X.env.scope.names.lookup y = some .local := by first | exact .inl rfl | exact .inr rfl)
    (hn : (assignEach [.Name x px, .Name y py] X.env).length = 2 := by rfl) (hst : (assignEach [.Name x px, .Name y py] X.env).findIdx? (·.1) = none := by rfl)
    (hs1 : (assignEach [.Name x px, .Name y py] X.env).map (·.2) = assign (.Name x px) X.env :: (assignEach [.Name y py] X.env).map (·.2) := by rfl) (hs2 : (assignEach [.Name y py] X.env).map (·.2) = assign (.Name y py) X.env :: (assignEach [] X.env).map (·.2) := by rfl)
    (hs : swapsWithSole [.Tuple [.Name x px, .Name y py] kt pt] e pos.line X.env = pure false := by rfl) (hw : swappedStores [.Tuple [.Name x px, .Name y py] kt pt] e X.env = pure none := by rfl)
    (h1 : (assignEach [.Tuple [.Name x px, .Name y py] kt pt] X.env).map (·.2) = [assign (.Tuple [.Name x px, .Name y py] kt pt) X.env] := by rfl) : DS1 X W rm (.Assign [.Tuple [.Name x px, .Name y py] kt pt] e pos) (dAsgP i j t) := by
  obtain ⟨te, p, s⟩ := h.ok
  refine ⟨_, ps_asg p (pg_tup hc (pgs_cons (pg_name hN hi hx hfx) (pgs_cons (pg_name hN hj hy hfy) pgs_nil hs2) hs1) hn hst) hs hw h1, fun b F H σ ρ D d Z R z q c => s b F H σ ρ _ _ Z R z q fun zz u F' H' p g r f => ?_⟩
  obtain ⟨x, y, rfl, p⟩ := p
  obtain ⟨A, tr⟩ := r
  have fA := f A tr
  obtain ⟨a, A', rfl, na, rfl, hp, xs, hH, kd⟩ := id tr
  obtain ⟨v, w, rfl, r1, r2, h1, h2, hne⟩ := kids2 kd
  have hnv : ∀ p, v = .ref p → Nn H p := fun p e => fA p (by simp [h1 p e])
  have hnw : ∀ p, w = .ref p → Nn H p := fun p e => fA p (by simp [h2 p e])
  obtain ⟨A1, s1, m1⟩ := own_sl (K := X.K) r1 fun p e => R.g.h.nn (hnv p e)
  obtain ⟨A2, s2, m2⟩ := own_sl (K := X.K) r2 fun p e => R.g.h.nn (hnw p e)
  have R1 := R.store g i (some v) (.ow x) s1 fun a ha => hnv a (m1 a ha)
  have R2 := R1.storeD j (some w) (.ow y) s2 fun fp hf m t e c hc hcm => by
    by_cases hm : m = i
    · subst hm
      have hi' : m < ρ.length := by
        have := (List.getElem?_eq_some_iff.mp e).1
        rwa [List.length_set] at this
      rw [List.getElem?_set_self hi'] at e
      cases e
      have q := hf m (.ow x) (List.getElem?_set_self hi')
      rw [List.getElem?_set_self (by rw [R.len]; exact hi')] at q
      have : fp m = A1 := q.uniq (fun _ _ e _ => e) s1
      rw [this] at hcm
      exact hne c (m1 c hcm) (m2 c hc)
    · have q := hf m t e
      rw [List.getElem?_set_ne (Ne.symm hm)] at e q
      obtain ⟨fp0, f1, f2, f3⟩ := R.ex
      have q0 := f1 m t e
      have : fp0 m = fp m := q0.uniq (fun a o e n => g.h.e a o e n) q
      rw [← this] at hcm
      obtain ⟨_, _, u, eu, iu⟩ := q0.mem c hcm
      obtain ⟨ps, z⟩ := hnw c (m2 c hc) u eu
      exact isD_n iu ps z
  exact ⟨a, _, rfl, .of hH, rfl, v, [w], rfl, w, [], rfl, rfl, c.nx _ F' H' _ g.f R2 p⟩
/-- .. of a lent tuple -/
def dAsgL (i j k : Nat) : DS := fun d _ ρ => ∃ x y, ρ[k]? = some (.lt (.tuple [x, y])) ∧ d.nx ((ρ.set i (.ln x)).set j (.ln y))
theorem ds_asgL (i j k : Nat) {x y zn : Str} {px py pt pz : Pos} {kt} (hc : X.calm = true) (hN : X.N.Nodup) (hz : PE X (.Name zn pz) (tVar k)) (hi : X.N[i]? = some x := by rfl) (hj : X.N[j]? = some y := by rfl)
    (hx : Loc X.env.scope x := by first | exact Or.inl rfl | exact Or.inr rfl) (hy : Loc X.env.scope y := by first | exact Or.inl rfl | exact Or.inr rfl)
    (hfx : X.fn x = true ∨ X.env.scope.names.lookup x = some .local := by first | exact .inl rfl | exact .inr rfl) (hfy : X.fn y = true ∨ X.env.scope.names.lookup y = some .local := by first | exact .inl rfl | exact .inr rfl)
    (hn : (assignEach [.Name x px, .Name y py] X.env).length = 2 := by rfl) (hst : (assignEach [.Name x px, .Name y py] X.env).findIdx? (·.1) = none := by rfl)
    (hs1 : (assignEach [.Name x px, .Name y py] X.env).map (·.2) = assign (.Name x px) X.env :: (assignEach [.Name y py] X.env).map (·.2) := by rfl) (hs2 : (assignEach [.Name y py] X.env).map (·.2) = assign (.Name y py) X.env :: (assignEach [] X.env).map (·.2) := by rfl)
    (hs : swapsWithSole [.Tuple [.Name x px, .Name y py] kt pt] (.Name zn pz) pos.line X.env = pure false := by rfl) (hw : swappedStores [.Tuple [.Name x px, .Name y py] kt pt] (.Name zn pz) X.env = pure none := by rfl)
    (h1 : (assignEach [.Tuple [.Name x px, .Name y py] kt pt] X.env).map (·.2) = [assign (.Tuple [.Name x px, .Name y py] kt pt) X.env] := by rfl) : DS1 X W rm (.Assign [.Tuple [.Name x px, .Name y py] kt pt] (.Name zn pz) pos) (dAsgL i j k) := by
  refine ⟨_, ps_asg hz (pg_tup hc (pgs_cons (pg_name hN hi hx hfx) (pgs_cons (pg_name hN hj hy hfy) pgs_nil hs2) hs1) hn hst) hs hw h1, fun b F H σ ρ D d Z R z q c => ?_⟩
  obtain ⟨x, y, ek, p⟩ := q
  obtain ⟨u, eu, r⟩ := R.sl k _ ek
  have fin : ∀ (a : Addr) (v w : V), SqT X.K H a [v, w] → VR .st X.K b F H v x → VR .st X.K b F H w y → u = .ref a → tVar k σ H fun v H1 => gTup X.K 2 (gCons (gName i) (gCons (gName j) L2.gNil)) v σ H1 fun σ' H' => D.nx σ' H' := fun a v w sq r1 r2 e => by
    subst e
    exact ⟨_, eu, a, _, rfl, sq, rfl, v, [w], rfl, w, [], rfl, rfl, c.nx _ F H _ (Same.refl _) ((R.setS i r1).setS j r2) p⟩
  have down : ∀ {vs : List V}, RKids X.K b.F b.H vs [x, y] → ∃ v w, vs = [v, w] ∧ VR .st X.K b F H v x ∧ VR .st X.K b F H w y := fun h => by
    cases h with
    | cons a h =>
      cases h with
      | cons a2 h =>
        cases h
        exact ⟨_, _, rfl, a.imp (fun q => q.mono R.g.f) id, a2.imp (fun q => q.mono R.g.f) id⟩
  rcases r with (r | ⟨a, rfl, xs, sq, dq⟩) | ⟨a, rfl, xs, sq, kd⟩
  · cases r with
    | tup e dq =>
      cases dq with
      | cons q1 dq =>
        cases dq with
        | cons q2 dq =>
          cases dq
          exact fin _ _ _ (.of (R.g.s _ _ (R.g.f _ _ e))) (.inl (q1.mono R.g.f)) (.inl (q2.mono R.g.f)) rfl
  · cases dq with
    | cons q1 dq =>
      cases dq with
      | cons q2 dq =>
        cases dq
        exact fin _ _ _ (SqT.same R.g.h sq) (.inl (q1.mono R.g.f)) (.inl (q2.mono R.g.f)) rfl
  · obtain ⟨v, w, rfl, r1, r2⟩ := down kd
    exact fin _ _ _ (SqT.same R.g.h sq) r1 r2 rfl
/-- name = [..], the items own roots -/
theorem ds_setLcT (i : Nat) {y : Str} {py spos : Pos} {tg : Expr} {gv : List Nat} {elt iter : Expr} {ifs : List Expr} {scope : Scope} {own : List (Str × Nat)} {ti : DTi} {g : DGt} {tt : DTt} {te : DT} (hc : X.calm = true) (hN : X.N.Nodup) (hi : DI X W true tg iter ti) (ok : BlkOk X.N X.env.scope scope own)
    (hv : ∀ i ∈ gv, i ∈ own.map (·.2))
    (hg : ∀ (s : Shared) (H : Hp) (C : Addr) (cl : List (Str × Addr)) (fp : List Addr), DG (X.blk s H scope (compEnvC scope cl C X.env) fp) gv tg g)
    (ht : ∀ (s : Shared) (H : Hp) (C : Addr) (cl : List (Str × Addr)) (fp : List Addr), DTs (X.blk s H scope (compEnvC scope cl C X.env) fp) (W0 W.T) ifs tt)
    (he : ∀ (s : Shared) (H : Hp) (C : Addr) (cl : List (Str × Addr)) (fp : List Addr), DE (X.blk s H scope (compEnvC scope cl C X.env) fp) (W0 W.T) .nw elt te)
    (hy : X.N[i]? = some y := by rfl) (hyl : X.env.scope.names.lookup y = some .local := by rfl) (hsw : swapsWith (.ListComp elt [⟨tg, iter, ifs, 0⟩] scope pos) (some (.Name y py)) spos.line X.env = pure true := by exact sw_true rfl rfl rfl (by decide +kernel))
    (hs : ∀ x, foldedSetIterable iter X.env x = pure x := by intro _; rfl) : DS1 X W rm (.Assign [.Name y py] (.ListComp elt [⟨tg, iter, ifs, 0⟩] scope pos) spos) (dSetT i (dLc (own.map (·.2)) ti g tt te)) := by
  obtain ⟨wi, pi, si⟩ := hi.ok
  refine ⟨_, ps_setLc hc hN hy hyl hsw pi ok (g := cG X.K gv g) (tt := cT X.mg X.K (W0 W.T) tt) (te := cE X.mg X.K (W0 W.T) .nw te) (fun s H C cl fp => (hg s H C cl fp).ok) (fun s H C cl fp => (ht s H C cl fp).ok) (fun s H C cl fp => (he s H C cl fp).pe) hs, fun b F H σ ρ D d Z R z q c => ?_⟩
  exact lc_sem2 hv si b F H σ ρ _ _ Z R z q fun y v F' H' p g r f => c.nx _ F' H' _ g.f (R.putT g i r f) (p v)
end
end DL
set_option maxRecDepth 100000
set_option maxHeartbeats 4000000
/-! DMY: two own lists under other names: side = [x, y][e]; side[k] = e. -/
namespace DL
open PySem PySem.Spec PyProof.Rows L2
theorem Rep.retell {K : PySem.W.Frag} {b : B} {F H : Hp} {σ : L2.St} {ρ : List Sl} (R : Rep K b F H σ ρ) {i : Nat} {s s' : Sl} (h : ρ[i]? = some s) (hs : ∀ A, SlF K b F H σ[i]? s A → SlF K b F H σ[i]? s' A) : Rep K b F H σ (ρ.set i s') := by
  obtain ⟨fp, f1, f2, f3⟩ := R.ex
  have hi := (List.getElem?_eq_some_iff.mp h).1
  refine ⟨R.g, R.tt, by rw [List.length_set]; exact R.len, fp, fun j t e => ?_, fun j e => ?_, f3⟩
  · by_cases hj : j = i
    · subst hj
      rw [List.getElem?_set_self hi] at e
      cases e
      exact hs _ (f1 j s h)
    · rw [List.getElem?_set_ne (Ne.symm hj)] at e
      exact f1 j t e
  · rw [List.getElem?_eq_none_iff, List.length_set] at e
    exact f2 j (List.getElem?_eq_none_iff.mpr e)
theorem kids_atm {F H : Hp} : ∀ {xs : List V} {ds : List D}, DqA F xs ds → (∀ d ∈ ds, atmB d = true) → Kids F H xs ds []
  | _, _, .nil, _ => .nil
  | _, _, .cons a q, h => .atm (atm_of a (h _ (by simp))) (kids_atm q fun d hd => h d (by simp [hd]))
theorem kids_down {F H : Hp} : ∀ {xs : List V} {ds : List D} {A : List Addr}, Kids F H xs ds A → (∀ d ∈ ds, atmB d = true) → A = [] ∧ DqA F xs ds
  | _, _, _, .nil, _ => ⟨rfl, .nil⟩
  | _, _, _, .own n o k m, h => by
    have := h _ (List.mem_cons_self ..)
    rcases o.inv with ⟨_, rfl⟩ | ⟨_, rfl⟩ <;> cases this
  | _, _, _, .atm a k, h => by
    obtain ⟨e, q⟩ := kids_down k fun d hd => h d (by simp [hd])
    exact ⟨e, .cons a.dq q⟩
section
variable {X : Cx} {W : WT} {pos : Pos} {rm : Md}
/-- an own list of single things as a tree -/
def dTre (i : Nat) (t : DS) : DS := fun d Z ρ => ∃ ds, ρ[i]? = some (.ow (.list ds)) ∧ (∀ x ∈ ds, atmB x = true) ∧ ∀ p : Addr, t d Z (ρ.set i (.tr (.ref p) (.list ds)))
theorem dss_tre (i : Nat) {sts : List Stmt} {t : DS} (h : DSs X W rm sts t) : DSs X W rm sts (dTre i t) := by
  obtain ⟨te1, p1, s1⟩ := h.ok
  refine ⟨_, p1, fun b F H σ ρ D d Z R z q c => ?_⟩
  obtain ⟨ds, e, ha, q⟩ := q
  obtain ⟨p, es, n, n2, o⟩ := R.ow e rfl
  obtain ⟨xs, hH, dq⟩ := id o
  refine s1 b F H σ _ D d Z (R.retell (s' := Sl.tr (.ref p) (.list ds)) e fun A s => ?_) z (q p) c
  obtain ⟨v, e2, s⟩ := s
  rw [es] at e2
  cases e2
  rcases s with ⟨_, a⟩ | ⟨p2, e3, rfl, n3, n4, o3⟩
  · exact (o.noatm a).elim
  · cases e3
    exact ⟨es, ⟨p, [], rfl, n, rfl, by simp, xs, hH, kids_atm dq ha⟩, fun a ha => by
      rw [List.mem_singleton] at ha
      subst ha
      exact n2⟩
/-- the list that goes by this name -/
def dVa (i : Nat) : DT := fun ρ P _ => ∃ (a : Addr) (s : Nat) (d : D), ρ[i]? = some (Sl.at a) ∧ ρ[s]? = some (Sl.tr (.ref a) d) ∧ isLT d = true ∧ P d
theorem de_va (i : Nat) {x : Str} {pos : Pos} (hN : X.N[i]? = some x := by rfl) (hv : Vis X.env.scope x := by first | exact Or.inl rfl | exact Or.inr (Or.inl rfl) | exact Or.inr (Or.inr rfl)) (hd : (x == ("__debug__" : Str)) = false := by decide)
    (hcd : (x == ("__classdict__" : Str)) = false := by decide) : DE X W .rt (.Name x pos) (dVa i) := by
  refine ⟨_, pe_var hN hv hd hcd, fun b F H σ ρ Q P Z R z q k => ?_⟩
  obtain ⟨a, s, d, e, es, hd, p⟩ := q
  have e1 := R.sl i _ e
  obtain ⟨v, e2, r⟩ := R.tree (i := s) (d := d) (by rw [es]; rfl) hd
  have e3 := (R.sl s _ es).1
  rw [e3] at e2
  cases e2
  exact ⟨_, e1, goes_now k R.g p r trivial⟩
/-- side = [x, y][e] -/
def dAli (i k j : Nat) (te : DT) : DS := fun d Z ρ => ∃ (p q : Addr) (x y : D), ρ[k]? = some (.tr (.ref p) x) ∧ ρ[j]? = some (.tr (.ref q) y) ∧ te ρ (fun n => (n = .int 0 ∧ d.nx (ρ.set i (.at p))) ∨ (n = .int 1 ∧ d.nx (ρ.set i (.at q)))) Z
theorem ds_ali (i k j : Nat) {z x y : Str} {px py lp sp zp : Pos} {e : Expr} {te : DT} {m : Md} (hN : X.N.Nodup) (hx : PE X (.Name x px) (tVar k)) (hy : PE X (.Name y py) (tVar j)) (h : DE X W m e te) (hpl : PlainIx e) (hm : m.sh = true := by rfl)
    (hs1 : starEach [.Name x px, .Name y py] X.env = (false, eval (.Name x px) X.env) :: starEach [.Name y py] X.env := by rfl) (hs2 : starEach [.Name y py] X.env = (false, eval (.Name y py) X.env) :: starEach [] X.env := by rfl)
    (hi : X.N[i]? = some z := by rfl) (hz : Loc X.env.scope z := by first | exact Or.inl rfl | exact Or.inr rfl) (hs : swapsWith (.Subscript (.List [.Name x px, .Name y py] lp) e sp) (some (.Name z zp)) pos.line X.env = pure false := by rfl)
    (hf : X.fn z = true ∨ X.env.scope.names.lookup z = some .local := by first | exact .inl rfl | exact .inr rfl) : DS1 X W rm (.Assign [.Name z zp] (.Subscript (.List [.Name x px, .Name y py] lp) e sp) pos) (dAli i k j te) := by
  obtain ⟨tei, pi, si⟩ := h.ok
  refine ⟨_, ps_set hN hi hz (pe_ix ix_two (pe_lst (pa_cons hx (pa_cons hy pa_nil hs2) hs1)) pi hpl) hs hf, fun b F H σ ρ D d Z R zz q c => ?_⟩
  obtain ⟨p, q', x0, y0, e1, e2, q⟩ := q
  have s1 := (R.sl k _ e1).1
  have s2 := (R.sl j _ e2).1
  refine ⟨_, s1, _, s2, sz5 (by show 2 ≤ 100000; omega), fun a na => ?_⟩
  have g := Grow.own R.g (HO.lst [.ref p, .ref q']) na
  have R1 := R.grow g
  refine si b F _ σ ρ _ _ Z R1 zz q fun kd kv F2 H2 p2 g2 r2 _ => ?_
  have hl : H2 a = some (.lst [.ref p, .ref q']) := g2.h.ap upd_same
  have ek : ∀ n : Int, kd = .int n → kv = .int n := fun n e => by
    subst e
    exact vr_int (r2.rd hm (R1.g.trans g2))
  rcases p2 with ⟨rfl, p2⟩ | ⟨rfl, p2⟩
  · exact .inl ⟨a, _, 0, _, rfl, ek 0 rfl, .of hl, rfl, c.nx _ F2 H2 _ g2.f ((R1.grow g2).setX i _ (.at p) ⟨rfl, rfl⟩) p2⟩
  · exact .inl ⟨a, _, 1, _, rfl, ek 1 rfl, .of hl, rfl, c.nx _ F2 H2 _ g2.f ((R1.grow g2).setX i _ (.at q') ⟨rfl, rfl⟩) p2⟩
/-- side[k] = e -/
def dPutA (i : Nat) (tk t : DT) : DS := fun d Z ρ => ∃ (a : Addr) (s : Nat) (ds : List D), ρ[i]? = some (.at a) ∧ ρ[s]? = some (.tr (.ref a) (.list ds)) ∧ (∀ x ∈ ds, atmB x = true) ∧ t ρ (fun y => atmB y = true ∧ tk ρ (fun k => ∃ n j, k = .int n ∧ ixN ds.length n = some j ∧ d.nx (ρ.set s (.tr (.ref a) (.list (ds.set j y))))) Z) Z
theorem ds_putA (i : Nat) {x : Str} {p0 tpos : Pos} {k e : Expr} {tk t : DT} (hx : PE X (.Name x p0) (tVar i)) (hk : DE X W .fz k tk) (h : DE X W .fz e t)
    (ha : ∀ v, assign (.Subscript (.Name x p0) k tpos) X.env v = (do
      let ov ← holding [v] (eval (.Name x p0) X.env)
      let iv ← holding [v, ov] (eval k X.env)
      standAt tpos
      holding [v, ov, iv] (setItem ov iv v)
      release [v, ov, iv] []) := by intro _; rfl)
    (hs : swapsWithSole [.Subscript (.Name x p0) k tpos] e pos.line X.env = pure false := by rfl) (hw : swappedStores [.Subscript (.Name x p0) k tpos] e X.env = pure none := by rfl)
    (h1 : (assignEach [.Subscript (.Name x p0) k tpos] X.env).map (·.2) = [assign (.Subscript (.Name x p0) k tpos) X.env] := by rfl) : DS1 X W rm (.Assign [.Subscript (.Name x p0) k tpos] e pos) (dPutA i tk t) := by
  obtain ⟨te, p, s⟩ := h.ok
  obtain ⟨tek, pk, sk⟩ := hk.ok
  refine ⟨_, ps_asg p (pg_sub hx pk set_list ha) hs hw h1, fun b F H σ ρ D d Z R z q c => ?_⟩
  obtain ⟨a, sl, ds, e1, e2, had, q⟩ := q
  have es := R.sl i _ e1
  obtain ⟨es2, A, t0, nA⟩ := R.sl sl _ e2
  refine s b F H σ ρ _ _ Z R z q fun y v F1 H1 p1 g r f => ⟨.ref a, es, sk b F1 H1 σ ρ _ _ Z (R.grow g) (z.mono g.f) p1.2 fun y2 v2 F2 H2 p2 g2 r2 f2 => ?_⟩
  obtain ⟨m, j, rfl, hj, p2⟩ := p2
  cases r2
  have t2 : Tr F2 H2 (.ref a) (.list ds) A := (t0.grow g).grow g2
  obtain ⟨a', A', ea, n, rfl, hp, xs, hH, kd⟩ := id t2
  cases ea
  obtain ⟨rfl, dq⟩ := kids_down kd had
  have hl : xs.length = ds.length := dq.length
  refine ⟨a, xs, m, j, rfl, rfl, hH, by rw [hl]; exact hj, ?_⟩
  refine c.nx _ F2 _ σ (g.f.trans g2.f) (R.chg (q := a) (g.trans g2) e2 fun B s1 s2 => ?_) p2
  have eB : B = [a] := s1.2.1.uniq (fun _ _ e _ => e) t0
  subst eB
  refine ⟨by simp, [a], ⟨es2, ⟨a, [], rfl, n, rfl, by simp, xs.set j v, upd_same, kids_atm (dq.set j (r.mono g2.f)) fun x hx => ?_⟩, nA⟩, fun m hm => .inl hm⟩
  rcases List.mem_or_eq_of_mem_set hx with hx | hx
  · exact had x hx
  · rw [hx]
    exact p1.1
/-- the sum of two ints -/
abbrev addI : D → D → (D → Prop) → Prop := d2I fun i j => .int (i + j)
/-- x[i] + x[j], two children -/
def dCatC (t1 t2 : DTc) : DT := fun ρ P Z => t1 ρ (fun _ _ _ c => t2 ρ (fun _ _ _ c2 => catD c c2 P) Z) Z
theorem de_catC {i j : Nat} {e1 e2 : Expr} {t1 t2 : DTc} (h1 : DCh X W i e1 t1) (h2 : DCh X W j e2 t2) : DE X W .nw (.BinOp e1 .Add e2 pos) (dCatC t1 t2) := by
  obtain ⟨te1, p1, s1⟩ := h1.ok
  obtain ⟨te2, p2, s2⟩ := h2.ok
  refine ⟨_, pe_op op_cat p1 p2, fun b F H σ ρ Q P Z R z q k => s1 b F H σ ρ _ _ Z R z q fun v d j1 c q1 F1 H1 q2 g1 _ ic1 => s2 b F1 H1 σ ρ _ _ Z (R.grow g1) (z.mono g1.f) q2 fun v' d' j2 c' q1' F2 H2 q3 g2 _ ic2 => ?_⟩
  obtain ⟨ds, es, rfl, rfl, hl, p⟩ := q3
  obtain ⟨n1, xs, h1, d1⟩ := (ic1.grow g2).own
  obtain ⟨n2, ys, h2, d2⟩ := ic2.own
  have R2 := (R.grow g1).grow g2
  refine ⟨_, _, _, _, rfl, rfl, h1, h2, by rw [d1.length, d2.length]; exact sz5 hl, fun a na => ?_⟩
  have g := Grow.own R2.g (HO.lst (xs ++ ys)) na
  exact k _ _ _ _ p (g1.trans (g2.trans g)) (.inl ⟨a, rfl, R2.g.s.free na, own_mkL upd_same (d1.append d2)⟩) fun q e => by cases e; exact (g1.trans g2).h.free na
/-- x in range(y, z) -/
def dInRg (ta tb tc : DT) : DT := fun ρ P Z => ta ρ (fun x => tb ρ (fun y => tc ρ (fun z => ∃ i lo hi, x = .int i ∧ y = .int lo ∧ z = .int hi ∧ P (.bool (decide (lo ≤ i ∧ i < hi)))) Z) Z) Z
theorem de_inRg {ma mb mc : Md} {ea eb ec : Expr} {ta tb tc : DT} {p pos2 : Pos} (h : DE X W ma ea ta) (h1 : DE X W mb eb tb) (h2 : DE X W mc ec tc) (hm : X.mg "range" = none) (hg : Gl X "range" := by rfl) (sa : ma.sh = true := by rfl) (sb : mb.sh = true := by rfl) (sc : mc.sh = true := by rfl)
    (hs1 : starEach [eb, ec] X.env = (false, eval eb X.env) :: starEach [ec] X.env := by rfl) (hs2 : starEach [ec] X.env = (false, eval ec X.env) :: starEach [] X.env := by rfl) (hpl : (backTo pos2 (starEach [ec] X.env)).any (·.1) = false := by rfl) (hb : behindInMarks .In (.Call (.Name "range" p) [eb, ec] [] pos2) = false := by rfl) :
    DE X W .fz (.Compare ea [.In] [.Call (.Name "range" p) [eb, ec] [] pos2] pos) (dInRg ta tb tc) := by
  obtain ⟨te, pe, s⟩ := h.ok
  obtain ⟨te1, pe1, s1⟩ := h1.ok
  obtain ⟨te2, pe2, s2⟩ := h2.ok
  refine ⟨_, pe_cmpR op_in_rng pe (pe_callTy cr_range2 hg hm boot_range (pa_cons pe1 (pa_cons pe2 pa_nil hs2) hs1) (by decide) (by decide) hs1 hpl) hb, fun b F H σ ρ Q P Z R z q k => ?_⟩
  refine s b F H σ ρ _ _ Z R z q fun x vx F1 H1 p1 g1 r1 _ => s1 b F1 H1 σ ρ _ _ Z (R.grow g1) (z.mono g1.f) p1 fun y vy F2 H2 p2 g2 r2 _ => s2 b F2 H2 σ ρ _ _ Z ((R.grow g1).grow g2) (z.mono (g1.f.trans g2.f)) p2 fun w vw F3 H3 p3 g3 r3 _ => ?_
  obtain ⟨i, lo, hi, rfl, rfl, rfl, p3⟩ := p3
  have R1 := R.grow g1
  have R2 := R1.grow g2
  have R3 := R2.grow g3
  have ex := vr_int (r1.rd sa R1.g)
  have ey := vr_int (r2.rd sb R2.g)
  have ew := vr_int (r3.rd sc R3.g)
  subst ex ey ew
  refine ⟨lo, hi, rfl, fun a na => ⟨i, a, lo, hi, rfl, rfl, upd_same, ?_⟩⟩
  have g4 := Grow.own R3.g (HO.rng lo hi) na
  exact k _ _ _ _ p3 (g1.trans (g2.trans (g3.trans g4))) (Dq.bl _) trivial
end
end DL
set_option maxRecDepth 100000
set_option maxHeartbeats 4000000
/-! DMG: dicts by ints: sorted, len, against {}, locked, walked, moved. -/
namespace DL
open PySem PySem.Spec PyProof.Rows L2
/-- an own root is locked for good -/
theorem Rep.lockR {K : PySem.W.Frag} {b : B} {F H : Hp} {σ : L2.St} {ρ : List Sl} (R : Rep K b F H σ ρ) {i : Nat} {p : Addr} {u o : HO} {d d' : D} (h : ρ[i]? = some (.ow d)) (hs : σ[i]? = some (some (.ref p))) (hH : H p = some u) (iu : IsD u) (ok : Dq (upd F p o) (.ref p) d')
    (hk : ∀ k : List Key, o ≠ .tup (k.map kV) := by intro k z; cases z) (hn : ∀ ps, o ≠ .tbl ps := by intro ps z; cases z) : Rep K b (upd F p o) (upd H p o) σ (ρ.set i (.fz d')) := by
  obtain ⟨fp, f1, f2, f3⟩ := R.ex
  have hi : i < ρ.length := (List.getElem?_eq_some_iff.mp h).1
  obtain ⟨n, n2, hp⟩ : F p = none ∧ Nn b.H p ∧ p ∈ fp i := by
    obtain ⟨v, e, q⟩ := f1 i _ h
    rw [hs] at e
    cases e
    rcases q with ⟨_, q⟩ | ⟨p', e1, e2, n, n2, _⟩
    · exact (atm_ref q).elim
    · cases e1
      exact ⟨n, n2, by rw [e2]; simp⟩
  have hd : ∀ w, H p = some w → IsD w := fun w e => by rw [hH] at e; cases e; exact iu
  refine ⟨R.g.lock n n2 hH iu o hk hn, tabs_put R.tt _ hd, by rw [List.length_set]; exact R.len, ovr fp (fun j => decide (j = i)) [], fun j t e => ?_, fun j e => ?_, fun j k a hjk h1 h2 => ?_⟩
  · by_cases hj : j = i
    · subst hj
      rw [List.getElem?_set_self hi] at e
      cases e
      rw [ovr_pos (by simp)]
      exact ⟨rfl, _, hs, ok⟩
    · rw [List.getElem?_set_ne (Ne.symm hj)] at e
      rw [ovr_neg (by simpa using hj)]
      refine (f1 j t e).mono (same_new n) fun a ha => ?_
      have ne : a ≠ p := by
        rintro rfl
        exact f3 j i a hj ha hp
      exact ⟨(upd_ne ne).trans ((f1 j t e).mem a ha).1, upd_ne ne⟩
  · have hj : j ≠ i := by
      rintro rfl
      rw [List.getElem?_set_self hi] at e
      cases e
    rw [List.getElem?_set_ne (Ne.symm hj)] at e
    rw [ovr_neg (by simpa using hj)]
    exact f2 j e
  · by_cases hj : j = i
    · rw [ovr_pos (by simpa using hj)] at h1
      simp at h1
    · rw [ovr_neg (by simpa using hj)] at h1
      by_cases hk : k = i
      · rw [ovr_pos (by simpa using hk)] at h2
        simp at h2
      · rw [ovr_neg (by simpa using hk)] at h2
        exact f3 j k a hjk h1 h2
section
variable {X : Cx} {W : WT} {m rm : Md} {pos : Pos}
/-- a dict by ints, not locked or locked -/
theorem rdK {K : PySem.W.Frag} {b : B} {F H : Hp} {v : V} {kds : List (Key × D)} {x : D} (hx : x = dctK kds ∨ x = lkK kds) (s : Same F H) (r : VR .rd K b F H v x) : ∃ a kvs, v = .ref a ∧ Rd H a (.dK kvs) ∧ kvs.map (·.1) = kds.map (·.1) ∧ DqA F (kvs.map (·.2)) (kds.map (·.2)) := by
  rcases hx with rfl | rfl
  · obtain ⟨a, rfl, o⟩ := vr_dict s r
    replace o := o.resolve_right fun z => lk_noK z
    obtain ⟨kvs, hH, hk, hq⟩ := own_K o
    exact ⟨a, kvs, rfl, .inl hH, hk, hq⟩
  · obtain ⟨a, rfl, o⟩ := vr_dict s r
    replace o := o.resolve_left fun z => own_noM z
    obtain ⟨od, kvs, hH, hk, hq⟩ := lk_K o
    exact ⟨a, kvs, rfl, .inr ⟨od, hH⟩, hk, hq⟩
/-- sorted(d) -/
def sortDR : List D → (D → Prop) → Prop := fun xs P => ∃ (kds : List (Key × D)) (ks : List Int) (x : D), xs = [x] ∧ (x = dctK kds ∨ x = lkK kds) ∧ kds.map (·.1) = ks.map Sum.inl ∧ ks.length < 64 ∧ ∀ ys : List Int, ys.Perm ks → ys.Pairwise (· ≤ ·) → P (.list (ys.map .int))
theorem ra_sortD {K : PySem.W.Frag} (hsh : m.sh = true := by rfl) : RAok K [m] .nw (fun xs H Q => ∃ (a : Addr) (kvs : List (Key × V)) (ks : List Int), xs = [.ref a] ∧ Rd H a (.dK kvs) ∧ kvs.map (·.1) = ks.map Sum.inl ∧ ks.length < 64 ∧
    ∀ (ys : List Int) (p : Addr), ys.Perm ks → ys.Pairwise (· ≤ ·) → H p = none → Q (.ref p) (upd H p (.lst (ys.map V.int)))) sortDR := fun b F H xs ds Q P g0 r h k => by
  obtain ⟨kds, ks, x, rfl, hx, hk1, hl, p⟩ := h
  obtain ⟨v, rfl, r1⟩ := vrs1 (ms := []) r
  obtain ⟨a, kvs, rfl, hr, hk, hq⟩ := rdK hx g0.s (r1.rd hsh g0)
  refine ⟨a, kvs, ks, rfl, hr, hk.trans hk1, hl, fun ys q hp hs nq => ?_⟩
  have g4 := Grow.own g0 (HO.lst (ys.map V.int)) nq
  have dq : DqA F (ys.map V.int) (ys.map PyData.int) := by
    clear hp hs
    induction ys with
    | nil => exact .nil
    | cons i ys ih => exact .cons (.int i) (ih (.own g0 (HO.lst _) nq))
  exact k _ _ _ _ (p ys hp hs) g4 (.inl ⟨q, rfl, g0.s.free nq, own_mkL upd_same dq⟩) fun c e => by cases e; exact nn_of nq
/-- len(d) -/
theorem call_lenRd : CallR X (.builtin "len") (fun xs H Q => ∃ a kvs, xs = [V.ref a] ∧ Rd H a (.dK kvs) ∧ Q (.int kvs.length) H) := by
  intro pins s σ H xs us Q I r h
  obtain ⟨a, kvs, rfl, ha, q⟩ := h
  obtain ⟨u, rfl, ru⟩ := vals1 r
  cases ru
  exact d_len I ha fun t s' I' => ⟨.int kvs.length, H, I', ⟨t, rfl⟩, q⟩
def lenDR : List D → (D → Prop) → Prop := fun xs P => ∃ (kds : List (Key × D)) (x : D), xs = [x] ∧ (x = dctK kds ∨ x = lkK kds) ∧ P (.int (kds.length : Nat))
theorem ra_lenD {K : PySem.W.Frag} (hsh : m.sh = true := by rfl) : RAok K [m] .fz (fun xs H Q => ∃ a kvs, xs = [V.ref a] ∧ Rd H a (.dK kvs) ∧ Q (.int kvs.length) H) lenDR := fun b F H xs ds Q P g0 r h k => by
  obtain ⟨kds, x, rfl, hx, p⟩ := h
  obtain ⟨v, rfl, r1⟩ := vrs1 (ms := []) r
  obtain ⟨a, kvs, rfl, hr, hk, hq⟩ := rdK hx g0.s (r1.rd hsh g0)
  refine ⟨a, kvs, rfl, hr, ?_⟩
  rw [kd_len hk]
  exact k _ _ F H p (.refl g0) (Dq.int _) trivial
/-- d != {} -/
theorem op_neD0 (hu : X.A.units < cLine) : OpR X (compareOp .NotEq) (fun x y H Q => ∃ a b ks, x = .ref a ∧ y = .ref b ∧ H a = some (.dK ks) ∧ H b = some (.dK []) ∧ Q (.bl (!ks.isEmpty)) H) := by
  intro pins s σ H x y v u Q I rx ry h
  obtain ⟨a, b, ks, rfl, rfl, ea, eb, q⟩ := h
  obtain rfl : v = Value.ref a := rx
  obtain rfl : u = Value.ref b := ry
  obtain ⟨_, ya, va, ra, da⟩ := (show ObjOk X.prog X.w H s.heap a (.dK ks) from I.hok a _ ea)
  obtain ⟨_, yb, vb, rb, db⟩ := (show ObjOk X.prog X.w H s.heap b (.dK []) from I.hok b _ eb)
  have hlb : vb.length = 0 := by rw [← rb.length]; rfl
  refine PySem.W.keq_ne (knd := mixKind X.prog X.w) (r := true) ya yb da db hu (fun hh => ?_) (fin_bl I q ?_)
  · have hks : ks = [] := by
      have : va.length = 0 := by
        have := hh
        omega
      have := ra.length
      exact List.eq_nil_of_length_eq_zero (by omega)
    subst hks
    exact hits_all rb ra fun p hp => by cases hp
  · have := ra.length
    cases ks with
    | nil =>
      have : va.length = 0 := by simpa using this.symm
      simp [this, hlb]
    | cons p ks =>
      have h2 : va.length ≠ vb.length := by
        rw [hlb, ← this]
        simp
      simp [h2]
/-- x != {}, x an own dict -/
def dNeD0 (i : Nat) : DTt := fun ρ P _ => ∃ kds, ρ[i]? = some (.ow (dctK kds)) ∧ P (!kds.isEmpty)
theorem dt_neD0 (i : Nat) {x : Str} {p0 p1 : Pos} (hu : X.A.units + 1 < cLine) (hx : PE X (.Name x p0) (tVar i)) (hm : behindInMarks .NotEq (.Dict [] [] p1) = false := by rfl) : DEt X W (.Compare (.Name x p0) [.NotEq] [.Dict [] [] p1] pos) (dNeD0 i) := by
  refine ⟨_, pt_cmpR (op_neD0 (Nat.lt_of_le_of_lt (Nat.le_succ _) hu)) hx pe_dnewK hm, fun b F H σ ρ Q P Z R z q k => ?_⟩
  obtain ⟨kds, e, p⟩ := q
  obtain ⟨a, es, n, n2, o⟩ := R.ow e rfl
  obtain ⟨kvs, hH, hk, hq⟩ := own_K o
  refine ⟨_, es, fun c nc => ⟨a, c, kvs, rfl, rfl, ?_, upd_same, !kvs.isEmpty, rfl, ?_⟩⟩
  · rw [upd_ne (by rintro rfl; rw [hH] at nc; cases nc)]
    exact hH
  · have e2 : kvs.isEmpty = kds.isEmpty := by
      have := kd_len hk
      cases kvs <;> cases kds <;> simp_all
    rw [e2]
    exact k _ F _ p (Grow.own R.g (HO.dK []) nc)
/-- an own dict is locked for good -/
def tLockS (t : TS) : TS := fun D σ H => ∃ d u, H d = some u ∧ Mut (some u) ∧ ∀ od, t D σ (upd H d (.frz od u))
theorem pss_lock {sts : List Stmt} {t : TS} (h : PSs X sts t) : PSs X sts (tLockS t) := by
  refine ⟨fun pins s σ H D I hw => ?_⟩
  obtain ⟨d, u, hd, mu, hw⟩ := hw
  obtain ⟨od, I1⟩ := I.lock hd mu
  exact h.run pins s σ _ D I1 (hw od)
def dLck (i : Nat) (t : DS) : DS := fun d Z ρ => ∃ kds, ρ[i]? = some (.ow (dctK kds)) ∧ t d Z (ρ.set i (.fz (lkK kds)))
theorem dss_lck (i : Nat) {sts : List Stmt} {t : DS} (h : DSs X W rm sts t) : DSs X W rm sts (dLck i t) := by
  obtain ⟨te1, p1, s1⟩ := h.ok
  refine ⟨_, pss_lock p1, fun b F H σ ρ D d Z R z q c => ?_⟩
  obtain ⟨kds, e, q⟩ := q
  obtain ⟨a, es, n, n2, o⟩ := R.ow e rfl
  obtain ⟨kvs, hH, hk, hq⟩ := own_K o
  refine ⟨a, _, hH, trivial, fun od => ?_⟩
  have n' : Same F (upd F a (.frz od (.dK kvs))) := same_new n
  exact s1 b _ _ σ _ D d Z (R.lockR e es hH trivial (Dq.dM upd_same hk (hq.mono n'))) (z.mono n') q (c.mono n')
/-! ### its keys, walked -/
theorem dq_key {F : Hp} (k : Key) : Dq F (kV k) (keyD k) := by
  cases k with
  | inl i => exact .int i
  | inr x => exact .str x
def keysK (kds : List (Key × D)) : List D := kds.map fun p => keyD p.1
def dKeysK (t : DT) : DTi := fun ρ P Z => t ρ (fun x => ∃ kds, x = lkK kds ∧ P (keysK kds)) Z
theorem itk_ok {c : Bool} {b : B} {F0 H0 : Hp} {a : Addr} {o : Obj} {kvs : List (Key × V)} {kds : List (Key × D)} (hF : F0 a = some (.frz o (.dK kvs))) (hk : kvs.map (·.1) = kds.map (·.1)) : ItOk c b F0 H0 (Itk a o kvs) (keysK kds) := by
  have hl : (keysK kds).length = kvs.length := by rw [keysK, List.length_map, ← kd_len hk]
  refine ⟨fun i F H hi s g hc => ⟨g.s _ _ (s _ _ hF), by rw [← hl]; exact hi⟩, fun F H s g hc => ⟨g.s _ _ (s _ _ hF), by rw [hl]; exact Nat.le_refl _⟩, fun i F H x H' d hd s g hc y => ?_⟩
  obtain ⟨rfl, k, v, h1, rfl⟩ := y
  refine ⟨F, .refl g, ?_⟩
  have e : d = keyD k := by
    rw [keysK, List.getElem?_map] at hd
    obtain ⟨pd, e3, e4⟩ := Option.map_eq_some_iff.mp hd
    have : (kvs[i]?).map Prod.fst = (kds[i]?).map Prod.fst := by rw [← List.getElem?_map, ← List.getElem?_map, hk]
    rw [h1, e3] at this
    rw [← e4, ← Option.some.inj this]
  subst e
  exact dq_key k
theorem di_keysK {c : Bool} {tg e : Expr} {t : DT} (h : DE X W .fz e t) : DI X W c tg e (dKeysK t) := by
  obtain ⟨te, p, s⟩ := h.ok
  refine ⟨_, pi_keys p, fun b F H σ ρ R P Z R1 z q k => s b F H σ ρ _ _ Z R1 z q fun x v F' H' p g r f => ?_⟩
  obtain ⟨kds, rfl, p⟩ := p
  obtain ⟨a, rfl, o⟩ := vr_dict (K := X.K) (b := b) (Same.refl F') (.inl r)
  replace o := o.resolve_left fun z => own_noM z
  obtain ⟨od, kvs, hH, hk, hq⟩ := lk_K o
  exact ⟨a, od, rfl, .inl ⟨kvs, (R1.g.trans g).s _ _ hH, k _ _ F' H' p g (itk_ok hH hk)⟩⟩
/-! ### an own root goes to another name -/
def dMov (i j : Nat) : DS := fun d _ ρ => ∃ x, ρ[j]? = some (.ow x) ∧ atmB x = false ∧ d.nx ((ρ.set j .un).set i (.ow x))
theorem ds_mov (i j : Nat) {x y : Str} {py pos' : Pos} (hN : X.N.Nodup) (hy : PE X (.Name y py) (tVar j))
    (hi : X.N[i]? = some x := by rfl) (hx : Loc X.env.scope x := by first | exact Or.inl rfl | exact Or.inr rfl) (hs : swapsWith (.Name y py) (some (.Name x pos')) pos.line X.env = pure false := by rfl)
    (hf : X.fn x = true ∨ X.env.scope.names.lookup x = some .local := by first | exact .inl rfl | exact .inr rfl) : DS1 X W rm (.Assign [.Name x pos'] (.Name y py) pos) (dMov i j) := by
  refine ⟨_, ps_set hN hi hx hy hs hf, fun b F H σ ρ D d Z R z q c => ?_⟩
  obtain ⟨xd, e, ha, q⟩ := q
  obtain ⟨p, es, n, n2, o⟩ := R.ow e ha
  refine ⟨_, es, ?_⟩
  have R1 : Rep X.K b F H σ (ρ.set j .un) := R.slot (Same.refl F) R.g e fun A _ => ⟨fun _ _ => rfl, rfl⟩
  have R2 : Rep X.K b F H (σ.set i (some (.ref p))) ((ρ.set j .un).set i (.ow xd)) := by
    refine R1.storeD i (some (.ref p)) (.ow xd) (A := [p]) ⟨_, rfl, .inr ⟨p, rfl, rfl, n, n2, o⟩⟩ fun fp hfp m t hm a ha2 hin => ?_
    rw [List.mem_singleton] at ha2
    subst ha2
    obtain ⟨fp0, f1, f2, f3⟩ := R.ex
    have hj : j < ρ.length := (List.getElem?_eq_some_iff.mp e).1
    have hpj : a ∈ fp0 j := by
      obtain ⟨v, e1, q1⟩ := f1 j _ e
      rw [es] at e1
      cases e1
      rcases q1 with ⟨_, q1⟩ | ⟨p', e2, e3, _⟩
      · exact (atm_ref q1).elim
      · cases e2
        rw [e3]
        simp
    by_cases hmj : m = j
    · subst hmj
      rw [List.getElem?_set_self hj] at hm
      cases hm
      have h0 : fp m = [] := hfp m .un (List.getElem?_set_self hj)
      rw [h0] at hin
      simp at hin
    · have hm2 := hm
      rw [List.getElem?_set_ne (Ne.symm hmj)] at hm2
      have u := (f1 m t hm2).uniq (fun _ _ e _ => e) (hfp m t hm)
      rw [← u] at hin
      exact f3 m j a hmj hin hpj
  exact c.nx _ F H _ (Same.refl F) R2 q
/-! ### x + e, x an own list -/
def dCatO (i : Nat) (t : DT) : DT := fun ρ P Z => ∃ a, ρ[i]? = some (.ow (.list a)) ∧ t ρ (fun y => ∃ b, y = .list b ∧ a.length + b.length ≤ 100000 ∧ P (.list (a ++ b))) Z
theorem de_catO (i : Nat) {x : Str} {p0 : Pos} {e : Expr} {t : DT} (hx : PE X (.Name x p0) (tVar i)) (h : DE X W .fz e t) : DE X W .nw (.BinOp (.Name x p0) .Add e pos) (dCatO i t) := by
  obtain ⟨te, p, s⟩ := h.ok
  refine ⟨_, pe_op op_cat hx p, fun b F H σ ρ Q P Z R z q k => ?_⟩
  obtain ⟨as, e1, q⟩ := q
  obtain ⟨pp, es, n, n2, o⟩ := R.ow e1 rfl
  obtain ⟨xs, hH, hq⟩ := o
  refine ⟨_, es, s b F H σ ρ _ _ Z R z q fun y v F1 H1 p1 g r hfr => ?_⟩
  clear hfr
  obtain ⟨bs, rfl, hl, p1⟩ := p1
  cases r with
  | lst e2 q2 =>
    rename_i a2 ys
    have R1 := R.g.trans g
    refine ⟨_, _, _, _, rfl, rfl, g.h.ap hH, R1.s _ _ e2, by rw [hq.length, q2.length]; exact sz5 hl, fun a na => ?_⟩
    have g2 := Grow.own R1 (HO.lst (xs ++ ys)) na
    exact k _ _ _ _ p1 (g.trans g2) (.inl ⟨a, rfl, R1.s.free na, own_mkL upd_same ((hq.mono g.f).append q2)⟩) fun q e => by cases e; exact g.h.nn (nn_of na)
end
section
variable {t : DT} {d : DEnds} {Z : Zs} {ρ : List Sl} {P : D → Prop} {i j : Nat}
theorem e_lck {u : DS} : dLck i u d Z ρ ↔ ∃ kds, ρ[i]? = some (.ow (dctK kds)) ∧ u d Z (ρ.set i (.fz (lkK kds))) := Iff.rfl
theorem e_keysK {P : List D → Prop} : dKeysK t ρ P Z ↔ t ρ (fun x => ∃ kds, x = lkK kds ∧ P (keysK kds)) Z := Iff.rfl
theorem e_mov : dMov i j d Z ρ ↔ ∃ x, ρ[j]? = some (.ow x) ∧ atmB x = false ∧ d.nx ((ρ.set j .un).set i (.ow x)) := Iff.rfl
theorem e_neD0 {P : Bool → Prop} : dNeD0 i ρ P Z ↔ ∃ kds, ρ[i]? = some (.ow (dctK kds)) ∧ P (!kds.isEmpty) := Iff.rfl
theorem x_sortDo {kds : List (Key × D)} : sortDR [dctK kds] P ↔ ∃ ks : List Int, kds.map (·.1) = ks.map Sum.inl ∧ ks.length < 64 ∧ ∀ ys : List Int, ys.Perm ks → ys.Pairwise (· ≤ ·) → P (.list (ys.map .int)) := ⟨fun ⟨kds', ks, x, e, h, h1, h2, h3⟩ => by
    cases e
    rcases h with h | h
    · cases dctK_inj h
      exact ⟨ks, h1, h2, h3⟩
    · exact (dctK_lkK h).elim, fun ⟨ks, h1, h2, h3⟩ => ⟨kds, ks, _, rfl, .inl rfl, h1, h2, h3⟩⟩
theorem x_lenDo {kds : List (Key × D)} : lenDR [dctK kds] P ↔ P (.int (kds.length : Nat)) := ⟨fun ⟨kds', x, e, h, h3⟩ => by
    cases e
    rcases h with h | h
    · cases dctK_inj h
      exact h3
    · exact (dctK_lkK h).elim, fun h => ⟨kds, _, rfl, .inl rfl, h⟩⟩
theorem e_catO : dCatO i t ρ P Z ↔ ∃ a, ρ[i]? = some (.ow (.list a)) ∧ t ρ (fun y => ∃ b, y = .list b ∧ a.length + b.length ≤ 100000 ∧ P (.list (a ++ b))) Z := Iff.rfl
end
end DL
set_option maxRecDepth 100000
set_option maxHeartbeats 4000000
/-! DMS: the readings of DM0.., unfolded. -/
namespace DL
open PySem PySem.Spec PyProof.Rows L2
section
variable {t u : DT} {d : DEnds} {Z : Zs} {ρ : List Sl} {P : D → Prop} {i : Nat} {tc : DTc} {Pc : V → D → Nat → D → Prop} {ta : DTa} {w : CM}
theorem e_atm : dAtm t ρ P Z ↔ t ρ (fun x => atmB x = true ∧ P x) Z := Iff.rfl
theorem e_tr : dTr t ρ P Z ↔ t ρ (fun x => isLT x = true ∧ P x) Z := Iff.rfl
theorem e_Vt : dVt i ρ P Z ↔ ∃ d, ρ[i]?.bind Sl.tre = some d ∧ isLT d = true ∧ P d := Iff.rfl
theorem e_setT : dSetT i t d Z ρ ↔ t ρ (fun x => ∀ v, d.nx (ρ.set i (.tr v x))) Z := Iff.rfl
theorem e_retT : dRetT i d Z ρ ↔ ∃ v x, ρ[i]? = some (.tr v x) ∧ d.rt x := Iff.rfl
theorem e_ch : dCh i t ρ Pc Z ↔ ∃ v d, ρ[i]? = some (.tr v d) ∧ t ρ (fun kd => ∃ ds n j c, (d = .list ds ∨ d = .tuple ds) ∧ kd = .int n ∧ ixN ds.length n = some j ∧ ds[j]? = some c ∧ atmB c = false ∧ Pc v d j c) Z := Iff.rfl
theorem e_put2 : dPut2 i tc t u d Z ρ ↔ u ρ (fun y => tc ρ (fun v x j c => t ρ (fun k => ∃ ds n m, c = .list ds ∧ k = .int n ∧ ixN ds.length n = some m ∧ d.nx (ρ.set i (.tr v (setCh x j (.list (ds.set m y)))))) Z) Z) Z := Iff.rfl
theorem e_put2K : dPut2K i tc t u d Z ρ ↔ u ρ (fun y => tc ρ (fun v x j c => t ρ (fun k => ∃ kds ks, c = dctK kds ∧ k = keyD ks ∧ kds.length ≤ 100000 ∧ d.nx (ρ.set i (.tr v (setCh x j (dctK (putD kds ks y)))))) Z) Z) Z := Iff.rfl
theorem e_app2 : dApp2 i tc t d Z ρ ↔ tc ρ (fun v x j c => ∃ ds, c = .list ds ∧ ds.length ≤ 100000 ∧ t ρ (fun y => d.nx (ρ.set i (.tr v (setCh x j (.list (ds ++ [y])))))) Z) Z := Iff.rfl
theorem e_pop2K : dPop2K i tc t d Z ρ ↔ tc ρ (fun v x j c => ∃ kds, c = dctK kds ∧ t ρ (fun k => ∃ ks y, k = keyD ks ∧ valD kds ks = some y ∧ d.nx (ρ.set i (.tr v (setCh x j (dctK (dropD kds ks)))))) Z) Z := Iff.rfl
theorem e_callM : dCallM i w ta d Z ρ ↔ ∃ v x, ρ[i]? = some (.tr v x) ∧ ta ρ (fun ds => w x ds (fun d' => d.nx (ρ.set i (.tr v d')))) Z := Iff.rfl
theorem e_lrev : dListRev t ρ P Z ↔ t ρ (fun x => lrevR x P) Z := Iff.rfl
theorem e_appT : dAppT i t d Z ρ ↔ ∃ v ds, ρ[i]? = some (.tr v (.list ds)) ∧ ds.length ≤ 100000 ∧ t ρ (fun y => atmB y = false ∧ d.nx (ρ.set i (.tr v (.list (ds ++ [y]))))) Z := Iff.rfl
theorem e_Vl : dVl i ρ P Z ↔ ∃ d, ρ[i]? = some (.lt d) ∧ P d := Iff.rfl
theorem e_tup2 {ta tb : DT} : dTup2 ta tb ρ P Z ↔ ta ρ (fun x => tb ρ (fun y => (atmB x = false ∨ atmB y = false) ∧ P (.tuple [x, y])) Z) Z := Iff.rfl
theorem e_retP {j : Nat} : dRetP i j d Z ρ ↔ ∃ x y, ρ[i]? = some (.ow x) ∧ ρ[j]? = some (.ow y) ∧ (atmB x = false ∨ atmB y = false) ∧ d.rt (.tuple [x, y]) := Iff.rfl
theorem e_srev : dSortRev t ρ P Z ↔ t ρ (fun x => sortRevR x P) Z := Iff.rfl
theorem e_rem : dRem i t d Z ρ ↔ ∃ ds, ρ[i]? = some (.ow (.list ds)) ∧ t ρ (fun y => ∃ j, Shp 8 y ∧ (∀ z ∈ ds, Shp 8 z) ∧ RemAt ds y j ∧ d.nx (ρ.set i (.ow (.list (ds.eraseIdx j))))) Z := Iff.rfl
theorem e_tre {B : DS} : dTre i B d Z ρ ↔ ∃ ds, ρ[i]? = some (.ow (.list ds)) ∧ (∀ x ∈ ds, atmB x = true) ∧ ∀ p : Addr, B d Z (ρ.set i (.tr (.ref p) (.list ds))) := Iff.rfl
theorem e_Va : dVa i ρ P Z ↔ ∃ (a : Addr) (s : Nat) (d : D), ρ[i]? = some (Sl.at a) ∧ ρ[s]? = some (Sl.tr (.ref a) d) ∧ isLT d = true ∧ P d := Iff.rfl
theorem e_ali {k j : Nat} : dAli i k j t d Z ρ ↔ ∃ (p q : Addr) (x y : D), ρ[k]? = some (.tr (.ref p) x) ∧ ρ[j]? = some (.tr (.ref q) y) ∧ t ρ (fun n => (n = .int 0 ∧ d.nx (ρ.set i (.at p))) ∨ (n = .int 1 ∧ d.nx (ρ.set i (.at q)))) Z := Iff.rfl
theorem e_putA : dPutA i t u d Z ρ ↔ ∃ (a : Addr) (s : Nat) (ds : List D), ρ[i]? = some (.at a) ∧ ρ[s]? = some (.tr (.ref a) (.list ds)) ∧ (∀ x ∈ ds, atmB x = true) ∧ u ρ (fun y => atmB y = true ∧ t ρ (fun k => ∃ n j, k = .int n ∧ ixN ds.length n = some j ∧ d.nx (ρ.set s (.tr (.ref a) (.list (ds.set j y))))) Z) Z := Iff.rfl
theorem e_inRg {tb tc : DT} : dInRg t tb tc ρ P Z ↔ t ρ (fun x => tb ρ (fun y => tc ρ (fun z => ∃ i lo hi, x = .int i ∧ y = .int lo ∧ z = .int hi ∧ P (.bool (decide (lo ≤ i ∧ i < hi)))) Z) Z) Z := Iff.rfl
theorem e_catC {t1 t2 : DTc} : dCatC t1 t2 ρ P Z ↔ t1 ρ (fun _ _ _ c => t2 ρ (fun _ _ _ c2 => catD c c2 P) Z) Z := Iff.rfl
theorem e_asgP {j : Nat} : dAsgP i j t d Z ρ ↔ t ρ (fun z => ∃ x y, z = .tuple [x, y] ∧ d.nx ((ρ.set i (.ow x)).set j (.ow y))) Z := Iff.rfl
theorem e_asgL {j k : Nat} : dAsgL i j k d Z ρ ↔ ∃ x y, ρ[k]? = some (.lt (.tuple [x, y])) ∧ d.nx ((ρ.set i (.ln x)).set j (.ln y)) := Iff.rfl
theorem e_sset : dSortSet t ρ P Z ↔ t ρ (fun x => sortSetR x P) Z := Iff.rfl
theorem e_lset : dLenSet t ρ P Z ↔ t ρ (fun x => lenSetR x P) Z := Iff.rfl
theorem x_lrev {ds : List D} : lrevR (.list ds) P ↔ P (.list ds.reverse) := ⟨fun ⟨_, h, p⟩ => by cases h; exact p, fun p => ⟨_, rfl, p⟩⟩
theorem e_chain3 {r1 r2 r3 : D → D → (D → Prop) → Prop} {ta tb tc td : DT} : dChain3 r1 r2 r3 ta tb tc td ρ P Z ↔ ta ρ (fun x => tb ρ (fun y => r1 x y (fun z => ∃ c, z = .bool c ∧ (c = true → tc ρ (fun w => r2 y w (fun z2 => ∃ c2, z2 = .bool c2 ∧ (c2 = true → td ρ (fun u => r3 w u P) Z) ∧ (c2 = false → P (.bool false)))) Z) ∧ (c = false → P (.bool false)))) Z) Z := Iff.rfl
theorem e_idx : dIdx t u ρ P Z ↔ t ρ (fun x => ∃ ds, x = .list ds ∧ u ρ (fun y => idxR ds y P) Z) Z := Iff.rfl
theorem e_cnt : dCnt t u ρ P Z ↔ t ρ (fun x => ∃ ds, x = .list ds ∧ u ρ (fun y => cntR ds y P) Z) Z := Iff.rfl
/-- which of some bools is the first true one -/
theorem idx_bools {bs : List Bool} {j : Nat} (h : bs[j]? = some true) (h2 : ∀ m, m < j → bs[m]? = some false) (p : P (.int (j : Nat))) : idxR (bs.map .bool) (.bool true) P := by
  refine ⟨by simp [Shp], fun z hz => ?_, j, .bool true, by rw [List.getElem?_map, h]; rfl, rfl, fun m z' hm hz => ?_, p⟩
  · obtain ⟨b, _, rfl⟩ := List.mem_map.mp hz
    simp [Shp]
  · rw [List.getElem?_map, h2 m hm] at hz
    cases hz
    rfl
theorem cnt_bools {bs : List Bool} (p : P (.int ((bs.countP fun b => b == true : Nat)))) : cntR (bs.map .bool) (.bool true) P := by
  refine ⟨by simp [Shp], fun z hz => ?_, ?_⟩
  · obtain ⟨b, _, rfl⟩ := List.mem_map.mp hz
    simp [Shp]
  · rw [List.countP_map]
    exact p
end
end DL
set_option maxRecDepth 100000
set_option maxHeartbeats 4000000
/-! DMA: texts. -/
namespace DL
open PySem PySem.Spec PyProof.Rows L2
theorem sz6 {n : Nat} (h : n ≤ 100000) : n ≤ sizeLine := Nat.le_of_lt (lt5 h)
theorem de_cstr {X : Cx} {W : WT} {x : Str} {z : Str} {pos : Pos} (h : ∃ t, X.mg x = some (.str z t)) (hg : Gl X x := by rfl) (hd : (x == ("__debug__" : Str)) = false := by decide) : DE X W .fz (.Name x pos) (dC (.str z)) := by
  obtain ⟨t, h⟩ := h
  exact de_glob (v := .str z) hg h ⟨t, rfl⟩ (fun _ => .str z) hd
theorem strs_dq {F : Hp} : ∀ {ys : List Str} {vs : List V}, DqA F vs (ys.map .str) → vs = ys.map V.str
  | [], _, h => by cases h; rfl
  | n :: ns, _, h => by
    cases h with
    | cons a b =>
      cases a
      rw [strs_dq b]
      rfl
theorem dq_strs {F : Hp} : ∀ ys : List Str, DqA F (ys.map V.str) (ys.map .str)
  | [] => .nil
  | y :: ys => .cons (.str y) (dq_strs ys)
section
variable {K : PySem.W.Frag} {ma mb m : Md}
/-! subscripts -/
def ixX : D → D → (D → Prop) → Prop := fun x y P => match x with
  | .str z => z.length ≤ 100000 ∧ ∃ i c, y = .int i ∧ atI z.cps.toList i = some c ∧ P (.str ⟨#[c]⟩)
  | _ => ixR x y P
def rIxX (K : PySem.W.Frag) : R2 := fun x y H Q => rIxS2 K x y H Q ∨ rIxS x y H Q
theorem ix_three {X : Cx} : IxR X (rIxX X.K) := ix_two.or ix_str
theorem r2_ixX (ha : ma.sh = true := by rfl) (hb : mb.sh = true := by rfl) : R2ok K ma mb .fz (rIxX K) ixX := fun b F H x y dx dy Q P g0 rx ry h k => by
  cases dx with
  | str z =>
    obtain ⟨hz, i, c, rfl, hc, p⟩ := h
    exact .inr ⟨z, i, c, vr_str (rx.rd ha g0), vr_int (ry.rd hb g0), sz6 hz, hc, k _ _ F H p (.refl g0) (Dq.str _) trivial⟩
  | _ => exact .inl (r2_ix ha hb b F H x y _ dy Q P g0 rx ry h k)
/-! in -/
def inX (neg : Bool) : D → D → (D → Prop) → Prop := fun x y P => match y with
  | .str z => ∃ c, x = .str ⟨#[c]⟩ ∧ P (.bool (decide (c ∈ z.cps.toList) ^^ neg))
  | _ => inR neg x y P
def rInX (K : PySem.W.Frag) (neg : Bool) : R2 := fun x y H Q => rInS K neg x y H Q ∨ ∃ (c : Nat) (z : Str), x = .str ⟨#[c]⟩ ∧ y = .str z ∧ Q (.bl (decide (c ∈ z.cps.toList) ^^ neg)) H
theorem op_inX {X : Cx} (hu : X.A.units + 64 < cLine) : OpR X (compareOp .In) (rInX X.K false) := (op_inS hu).or (by simpa only [Bool.xor_false] using op_in_sign (X := X))
theorem op_notInX {X : Cx} (hu : X.A.units + 64 < cLine) : OpR X (compareOp .NotIn) (rInX X.K true) := (op_notInS hu).or (by simpa only [Bool.xor_true] using op_notIn_sign (X := X))
theorem r2_inX {neg : Bool} (ha : ma.sh = true := by rfl) (hb : mb.sh = true := by rfl) : R2ok K ma mb .fz (rInX K neg) (inX neg) := fun b F H x y dx dy Q P g0 rx ry h k => by
  cases dy with
  | str z =>
    obtain ⟨c, rfl, p⟩ := h
    exact .inr ⟨c, z, vr_str (rx.rd ha g0), vr_str (ry.rd hb g0), k _ _ F H p (.refl g0) (Dq.bl _) trivial⟩
  | _ => exact .inl (r2_in ha hb b F H x y dx _ Q P g0 rx ry h k)
/-! str(x), int(x) -/
def strR : List D → (D → Prop) → Prop := fun ds P => ∃ x, ds = [x] ∧ match x with
  | .int i => i.natAbs.log2 < 1920 ∧ P (.str (toString i))
  | .str a => P (.str a)
  | _ => False
theorem call_strD {X : Cx} : CallR X (.type "str") (fun xs H Q => (∃ i, xs = [.int i] ∧ i.natAbs.log2 < 1920 ∧ Q (.str (toString i)) H) ∨ ∃ a, xs = [.str a] ∧ Q (.str a) H) := call_str_int.or SkE.call_str_str
theorem ra_str (hsh : m.sh = true := by rfl) : RAok K [m] .fz (fun xs H Q => (∃ i, xs = [.int i] ∧ i.natAbs.log2 < 1920 ∧ Q (.str (toString i)) H) ∨ ∃ a, xs = [.str a] ∧ Q (.str a) H) strR := fun b F H xs ds Q P g0 r h k => by
  obtain ⟨x, rfl, h⟩ := h
  obtain ⟨v, rfl, r1⟩ := vrs1 (ms := []) r
  have r := r1
  cases x with
  | int i => exact .inl ⟨i, by rw [vr_int (r.rd hsh g0)], h.1, k _ _ F H h.2 (.refl g0) (Dq.str _) trivial⟩
  | str a => exact .inr ⟨a, by rw [vr_str (r.rd hsh g0)], k _ _ F H h (.refl g0) (Dq.str _) trivial⟩
  | _ => exact h.elim
def intX : List D → (D → Prop) → Prop := fun ds P => ∃ x, ds = [x] ∧ match x with
  | .int i => P (.int i)
  | .bool c => P (.int (if c then 1 else 0))
  | .str a => ∃ n, PySem.intText? a = some n ∧ a.length ≤ 640 ∧ P (.int n)
  | _ => False
theorem call_intX {X : Cx} : CallR X (.type "int") (fun xs H Q => ((∃ i, xs = [.int i] ∧ Q (.int i) H) ∨ ∃ k, xs = [.bl k] ∧ Q (.int (if k then 1 else 0)) H) ∨ ∃ a n, xs = [.str a] ∧ PySem.intText? a = some n ∧ a.length ≤ 640 ∧ Q (.int n) H) := call_int1.or call_int_str
theorem ra_intX (hsh : m.sh = true := by rfl) : RAok K [m] .fz (fun xs H Q => ((∃ i, xs = [.int i] ∧ Q (.int i) H) ∨ ∃ k, xs = [.bl k] ∧ Q (.int (if k then 1 else 0)) H) ∨ ∃ a n, xs = [.str a] ∧ PySem.intText? a = some n ∧ a.length ≤ 640 ∧ Q (.int n) H) intX := fun b F H xs ds Q P g0 r h k => by
  obtain ⟨x, rfl, h⟩ := h
  obtain ⟨v, rfl, r1⟩ := vrs1 (ms := []) r
  have r := r1
  cases x with
  | int i => exact .inl (.inl ⟨i, by rw [vr_int (r.rd hsh g0)], k _ _ F H h (.refl g0) (Dq.int _) trivial⟩)
  | bool i => exact .inl (.inr ⟨i, by rw [vr_bl (r.rd hsh g0)], k _ _ F H h (.refl g0) (Dq.int _) trivial⟩)
  | str a =>
    obtain ⟨n, h1, h2, p⟩ := h
    exact .inr ⟨a, n, by rw [vr_str (r.rd hsh g0)], h1, h2, k _ _ F H p (.refl g0) (Dq.int _) trivial⟩
  | _ => exact h.elim
/-! text * int -/
def mulX : D → D → (D → Prop) → Prop := fun x y P => match x with
  | .str z => ∃ n : Nat, y = .int (n : Int) ∧ n ≤ 1000 ∧ z.length ≤ 1000 ∧ P (.str ⟨(List.replicate n z.cps.toList).flatten.toArray⟩)
  | _ => d2C CMulD (fun i j => .int (i * j)) x y P
def rMulS : R2 := fun x y H Q => ∃ (z : Str) (n : Nat), x = .str z ∧ y = .int (n : Int) ∧ n ≤ 1000 ∧ z.length ≤ 1000 ∧ Q (.str ⟨(List.replicate n z.cps.toList).flatten.toArray⟩) H
theorem fold_rep {a : Array Nat} : ∀ (n : Nat) (acc : Array Nat), ((List.replicate n a).foldl (· ++ ·) acc).toList = acc.toList ++ (List.replicate n a.toList).flatten
  | 0, acc => by simp
  | n + 1, acc => by
    rw [List.replicate_succ, List.foldl_cons, fold_rep n, List.replicate_succ, List.flatten_cons, Array.toList_append, List.append_assoc]
theorem op_mulS {X : Cx} : OpR X (binaryOp .Mult) rMulS := by
  intro pins s σ H x y v u Q I rx ry h
  obtain ⟨z, n, rfl, rfl, hn, hz, q⟩ := h
  obtain ⟨t, rfl⟩ := rx
  obtain ⟨t', rfl⟩ := ry
  have hl : z.length * n ≤ 1000 * 1000 := Nat.mul_le_mul hz hn
  have hs : (1000 * 1000 : Nat) < sizeLine := by decide
  refine PySem.P.mul_str ?_ ?_ ?_ ?_
  · have h1 : ¬ (n : Int) < -(2 ^ 63) := by omega
    have h2 : ¬ (n : Int) ≥ 2 ^ 63 := by omega
    rw [decide_eq_false h1, decide_eq_false h2]
    rfl
  · intro h1 h2 h3
    have h4 : ((2 ^ 63 - 1 : Int) / (n : Int)) ≥ 1000 := by
      refine (Int.le_ediv_iff_mul_le (by omega)).mpr ?_
      omega
    have : ((z.length : Nat) : Int) ≤ 1000 := by omega
    omega
  · intro h1 h2
    unfold Builtin.Str.tooLong
    simp only [Int.toNat_natCast, decide_eq_false_iff_not]
    omega
  · have e : ∀ a : Array Nat, a.toList = (List.replicate n z.cps.toList).flatten → (⟨a⟩ : Str) = ⟨(List.replicate n z.cps.toList).flatten.toArray⟩ := fun a h => by
      rw [← h, Array.toArray_toList]
    by_cases h0 : (n : Int) < 1
    · rw [if_pos h0]
      have n0 : n = 0 := by omega
      subst n0
      refine ⟨by decide, .str _, H, I.tok _, ⟨_, rfl⟩, ?_⟩
      exact q
    · rw [if_neg h0]
      by_cases h1 : ((n : Int) == 1 || z.length == 0) = true
      · rw [if_pos h1]
        refine ⟨.str z, H, I, ⟨t, rfl⟩, ?_⟩
        rw [← e z.cps ?_] at q
        · exact q
        · rw [Bool.or_eq_true] at h1
          rcases h1 with h1 | h1
          · have n1 : n = 1 := by
              have : (n : Int) = 1 := by simpa using h1
              omega
            subst n1
            simp
          · have : z.cps.toList = [] := by
              have : z.length = 0 := by simpa using h1
              exact List.eq_nil_of_length_eq_zero (by rw [Array.length_toList]; exact this)
            rw [this]
            simp
      · rw [if_neg h1]
        have e2 := e ((List.replicate (n : Int).toNat z.cps).foldl (· ++ ·) #[]) (by rw [fold_rep, Int.toNat_natCast]; rfl)
        rw [e2]
        refine ⟨?_, .str _, H, I.tok _, ⟨_, rfl⟩, q⟩
        show ((List.replicate n z.cps.toList).flatten.toArray).size ≤ sizeLine
        rw [List.size_toArray, List.length_flatten, List.map_replicate, List.sum_replicate_nat, Array.length_toList]
        have : n * z.cps.size = z.length * n := Nat.mul_comm _ _
        omega
theorem op_mulX {X : Cx} : OpR X (binaryOp .Mult) (fun x y H Q => rI CMulD (fun i j => .int (i * j)) x y H Q ∨ rMulS x y H Q) := op_mulD.or op_mulS
theorem r2_mulX (ha : ma.sh = true := by rfl) (hb : mb.sh = true := by rfl) : R2ok K ma mb .fz (fun x y H Q => rI CMulD (fun i j => .int (i * j)) x y H Q ∨ rMulS x y H Q) mulX := fun b F H x y dx dy Q P g0 rx ry h k => by
  cases dx with
  | str z =>
    obtain ⟨n, rfl, h1, h2, p⟩ := h
    exact .inr ⟨z, n, vr_str (rx.rd ha g0), vr_int (ry.rd hb g0), h1, h2, k _ _ F H p (.refl g0) (Dq.str _) trivial⟩
  | _ => exact .inl (r2_intC ha hb b F H x y _ dy Q P g0 rx ry h k)
end
section
variable {X : Cx} {W : WT} {m ma mb : Md} {pos p2 apos : Pos}
/-! slices -/
def cutX (x : D) (lo hi : Option Int) (P : D → Prop) : Prop := match x with
  | .str z => z.length ≤ 100000 ∧ P (.str (cutS z lo hi))
  | _ => cutR x lo hi P
def dSliceX (t : DT) (tl th : DTo) : DT := fun ρ P Z => t ρ (fun x => tl ρ (fun lo => th ρ (fun hi => cutX x lo hi P) Z) Z) Z
theorem de_sliceX {e : Expr} {lo hi : Option Expr} {t : DT} {tl th : DTo} (h : DE X W m e t) (hl : DO X W lo tl) (hh : DO X W hi th) (hsh : m.sh = true := by rfl) : DE X W .fz (.Subscript e (.Slice lo hi none p2) pos) (dSliceX t tl th) := by
  obtain ⟨te, p, s⟩ := h.ok
  obtain ⟨te1, p1, s1⟩ := hl.ok
  obtain ⟨te2, p2, s2⟩ := hh.ok
  refine ⟨_, pe_slice (sl_list.or (sl_tup.or sl_str)) p p1 p2, fun b F H σ ρ Q P Z R z q k => s b F H σ ρ _ _ Z R z q fun x v F1 H1 q1 g1 r _ => s1 b F1 H1 σ ρ _ _ Z (R.grow g1) (z.mono g1.f) q1 fun l F2 H2 q2 g2 => s2 b F2 H2 σ ρ _ _ Z ((R.grow g1).grow g2) (z.mono (g1.f.trans g2.f)) q2 fun u F3 H3 q3 g3 => ?_⟩
  have g0 := R.g.trans (g1.trans (g2.trans g3))
  have r3 := ((r.grow g2).grow g3).rd hsh g0
  cases x with
  | list ds =>
    obtain ⟨a, xs, rfl, sq, dq⟩ := vr_lst g0.s r3
    refine .inl ⟨a, xs, rfl, sq, fun p np => ?_⟩
    have g4 := Grow.new g0 (HO.lst (cutV xs l u)) np
    exact k _ _ _ _ q3 (g1.trans (g2.trans (g3.trans g4))) (Dq.lst upd_same ((cut_dq dq l u).mono g4.f)) trivial
  | tuple ds =>
    obtain ⟨a, xs, rfl, sq, dq⟩ := vr_tup g0.s r3
    refine .inr (.inl ⟨a, xs, rfl, sq, by rw [dq.length]; exact q3.1, fun p np => ?_⟩)
    have g4 := Grow.new g0 (HO.tup (cutV xs l u)) np
    exact k _ _ _ _ q3.2 (g1.trans (g2.trans (g3.trans g4))) (Dq.tup upd_same ((cut_dq dq l u).mono g4.f)) trivial
  | str a =>
    exact .inr (.inr ⟨a, vr_str r3, sz6 q3.1, k _ _ _ _ q3.2 (g1.trans (g2.trans g3)) (Dq.str _) trivial⟩)
  | _ => exact q3.elim
/-! walks -/
theorem pi_seqX {tg l : Expr} {tl : TE} (hl : PE X l tl) : PI X tg l (fun σ H R => tl σ H fun x H1 => (∃ a, x = .ref a ∧ (((∃ xs, SqL X.K H1 a xs) ∧ R (Itl X.K a) H1) ∨ ((∃ xs, SqT X.K H1 a xs) ∧ R (Itt X.K a) H1))) ∨ ∃ z, x = .str z ∧ R (Its z) H1) := by
  refine ⟨fun pins s σ H R I h => ?_⟩
  refine thn (hl.run pins s σ H _ I h) fun v s1 ⟨x, H1, I1, r1, q1⟩ => ?_
  rcases q1 with ⟨a, e, q1⟩ | ⟨z, ex, q⟩
  · subst e
    cases r1
    rcases q1 with ⟨⟨xs, hq⟩, q⟩ | ⟨⟨xs, hq⟩, q⟩
    · obtain ⟨its, rv, p, hz⟩ := I1.list hq
      refine wpAny_pyIter_list p.isList ?_
      refine ⟨s1.heap.objs.size, [s1.heap.objs.size], _, _, H1, rfl, I1.kept (t' := s1.toks) fun b o e => Heap.get?_push_of_some _ e, turn_list a _, ⟨_, Heap.get?_push_size _ rfl, rfl, rfl⟩, fun b hb => ?_, q⟩
      have e : b = s1.heap.objs.size := by simpa using hb
      subst e
      exact I1.fpOk (Nat.le_refl _) (I1.hok.fresh (Nat.le_refl _))
    · obtain ⟨its, rv, p, hz⟩ := I1.tuple hq
      refine wpAny_pyIter_tuple (show s1.heap.IsTuple a its.toArray from p) ?_
      refine ⟨s1.heap.objs.size, [s1.heap.objs.size], _, _, H1, rfl, I1.kept (t' := s1.toks) fun b o e => Heap.get?_push_of_some _ e, turn_tuple a _, ⟨_, Heap.get?_push_size _ rfl, rfl, rfl⟩, fun b hb => ?_, q⟩
      have e : b = s1.heap.objs.size := by simpa using hb
      subst e
      exact I1.fpOk (Nat.le_refl _) (I1.hok.fresh (Nat.le_refl _))
  · subst ex
    obtain ⟨t, rfl⟩ := r1
    cases ha : z.cps.all (· < 128)
    · exact wpAny_pyIter_wide ha (pi_one (tk := s1.toks) I1 _ (turn_str _ z t "str_iterator" (.inr rfl)) ⟨_, Heap.get?_push_size _ rfl, rfl, rfl⟩ q)
    · exact wpAny_pyIter_ascii ha (pi_one (tk := s1.toks) I1 _ (turn_str _ z t "str_ascii_iterator" (.inl rfl)) ⟨_, Heap.get?_push_size _ rfl, rfl, rfl⟩ q)
/-- the signs of a text -/
def signsD (z : Str) : List D := z.cps.toList.map fun c => .str ⟨#[c]⟩
theorem its_ok {c : Bool} {b : B} {F0 H0 : Hp} {z : Str} : ItOk c b F0 H0 (Its z) (signsD z) := by
  have hl : (signsD z).length = z.cps.size := by unfold signsD; rw [List.length_map, Array.length_toList]
  refine ⟨fun i F H hi s g _ => by rw [hl] at hi; exact hi, fun F H s g _ => by rw [hl]; exact Nat.le_refl _, fun i F H x H' d hd s g _ y => ?_⟩
  obtain ⟨rfl, c, hc, rfl⟩ := y
  unfold signsD at hd
  rw [List.getElem?_map, Array.getElem?_toList, hc] at hd
  cases hd
  exact ⟨F, .refl g, .str _⟩
def itX : D → (List D → Prop) → Prop := fun x P => match x with
  | .str z => P (signsD z)
  | .list ds => P ds
  | .tuple ds => P ds
  | _ => False
def dItX (t : DT) : DTi := fun ρ P Z => t ρ (fun x => itX x P) Z
theorem di_seqX {c : Bool} {m : Md} {e tg : Expr} {t : DT} (h : DE X W m e t) (hm : Wkb c m := by first | exact .inl rfl | exact .inr ⟨rfl, rfl⟩) : DI X W c tg e (dItX t) := by
  obtain ⟨te, p, s⟩ := h.ok
  refine ⟨_, pi_seqX p, fun b F H σ ρ R P Z R1 z q k => s b F H σ ρ _ _ Z R1 z q fun x v F' H' p g r f => ?_⟩
  have g0 := R1.g.trans g
  have w := wk_vr hm r
  cases x with
  | list ds =>
    obtain ⟨a, xs, e, q, dq⟩ := vr_lst g0.s (w F' H' (Same.refl _) g0 fun _ => Ext.refl _)
    exact .inl ⟨a, e, .inl ⟨⟨xs, q⟩, k ds _ F' H' p g (itl_ok (getL w e))⟩⟩
  | tuple ds =>
    obtain ⟨a, xs, e, q, dq⟩ := vr_tup g0.s (w F' H' (Same.refl _) g0 fun _ => Ext.refl _)
    exact .inl ⟨a, e, .inr ⟨⟨xs, q⟩, k ds _ F' H' p g (itt_ok (getT w e))⟩⟩
  | str y => exact .inr ⟨y, vr_str (w F' H' (Same.refl _) g0 fun _ => Ext.refl _), k _ _ F' H' p g its_ok⟩
  | _ => exact p.elim
/-! split, join, upper -/
def dSplit (to te : DT) : DT := fun ρ P Z => to ρ (fun x => ∃ a, x = .str a ∧ te ρ (fun y => ∃ b, y = .str b ∧ (b.length == 0) = false ∧ a.length ≤ 100000 ∧ P (.list ((Txt.split a b).map .str))) Z) Z
theorem sz7 {n : Nat} (h : n ≤ 100000) : n + 2 ≤ sizeLine := Nat.le_trans (Nat.add_le_add_right h 2) (by decide)
theorem de_split {o e : Expr} {to te : DT} (ho : DE X W .fz o to) (he : DE X W .fz e te) (hs : starEach [e] X.env = [(false, eval e X.env)] := by rfl) (hbase : attributeBase o "split" X.env (eval o X.env) = eval o X.env := by rfl) (hline : (apos.endLine == pos.line) = true := by rfl) :
    DE X W .nw (.Call (.Attribute o "split" apos) [e] [] pos) (dSplit to te) := by
  obtain ⟨t1, p1, s1⟩ := ho.ok
  obtain ⟨t2, p2, s2⟩ := he.ok
  refine ⟨_, pe_split p1 p2 hs hbase hline, fun b F H σ ρ Q P Z R z q k => s1 b F H σ ρ _ _ Z R z q fun x v F1 H1 q1 g1 r1 _ => ?_⟩
  obtain ⟨a, rfl, q1⟩ := q1
  cases r1
  refine ⟨⟨a, rfl⟩, s2 b F1 H1 σ ρ _ _ Z (R.grow g1) (z.mono g1.f) q1 fun y w F2 H2 q2 g2 r2 _ => ?_⟩
  obtain ⟨c, rfl, hc, ha, q2⟩ := q2
  cases r2
  refine ⟨a, c, rfl, rfl, hc, sz7 ha, fun l nl => ?_⟩
  have gg := g1.trans g2
  have g0 := R.g.trans gg
  have g4 := Grow.own g0 (HO.lst ((Txt.split a c).map V.str)) nl
  exact k _ _ _ _ q2 (gg.trans g4) (.inl ⟨l, rfl, g0.s.free nl, own_mkL upd_same (dq_strs _)⟩) fun q e => by cases e; exact gg.h.free nl
def dJoin (to te : DT) : DT := fun ρ P Z => to ρ (fun x => ∃ a, x = .str a ∧ te ρ (fun y => ∃ ys : List Str, (y = .list (ys.map .str) ∨ y = .tuple (ys.map .str)) ∧ (ys.map (·.length)).sum + ys.length * a.length ≤ 100000 ∧ P (.str (Txt.join a ys))) Z) Z
theorem de_join {o e : Expr} {to te : DT} (ho : DE X W .fz o to) (he : DE X W m e te) (hsh : m.sh = true := by rfl) (hs : starEach [e] X.env = [(false, eval e X.env)] := by rfl) (hbase : attributeBase o "join" X.env (eval o X.env) = eval o X.env := by rfl) (hline : (apos.endLine == pos.line) = true := by rfl) :
    DE X W .fz (.Call (.Attribute o "join" apos) [e] [] pos) (dJoin to te) := by
  obtain ⟨t1, p1, s1⟩ := ho.ok
  obtain ⟨t2, p2, s2⟩ := he.ok
  refine ⟨_, pe_join p1 p2 hs hbase hline, fun b F H σ ρ Q P Z R z q k => s1 b F H σ ρ _ _ Z R z q fun x v F1 H1 q1 g1 r1 _ => ?_⟩
  obtain ⟨a, rfl, q1⟩ := q1
  cases r1
  refine ⟨⟨a, rfl⟩, s2 b F1 H1 σ ρ _ _ Z (R.grow g1) (z.mono g1.f) q1 fun y w F2 H2 q2 g2 r2 _ => ?_⟩
  obtain ⟨ys, e, hl, q2⟩ := q2
  have gg := g1.trans g2
  have g0 := R.g.trans gg
  have hz : (ys.map (·.length)).sum + ys.length * a.length ≤ 16777216 := Nat.le_trans hl (by decide)
  rcases e with rfl | rfl
  · obtain ⟨p, xs, rfl, sq, dq⟩ := vr_lst g0.s (r2.rd hsh g0)
    rw [strs_dq dq] at sq
    exact ⟨a, p, ys, rfl, rfl, .inl sq, hz, k _ _ F2 H2 q2 gg (Dq.str _) trivial⟩
  · obtain ⟨p, xs, rfl, sq, dq⟩ := vr_tup g0.s (r2.rd hsh g0)
    rw [strs_dq dq] at sq
    exact ⟨a, p, ys, rfl, rfl, .inr sq, hz, k _ _ F2 H2 q2 gg (Dq.str _) trivial⟩
def dUpper (to : DT) : DT := fun ρ P Z => to ρ (fun x => ∃ a, x = .str a ∧ a.length ≤ 100000 ∧ P (.str (Txt.upper a))) Z
theorem de_upper {o : Expr} {to : DT} (ho : DE X W .fz o to) (hbase : attributeBase o "upper" X.env (eval o X.env) = eval o X.env := by rfl) (hline : (apos.endLine == pos.line) = true := by rfl) :
    DE X W .fz (.Call (.Attribute o "upper" apos) [] [] pos) (dUpper to) := by
  obtain ⟨t1, p1, s1⟩ := ho.ok
  refine ⟨_, pe_upper p1 hbase hline, fun b F H σ ρ Q P Z R z q k => s1 b F H σ ρ _ _ Z R z q fun x v F1 H1 q1 g1 r1 _ => ?_⟩
  obtain ⟨a, rfl, hl, q1⟩ := q1
  cases r1
  exact ⟨⟨a, rfl⟩, a, rfl, rfl, Nat.le_trans hl (by decide), k _ _ F1 H1 q1 g1 (Dq.str _) trivial⟩
end
/-! the readings, unfolded -/
section
variable {t u : DT} {Z : Zs} {ρ : List Sl} {P : D → Prop} {z : Str} {ds : List D} {i : Int}
theorem x_ixXS : ixX (.str z) (.int i) P ↔ z.length ≤ 100000 ∧ ∃ c, atI z.cps.toList i = some c ∧ P (.str ⟨#[c]⟩) := by simp [ixX]
theorem x_ixXL : ixX (.list ds) (.int i) P ↔ ∃ d, atI ds i = some d ∧ P d := x_ixL
theorem x_ixXT : ixX (.tuple ds) (.int i) P ↔ ∃ d, atI ds i = some d ∧ P d := x_ixT
theorem x_inXS {neg : Bool} {c : Nat} : inX neg (.str ⟨#[c]⟩) (.str z) P ↔ P (.bool (decide (c ∈ z.cps.toList) ^^ neg)) := by simp [inX]
theorem x_inXL {neg : Bool} {x : D} : inX neg x (.list ds) P ↔ Shp 8 x ∧ (∀ z ∈ ds, Shp 8 z) ∧ P (.bool ((ds.any fun z => PyData.eqv z x) ^^ neg)) := x_inL
theorem x_inXT {neg : Bool} {x : D} : inX neg x (.tuple ds) P ↔ Shp 8 x ∧ (∀ z ∈ ds, Shp 8 z) ∧ P (.bool ((ds.any fun z => PyData.eqv z x) ^^ neg)) := x_inT
theorem x_strI : strR [.int i] P ↔ i.natAbs.log2 < 1920 ∧ P (.str (toString i)) := ⟨fun ⟨x, h1, h⟩ => by cases h1; exact h, fun h => ⟨_, rfl, h⟩⟩
theorem x_strS : strR [.str z] P ↔ P (.str z) := ⟨fun ⟨x, h1, h⟩ => by cases h1; exact h, fun h => ⟨_, rfl, h⟩⟩
theorem x_intXS : intX [.str z] P ↔ ∃ n, PySem.intText? z = some n ∧ z.length ≤ 640 ∧ P (.int n) := ⟨fun ⟨x, h1, h⟩ => by cases h1; exact h, fun h => ⟨_, rfl, h⟩⟩
theorem x_intXI : intX [.int i] P ↔ P (.int i) := ⟨fun ⟨x, h1, h⟩ => by cases h1; exact h, fun h => ⟨_, rfl, h⟩⟩
theorem x_mulXI {j : Int} : mulX (.int i) (.int j) P ↔ CMulD i j ∧ P (.int (i * j)) := by simp [mulX, d2C]
theorem x_mulXS {n : Nat} : mulX (.str z) (.int (n : Int)) P ↔ n ≤ 1000 ∧ z.length ≤ 1000 ∧ P (.str ⟨(List.replicate n z.cps.toList).flatten.toArray⟩) := ⟨fun ⟨m, h1, h2⟩ => by
  have e : n = m := by
    have : (n : Int) = (m : Int) := by simpa using h1
    omega
  subst e
  exact h2, fun h => ⟨n, rfl, h⟩⟩
theorem x_cutXS {lo hi : Option Int} : cutX (.str z) lo hi P ↔ z.length ≤ 100000 ∧ P (.str (cutS z lo hi)) := Iff.rfl
theorem x_cutXL {lo hi : Option Int} : cutX (.list ds) lo hi P ↔ P (.list (cutD ds lo hi)) := Iff.rfl
theorem x_cutXT {lo hi : Option Int} : cutX (.tuple ds) lo hi P ↔ ¬ (HT.sIx ds.length 0 lo = 0 ∧ HT.sIx ds.length ds.length hi = ds.length) ∧ P (.tuple (cutD ds lo hi)) := Iff.rfl
theorem e_sliceX {tl th : DTo} : dSliceX t tl th ρ P Z ↔ t ρ (fun x => tl ρ (fun lo => th ρ (fun hi => cutX x lo hi P) Z) Z) Z := Iff.rfl
theorem x_itS {Pl : List D → Prop} : itX (.str z) Pl ↔ Pl (signsD z) := Iff.rfl
theorem x_itL {Pl : List D → Prop} : itX (.list ds) Pl ↔ Pl ds := Iff.rfl
theorem x_itT {Pl : List D → Prop} : itX (.tuple ds) Pl ↔ Pl ds := Iff.rfl
theorem e_itX {Pl : List D → Prop} : dItX t ρ Pl Z ↔ t ρ (fun x => itX x Pl) Z := Iff.rfl
theorem e_split : dSplit t u ρ P Z ↔ t ρ (fun x => ∃ a, x = .str a ∧ u ρ (fun y => ∃ b, y = .str b ∧ (b.length == 0) = false ∧ a.length ≤ 100000 ∧ P (.list ((Txt.split a b).map .str))) Z) Z := Iff.rfl
theorem e_join : dJoin t u ρ P Z ↔ t ρ (fun x => ∃ a, x = .str a ∧ u ρ (fun y => ∃ ys : List Str, (y = .list (ys.map .str) ∨ y = .tuple (ys.map .str)) ∧ (ys.map (·.length)).sum + ys.length * a.length ≤ 100000 ∧ P (.str (Txt.join a ys))) Z) Z := Iff.rfl
theorem e_upper : dUpper t ρ P Z ↔ t ρ (fun x => ∃ a, x = .str a ∧ a.length ≤ 100000 ∧ P (.str (Txt.upper a))) Z := Iff.rfl
theorem x_lenS : lenR [.str z] P ↔ z.length ≤ 100000 ∧ P (.int z.length) := ⟨fun ⟨x, h1, h⟩ => by cases h1; exact h, fun h => ⟨_, rfl, h⟩⟩
theorem x_addS {y : Str} : addD (.str z) (.str y) P ↔ z.length + y.length ≤ 100000 ∧ P (.str (z ++ y)) := Iff.rfl
end
end DL
set_option maxRecDepth 100000
set_option maxHeartbeats 16000000
namespace DL
open PySem PySem.Spec PyProof.Rows L2

def rd__law_word : DS :=
  (dSeq (dSet 0 (d2 modR (dV 0) (d2 powR (dC (.int 10)) (dC (.int 64)))))
  (dSeq (dSet 1 (d2 modR (dV 0) (dC (.int 9))))
  (dSeq (dSet 2 (dA strR (dCons (d2 modR (d2 divR (dV 0) (dC (.int 9))) (d2 powR (dC (.int 10)) (dC (.int 60)))) dNil)))
  (dSeq (dIf (dB (d2 (eqR false) (dV 1) (dC (.int 1))))
  (dSet 2 (d2 addD (dC (.str "-")) (dV 2)))
  dNext)
  (dSeq (dIf (dB (d2 (eqR false) (dV 1) (dC (.int 2))))
  (dSet 2 (d2 addD (d2 ixX (dLst (dCons (dC (.str "0")) (dCons (dC (.str "-0")) (dCons (dC (.str "+")) (dCons (dC (.str " ")) (dCons (dC (.str "--")) dNil)))))) (d2 modR (d2 divR (dV 0) (dC (.int 9))) (dC (.int 5)))) (dV 2)))
  dNext)
  (dSeq (dIf (dB (d2 (eqR false) (dV 1) (dC (.int 3))))
  (dSet 2 (d2 addD (dV 2) (d2 ixX (dLst (dCons (dC (.str " ")) (dCons (dC (.str "\n")) (dCons (dC (.str "_")) (dCons (dC (.str "-")) dNil))))) (d2 modR (d2 divR (dV 0) (dC (.int 9))) (dC (.int 4))))))
  dNext)
  (dSeq (dIf (dB (d2 (eqR false) (dV 1) (dC (.int 4))))
  (dSeq (dSet 3 (d2 modR (d2 divR (dV 0) (dC (.int 99))) (d2 addD (dA lenR (dCons (dV 2) dNil)) (dC (.int 1)))))
  (dSet 2 (d2 addD (d2 addD (dSliceX (dV 2) dNoP (dPart (dV 3))) (d2 ixX (dC (.str "_+- .,eO'x")) (d2 modR (d2 divR (dV 0) (dC (.int 9))) (dC (.int 10))))) (dSliceX (dV 2) (dPart (dV 3)) dNoP))))
  dNext)
  (dSeq (dIf (dB (d2 (eqR false) (dV 1) (dC (.int 5))))
  (dSet 2 (d2 ixX (dLst (dCons (dC (.str "")) (dCons (dC (.str "-")) (dCons (dC (.str "0")) (dCons (dC (.str "-0")) (dCons (dC (.str "00")) (dCons (dC (.str "+1")) (dCons (dC (.str "1_0")) (dCons (dC (.str "-1")) (dCons (dC (.str " ")) (dCons (dC (.str "a")) dNil))))))))))) (d2 modR (d2 divR (dV 0) (dC (.int 9))) (dC (.int 10)))))
  dNext)
  (dSeq (dIf (dB (d2 (eqR false) (dV 1) (dC (.int 6))))
  (dSet 2 (d2 mulX (dV 2) (d2 modR (d2 divR (dV 0) (dC (.int 9))) (dC (.int 7)))))
  dNext)
  (dSeq (dIf (dB (d2 (eqR false) (dV 1) (dC (.int 7))))
  (dSet 2 (d2 addD (d2 mulX (dC (.str "-")) (d2 modR (d2 divR (dV 0) (dC (.int 99))) (dC (.int 2)))) (d2 mulX (dC (.str "8")) (d2 addD (dC (.int 58)) (d2 modR (d2 divR (dV 0) (dC (.int 9))) (dC (.int 6)))))))
  dNext)
  (dRet (dV 2))))))))))))
def w__law_word : CW := bodyW0 4 [.fz] .fz rd__law_word
def rd__law_due : DS :=
  (dSeq (dSet 1 (dV 0))
  (dSeq (dIf (dB (d2 (eqR false) (dSliceX (dV 0) dNoP (dPart (dC (.int 1)))) (dC (.str "-"))))
  (dSet 1 (dSliceX (dV 0) (dPart (dC (.int 1))) dNoP))
  dNext)
  (dSeq (dIf (dOr (dNot (dB (dChain leR leR (dC (.int 1)) (dA lenR (dCons (dV 1) dNil)) (dC (.int 60))))) (dB (d2 (eqR true) (dLc [2] (dItX (dV 1)) (gNm 2) (dB (d2 (inX true) (dV 2) (dC (.str "0123456789")))) (dV 2)) (dLst dNil))))
  (dRet (dC .none))
  dNext)
  (dSeq (dIf (dAnd (dB (d2 (eqR false) (d2 ixX (dV 1) (dC (.int 0))) (dC (.str "0")))) (dB (d2 (eqR true) (dV 0) (dC (.str "0")))))
  (dRet (dC .none))
  dNext)
  (dRet (dA intX (dCons (dV 0) dNil)))))))
def w__law_due : CW := bodyW0 3 [.fz] .fz rd__law_due
def rd_number_in : DS :=
  (dSeq (dSet 1 (dV 0))
  (dSeq (dIf (dB (d2 (eqR false) (dSliceX (dV 0) dNoP (dPart (dC (.int 1)))) (dC (.str "-"))))
  (dSet 1 (dSliceX (dV 0) (dPart (dC (.int 1))) dNoP))
  dNext)
  (dSeq (dIf (dOr (dNot (dB (dChain leR leR (dC (.int 1)) (dA lenR (dCons (dV 1) dNil)) (dC (.int 60))))) (dAnd (dB (d2 (eqR false) (d2 ixX (dV 1) (dC (.int 0))) (dC (.str "0")))) (dB (d2 (eqR true) (dV 0) (dC (.str "0"))))))
  (dRaise "NoText")
  dNext)
  (dSeq (dFor [2] (dItX (dV 1)) (gNm 2)
  (dIf (dB (d2 (inX true) (dV 2) (dC (.str "0123456789"))))
  (dRaise "NoText")
  dNext))
  (dRet (dA intX (dCons (dV 0) dNil)))))))
def w_number_in : CW := bodyW 3 [.fz] .fz rd_number_in
def rd__law_whole : DS :=
  (dRet (dAndV (dIsi (dV 0) "int") (dNotV (dIsi (dV 0) "bool"))))
def w__law_whole : CW := bodyW0 1 [.fz] .fz rd__law_whole
def rd_law : DS :=
  (dSeq (dFor [1, 2, 3, 4, 5, 6] (dIt (d2 addD (dLst (dCons (dC (.int 0)) dNil)) (dSlice (dVs 0) dNoP (dPart (dC (.int 60)))))) (gNm 1)
  (dSeq (dSet 2 (dCall w__law_word (dCons (dV 1) dNil)))
  (dSeq (dSet 3 (dC .none))
  (dSeq (dSetN 4 (dLst dNil))
  (dSeq (dTryAs 5 [("NoText", some (fun a => (dSeq (dSetN 4 (dLst (dCons (dIsE 5 a true) (dCons (dIsE 5 a true) dNil))))
  (dApp 4 (dIsE 5 a (false || (false || (false || (false || (false || (false || (false || (false || false)))))))))))))]
  (dSet 3 (dCallX w_number_in (dCons (dV 2) dNil))))
  (dFrz 4 (dSeq (dSet 6 (dCall w__law_due (dCons (dV 2) dNil)))
  (dSeq (dIf (dAnd (dB (d2 (isR false) (dV 6) (dC .none))) (dB (d2 (eqR true) (dV 4) (dLst (dCons (dC (.bool true)) (dCons (dC (.bool true)) (dCons (dC (.bool false)) dNil)))))))
  (dRet (dC (.bool false)))
  dNext)
  (dIf (dAnd (dB (d2 (isR true) (dV 6) (dC .none))) (dOr (dB (d2 (eqR true) (dV 4) (dLst dNil))) (dOr (dNot (dB (dCall w__law_whole (dCons (dV 3) dNil)))) (dB (d2 (eqR true) (dV 3) (dV 6))))))
  (dRet (dC (.bool false)))
  dNext)))))))))
  (dRet (dC (.bool true))))
def w_law : CW := bodyW0 7 [.rd] .fz rd_law
theorem u__law_word {a0 : D} {P : D → Prop} {Z : String → Prop} : w__law_word [a0] P Z ↔ rd__law_word { nx := fun _ => P .none, rt := P } Z0 [.fz a0, .un, .un, .un] := Iff.rfl
theorem u__law_due {a0 : D} {P : D → Prop} {Z : String → Prop} : w__law_due [a0] P Z ↔ rd__law_due { nx := fun _ => P .none, rt := P } Z0 [.fz a0, .un, .un] := Iff.rfl
theorem u_number_in {a0 : D} {P : D → Prop} {Z : String → Prop} : w_number_in [a0] P Z ↔ rd_number_in { nx := fun _ => P .none, rt := P } (fun _ x => Z x) [.fz a0, .un, .un] := Iff.rfl
theorem u__law_whole {a0 : D} {P : D → Prop} {Z : String → Prop} : w__law_whole [a0] P Z ↔ rd__law_whole { nx := fun _ => P .none, rt := P } Z0 [.fz a0] := Iff.rfl
theorem u_law {a0 : D} {P : D → Prop} {Z : String → Prop} : w_law [a0] P Z ↔ rd_law { nx := fun _ => P .none, rt := P } Z0 [.ln a0, .un, .un, .un, .un, .un, .un] := Iff.rfl
end DL
set_option maxRecDepth 100000
set_option maxHeartbeats 4000000
namespace DL
open PySem PySem.Spec PyProof.Rows L2
local macro_rules | `(tactic| walk_at "r") => `(tactic| simp only [x_ixXL, x_ixXT, x_ixXS, x_inXS, x_inXL, x_inXT, x_strI, x_strS, x_intXS, x_intXI, x_mulXI, x_mulXS, x_cutXS, x_cutXL, x_cutXT, e_sliceX, x_itS, x_itL, x_itT, e_itX, e_split, e_join, e_upper, x_lenS, x_addS, e_seq, e_atm, e_tr, e_Vt, e_setT, e_retT, e_ch, e_put2, e_put2K, e_app2, e_pop2K, e_callM, e_lrev, e_appT, e_Vl, e_tup2, e_retP, e_srev, e_rem, e_asgP, e_tre, e_Va, e_ali, e_putA, e_catC, e_inRg, e_lck, e_catO, e_keysK, e_mov, e_neD0, x_sortDo, x_lenDo, x_lKi, e_asgL, e_sset, e_lset, x_lrev, e_chain3, e_idx, e_cnt, Sl.tre, Sl.tr.injEq, Sl.lt.injEq, atmB, isLT, e_next, e_set, e_setN, e_setS, e_if, e_ret, e_retO, e_drop, e_frz, frz, e_raise, e_asg, e_app, e_ext, e_rev, e_putL, e_putT, e_putK, e_V, e_Vs, e_Vr, e_C, e_1, e_2, e_A, e_nil, e_cons, e_tup, e_lst, e_B, e_not, e_and, e_or, e_andV, e_orV, e_notV, e_ifE, e_call, e_callX, e_isi, e_noP, e_part, e_slice, e_sliceN, e_it, e_rng1, e_rng2, e_enum, e_enumA, e_zip, e_popS, e_appP, e_appQ, e_d2p, e_dpPop, e_dinT, e_putNT, e_chK, e_retL, e_keys, e_gNm, e_gNil, e_gCns, e_gTp, e_din, e_dget, e_chain, e_yes, e_ins, e_tryAs, e_try, e_isE, hsZ_cons, hsZo_cons, DEnds.un, x_rep, e_LRg1, e_LRg2, e_sortR, e_sortL, x_is, x_isB, lk_int, lk_bool, lk_str, lk_none, lk_list, lk_tup, x_lT, isN, e_revS, revR, List.reverse_cons, List.reverse_nil, List.nil_append, List.cons_append, String.reduceEq, reduceIte, Sl.at.injEq, forall_eq,  e_for, e_lc, fgt_nil, fgt_cons, x_I, x_oI, x_lt2, x_le2, x_gt2, x_ge2, x_C, x_1, x_ixL, x_ixT, x_lenL, x_lenT, x_listL, x_listT, x_tupL, x_tupT, x_tupLL, x_min2, x_max2, x_abs, x_intI, x_intB, x_seqL, x_seqT, x_seqT2, x_seqL2, x_sort, x_sortAL, x_sortAT, e_sliceA, x_cutAL, x_cutAT, x_aaI, x_aaL, x_aaT, e_par, x_inL, x_inT, x_eqI, x_eqB, x_addI, x_addL, x_addT, x_cat, x_cutL, x_cutT, x_cutN, x_dTii, x_dKi, x_kii, x_ki, dctT_iff, dctK_iff, Sl.st, Sl.rd, Option.bind_some, List.getElem?_cons_zero, List.getElem?_cons_succ, List.set_cons_zero, List.set_cons_succ, Option.some.injEq, Sl.fz.injEq, Sl.ow.injEq, Sl.ln.injEq, exists_eq_left', exists_eq_left, PyData.int.injEq, PyData.bool.injEq, PyData.str.injEq, PyData.list.injEq, PyData.tuple.injEq, reduceCtorEq, tyN, ib_00, ib_01, ib_02, ib_03, ib_04, ib_05, ib_10, ib_11, ib_12, ib_13, ib_14, ib_15, ib_20, ib_21, ib_22, ib_23, ib_24, ib_25, ib_30, ib_31, ib_32, ib_33, ib_34, ib_35, ib_40, ib_41, ib_42, ib_43, ib_44, ib_45, ib_50, ib_51, ib_52, ib_53, ib_54, ib_55, ib_60, ib_61, ib_62, ib_63, ib_64, ib_65, Bool.or_false, Bool.or_true, Bool.true_or, Bool.false_or, Bool.and_false, Bool.and_true, Bool.true_and, Bool.false_and, Bool.not_true, Bool.not_false, Int.cast_ofNat_Int, not_true_eq_false, not_false_eq_true, List.cons.injEq, and_true, true_and, or_false, false_or, exists_eq, exists_const, exists_and_left, and_assoc, List.length_cons, List.length_nil, Nat.zero_add, Nat.reduceAdd, Nat.reduceLeDiff, Bool.xor_false, Bool.xor_true, decide_eq_true_eq, decide_eq_false_iff_not, beq_iff_eq, beq_eq_false_iff_ne, ne_eq, Bool.not_eq_true', Bool.not_eq_false', forall_const, forall_eq', forall_eq, false_implies, implies_true, Bool.true_eq_false, Bool.false_eq_true])

/-! ### plain Lean: pairs, ties -/
def eP (p : Int × Int) : D := .tuple [.int p.1, .int p.2]
def nrm (p : Int × Int) : Int × Int := (min p.1 p.2, max p.1 p.2)
def cellAt (ns : List Int) (k : Nat) : Int := (ns[k]?).getD 0
def mixI (c k b : Int) : Int :=
  (((c % 2305843009213693951 + (k + 3) * 1000000007) * 1152921504606846883 % 2305843009213693951 * ((c % 2305843009213693951 + (k + 3) * 1000000007) * 1152921504606846883 % 2305843009213693951) % 2305843009213693951 + k) * 576460752303423433 % 2305843009213693951 / 7 % b)
theorem mix_nn {c k b : Int} (hb : 0 < b) : 0 ≤ mixI c k b ∧ mixI c k b < b := ⟨Int.emod_nonneg _ (by omega), Int.emod_lt_of_pos _ hb⟩
def rowI (n i : Nat) : List (Int × Int) := (List.range (n - (i + 1))).map fun j => ((i : Int), (i : Int) + 1 + (j : Nat))
def pairsI (n : Nat) : List (Int × Int) := (List.range n).flatMap (rowI n)
theorem flat_len {n : Nat} : ∀ l : List Nat, (l.flatMap (rowI n)).length ≤ l.length * n
  | [] => by simp
  | a :: l => by
    have h := flat_len (n := n) l
    rw [List.flatMap_cons, List.length_append, List.length_cons, Nat.succ_mul]
    have : (rowI n a).length ≤ n := by
      unfold rowI
      rw [List.length_map, List.length_range]
      omega
    omega
theorem mem_row {n i : Nat} {p : Int × Int} : p ∈ rowI n i ↔ p.1 = i ∧ (i : Int) < p.2 ∧ p.2 < n := by
  unfold rowI
  rw [List.mem_map]
  constructor
  · rintro ⟨j, hj, rfl⟩
    rw [List.mem_range] at hj
    exact ⟨rfl, by show (i : Int) < i + 1 + (j : Nat); omega, by show (i : Int) + 1 + (j : Nat) < n; omega⟩
  · rintro ⟨h1, h2, h3⟩
    refine ⟨(p.2 - (i + 1)).toNat, ?_, ?_⟩
    · rw [List.mem_range]
      omega
    · refine Prod.ext h1.symm ?_
      show (i : Int) + 1 + ((p.2 - (i + 1)).toNat : Nat) = p.2
      omega
theorem mem_pairs {n : Nat} {p : Int × Int} : p ∈ pairsI n ↔ 0 ≤ p.1 ∧ p.1 < p.2 ∧ p.2 < n := by
  unfold pairsI
  rw [List.mem_flatMap]
  constructor
  · rintro ⟨i, hi, h⟩
    obtain ⟨h1, h2, h3⟩ := mem_row.mp h
    omega
  · rintro ⟨h1, h2, h3⟩
    refine ⟨p.1.toNat, ?_, mem_row.mpr ⟨by omega, by omega, h3⟩⟩
    rw [List.mem_range]
    omega
def ltP (p q : Int × Int) : Prop := p.1 < q.1 ∨ (p.1 = q.1 ∧ p.2 < q.2)
theorem ltP_trans {a b c : Int × Int} (h : ltP a b) (k : ltP b c) : ltP a c := by
  unfold ltP at *
  omega
theorem ltP_ne {a b : Int × Int} (h : ltP a b) : a ≠ b := by
  rintro rfl
  unfold ltP at h
  omega
theorem row_sorted (n i : Nat) : (rowI n i).Pairwise ltP := by
  unfold rowI
  rw [List.pairwise_map]
  refine List.pairwise_lt_range.imp fun {a b} h => ?_
  right
  exact ⟨rfl, by show (i : Int) + 1 + (a : Nat) < (i : Int) + 1 + (b : Nat); omega⟩
theorem pairs_sorted (n : Nat) : (pairsI n).Pairwise ltP := by
  unfold pairsI
  rw [List.flatMap_def, List.pairwise_flatten]
  constructor
  · intro l hl
    obtain ⟨i, _, rfl⟩ := List.mem_map.mp hl
    exact row_sorted n i
  · rw [List.pairwise_map]
    refine List.pairwise_lt_range.imp fun {a b} h x hx y hy => ?_
    have h1 := (mem_row.mp hx).1
    have h2 := (mem_row.mp hy).1
    left
    omega
theorem pairs_len {n : Nat} (h : n ≤ 24) : (pairsI n).length ≤ 576 := by
  have := flat_len (n := n) (List.range n)
  rw [List.length_range] at this
  have : n * n ≤ 24 * 24 := Nat.mul_le_mul h h
  unfold pairsI
  omega
/-- ties as webs tell them -/
structure Ties (n : Nat) (L : List (Int × Int)) : Prop where
  srt : L.Pairwise ltP
  rng : ∀ p ∈ L, 0 ≤ p.1 ∧ p.1 < p.2 ∧ p.2 < n
theorem Ties.sub {n : Nat} {L M : List (Int × Int)} (h : Ties n M) (s : L.Sublist M) : Ties n L := ⟨h.srt.sublist s, fun p hp => h.rng p (s.subset hp)⟩
theorem ties_pairs (n : Nat) : Ties n (pairsI n) := ⟨pairs_sorted n, fun p hp => mem_pairs.mp hp⟩
theorem Ties.nodup {n : Nat} {L : List (Int × Int)} (h : Ties n L) : L.Nodup := h.srt.imp fun h => ltP_ne h
theorem Ties.nrm {n : Nat} {L : List (Int × Int)} (h : Ties n L) : L.map nrm = L := by
  have e : L.map DL.nrm = L.map id := List.map_congr_left fun p hp => by
    obtain ⟨h1, h2, h3⟩ := h.rng p hp
    refine Prod.ext ?_ ?_
    · show min p.1 p.2 = p.1
      omega
    · show max p.1 p.2 = p.2
      omega
  rw [e, List.map_id]
theorem perm_len {α : Type} [DecidableEq α] {L M : List α} (hn : L.Nodup) (hs : ∀ x ∈ L, x ∈ M) : L.length ≤ M.length := by
  induction L generalizing M with
  | nil => exact Nat.zero_le _
  | cons a L ih =>
    rw [List.nodup_cons] at hn
    have h2 : ∀ x ∈ L, x ∈ M.erase a := fun x hx => by
      have ne : x ≠ a := by
        rintro rfl
        exact hn.1 hx
      exact (List.mem_erase_of_ne ne).mpr (hs x (by simp [hx]))
    have := ih hn.2 h2
    have ha : a ∈ M := hs a (by simp)
    rw [List.length_erase_of_mem ha] at this
    have : 0 < M.length := List.length_pos_of_mem ha
    rw [List.length_cons]
    omega
theorem Ties.len {n : Nat} {L : List (Int × Int)} (h : Ties n L) (hn : n ≤ 24) : L.length ≤ 576 :=
  Nat.le_trans (perm_len h.nodup fun p hp => mem_pairs.mpr (h.rng p hp)) (pairs_len hn)
/-- two rows of the same things, both ascending, are the same -/
theorem srt_eq : ∀ {L M : List (Int × Int)}, L.Pairwise ltP → M.Pairwise ltP → L.Perm M → L = M
  | [], M, _, _, h => (List.nil_perm.mp h).symm
  | a :: L, M, hL, hM, h => by
    cases M with
    | nil => exact absurd h.length_eq (by simp)
    | cons b M =>
      rw [List.pairwise_cons] at hL hM
      have e : a = b := by
        have h1 : a ∈ b :: M := h.subset (by simp)
        have h2 : b ∈ a :: L := h.symm.subset (by simp)
        rcases List.mem_cons.mp h1 with h1 | h1
        · exact h1
        rcases List.mem_cons.mp h2 with h2 | h2
        · exact h2.symm
        have k1 := hM.1 a h1
        have k2 := hL.1 b h2
        unfold ltP at k1 k2
        exfalso
        omega
      subst e
      rw [srt_eq hL.2 hM.2 (List.Perm.cons_inv h)]
/-! sorting pairs -/
def leP (p q : Int × Int) : Bool := decide (p.1 < q.1 ∨ (p.1 = q.1 ∧ p.2 ≤ q.2))
def sortP (L : List (Int × Int)) : List (Int × Int) := L.mergeSort leP
theorem leP_trans : ∀ a b c : Int × Int, leP a b = true → leP b c = true → leP a c = true := fun a b c h k => by
  unfold leP at *
  simp only [decide_eq_true_eq] at *
  omega
theorem leP_total : ∀ a b : Int × Int, (leP a b || leP b a) = true := fun a b => by
  unfold leP
  rw [Bool.or_eq_true]
  simp only [decide_eq_true_eq]
  omega
theorem sortP_perm (L : List (Int × Int)) : (sortP L).Perm L := List.mergeSort_perm L leP
theorem sortP_srt {L : List (Int × Int)} (hn : L.Nodup) : (sortP L).Pairwise ltP := by
  have h := List.pairwise_mergeSort (le := leP) leP_trans leP_total L
  have hn2 : (sortP L).Nodup := (sortP_perm L).nodup_iff.mpr hn
  have := h.and hn2
  refine this.imp fun {a b} ⟨h1, h2⟩ => ?_
  unfold leP at h1
  simp only [decide_eq_true_eq] at h1
  unfold ltP
  by_cases c : a.1 < b.1
  · exact .inl c
  · by_cases c2 : a.2 < b.2
    · exact .inr ⟨by omega, c2⟩
    · exact absurd (Prod.ext (by omega) (by omega)) h2
/-- what is sorted is ascending -/
theorem sortP_ties {n : Nat} {L M : List (Int × Int)} (h : Ties n L) (p : M.Perm L) : sortP M = L :=
  srt_eq (sortP_srt (p.nodup_iff.mpr h.nodup)) h.srt ((sortP_perm M).trans p)
theorem alike_eP (p q : Int × Int) : PySem.W.alike (eP p) (eP q) = true := by
  simp [eP, PySem.W.alike, PySem.W.alikeAll]
theorem shp_eP (p : Int × Int) : Shp 8 (eP p) := by simp [eP, Shp]
theorem sort_ok_eP {L : List (Int × Int)} (h : L.length ≤ 100000) : SortOk (L.map eP) := by
  refine ⟨PySem.W.AllAlike.of fun p q => alike_eP p q, PySem.W.Sortable.tuples fun p => ⟨_, _, rfl⟩, by rw [List.length_map]; exact h, fun d hd => ?_⟩
  obtain ⟨p, _, rfl⟩ := List.mem_map.mp hd
  exact shp_eP p
theorem srt_eP (L : List (Int × Int)) : srtD (L.map eP) = (sortP L).map eP := by
  unfold srtD sortP
  refine (List.map_mergeSort (fun a _ b _ => ?_)).symm
  have h := congrFun (congrFun (PySem.W.dataLe_ii (β := Int × Int) (·.1) (·.2)) a) b
  exact h.symm
theorem eP_inj {p q : Int × Int} (h : eP p = eP q) : p = q := by
  simp only [eP, PyData.tuple.injEq, List.cons.injEq, PyData.int.injEq, and_true] at h
  exact Prod.ext h.1 h.2
theorem mapEP_inj {L M : List (Int × Int)} (h : L.map eP = M.map eP) : L = M := map_inj' (fun _ _ => eP_inj) h
/-- a list of ties is well put -/
def Fits (n : Int) (L : List (Int × Int)) : Prop := (∀ p ∈ L, 0 ≤ (nrm p).1 ∧ (nrm p).1 < (nrm p).2 ∧ (nrm p).2 < n) ∧ (L.map nrm).Nodup
instance (n : Int) (L : List (Int × Int)) : Decidable (Fits n L) := inferInstanceAs (Decidable (_ ∧ _))
theorem fits_perm {n : Nat} {L R : List (Int × Int)} (h : Ties n L) (p : (R.map nrm).Perm (L.map nrm)) : Fits n R := by
  rw [h.nrm] at p
  refine ⟨fun q hq => ?_, p.nodup_iff.mpr h.nodup⟩
  exact h.rng _ (p.subset (List.mem_map_of_mem hq))
theorem cutD_from {xs : List D} {k : Nat} : cutD xs (some (k : Int)) none = xs.drop k := by
  unfold cutD
  rw [HT.sIx_nat, HT.sIx_none]
  by_cases h : k ≤ xs.length
  · rw [Nat.min_eq_left h]
    exact List.take_of_length_le (by rw [List.length_drop]; exact Nat.le_refl _)
  · rw [Nat.min_eq_right (by omega), List.drop_of_length_le (Nat.le_refl _), List.drop_of_length_le (by omega), List.take_nil]
theorem cutD_to {xs : List D} {k : Nat} : cutD xs none (some (k : Int)) = xs.take k := by
  unfold cutD
  rw [HT.sIx_nat, HT.sIx_none, List.drop_zero, Nat.sub_zero]
  by_cases h : k ≤ xs.length
  · rw [Nat.min_eq_left h]
  · rw [Nat.min_eq_right (by omega), List.take_of_length_le (Nat.le_refl _), List.take_of_length_le (by omega)]
theorem atI0 {a : D} {r : List D} : atI (a :: r) 0 = some a := atI_nat (j := 0) rfl
theorem atI1 {a b : D} {r : List D} : atI (a :: b :: r) 1 = some b := atI_nat (j := 1) rfl
theorem small_mul {i j : Int} (h : -(2 ^ 64) < j ∧ j < 2 ^ 64) : CMulD i j := .inl (.inr h)
theorem lit_mul {i j : Int} (h : -(2 ^ 64) < i ∧ i < 2 ^ 64) : CMulD i j := .inl (.inl h)
theorem lit_div {i j : Int} (h : 0 < j) (h2 : j.natAbs.log2 < 9000) : CDivW i j := ⟨h, h2⟩
theorem shp_map {α : Type} {k : Nat} {enc : α → D} (h : ∀ a, Shp k (enc a)) (l : List α) : ∀ d ∈ l.map enc, Shp k d := fun d hd => by
  obtain ⟨a, _, rfl⟩ := List.mem_map.mp hd
  exact h a
theorem nb_map {α : Type} {k : Nat} {enc : α → D} (h : ∀ a, Nb k (enc a)) (l : List α) : ∀ d ∈ l.map enc, Nb k d := fun d hd => by
  obtain ⟨a, _, rfl⟩ := List.mem_map.mp hd
  exact h a
theorem shp_int {k : Nat} (i : Int) : Shp k (.int i) := by cases k <;> trivial
theorem nb_int {k : Nat} (i : Int) : Nb k (.int i) := by cases k <;> trivial
theorem shp_pair {k : Nat} (p : Int × Int) : Shp (k + 1) (eP p) := fun d hd => by
  rcases List.mem_cons.mp hd with rfl | hd
  · exact shp_int _
  · rw [List.mem_singleton] at hd
    subst hd
    exact shp_int _
theorem nb_pair {k : Nat} (p : Int × Int) : Nb (k + 1) (eP p) := fun d hd => by
  rcases List.mem_cons.mp hd with rfl | hd
  · exact nb_int _
  · rw [List.mem_singleton] at hd
    subst hd
    exact nb_int _
/-- a web -/
def eW (n : Nat) (L : List (Int × Int)) : D := .tuple [.int (n : Nat), .tuple (L.map eP)]
theorem shp_eW {k : Nat} (n : Nat) (L : List (Int × Int)) : Shp (k + 3) (eW n L) := fun d hd => by
  rcases List.mem_cons.mp hd with rfl | hd
  · exact shp_int _
  · rw [List.mem_singleton] at hd
    subst hd
    exact shp_map (fun p => shp_pair p) L
theorem nb_eW {k : Nat} (n : Nat) (L : List (Int × Int)) : Nb (k + 3) (eW n L) := fun d hd => by
  rcases List.mem_cons.mp hd with rfl | hd
  · exact nb_int _
  · rw [List.mem_singleton] at hd
    subst hd
    exact nb_map (fun p => nb_pair p) L
theorem eW_iff {n m : Nat} {L M : List (Int × Int)} : eW n L = eW m M ↔ n = m ∧ L = M := by
  unfold eW
  simp only [PyData.tuple.injEq, List.cons.injEq, PyData.int.injEq, and_true]
  constructor
  · rintro ⟨h1, h2⟩
    exact ⟨by omega, mapEP_inj h2⟩
  · rintro ⟨rfl, rfl⟩
    exact ⟨rfl, rfl⟩
theorem eqR_of {x y : D} {neg : Bool} {P : D → Prop} {p : Prop} [Decidable p] (hx : Shp 8 x) (hy : Shp 8 y) (nx : Nb 8 x) (ny : Nb 8 y) (hp : x = y ↔ p) (h : P (.bool (decide p ^^ neg))) : eqR neg x y P := by
  refine ⟨hx, hy, ?_⟩
  have e : PyData.eqv x y = decide p := by
    have q := nb_eqv 8 8 x y nx ny
    by_cases c : p
    · rw [decide_eq_true c]
      exact q.mpr (hp.mpr c)
    · rw [decide_eq_false c]
      cases z : PyData.eqv x y with
      | false => rfl
      | true => exact absurd (hp.mp (q.mp z)) c
  rw [e]
  exact h
theorem shp_lst {α : Type} {k : Nat} {enc : α → D} (h : ∀ a, Shp k (enc a)) (l : List α) : Shp (k + 1) (.list (l.map enc)) := shp_map h l
theorem nb_lst {α : Type} {k : Nat} {enc : α → D} (h : ∀ a, Nb k (enc a)) (l : List α) : Nb (k + 1) (.list (l.map enc)) := nb_map h l
theorem lst_iff {L M : List (Int × Int)} : PyData.list (L.map eP) = .list (M.map eP) ↔ L = M := by
  rw [PyData.list.injEq]
  exact ⟨mapEP_inj, fun h => by rw [h]⟩
theorem cutD_map {α : Type} (f : α → D) (l : List α) (lo hi : Option Int) : ∃ l' : List α, cutD (l.map f) lo hi = l'.map f ∧ l'.Sublist l := by
  refine ⟨(l.drop (HT.sIx l.length 0 lo)).take (HT.sIx l.length l.length hi - HT.sIx l.length 0 lo), ?_, (List.take_sublist _ _).trans (List.drop_sublist _ _)⟩
  unfold cutD
  rw [List.length_map, List.map_take, List.map_drop]
theorem p40 : CPow 10 40 := ⟨by decide, by decide, by decide⟩
theorem p40_pos : (0 : Int) < 10 ^ Int.toNat 40 := by decide
/-! ### how many ties a place has -/
def hasP (v : Int) (p : Int × Int) : Bool := p.1 == v || p.2 == v
def deg (L : List (Int × Int)) (v : Int) : Nat := (L.filter (hasP v)).length
def tallyI (n : Nat) (L : List (Int × Int)) : List Int := (List.range n).map fun v => (deg L (v : Nat) : Int)
theorem tallyI_len (n : Nat) (L : List (Int × Int)) : (tallyI n L).length = n := by unfold tallyI; rw [List.length_map, List.length_range]
theorem tallyI_get {n : Nat} {L : List (Int × Int)} {v : Nat} (h : v < n) : (tallyI n L)[v]? = some (deg L (v : Nat) : Int) := by
  unfold tallyI
  rw [List.getElem?_map, List.getElem?_range h]
  rfl
theorem deg_le (L : List (Int × Int)) (v : Int) : deg L v ≤ L.length := List.length_filter_le _ _
theorem deg_snoc (L : List (Int × Int)) (x : Int × Int) (v : Int) : deg (L ++ [x]) v = deg L v + (if hasP v x then 1 else 0) := by
  unfold deg
  rw [List.filter_append, List.length_append]
  by_cases h : hasP v x <;> simp [h]
theorem ixN_nat {n j : Nat} (h : j < n) : ixN n (j : Int) = some j := by
  unfold ixN
  rw [if_pos (by omega), if_pos (by omega), Int.toNat_natCast]
theorem tally_step {n a b : Nat} {L : List (Int × Int)} (ha : a < n) (hb : b < n) (hab : a ≠ b) :
    ((tallyI n L).set a ((deg L (a : Nat) : Int) + 1)).set b ((deg L (b : Nat) : Int) + 1) = tallyI n (L ++ [((a : Int), (b : Int))]) := by
  refine List.ext_getElem? fun v => ?_
  by_cases hv : v < n
  · rw [tallyI_get hv, deg_snoc]
    by_cases h1 : v = b
    · subst h1
      rw [List.getElem?_set_self (by rw [List.length_set, tallyI_len]; exact hv), if_pos (by simp [hasP])]
      rfl
    · rw [List.getElem?_set_ne (Ne.symm h1)]
      by_cases h2 : v = a
      · subst h2
        rw [List.getElem?_set_self (by rw [tallyI_len]; exact hv), if_pos (by simp [hasP])]
        rfl
      · rw [List.getElem?_set_ne (Ne.symm h2), tallyI_get hv, if_neg (by simp [hasP]; omega)]
        rfl
  · rw [List.getElem?_eq_none (by rw [List.length_set, List.length_set, tallyI_len]; omega), List.getElem?_eq_none (by rw [tallyI_len]; omega)]
theorem in_eP (L : List (Int × Int)) (a b : Int) : ((L.map eP).any fun z => PyData.eqv z (.tuple [.int a, .int b])) = decide ((a, b) ∈ L) := by
  induction L with
  | nil => simp
  | cons p L ih =>
    rw [List.map_cons, List.any_cons, ih]
    by_cases h : (a, b) = p
    · subst h
      simp [eP, PyData.eqv, PyData.eqvAll]
    · have e : PyData.eqv (eP p) (.tuple [.int a, .int b]) = false := by
        simp [eP, PyData.eqv, PyData.eqvAll]
        intro h1 h2
        exact h (Prod.ext h1.symm h2.symm)
      rw [e, Bool.false_or]
      simp [h]
theorem shp_ii {k : Nat} (a b : Int) : Shp (k + 1) (.tuple [.int a, .int b]) := shp_pair (a, b)
theorem ints_inj {A B : List Int} (h : A.map PyData.int = B.map .int) : A = B := map_inj' (fun _ _ h => PyData.int.inj h) h
theorem ints_iff {A B : List Int} : PyData.list (A.map .int) = .list (B.map .int) ↔ A = B := by
  rw [PyData.list.injEq]
  exact ⟨ints_inj, fun h => by rw [h]⟩
/-- lists of ints compared -/
theorem eqR_ints {A B : List Int} {neg : Bool} {P : D → Prop} (h : P (.bool (decide (A = B) ^^ neg))) : eqR neg (.list (A.map .int)) (.list (B.map .int)) P :=
  eqR_of (p := A = B) (shp_lst (fun i => shp_int i) A) (shp_lst (fun i => shp_int i) B) (nb_lst (fun i => nb_int i) A) (nb_lst (fun i => nb_int i) B) ints_iff h
theorem eqR_pairs {A B : List (Int × Int)} {neg : Bool} {P : D → Prop} (h : P (.bool (decide (A = B) ^^ neg))) : eqR neg (.list (A.map eP)) (.list (B.map eP)) P :=
  eqR_of (p := A = B) (shp_lst (fun i => shp_pair i) A) (shp_lst (fun i => shp_pair i) B) (nb_lst (fun i => nb_pair i) A) (nb_lst (fun i => nb_pair i) B) lst_iff h
theorem eqR_webs {n m : Nat} {A B : List (Int × Int)} {neg : Bool} {P : D → Prop} (h : P (.bool (decide (n = m ∧ A = B) ^^ neg))) : eqR neg (eW n A) (eW m B) P :=
  eqR_of (p := n = m ∧ A = B) (shp_eW n A) (shp_eW m B) (nb_eW n A) (nb_eW m B) eW_iff h
theorem atI_ints {A : List Int} {k : Nat} {x : Int} (h : A[k]? = some x) : atI (A.map PyData.int) (k : Int) = some (.int x) := atI_nat (by rw [List.getElem?_map, h]; rfl)

/-! ### the web that has what a web lacks -/
def otherI (n : Nat) (L : List (Int × Int)) : List (Int × Int) := (pairsI n).filter fun p => decide (p ∉ L)
theorem other_ties (n : Nat) (L : List (Int × Int)) : Ties n (otherI n L) := (ties_pairs n).sub (List.filter_sublist)
theorem mem_other {n : Nat} {L : List (Int × Int)} {p : Int × Int} : p ∈ otherI n L ↔ (0 ≤ p.1 ∧ p.1 < p.2 ∧ p.2 < n) ∧ p ∉ L := by
  unfold otherI
  rw [List.mem_filter, mem_pairs, decide_eq_true_eq]
theorem ties_ext {n : Nat} {L M : List (Int × Int)} (hL : Ties n L) (hM : Ties n M) (h : ∀ p, p ∈ L ↔ p ∈ M) : L = M :=
  srt_eq hL.srt hM.srt ((List.perm_ext_iff_of_nodup hL.nodup hM.nodup).mpr h)
theorem other_other {n : Nat} {L : List (Int × Int)} (h : Ties n L) : otherI n (otherI n L) = L := by
  refine ties_ext (other_ties n _) h fun p => ?_
  rw [mem_other, mem_other]
  constructor
  · rintro ⟨h1, h2⟩
    exact Classical.byContradiction fun c => h2 ⟨h1, c⟩
  · intro hp
    exact ⟨h.rng p hp, fun c => c.2 hp⟩
theorem deg_perm {L M : List (Int × Int)} (h : L.Perm M) (v : Int) : deg L v = deg M v := (h.filter _).length_eq
theorem deg_append (L M : List (Int × Int)) (v : Int) : deg (L ++ M) v = deg L v + deg M v := by
  unfold deg
  rw [List.filter_append, List.length_append]
theorem tally_perm {n : Nat} {L M : List (Int × Int)} (h : L.Perm M) : tallyI n L = tallyI n M := by
  unfold tallyI
  refine List.map_congr_left fun v _ => ?_
  rw [deg_perm h]
theorem split_perm {α : Type} (q : α → Bool) : ∀ l : List α, (l.filter q ++ l.filter (fun x => !q x)).Perm l
  | [] => .nil
  | a :: l => by
    have ih := split_perm q l
    by_cases h : q a
    · rw [List.filter_cons_of_pos h, List.filter_cons_of_neg (by simp [h]), List.cons_append]
      exact ih.cons a
    · rw [List.filter_cons_of_neg h, List.filter_cons_of_pos (by simp [h])]
      exact List.perm_middle.trans (ih.cons a)
theorem other_split {n : Nat} {L : List (Int × Int)} (h : Ties n L) : (L ++ otherI n L).Perm (pairsI n) := by
  have e : (pairsI n).filter (fun p => decide (p ∈ L)) = L := by
    refine ties_ext ((ties_pairs n).sub List.filter_sublist) h fun p => ?_
    rw [List.mem_filter, decide_eq_true_eq, mem_pairs]
    exact ⟨fun q => q.2, fun q => ⟨h.rng p q, q⟩⟩
  have q := split_perm (fun p => decide (p ∈ L)) (pairsI n)
  rw [e] at q
  have e2 : (pairsI n).filter (fun p => !decide (p ∈ L)) = otherI n L := by
    unfold otherI
    refine List.filter_congr fun p _ => ?_
    by_cases c : p ∈ L <;> simp [c]
  rw [e2] at q
  exact q
theorem filter_range_eq {k j : Nat} (h : j < k) : ((List.range k).filter fun i => i == j).length = 1 := by
  induction k with
  | zero => omega
  | succ k ih =>
    rw [List.range_succ, List.filter_append, List.length_append]
    by_cases c : k = j
    · subst c
      have e : (List.range k).filter (fun i => i == k) = [] := List.filter_eq_nil_iff.mpr fun i hi => by
        have := List.mem_range.mp hi
        simp
        omega
      rw [e]
      simp
    · have := ih (by omega)
      rw [this]
      simp [c]
theorem deg_row {n m v : Nat} (hm : m < n) (hv : v < n) : deg (rowI n m) (v : Nat) = if m = v then n - 1 - v else if m < v then 1 else 0 := by
  unfold deg rowI
  rw [List.filter_map, List.length_map]
  by_cases h1 : m = v
  · subst h1
    rw [if_pos rfl, List.filter_eq_self.mpr (fun j _ => by simp [hasP]), List.length_range]
    omega
  · rw [if_neg h1]
    by_cases h2 : m < v
    · rw [if_pos h2]
      have e : (List.range (n - (m + 1))).filter ((hasP (v : Nat)) ∘ fun j : Nat => ((m : Int), (m : Int) + 1 + (j : Nat))) = (List.range (n - (m + 1))).filter (fun j => j == v - (m + 1)) := by
        refine List.filter_congr fun j _ => ?_
        simp only [Function.comp, hasP]
        rw [Bool.eq_iff_iff]
        simp only [Bool.or_eq_true, beq_iff_eq]
        omega
      rw [e]
      exact filter_range_eq (by omega)
    · rw [if_neg h2, List.filter_eq_nil_iff.mpr fun j hj => ?_]
      · rfl
      · have := List.mem_range.mp hj
        simp [hasP]
        omega
theorem deg_rows {n v : Nat} (hv : v < n) : ∀ m, m ≤ n → deg ((List.range m).flatMap (rowI n)) (v : Nat) = if v < m then n - 1 else m
  | 0, _ => by simp [deg]
  | m + 1, h => by
    rw [List.range_succ, List.flatMap_append, deg_append, deg_rows hv m (by omega), List.flatMap_cons, List.flatMap_nil, List.append_nil, deg_row (by omega) hv]
    split <;> split <;> split <;> (try split) <;> omega
theorem deg_pairs {n v : Nat} (hv : v < n) : deg (pairsI n) (v : Nat) = n - 1 := by
  have := deg_rows hv n (Nat.le_refl _)
  rw [if_pos hv] at this
  exact this
theorem deg_other {n v : Nat} {L : List (Int × Int)} (h : Ties n L) (hv : v < n) : deg L (v : Nat) + deg (otherI n L) (v : Nat) = n - 1 := by
  rw [← deg_append, deg_perm (other_split h), deg_pairs hv]
theorem tally_other {n : Nat} {L : List (Int × Int)} (h : Ties n L) : tallyI n (otherI n L) = (tallyI n L).map fun x => (n : Int) - 1 - x := by
  unfold tallyI
  rw [List.map_map]
  refine List.map_congr_left fun v hv => ?_
  have := deg_other h (List.mem_range.mp hv)
  have := List.mem_range.mp hv
  show (deg (otherI n L) (v : Nat) : Int) = (n : Int) - 1 - (deg L (v : Nat) : Int)
  omega
theorem ind_sum (a : Nat) : ∀ n : Nat, ((List.range n).map fun v => if a = v then (1 : Int) else 0).sum = if a < n then 1 else 0
  | 0 => by simp
  | n + 1 => by
    rw [List.range_succ, List.map_append, List.sum_append, ind_sum a n]
    simp only [List.map_cons, List.map_nil, List.sum_cons, List.sum_nil]
    split <;> split <;> split <;> omega
theorem sum_add (f g : Nat → Int) : ∀ l : List Nat, (l.map fun v => f v + g v).sum = (l.map f).sum + (l.map g).sum
  | [] => by simp
  | a :: l => by
    simp only [List.map_cons, List.sum_cons, sum_add f g l]
    omega
theorem tally_sum {n : Nat} : ∀ {L : List (Int × Int)}, (∀ p ∈ L, 0 ≤ p.1 ∧ p.1 < p.2 ∧ p.2 < n) → (tallyI n L).sum = 2 * L.length := fun {L} => by
  induction L with
  | nil =>
    intro _
    have e : tallyI n [] = (List.range n).map fun _ => (0 : Int) := rfl
    rw [e]
    have : ∀ l : List Nat, (l.map fun _ => (0 : Int)).sum = 0 := fun l => by induction l <;> simp_all
    rw [this]
    rfl
  | cons p L ih =>
    intro h
    have h0 := ih fun q hq => h q (by simp [hq])
    obtain ⟨a1, a2, a3⟩ := h p (by simp)
    obtain ⟨p1, p2⟩ := p
    simp only at a1 a2 a3
    obtain ⟨a, rfl⟩ : ∃ a : Nat, p1 = (a : Int) := ⟨_, (Int.toNat_of_nonneg a1).symm⟩
    obtain ⟨b, rfl⟩ : ∃ b : Nat, p2 = (b : Int) := ⟨_, (Int.toNat_of_nonneg (by omega)).symm⟩
    have e : tallyI n (((a : Int), (b : Int)) :: L) = (List.range n).map fun v => (deg L (v : Nat) : Int) + ((if a = v then 1 else 0) + (if b = v then 1 else 0)) := by
      unfold tallyI
      refine List.map_congr_left fun v _ => ?_
      have q := deg_append [((a : Int), (b : Int))] L (v : Nat)
      rw [List.singleton_append] at q
      rw [q]
      have q2 : deg [((a : Int), (b : Int))] (v : Nat) = (if a = v then 1 else 0) + (if b = v then 1 else 0) := by
        unfold deg
        by_cases c : a = v
        · have c2 : b ≠ v := by omega
          simp [hasP, c, c2]
        · by_cases c2 : b = v
          · simp [hasP, c2]
            omega
          · have : ¬ ((a : Int) = v) := by omega
            have : ¬ ((b : Int) = v) := by omega
            simp [hasP, c, c2]
            omega
      rw [q2]
      split <;> split <;> omega
    rw [e, sum_add, sum_add, ind_sum, ind_sum, if_pos (by omega), if_pos (by omega)]
    have : ((List.range n).map fun v => (deg L (v : Nat) : Int)).sum = (tallyI n L).sum := rfl
    rw [this, h0, List.length_cons]
    omega
/-! ### steps without unfolding what follows -/
section
variable {A B : DS} {d : DEnds} {Z : Zs} {ρ : List Sl} {t : DT} {v : D} {i j : Nat} {w k : Int}
theorem seq_setv (hv : ∀ P : D → Prop, P v → t ρ P Z) (h : B d Z (ρ.set i (.fz v))) : dSeq (dSet i t) B d Z ρ := hv _ h
theorem seq_setNv (hv : ∀ P : D → Prop, P v → t ρ P Z) (h : B d Z (ρ.set i (.ow v))) : dSeq (dSetN i t) B d Z ρ := hv _ h
theorem tst {Q : Bool → Prop} {Z : Zs} (hw : ρ[i]? = some (.fz (.int w))) (h : Q (w == k)) : dB (d2 (eqR false) (dV i) (dC (.int k))) ρ Q Z := by
  refine ⟨.int w, hw, ?_⟩
  show eqR false (.int w) (.int k) (fun x => ∃ c, x = .bool c ∧ Q c)
  rw [x_eqI]
  exact ⟨_, rfl, by rw [Bool.xor_false]; exact h⟩
theorem if_skip (hw : ρ[i]? = some (.fz (.int w))) (hne : w ≠ k) (h : B d Z ρ) : dSeq (dIf (dB (d2 (eqR false) (dV i) (dC (.int k)))) A dNext) B d Z ρ :=
  tst hw ⟨fun c => absurd (by simpa using c) hne, fun _ => h⟩
theorem if_skipA {u : DTt} (hw : ρ[i]? = some (.fz (.int w))) (hne : w ≠ k) (h : B d Z ρ) : dSeq (dIf (dAnd (dB (d2 (eqR false) (dV i) (dC (.int k)))) u) A dNext) B d Z ρ :=
  tst hw ⟨fun c => absurd (by simpa using c) hne, fun _ => ⟨fun c => (nomatch c), fun _ => h⟩⟩
theorem if_end (hw : ρ[i]? = some (.fz (.int w))) (heq : w = k) (h : ∀ d' : DEnds, d'.rt = d.rt → A d' Z ρ) : dSeq (dIf (dB (d2 (eqR false) (dV i) (dC (.int k)))) A dNext) B d Z ρ :=
  tst hw ⟨fun _ => h _ rfl, fun c => absurd heq (by simpa using c)⟩
theorem if_set (hw : ρ[i]? = some (.fz (.int w))) (heq : w = k) (hv : ∀ P : D → Prop, P v → t ρ P Z) (h : B d Z (ρ.set j (.fz v))) : dSeq (dIf (dB (d2 (eqR false) (dV i) (dC (.int k)))) (dSet j t) dNext) B d Z ρ :=
  tst hw ⟨fun _ => hv _ h, fun c => absurd heq (by simpa using c)⟩
theorem if_setA {u : DTt} {b : Bool} (hw : ρ[i]? = some (.fz (.int w))) (heq : w = k) (hb : ∀ P : Bool → Prop, P b → u ρ P Z) (hv : b = true → ∀ P : D → Prop, P v → t ρ P Z) (h : b = true → B d Z (ρ.set j (.fz v))) (h0 : b = false → B d Z ρ) : dSeq (dIf (dAnd (dB (d2 (eqR false) (dV i) (dC (.int k)))) u) (dSet j t) dNext) B d Z ρ :=
  tst hw ⟨fun _ => hb _ ⟨fun e => hv e _ (h e), fun e => h0 e⟩, fun c => absurd heq (by simpa using c)⟩
end
theorem nofit_bad {n : Int} {A B : List (Int × Int)} {x : Int × Int} (h : ¬ (0 ≤ (nrm x).1 ∧ (nrm x).1 < (nrm x).2 ∧ (nrm x).2 < n)) : ¬ Fits n (A ++ [x] ++ B) := fun f => h (f.1 x (by simp))
theorem nofit_dup {n : Int} {A B : List (Int × Int)} {x : Int × Int} (h : nrm x ∈ (A ++ B).map nrm) : ¬ Fits n (A ++ [x] ++ B) := fun f => by
  have p : (A ++ [x] ++ B).Perm (x :: (A ++ B)) := by
    rw [List.append_assoc, List.singleton_append]
    exact List.perm_middle
  have q := (p.map nrm).nodup_iff.mp f.2
  rw [List.map_cons, List.nodup_cons] at q
  exact q.1 h
theorem eqA_bools : ∀ A B : List Bool, PyData.eqvAll (A.map .bool) (B.map .bool) = decide (A = B)
  | [], [] => rfl
  | [], b :: B => by simp [PyData.eqvAll]
  | a :: A, [] => by simp [PyData.eqvAll]
  | a :: A, b :: B => by
    simp only [List.map_cons, PyData.eqvAll, PyData.eqv, eqA_bools A B]
    by_cases h : a = b <;> by_cases k : A = B <;> simp [h, k]
theorem eqR_bools {A B : List Bool} {neg : Bool} {P : D → Prop} (h : P (.bool (decide (A = B) ^^ neg))) : eqR neg (.list (A.map .bool)) (.list (B.map .bool)) P := by
  refine ⟨shp_lst (fun b => by cases b <;> simp [Shp]) A, shp_lst (fun b => by cases b <;> simp [Shp]) B, ?_⟩
  have e : PyData.eqv (.list (A.map .bool)) (.list (B.map .bool)) = decide (A = B) := by
    simp only [PyData.eqv]
    exact eqA_bools A B
  rw [e]
  exact h
theorem zip_at {α : Type} {l : List α} {pre post : List (α × Nat)} {x : α × Nat} (h : l.zipIdx = pre ++ x :: post) : x.2 = pre.length ∧ l[pre.length]? = some x.1 ∧ pre.length < l.length := by
  have e : (l.zipIdx)[pre.length]? = some x := by rw [h]; simp
  rw [List.getElem?_zipIdx] at e
  obtain ⟨a, h1, h2⟩ := Option.map_eq_some_iff.mp e
  subst h2
  refine ⟨by simp, h1, (List.getElem?_eq_some_iff.mp h1).1⟩

/-! ### rooms: plain Lean -/
def getI (ks : List Int) (p : Int) : Int := ks.getD p.toNat 0
def rngI (n : Nat) : List Int := (List.range n).map fun i => ((i : Nat) : Int)
def srtI (ks : List Int) : List Int := ks.mergeSort fun a b => decide (a ≤ b)
def descI (ks : List Int) : List Int := (srtI ks).reverse
theorem srtI_perm (ks : List Int) : (srtI ks).Perm ks := List.mergeSort_perm _ _
theorem srtI_len (ks : List Int) : (srtI ks).length = ks.length := (srtI_perm ks).length_eq
theorem descI_len (ks : List Int) : (descI ks).length = ks.length := by
  unfold descI
  rw [List.length_reverse, srtI_len]
theorem descI_perm (ks : List Int) : (descI ks).Perm ks := (List.reverse_perm _).trans (srtI_perm ks)
theorem srtI_srt (ks : List Int) : (srtI ks).Pairwise fun a b => a ≤ b := by
  have h := List.pairwise_mergeSort (le := fun a b : Int => decide (a ≤ b)) (fun a b c h k => by simp only [decide_eq_true_eq] at *; omega) (fun a b => by rw [Bool.or_eq_true]; simp only [decide_eq_true_eq]; omega) ks
  exact h.imp fun h => of_decide_eq_true h
theorem descI_srt (ks : List Int) : (descI ks).Pairwise fun a b => b ≤ a := List.pairwise_reverse.mpr (srtI_srt ks)
/-- two rows of the same numbers, both falling, are the same -/
theorem fall_eq : ∀ {L M : List Int}, L.Pairwise (fun a b => b ≤ a) → M.Pairwise (fun a b => b ≤ a) → L.Perm M → L = M
  | [], M, _, _, h => (List.nil_perm.mp h).symm
  | a :: L, M, hL, hM, h => by
    cases M with
    | nil => exact absurd h.length_eq (by simp)
    | cons b M =>
      rw [List.pairwise_cons] at hL hM
      have e : a = b := by
        have h1 : a ∈ b :: M := h.subset (by simp)
        have h2 : b ∈ a :: L := h.symm.subset (by simp)
        rcases List.mem_cons.mp h1 with h1 | h1
        · exact h1
        rcases List.mem_cons.mp h2 with h2 | h2
        · exact h2.symm
        have k1 := hM.1 a h1
        have k2 := hL.1 b h2
        omega
      subst e
      rw [fall_eq hL.2 hM.2 (List.Perm.cons_inv h)]
theorem order_perm (ks ns : List Int) : (orderI ks ns).Perm ns := List.mergeSort_perm _ _
theorem order_srt (ks ns : List Int) : (orderI ks ns).Pairwise fun p q => keyI ks p < keyI ks q ∨ (keyI ks p = keyI ks q ∧ p ≤ q) := by
  have h := List.pairwise_mergeSort (le := fun p q : Int => decide (keyI ks p < keyI ks q ∨ (keyI ks p = keyI ks q ∧ p ≤ q))) (fun a b c h k => by simp only [decide_eq_true_eq] at *; omega) (fun a b => by rw [Bool.or_eq_true]; simp only [decide_eq_true_eq]; omega) ns
  exact h.imp fun h => of_decide_eq_true h
theorem getI_rng (ks : List Int) : (rngI ks.length).map (getI ks) = ks := by
  unfold rngI
  rw [List.map_map]
  refine List.ext_getElem? fun i => ?_
  rw [List.getElem?_map]
  by_cases h : i < ks.length
  · rw [List.getElem?_range h]
    show some (ks.getD (Int.toNat (i : Nat)) 0) = _
    rw [Int.toNat_natCast, List.getD_eq_getElem?_getD, List.getElem?_eq_getElem h]
    rfl
  · rw [List.getElem?_eq_none (by rw [List.length_range]; omega), List.getElem?_eq_none (by omega)]
    rfl
theorem order_desc (ks : List Int) : (orderI ks (rngI ks.length)).map (getI ks) = descI ks := by
  refine fall_eq ?_ (descI_srt ks) ?_
  · rw [List.pairwise_map]
    refine (order_srt ks _).imp fun {p q} h => ?_
    unfold keyI at h
    show ks.getD q.toNat 0 ≤ ks.getD p.toNat 0
    omega
  · have h := (order_perm ks (rngI ks.length)).map (getI ks)
    rw [getI_rng] at h
    exact h.trans (descI_perm ks).symm
theorem mem_rngI {n : Nat} {p : Int} : p ∈ rngI n ↔ 0 ≤ p ∧ p < n := by
  unfold rngI
  rw [List.mem_map]
  constructor
  · rintro ⟨i, hi, rfl⟩
    have := List.mem_range.mp hi
    omega
  · rintro ⟨h1, h2⟩
    exact ⟨p.toNat, List.mem_range.mpr (by omega), by omega⟩
theorem mem_order {ks : List Int} {n : Nat} {p : Int} : p ∈ orderI ks (rngI n) ↔ 0 ≤ p ∧ p < n := by rw [(order_perm ks _).mem_iff, mem_rngI]
theorem order_len (ks ns : List Int) : (orderI ks ns).length = ns.length := (order_perm ks ns).length_eq
theorem rngI_len (n : Nat) : (rngI n).length = n := by unfold rngI; rw [List.length_map, List.length_range]
theorem at_getI {ks : List Int} {p : Int} (h0 : 0 ≤ p) (h1 : p < ks.length) : atI (ks.map PyData.int) p = some (.int (getI ks p)) := by
  obtain ⟨k, rfl⟩ : ∃ k : Nat, p = (k : Int) := ⟨_, (Int.toNat_of_nonneg h0).symm⟩
  refine atI_ints ?_
  unfold getI
  rw [Int.toNat_natCast, List.getD_eq_getElem?_getD, List.getElem?_eq_getElem (by omega)]
  rfl
theorem srt_ints (ks : List Int) : srtD (ks.map .int) = (srtI ks).map .int := by
  unfold srtD srtI
  refine (List.map_mergeSort (fun a _ b _ => ?_)).symm
  have h := congrFun (congrFun (PySem.W.dataLe_int (β := Int) (fun x => x)) a) b
  exact h.symm
theorem sort_ok_ints {ks : List Int} (h : ks.length ≤ 100000) : SortOk (ks.map .int) := by
  refine ⟨PySem.W.AllAlike.of fun p q => by simp [PySem.W.alike], ?_, by rw [List.length_map]; exact h, fun d hd => ?_⟩
  · first | exact PySem.W.Sortable.ints _ | exact PySem.W.Sortable.of fun _ => trivial | (intro d hd; obtain ⟨p, _, rfl⟩ := List.mem_map.mp hd; trivial) | (simp [PySem.W.Sortable]; done)
  · obtain ⟨p, _, rfl⟩ := List.mem_map.mp hd
    exact shp_int p
theorem sum_perm {L M : List Int} (h : L.Perm M) : L.sum = M.sum := by
  induction h with
  | nil => rfl
  | cons x _ ih => simp only [List.sum_cons, ih]
  | swap x y l => simp only [List.sum_cons]; omega
  | trans _ _ a b => rw [a, b]
def roomP (r : Int) (xs : List Int) : Int := r * (r - 1) - (xs.take r.toNat).sum + ((xs.drop r.toNat).map fun x => min x r).sum
def roomI (ks : List Int) (r : Int) : Int := roomP r (descI ks)
theorem roomP_snoc {r x : Int} {xs : List Int} : roomP r (xs ++ [x]) = if (xs.length : Int) < r then roomP r xs - x else roomP r xs + min x r := by
  unfold roomP
  by_cases h : (xs.length : Int) < r
  · rw [if_pos h, List.take_of_length_le (l := xs ++ [x]) (by rw [List.length_append, List.length_singleton]; omega), List.drop_of_length_le (l := xs ++ [x]) (by rw [List.length_append, List.length_singleton]; omega),
      List.take_of_length_le (l := xs) (by omega), List.drop_of_length_le (l := xs) (by omega), List.sum_append]
    simp only [List.sum_cons, List.sum_nil, List.map_nil]
    omega
  · rw [if_neg h, List.take_append_of_le_length (by omega), List.drop_append_of_le_length (by omega), List.map_append, List.sum_append]
    simp only [List.map_cons, List.map_nil, List.sum_cons, List.sum_nil]
    omega
def lawP (r m : Int) (xs : List Int) : Int := r * (r - 1) + ((xs.take m.toNat).map fun x => min x r).sum - (xs.drop m.toNat).sum
theorem lawP_snoc {r m x : Int} {xs : List Int} : lawP r m (xs ++ [x]) = if (xs.length : Int) < m then lawP r m xs + min x r else lawP r m xs - x := by
  unfold lawP
  by_cases h : (xs.length : Int) < m
  · rw [if_pos h, List.take_of_length_le (l := xs ++ [x]) (by rw [List.length_append, List.length_singleton]; omega), List.drop_of_length_le (l := xs ++ [x]) (by rw [List.length_append, List.length_singleton]; omega),
      List.take_of_length_le (l := xs) (by omega), List.drop_of_length_le (l := xs) (by omega), List.map_append, List.sum_append]
    simp only [List.map_cons, List.map_nil, List.sum_cons, List.sum_nil]
    omega
  · rw [if_neg h, List.take_append_of_le_length (by omega), List.drop_append_of_le_length (by omega), List.sum_append]
    simp only [List.sum_cons, List.sum_nil]
    omega
theorem lawP_room {ks : List Int} {r : Int} (h0 : 0 ≤ r) (h1 : r ≤ ks.length) : lawP r ((ks.length : Int) - r) (srtI ks) = roomI ks r := by
  unfold roomI roomP lawP descI
  have e : ((ks.length : Int) - r).toNat = (srtI ks).length - r.toNat := by rw [srtI_len]; omega
  rw [e, List.drop_reverse, List.take_reverse, List.map_reverse, sum_perm (List.reverse_perm _), sum_perm (List.reverse_perm _)]
  omega
theorem seq_ifg {A B C : DS} {d : DEnds} {Z : Zs} {ρ : List Sl} {t : DTt} {b : Bool} {Good : List Sl → Prop} (hv : ∀ P : Bool → Prop, P b → t ρ P Z) (hC : ∀ ρ', Good ρ' → C d Z ρ') (h1 : b = true → ∀ nx : List Sl → Prop, (∀ ρ', Good ρ' → nx ρ') → A { d with nx := nx } Z ρ)
    (h2 : b = false → ∀ nx : List Sl → Prop, (∀ ρ', Good ρ' → nx ρ') → B { d with nx := nx } Z ρ) : dSeq (dIf t A B) C d Z ρ := hv _ ⟨fun e => h1 e _ hC, fun e => h2 e _ hC⟩
theorem small_div {i j : Int} (h : 0 < j) (h2 : j ≤ 8000) : CDivW i j := ⟨h, Nat.lt_of_le_of_lt (Nat.log2_le_self _) (by omega)⟩
theorem rep0 (n : Nat) (x : Int) : (List.replicate n [PyData.int x]).flatten = (List.replicate n x).map .int := by
  rw [List.flatten_replicate_singleton, List.map_replicate]
theorem set_map {ks : List Int} {j : Nat} {x : Int} : (ks.map PyData.int).set j (.int x) = (ks.set j x).map .int := by rw [List.map_set]
/-! ### the told wall: plain Lean -/
def negI (ks : List Int) : Option Nat := (List.range ks.length).find? fun i => decide (getI ks (i : Nat) < 0)
def thinI (ks : List Int) : Option Nat := (List.range ks.length).find? fun i => decide (roomI ks (1 + (i : Nat)) < 0)
def wallD (ks : List Int) : D := match negI ks with
  | some p => .tuple [.str "below", .int (p : Nat)]
  | none => if ks.sum % 2 = 1 then .tuple [.str "odd"] else match thinI ks with
    | some i => .tuple [.str "wall", .int (1 + (i : Nat))]
    | none => .none
theorem find_at {α : Type} {p : α → Bool} {l pre post : List α} {x : α} (e : l = pre ++ x :: post) (h : ∀ y ∈ pre, p y = false) (hx : p x = true) : l.find? p = some x := by
  subst e
  rw [List.find?_append, List.find?_eq_none.mpr (fun y hy => by rw [h y hy]; simp), Option.none_or, List.find?_cons, hx]
theorem find_no {α : Type} {p : α → Bool} {l : List α} (h : ∀ y ∈ l, p y = false) : l.find? p = none := List.find?_eq_none.mpr fun y hy => by rw [h y hy]; simp
theorem enum_rng (ks : List Int) : enumD (ks.map PyData.int) = (List.range ks.length).map fun i : Nat => PyData.tuple [.int (i : Nat), .int (getI ks (i : Nat))] := by
  unfold enumD
  refine List.ext_getElem? fun i => ?_
  rw [List.getElem?_mapIdx, List.getElem?_map, List.getElem?_map]
  by_cases h : i < ks.length
  · rw [List.getElem?_range h, List.getElem?_eq_getElem h]
    show some (PyData.tuple [.int (i : Nat), .int ks[i]]) = some (PyData.tuple [.int (i : Nat), .int (ks.getD (Int.toNat (i : Nat)) 0)])
    rw [Int.toNat_natCast, List.getD_eq_getElem?_getD, List.getElem?_eq_getElem h]
    rfl
  · rw [List.getElem?_eq_none (l := ks) (by omega), List.getElem?_eq_none (l := List.range ks.length) (by rw [List.length_range]; omega)]
    rfl
theorem range_mem {n i : Nat} {pre post : List Nat} (h : List.range n = pre ++ i :: post) : i = pre.length ∧ i < n := by
  have e : (List.range n)[pre.length]? = some i := by rw [h]; simp
  obtain ⟨e3, e4⟩ := List.getElem?_eq_some_iff.mp e
  rw [List.getElem_range] at e4
  rw [List.length_range] at e3
  omega
theorem seq_setw {B : DS} {d : DEnds} {Z : Zs} {ρ : List Sl} {t : DT} {i : Nat} {V : D → Prop} (hv : ∀ P : D → Prop, (∀ x, V x → P x) → t ρ P Z) (h : ∀ x, V x → B d Z (ρ.set i (.fz x))) : dSeq (dSet i t) B d Z ρ := hv _ h
theorem shp_si {k : Nat} (s : Str) (h : PyData.strOk s = true) (i : Int) : Shp (k + 2) (.tuple [.str s, .int i]) := fun d hd => by
  rcases List.mem_cons.mp hd with rfl | hd
  · exact h
  · rw [List.mem_singleton] at hd
    subst hd
    exact shp_int _
theorem shp_s {k : Nat} (s : Str) (h : PyData.strOk s = true) : Shp (k + 2) (.tuple [.str s]) := fun d hd => by
  rw [List.mem_singleton] at hd
  subst hd
  exact h
theorem nb_si {k : Nat} (s : Str) (i : Int) : Nb (k + 2) (.tuple [.str s, .int i]) := fun d hd => by
  rcases List.mem_cons.mp hd with rfl | hd
  · trivial
  · rw [List.mem_singleton] at hd
    subst hd
    exact nb_int _
theorem nb_s {k : Nat} (s : Str) : Nb (k + 2) (.tuple [.str s]) := fun d hd => by
  rw [List.mem_singleton] at hd
  subst hd
  trivial

/-! ### thick rooms: plain Lean -/
theorem mid_div {i j : Int} (h : 0 < j) (h2 : j ≤ 1000000000) : CDivW i j := ⟨h, by
  have : j.natAbs.log2 < 30 := (Nat.log2_lt (by omega)).mpr (by omega)
  omega⟩
def thickR (ks : List Int) (m r : Int) : Int := m * r * (r - 1) + (((descI ks).drop r.toNat).map fun x => min x (m * r)).sum - ((descI ks).take r.toNat).sum
def eT (t : Int × Int × Int) : D := .tuple [.int t.1, .int t.2.1, .int t.2.2]
theorem seq_setNw {B : DS} {d : DEnds} {Z : Zs} {ρ : List Sl} {t : DT} {i : Nat} {V : D → Prop} (hv : ∀ P : D → Prop, (∀ x, V x → P x) → t ρ P Z) (h : ∀ x, V x → B d Z (ρ.set i (.ow x))) : dSeq (dSetN i t) B d Z ρ := hv _ h
/-! thick walls -/
def thinT (ks : List Int) (m : Int) : Option Nat := (List.range ks.length).find? fun i => decide (thickR ks m (1 + (i : Nat)) < 0)
def wallT (ks : List Int) (m : Int) : D := match negI ks with
  | some p => .tuple [.str "below", .int (p : Nat)]
  | none => if ks.sum % 2 = 1 then .tuple [.str "odd"] else match thinT ks m with
    | some i => .tuple [.str "wall", .int (1 + (i : Nat))]
    | none => .none
theorem wallT_neg {ks : List Int} {m : Int} {p : Nat} (h : negI ks = some p) : wallT ks m = .tuple [.str "below", .int (p : Nat)] := by unfold wallT; rw [h]
theorem wallT_odd {ks : List Int} {m : Int} (h : negI ks = none) (o : ks.sum % 2 = 1) : wallT ks m = .tuple [.str "odd"] := by unfold wallT; rw [h]; simp only [if_pos o]
theorem wallT_thin {ks : List Int} {m : Int} {i : Nat} (h : negI ks = none) (o : ¬ ks.sum % 2 = 1) (t : thinT ks m = some i) : wallT ks m = .tuple [.str "wall", .int (1 + (i : Nat))] := by unfold wallT; rw [h]; simp only [if_neg o, t]
theorem wallT_none {ks : List Int} {m : Int} (h : negI ks = none) (o : ¬ ks.sum % 2 = 1) (t : thinT ks m = none) : wallT ks m = .none := by unfold wallT; rw [h]; simp only [if_neg o, t]
/-- the search by halves -/
def halve (ok : Int → Bool) : Nat → Int → Int → Int
  | 0, _, hi => hi
  | k + 1, lo, hi => if hi - lo ≤ 1 then hi else if ok ((lo + hi) / 2) then halve ok k lo ((lo + hi) / 2) else halve ok k ((lo + hi) / 2) hi
theorem halve_ok {ok : Int → Bool} : ∀ (k : Nat) {lo hi : Int}, lo < hi → hi - lo ≤ k + 1 → ok hi = true → lo < halve ok k lo hi ∧ halve ok k lo hi ≤ hi ∧ ok (halve ok k lo hi) = true ∧ (ok lo = false → ok (halve ok k lo hi - 1) = false) ∧ (halve ok k lo hi - 1 = lo ∨ ok (halve ok k lo hi - 1) = false)
  | 0, lo, hi, h, h2, h3 => by
    unfold halve
    have e : hi - 1 = lo := by omega
    exact ⟨h, by omega, h3, fun z => by rw [e]; exact z, .inl e⟩
  | k + 1, lo, hi, h, h2, h3 => by
    unfold halve
    by_cases c : hi - lo ≤ 1
    · rw [if_pos c]
      have e : hi - 1 = lo := by omega
      exact ⟨h, by omega, h3, fun z => by rw [e]; exact z, .inl e⟩
    · rw [if_neg c]
      by_cases d : ok ((lo + hi) / 2) = true
      · rw [if_pos d]
        obtain ⟨a, b, c1, c2, c3⟩ := halve_ok k (lo := lo) (hi := (lo + hi) / 2) (by omega) (by omega) d
        exact ⟨a, by omega, c1, c2, c3⟩
      · rw [if_neg d]
        obtain ⟨a, b, c1, c2, c3⟩ := halve_ok k (lo := (lo + hi) / 2) (hi := hi) (by omega) (by omega) h3
        have z := c2 (by simpa using d)
        exact ⟨by omega, b, c1, fun _ => z, .inr z⟩
theorem halve_end {ok : Int → Bool} {lo hi : Int} (h : hi - lo ≤ 1) : ∀ k, halve ok k lo hi = hi
  | 0 => rfl
  | k + 1 => by unfold halve; rw [if_pos h]
theorem seq_asg {B : DS} {d : DEnds} {Z : Zs} {ρ : List Sl} {t : DT} {i j : Nat} {V : D → D → Prop} (hv : ∀ P : D → Prop, (∀ x y, V x y → P (.tuple [x, y])) → t ρ P Z) (h : ∀ x y, V x y → B d Z ((ρ.set i (.fz x)).set j (.fz y))) : dSeq (dAsg t (gTp 2 (gCns (gNm i) (gCns (gNm j) gNil)))) B d Z ρ := by
  refine hv _ fun x y hV => ?_
  have q := h x y hV
  walk_at "r"
  exact q

/-! more of tests -/
theorem orP {p : Prop} [Decidable p] {b : Bool} {P : Bool → Prop} (h : P (decide p || b)) : (p → P true) ∧ (¬ p → P b) := by
  by_cases c : p
  · rw [decide_eq_true c, Bool.true_or] at h
    exact ⟨fun _ => h, fun n => absurd c n⟩
  · rw [decide_eq_false c, Bool.false_or] at h
    exact ⟨fun n => absurd n c, fun _ => h⟩
theorem andP {p : Prop} [Decidable p] {b : Bool} {P : Bool → Prop} (h : P (decide p && b)) : (p → P b) ∧ (¬ p → P false) := by
  by_cases c : p
  · rw [decide_eq_true c, Bool.true_and] at h
    exact ⟨fun _ => h, fun n => absurd c n⟩
  · rw [decide_eq_false c, Bool.false_and] at h
    exact ⟨fun n => absurd n c, fun _ => h⟩
theorem eqS_yes {a : Str} {P : D → Prop} (ha : PyData.strOk a = true) (h : P (.bool true)) : eqR false (.str a) (.str a) P :=
  eqR_of (p := True) ha ha trivial trivial (by simp) (by simpa using h)
theorem eqS_no {a b : Str} {P : D → Prop} (ha : PyData.strOk a = true) (hb : PyData.strOk b = true) (ne : decide (a = b) = false) (h : P (.bool false)) : eqR false (.str a) (.str b) P :=
  eqR_of (p := a = b) ha hb trivial trivial (by simp) (by rw [ne]; exact h)
theorem neS_same {a : Str} {P : D → Prop} (ha : PyData.strOk a = true) (h : P (.bool false)) : eqR true (.str a) (.str a) P :=
  eqR_of (p := True) ha ha trivial trivial (by simp) (by simpa using h)

/-- a number and pairs, told -/
def eWZ (n : Int) (L : List (Int × Int)) : D := .tuple [.int n, .tuple (L.map eP)]
instance ltP_dec (p q : Int × Int) : Decidable (ltP p q) := inferInstanceAs (Decidable (_ ∨ _))
def Told (n : Int) (L : List (Int × Int)) : Prop := (1 ≤ n ∧ n ≤ 24) ∧ (∀ p ∈ L, 0 ≤ p.1 ∧ p.1 < p.2 ∧ p.2 < n) ∧ L.Pairwise ltP
instance told_dec (n : Int) (L : List (Int × Int)) : Decidable (Told n L) := inferInstanceAs (Decidable (_ ∧ _ ∧ _))
theorem told_ties {n : Int} {L : List (Int × Int)} (h : Told n L) : Ties n.toNat L := ⟨h.2.2, fun p hp => by
  have := h.2.1 p hp
  have := h.1
  omega⟩
theorem ties_told {n : Nat} {L : List (Int × Int)} (h : Ties n L) (a : 1 ≤ n) (b : n ≤ 24) : Told (n : Nat) L := ⟨by omega, h.rng, h.srt⟩
inductive Fence where
  | odd | below (i : Int) | wall (i : Int)
def eF : Fence → D
  | .odd => .tuple [.str "odd"]
  | .below i => .tuple [.str "below", .int i]
  | .wall i => .tuple [.str "wall", .int i]
def showsI (ks : List Int) : Fence → Bool
  | .odd => decide (ks.sum % 2 = 1)
  | .below i => decide (0 ≤ i ∧ i < ks.length ∧ getI ks i < 0)
  | .wall i => decide (1 ≤ i ∧ i ≤ ks.length ∧ roomI ks i < 0)
theorem ok_odd : PyData.strOk "odd" = true := by decide +kernel
theorem ok_below : PyData.strOk "below" = true := by decide +kernel
theorem ok_wall : PyData.strOk "wall" = true := by decide +kernel
inductive Ans where
  | wall (f : Fence) | web (n : Int) (L : List (Int × Int))
def eA : Ans → D
  | .wall f => .tuple [.str "wall", eF f]
  | .web n L => .tuple [.str "web", eWZ n L]
def showsA (ks : List Int) : Ans → Bool
  | .wall f => showsI ks f
  | .web n L => decide (Told n L ∧ n = ks.length ∧ tallyI n.toNat L = ks)
theorem ok_web : PyData.strOk "web" = true := by decide +kernel

/-- a list or a tuple of ints -/
def IsI (x : D) (ks : List Int) : Prop := x = .list (ks.map .int) ∨ x = .tuple (ks.map .int)
theorem len_isI {x : D} {ks : List Int} (h : IsI x ks) {P : D → Prop} (p : P (.int ks.length)) : lenR [x] P := by
  rcases h with rfl | rfl
  · rw [x_lenL, List.length_map]
    exact p
  · rw [x_lenT, List.length_map]
    exact p
theorem ix_isI {x : D} {ks : List Int} (h : IsI x ks) {p : Int} (h0 : 0 ≤ p) (h1 : p < ks.length) {P : D → Prop} (q : P (.int (getI ks p))) : ixR x (.int p) P := by
  rcases h with rfl | rfl
  · rw [x_ixL]
    exact ⟨_, at_getI h0 h1, q⟩
  · rw [x_ixT]
    exact ⟨_, at_getI h0 h1, q⟩
theorem sum_isI {x : D} {ks : List Int} (h : IsI x ks) {P : D → Prop} (p : P (.int ks.sum)) : seqIR (fun _ => True) List.sum [x] P := by
  rcases h with rfl | rfl
  · rw [x_seqL]
    exact ⟨trivial, p⟩
  · rw [x_seqT]
    exact ⟨trivial, p⟩
theorem list_isI {x : D} {ks : List Int} (h : IsI x ks) {P : D → Prop} (p : P (.list (ks.map .int))) : listR [x] P := by
  rcases h with rfl | rfl
  · exact x_listL.mpr p
  · exact x_listT.mpr p
theorem sum_desc (ks : List Int) : (descI ks).sum = ks.sum := sum_perm (descI_perm ks)
theorem neB {A : List Bool} {P : D → Prop} (h : P (.bool false)) : eqR true (.list (A.map .bool)) (.list (A.map .bool)) P := eqR_bools (by rw [decide_eq_true rfl]; exact h)
theorem eqB {A : List Bool} {P : D → Prop} (h : P (.bool true)) : eqR false (.list (A.map .bool)) (.list (A.map .bool)) P := eqR_bools (by rw [decide_eq_true rfl]; exact h)
theorem neI {A : List Int} {P : D → Prop} (h : P (.bool false)) : eqR true (.list (A.map .int)) (.list (A.map .int)) P := eqR_ints (by rw [decide_eq_true rfl]; exact h)
theorem eqI {A : List Int} {P : D → Prop} (h : P (.bool true)) : eqR false (.list (A.map .int)) (.list (A.map .int)) P := eqR_ints (by rw [decide_eq_true rfl]; exact h)
theorem seq_frz {B : DS} {d : DEnds} {Z : Zs} {i : Nat} {ρ ρ' : List Sl} (e : frz i ρ = ρ') (h : B d Z ρ') : dFrz i B d Z ρ := by
  unfold dFrz
  rw [e]
  exact h
theorem seq_any {A B : DS} {d : DEnds} {Z : Zs} {ρ : List Sl} {Good : List Sl → Prop} (hA : ∀ nx : List Sl → Prop, (∀ ρ', Good ρ' → nx ρ') → A { d with nx := nx } Z ρ) (hB : ∀ ρ', Good ρ' → B d Z ρ') : dSeq A B d Z ρ := hA _ hB
theorem seq_ifr {A C : DS} {d : DEnds} {Z : Zs} {ρ : List Sl} {t : DTt} {b : Bool} (hv : ∀ P : Bool → Prop, P b → t ρ P Z) (hA : b = true → ∀ nx : List Sl → Prop, A { d with nx := nx } Z ρ) (hC : b = false → C d Z ρ) : dSeq (dIf t A dNext) C d Z ρ := hv _ ⟨fun e => hA e _, fun e => hC e⟩
/-! the dict of the pairs met -/
def seenD (L : List (Int × Int)) : List (List Key × D) := L.map fun p => ([.inl p.1, .inl p.2], .bool true)
theorem seen_val (L : List (Int × Int)) (a b : Int) : (valD (seenD L) [.inl a, .inl b]).isSome = decide ((a, b) ∈ L) := by
  induction L with
  | nil => simp [seenD, valD]
  | cons p L ih =>
    by_cases h : (a, b) = p
    · subst h
      simp [seenD, valD, List.find?_cons]
    · have h2 : ¬ (([.inl p.1, .inl p.2] : List Key) = [.inl a, .inl b]) := fun e => by
        simp at e
        exact h (Prod.ext e.1.symm e.2.symm)
      have e : valD (seenD (p :: L)) [.inl a, .inl b] = valD (seenD L) [.inl a, .inl b] := by
        unfold valD seenD
        rw [List.map_cons, List.find?_cons]
        simp only [h2, decide_false]
      rw [e, ih]
      simp [h]
theorem seen_put (L : List (Int × Int)) (a b : Int) (h : (a, b) ∉ L) : putD (seenD L) [.inl a, .inl b] (.bool true) = seenD (L ++ [(a, b)]) := by
  unfold putD
  have hn : ((seenD L).any fun p => decide (p.1 = [.inl a, .inl b])) = false := by
    rw [List.any_eq_false]
    intro p hp
    obtain ⟨q, hq, rfl⟩ := List.mem_map.mp hp
    simp
    rintro e1 e2
    exact h (by rw [← e1, ← e2]; exact hq)
  rw [if_neg (by rw [hn]; simp)]
  unfold seenD
  rw [List.map_append]
  rfl

/-! ### digits: plain Lean -/
def digs (size : Int) : Int → Nat → List Int
  | _, 0 => []
  | k, n + 1 => k % size :: digs size (k / size) n
theorem digs_len {size : Int} : ∀ {n : Nat} {k : Int}, (digs size k n).length = n
  | 0, _ => rfl
  | n + 1, k => by
    show (digs size (k / size) n).length + 1 = n + 1
    rw [digs_len]
/-- each row of marks is that of some number -/
theorem digs_all : ∀ (r : List Int), (∀ x ∈ r, x = 0 ∨ x = 1) → ∃ k : Nat, k < 2 ^ r.length ∧ digs 2 (k : Int) r.length = r
  | [], _ => ⟨0, by simp, rfl⟩
  | b :: r, h => by
    obtain ⟨k, hk, e⟩ := digs_all r fun x hx => h x (List.mem_cons_of_mem _ hx)
    have hb := h b (by simp)
    rw [List.length_cons]
    refine ⟨b.toNat + 2 * k, by rw [Nat.pow_succ]; omega, ?_⟩
    show ((b.toNat + 2 * k : Nat) : Int) % 2 :: digs 2 (((b.toNat + 2 * k : Nat) : Int) / 2) r.length = b :: r
    rw [show ((b.toNat + 2 * k : Nat) : Int) / 2 = (k : Int) by omega, e, show ((b.toNat + 2 * k : Nat) : Int) % 2 = b by omega]

theorem flat_two {n : Nat} : ∀ m, m ≤ n → 2 * ((List.range m).flatMap (rowI n)).length + m * m + m = 2 * m * n
  | 0, _ => by simp
  | m + 1, h => by
    have ih := flat_two (n := n) m (by omega)
    rw [List.range_succ, List.flatMap_append, List.length_append, List.flatMap_cons, List.flatMap_nil, List.append_nil]
    have : (rowI n m).length = n - (m + 1) := by
      unfold rowI
      rw [List.length_map, List.length_range]
    have e1 : (m + 1) * (m + 1) = m * m + m + m + 1 := by rw [Nat.succ_mul, Nat.mul_succ]; omega
    have e2 : 2 * (m + 1) * n = 2 * m * n + 2 * n := by rw [Nat.mul_succ, Nat.add_mul]
    rw [this, Nat.mul_add, e1, e2]
    omega
theorem pairs_two (n : Nat) : (n : Int) * ((n : Int) - 1) / 2 = ((pairsI n).length : Nat) := by
  have h := flat_two (n := n) n (Nat.le_refl _)
  have e : (pairsI n).length = ((List.range n).flatMap (rowI n)).length := rfl
  rw [e]
  generalize ((List.range n).flatMap (rowI n)).length = l at h
  have h1 : 2 * n * n = n * n + n * n := by rw [Nat.mul_assoc]; omega
  rw [h1] at h
  have h2 : (n : Int) * ((n : Int) - 1) = (n * n : Nat) - (n : Int) := by rw [Int.mul_sub, Int.mul_one]; simp
  rw [h2]
  generalize n * n = k at *
  omega
/-- those of a row that are marked -/
def selI (L : List (Int × Int)) (row : List Int) : List (Int × Int) := (L.zipIdx.filter fun p => decide (getI row (p.2 : Nat) = 1)).map (·.1)
theorem selI_snoc (A : List (Int × Int)) (x : Int × Int) (row : List Int) : selI (A ++ [x]) row = if getI row (A.length : Nat) = 1 then selI A row ++ [x] else selI A row := by
  unfold selI
  rw [List.zipIdx_append, List.filter_append, List.map_append]
  by_cases c : getI row (A.length : Nat) = 1
  · simp [c]
  · simp [c]
theorem zip_fst (L : List (Int × Int)) : L.zipIdx.map (·.1) = L := List.zipIdx_map_fst ..
theorem selI_sub (L : List (Int × Int)) (row : List Int) : (selI L row).Sublist L := by
  have := (List.filter_sublist (p := fun p : (Int × Int) × Nat => decide (getI row (p.2 : Nat) = 1)) (l := L.zipIdx)).map (·.1)
  rw [zip_fst] at this
  exact this
theorem selI_len (L : List (Int × Int)) (row : List Int) : (selI L row).length ≤ L.length := (selI_sub L row).length_le
theorem selI_map (L : List (Int × Int)) (g : Int × Int → Int) : selI L (L.map g) = L.filter fun p => decide (g p = 1) := by
  unfold selI
  have e : (L.zipIdx.filter fun p => decide (getI (L.map g) (p.2 : Nat) = 1)) = L.zipIdx.filter ((fun p => decide (g p = 1)) ∘ (·.1)) := List.filter_congr fun p hp => by
    obtain ⟨i, hi⟩ := List.mem_iff_getElem?.mp hp
    rw [List.getElem?_zipIdx] at hi
    obtain ⟨x, hx, rfl⟩ := Option.map_eq_some_iff.mp hi
    have : getI (L.map g) ((0 + i : Nat) : Int) = g x := by
      unfold getI
      rw [Int.toNat_natCast, Nat.zero_add, List.getD_eq_getElem?_getD, List.getElem?_map, hx]
      rfl
    simp only [Function.comp, this]
  rw [e, ← List.filter_map, zip_fst]
/-- the ties that a number's digits say -/
def webK (n : Nat) (k : Nat) : List (Int × Int) := selI (pairsI n) (digs 2 (k : Int) (pairsI n).length)
theorem webK_ties (n k : Nat) : Ties n (webK n k) := (ties_pairs n).sub (selI_sub _ _)
theorem webK_all {n : Nat} {L : List (Int × Int)} (h : Ties n L) : ∃ k : Nat, k < 2 ^ (pairsI n).length ∧ webK n k = L := by
  obtain ⟨k, hk, e⟩ := digs_all ((pairsI n).map fun p => if p ∈ L then (1 : Int) else 0) fun x hx => by
    obtain ⟨p, _, rfl⟩ := List.mem_map.mp hx
    by_cases c : p ∈ L
    · exact .inr (if_pos c)
    · exact .inl (if_neg c)
  rw [List.length_map] at hk e
  refine ⟨k, hk, ?_⟩
  unfold webK
  rw [e, selI_map]
  refine ties_ext ((ties_pairs n).sub List.filter_sublist) h fun p => ?_
  rw [List.mem_filter, decide_eq_true_eq]
  by_cases c : p ∈ L
  · simp only [c, if_true, and_true, iff_true]
    exact mem_pairs.mpr (h.rng p c)
  · simp [c]
theorem rep_tally (n : Nat) : (List.replicate (n : Int).toNat [PyData.int 0]).flatten = (tallyI n []).map .int := by
  rw [Int.toNat_natCast, rep0]
  refine congrArg (List.map PyData.int) ?_
  refine List.ext_getElem? fun v => ?_
  rw [List.getElem?_replicate]
  by_cases hv : v < n
  · rw [if_pos hv, tallyI_get hv]
    rfl
  · rw [if_neg hv, List.getElem?_eq_none (by rw [tallyI_len]; omega)]

/-! ### texts by their signs -/
abbrev tS (l : List Nat) : Str := ⟨l.toArray⟩
theorem tS_tl (z : Str) : tS (TL.tl z) = z := TL.mk_tl z
theorem tS_inj {a b : List Nat} (h : tS a = tS b) : a = b := by
  have := congrArg TL.tl h
  simpa using this
theorem tS_iff {a b : List Nat} : tS a = tS b ↔ a = b := ⟨tS_inj, fun h => by rw [h]⟩
theorem len_tS (l : List Nat) : (tS l).length = l.length := by simp [Str.length]
theorem cps_tS (l : List Nat) : (tS l).cps.toList = l := rfl
theorem app_tS (a b : List Nat) : tS a ++ tS b = tS (a ++ b) := TL.ext_tl (by rw [TL.tl_append])
theorem lit_tS {s : String} {l : List Nat} (h : s.toList.map Char.toNat = l) : Str.ofString s = tS l := TL.ext_tl (by rw [TL.tl_ofString, h])
/-- signs as a model's text may hold them -/
def okT (l : List Nat) : Prop := ∀ c ∈ l, c < 1114112
theorem ok_tS {l : List Nat} (h : okT l) : PyData.strOk (tS l) = true := by
  unfold PyData.strOk
  rw [List.all_toArray]
  exact List.all_eq_true.mpr fun c hc => by simpa using h c hc
theorem okT_sub {a b : List Nat} (h : okT b) (s : ∀ c ∈ a, c ∈ b) : okT a := fun c hc => h c (s c hc)
theorem okT_app {a b : List Nat} (h : okT a) (k : okT b) : okT (a ++ b) := fun c hc => by
  rcases List.mem_append.mp hc with hc | hc
  · exact h c hc
  · exact k c hc
theorem okT_drop {a : List Nat} (k : Nat) (h : okT a) : okT (a.drop k) := okT_sub h fun _ hc => List.mem_of_mem_drop hc
theorem okT_take {a : List Nat} (k : Nat) (h : okT a) : okT (a.take k) := okT_sub h fun _ hc => List.mem_of_mem_take hc
theorem okT_nil : okT [] := fun c hc => by simp at hc
theorem okT_cons {c : Nat} {l : List Nat} (h : c < 1114112) (k : okT l) : okT (c :: l) := fun d hd => by
  rcases List.mem_cons.mp hd with rfl | hd
  · exact h
  · exact k d hd
theorem cutS_tS {l : List Nat} (lo hi : Option Int) : cutS (tS l) lo hi = tS ((l.drop (HT.sIx l.length 0 lo)).take (HT.sIx l.length l.length hi - HT.sIx l.length 0 lo)) := by
  unfold cutS
  rw [len_tS]
theorem cutS_from {l : List Nat} {k : Nat} : cutS (tS l) (some (k : Int)) none = tS (l.drop k) := by
  rw [cutS_tS, HT.sIx_nat, HT.sIx_none]
  refine congrArg tS ?_
  by_cases h : k ≤ l.length
  · rw [Nat.min_eq_left h]
    exact List.take_of_length_le (by rw [List.length_drop]; exact Nat.le_refl _)
  · rw [Nat.min_eq_right (by omega), List.drop_of_length_le (Nat.le_refl _), List.drop_of_length_le (by omega), List.take_nil]
theorem cutS_to {l : List Nat} {k : Nat} : cutS (tS l) none (some (k : Int)) = tS (l.take k) := by
  rw [cutS_tS, HT.sIx_nat, HT.sIx_none, List.drop_zero, Nat.sub_zero]
  refine congrArg tS ?_
  by_cases h : k ≤ l.length
  · rw [Nat.min_eq_left h]
  · rw [Nat.min_eq_right (by omega), List.take_of_length_le (Nat.le_refl _), List.take_of_length_le (by omega)]
theorem okT_cut {l : List Nat} (lo hi : Option Int) (h : okT l) : ∃ m, cutS (tS l) lo hi = tS m ∧ okT m ∧ m.length ≤ l.length := ⟨_, cutS_tS lo hi, okT_take _ (okT_drop _ h), by rw [List.length_take, List.length_drop]; omega⟩
theorem atI_str {l : List Nat} {j : Nat} {c : Nat} (h : l[j]? = some c) : atI (tS l).cps.toList (j : Int) = some c := atI_nat h
theorem signs_tS (l : List Nat) : signsD (tS l) = l.map fun c => .str (tS [c]) := rfl
theorem eqS {a b : List Nat} (oa : okT a) (ob : okT b) {P : D → Prop} (h : P (.bool (decide (a = b)))) : eqR false (.str (tS a)) (.str (tS b)) P :=
  eqR_of (p := a = b) (ok_tS oa) (ok_tS ob) trivial trivial (by rw [PyData.str.injEq]; exact tS_iff) (by rw [Bool.xor_false]; exact h)
theorem neS {a b : List Nat} (oa : okT a) (ob : okT b) {P : D → Prop} (h : P (.bool (!decide (a = b)))) : eqR true (.str (tS a)) (.str (tS b)) P :=
  eqR_of (p := a = b) (ok_tS oa) (ok_tS ob) trivial trivial (by rw [PyData.str.injEq]; exact tS_iff) (by rw [Bool.xor_true]; exact h)
/-! numbers -/
theorem toStr_nat (n : Nat) : Str.ofString (toString ((n : Nat) : Int)) = tS (TL.numL n) := TL.ext_tl (TL.tl_num n)
/-- the signs of a whole number -/
def numZ (i : Int) : List Nat := if i < 0 then 45 :: TL.numL i.natAbs else TL.numL i.natAbs
theorem toStr_int (i : Int) : Str.ofString (toString i) = tS (numZ i) := by
  refine TL.ext_tl ?_
  unfold numZ
  by_cases h : i < 0
  · rw [if_pos h, TL.tl_ofString]
    obtain ⟨m, rfl⟩ : ∃ m : Nat, i = Int.negSucc m := by
      cases i with
      | ofNat n => exact absurd h (by simp)
      | negSucc m => exact ⟨m, rfl⟩
    show ("-" ++ Nat.repr (m + 1)).toList.map Char.toNat = _
    rw [String.toList_append, List.map_append, Nat.toList_repr]
    rfl
  · rw [if_neg h]
    have e : i = ((i.natAbs : Nat) : Int) := by omega
    rw [show TL.tl (Str.ofString (toString i)) = TL.tl (Str.ofString (toString ((i.natAbs : Nat) : Int))) by rw [← e], TL.tl_num]
theorem okT_num (n : Nat) : okT (TL.numL n) := fun c hc => by
  have := TL.numL_digits n c hc
  omega
theorem okT_numZ (i : Int) : okT (numZ i) := by
  unfold numZ
  split
  · exact okT_cons (by decide) (okT_num _)
  · exact okT_num _
theorem num_len {n k : Nat} (hk : 0 < k) (h : n < 10 ^ k) : (TL.numL n).length ≤ k := TL.numL_len hk h
theorem num_head0 {n : Nat} (h : 0 < n) : (TL.numL n).head? ≠ some 48 := by
  induction n using Nat.strongRecOn with
  | _ n ih =>
    by_cases c : n < 10
    · rw [TL.numL_lt c]
      simp
      omega
    · rw [TL.numL_step (by omega)]
      have := ih (n / 10) (by omega) (by omega)
      cases e : TL.numL (n / 10) with
      | nil => exact absurd e (TL.numL_ne _)
      | cons a r =>
        rw [e] at this
        simpa using this
/-- what stands behind a sign ahead -/
def bare (l : List Nat) : List Nat := if l.take 1 = [45] then l.drop 1 else l
/-- a word that writes a number of at most m figures -/
def NumOk (m : Nat) (l : List Nat) : Prop := (1 ≤ (bare l).length ∧ (bare l).length ≤ m) ∧ ¬ ((bare l)[0]? = some 48 ∧ l ≠ [48]) ∧ ∀ c ∈ bare l, 48 ≤ c ∧ c ≤ 57
instance (m : Nat) (l : List Nat) : Decidable (NumOk m l) := inferInstanceAs (Decidable (_ ∧ _ ∧ _))
def numV (l : List Nat) : Int := if l.take 1 = [45] then -((NumText.digitsVal (bare l) : Nat) : Int) else ((NumText.digitsVal (bare l) : Nat) : Int)
theorem num_text {m : Nat} (hm : m ≤ 600) {l : List Nat} (h : NumOk m l) : PySem.intText? (tS l) = some (numV l) ∧ l.length ≤ m + 1 := by
  obtain ⟨⟨h1, h2⟩, h3, h4⟩ := h
  unfold numV
  by_cases c : l.take 1 = [45]
  · rw [if_pos c]
    have eb : bare l = l.drop 1 := if_pos c
    cases l with
    | nil => simp at c
    | cons a r =>
      simp at c
      subst c
      rw [eb] at h1 h2 h4 ⊢
      simp only [List.drop_succ_cons, List.drop_zero] at h1 h2 h4 ⊢
      refine ⟨PySem.intText_neg (cs := r) rfl h4 (fun e => by subst e; simp at h1) (by rw [len_tS]; simp; omega), by simp; omega⟩
  · rw [if_neg c]
    have eb : bare l = l := if_neg c
    rw [eb] at h1 h2 h4 ⊢
    refine ⟨PySem.intText_digits (x := tS l) h4 (fun e => by have e' : l = [] := e; subst e'; simp at h1) (by rw [len_tS]; omega), by omega⟩
theorem fig_in (c : Nat) : decide (c ∈ (tS [48, 49, 50, 51, 52, 53, 54, 55, 56, 57]).cps.toList) = decide (48 ≤ c ∧ c ≤ 57) := by
  rw [decide_eq_decide]
  simp
  omega
theorem lit_figs : Str.ofString "0123456789" = tS [48, 49, 50, 51, 52, 53, 54, 55, 56, 57] := lit_tS (by decide)
theorem lit_minus : Str.ofString "-" = tS [45] := lit_tS (by decide)
theorem lit_0 : Str.ofString "0" = tS [48] := lit_tS (by decide)
theorem lit_blank : Str.ofString " " = tS [32] := lit_tS (by decide)
theorem cutS_to1 {l : List Nat} : cutS (tS l) none (some 1) = tS (l.take 1) := cutS_to (k := 1)
theorem cutS_from1 {l : List Nat} : cutS (tS l) (some 1) none = tS (l.drop 1) := cutS_from (k := 1)
theorem atS0 {l : List Nat} {c : Nat} (h : l[0]? = some c) : atI l (0 : Int) = some c := atI_nat (j := 0) h
theorem mem_figs {c : Nat} : c ∈ (tS [48, 49, 50, 51, 52, 53, 54, 55, 56, 57]).cps.toList ↔ 48 ≤ c ∧ c ≤ 57 := by
  have := fig_in c
  rwa [decide_eq_decide] at this
theorem seq_any' {A B : DS} {d : DEnds} {Z : Zs} {ρ : List Sl} (Good : List Sl → Prop) (hA : ∀ nx : List Sl → Prop, (∀ ρ', Good ρ' → nx ρ') → A { d with nx := nx } Z ρ) (hB : ∀ ρ', Good ρ' → B d Z ρ') : dSeq A B d Z ρ := hA _ hB
theorem bare_len (l : List Nat) : (bare l).length ≤ l.length := by
  unfold bare
  split
  · rw [List.length_drop]
    omega
  · exact Nat.le_refl _
theorem bare_ok {l : List Nat} (h : okT l) : okT (bare l) := by
  unfold bare
  split
  · exact okT_drop _ h
  · exact h
theorem figs_all {b : List Nat} : (b.filter fun c => !decide (48 ≤ c ∧ c ≤ 57)) = [] ↔ ∀ c ∈ b, 48 ≤ c ∧ c ≤ 57 := by
  rw [List.filter_eq_nil_iff]
  refine forall_congr' fun c => forall_congr' fun hc => ?_
  simp
def numD (m : Nat) (l : List Nat) : D := if NumOk m l then .int (numV l) else .none
/-- some signs against none -/
theorem ne_signs {b : List Nat} (ok : okT b) {P : D → Prop} (h : P (.bool (!decide (b = [])))) : eqR true (.list (b.map fun c => .str (tS [c]))) (.list []) P := by
  have hS : ∀ d ∈ b.map (fun c => PyData.str (tS [c])), Shp 7 d := fun d hd => by
    obtain ⟨c, hc, rfl⟩ := List.mem_map.mp hd
    exact ok_tS (okT_cons (ok c hc) okT_nil)
  refine ⟨hS, fun d hd => by simp at hd, ?_⟩
  rw [Bool.xor_true]
  cases b with
  | nil => simpa [PyData.eqv, PyData.eqvAll] using h
  | cons c r => simpa [PyData.eqv, PyData.eqvAll] using h
theorem log2_small {n m : Nat} (hm : 0 < m) (h : n < 2 ^ m) : n.log2 < m := by
  by_cases c : n = 0
  · subst c
    exact hm
  · exact (Nat.log2_lt c).mpr h
/-- str of a number of few figures -/
theorem str_nat {i : Int} {k : Nat} (hk : 0 < k) (hk2 : k ≤ 400) (h0 : 0 ≤ i) (h1 : i < 10 ^ k) : i.natAbs.log2 < 1920 ∧ Str.ofString (toString i) = tS (TL.numL i.toNat) ∧ (TL.numL i.toNat).length ≤ k := by
  have e : i = ((i.toNat : Nat) : Int) := by omega
  have h2 : i.toNat < 10 ^ k := by
    have : ((i.toNat : Nat) : Int) < ((10 ^ k : Nat) : Int) := by
      rw [← e]
      exact Int.lt_of_lt_of_le h1 (Int.le_of_eq (by simp))
    exact Int.ofNat_lt.mp this
  have h3 : (10 : Nat) ^ k ≤ 2 ^ 1600 := Nat.le_trans (Nat.pow_le_pow_right (by decide) hk2) (by decide +kernel)
  refine ⟨log2_small (by decide) ?_, by rw [e, toStr_nat, Int.toNat_natCast], TL.numL_len hk h2⟩
  have : i.natAbs = i.toNat := by omega
  rw [this]
  exact Nat.lt_of_lt_of_le h2 (Nat.le_trans h3 (Nat.pow_le_pow_right (by decide) (by decide)))
theorem pow_pos10 {k : Nat} : (0 : Int) < 10 ^ k := Int.pow_pos (by decide)
/-- the signs of a written text -/
def sg (s : String) : List Nat := s.toList.map Char.toNat
theorem ofS (s : String) : Str.ofString s = tS (sg s) := lit_tS rfl
theorem char_lt (c : Char) : c.toNat < 1114112 := by
  rcases c.valid with h | h
  · have : c.toNat < 55296 := h
    omega
  · have : c.toNat < 1114112 := h.2
    omega
theorem okT_sg (s : String) : okT (sg s) := fun c hc => by
  obtain ⟨d, _, rfl⟩ := List.mem_map.mp hc
  exact char_lt d
theorem len_sg (s : String) : (sg s).length = s.length := by
  unfold sg
  rw [List.length_map, String.length_toList]
theorem pickS {ss : List String} {i : Int} {k : Nat} (h0 : 0 ≤ i) (h1 : i < ss.length) (hs : ∀ s ∈ ss, s.length ≤ k) : ∃ l, atI (ss.map fun s => PyData.str (Str.ofString s)) i = some (.str (tS l)) ∧ okT l ∧ l.length ≤ k := by
  obtain ⟨j, rfl⟩ := Int.eq_ofNat_of_zero_le h0
  have hj : j < ss.length := by omega
  refine ⟨sg ss[j], atI_nat (by rw [List.getElem?_map, List.getElem?_eq_getElem hj, Option.map_some, ofS]), okT_sg _, ?_⟩
  rw [len_sg]
  exact hs _ (List.getElem_mem hj)
/-- a sign of a written text -/
theorem pickC {s : String} {i : Int} (h0 : 0 ≤ i) (h1 : i < s.length) : ∃ c, atI (Str.ofString s).cps.toList i = some c ∧ c < 1114112 := by
  obtain ⟨j, rfl⟩ := Int.eq_ofNat_of_zero_le h0
  rw [ofS]
  have hj : j < (sg s).length := by rw [len_sg]; omega
  exact ⟨(sg s)[j], atI_nat (List.getElem?_eq_getElem hj), okT_sg s _ (List.getElem_mem hj)⟩
theorem okT_rep {n : Nat} {l : List Nat} (h : okT l) : okT (List.replicate n l).flatten := fun c hc => by
  obtain ⟨m, hm, hc⟩ := List.mem_flatten.mp hc
  rw [(List.mem_replicate.mp hm).2] at hc
  exact h c hc
theorem len_rep {n : Nat} {l : List Nat} : (List.replicate n l).flatten.length = n * l.length := by
  rw [List.length_flatten, List.map_replicate, List.sum_replicate_nat]
theorem mulS {l : List Nat} {i : Int} {P : D → Prop} (h0 : 0 ≤ i) (h1 : i ≤ 1000) (hl : l.length ≤ 1000) (h : P (.str (tS (List.replicate i.toNat l).flatten))) : mulX (.str (tS l)) (.int i) P := by
  obtain ⟨n, rfl⟩ := Int.eq_ofNat_of_zero_le h0
  rw [x_mulXS, len_tS]
  rw [Int.toNat_natCast] at h
  exact ⟨by omega, hl, h⟩

local macro_rules | `(tactic| walk_at "s") => `(tactic| repeat (refine And.intro (by first | omega | decide | exact lit_div (by decide) (by decide) | exact mid_div (by omega) (by omega) | exact small_mul (by first | decide | (constructor <;> omega)) | exact lit_mul (by first | decide | (constructor <;> omega)) | exact ⟨by decide, by decide, by decide⟩) ?_))

/-! _law_word -/
theorem p__law_word {cell : Int} {P : D → Prop} {Z : String → Prop} (h : ∀ l, okT l → l.length ≤ 1000 → P (.str (tS l))) : w__law_word [.int cell] P Z := by
  rw [u__law_word]
  unfold rd__law_word
  have q64 : CPow 10 64 := ⟨by decide, by decide, by decide⟩
  have q60 : CPow 10 60 := ⟨by decide, by decide, by decide⟩
  refine seq_setv (v := .int (cell % 10 ^ Int.toNat 64)) (fun P h => by walk_at "r"; exact ⟨q64, by decide, h⟩) ?_
  have hc0 : 0 ≤ cell % 10 ^ Int.toNat 64 := Int.emod_nonneg _ (by decide)
  generalize cell % 10 ^ Int.toNat 64 = c at hc0 ⊢
  refine seq_setv (v := .int (c % 9)) (fun P h => by walk_at "r"; exact ⟨by decide, h⟩) ?_
  have hw0 : 0 ≤ c % 9 := by omega
  have hw1 : c % 9 < 9 := by omega
  generalize c % 9 = w at hw0 hw1 ⊢
  let G (n : Nat) (ρ' : List Sl) : Prop := ∃ l, okT l ∧ l.length ≤ n ∧ ∃ s, ρ' = [.fz (.int c), .fz (.int w), .fz (.str (tS l)), s]
  have mk : ∀ {n l s}, okT l → l.length ≤ n → G n [.fz (.int c), .fz (.int w), .fz (.str (tS l)), s] := fun a b => ⟨_, a, b, _, rfl⟩
  have up : ∀ {n m ρ'}, n ≤ m → G n ρ' → G m ρ' := fun h ⟨l, a, b, s, e⟩ => ⟨l, a, Nat.le_trans b h, s, e⟩
  have d9 : CDivW c 9 := lit_div (by decide) (by decide)
  have d99 : CDivW c 99 := lit_div (by decide) (by decide)
  refine seq_any' (G 60) (fun nx hnx => ?_) ?_
  · walk_at "r"
    refine ⟨d9, q60, by decide, ?_⟩
    obtain ⟨e1, e2, e3⟩ := str_nat (i := c / 9 % 10 ^ Int.toNat 60) (k := 60) (by decide) (by decide) (Int.emod_nonneg _ (by decide)) (Int.emod_lt_of_pos _ (by decide))
    rw [e2]
    exact ⟨e1, hnx _ (mk (okT_num _) e3)⟩
  rintro _ ⟨l, ok, hl, s, rfl⟩
  refine seq_any' (G 61) (fun nx hnx => ?_) ?_
  · walk_at "r"
    rw [lit_minus, app_tS, len_tS, len_tS]
    exact ⟨fun _ => ⟨by simp; omega, hnx _ (mk (okT_app (okT_cons (by decide) okT_nil) ok) (by simp; omega))⟩, fun _ => hnx _ (up (by decide) (mk ok hl))⟩
  clear hl ok l
  rintro _ ⟨l, ok, hl, s, rfl⟩
  refine seq_any' (G 63) (fun nx hnx => ?_) ?_
  · walk_at "r"
    refine ⟨fun _ => ?_, fun _ => hnx _ (up (by decide) (mk ok hl))⟩
    refine ⟨d9, by decide, ?_⟩
    obtain ⟨m, e, om, lm⟩ := pickS (ss := ["0", "-0", "+", " ", "--"]) (k := 2) (i := c / 9 % 5) (by omega) (by simp; omega) (by decide)
    refine ⟨_, e, x_addS.mpr ?_⟩
    rw [app_tS, len_tS, len_tS]
    exact ⟨by omega, hnx _ (mk (okT_app om ok) (by rw [List.length_append]; omega))⟩
  clear hl ok l
  rintro _ ⟨l, ok, hl, s, rfl⟩
  refine seq_any' (G 64) (fun nx hnx => ?_) ?_
  · walk_at "r"
    refine ⟨fun _ => ?_, fun _ => hnx _ (up (by decide) (mk ok hl))⟩
    refine ⟨d9, by decide, ?_⟩
    obtain ⟨m, e, om, lm⟩ := pickS (ss := [" ", "\n", "_", "-"]) (k := 1) (i := c / 9 % 4) (by omega) (by simp; omega) (by decide)
    refine ⟨_, e, x_addS.mpr ?_⟩
    rw [app_tS, len_tS, len_tS]
    exact ⟨by omega, hnx _ (mk (okT_app ok om) (by rw [List.length_append]; omega))⟩
  clear hl ok l
  rintro _ ⟨l, ok, hl, s, rfl⟩
  refine seq_any' (G 129) (fun nx hnx => ?_) ?_
  · walk_at "r"
    rw [len_tS]
    refine ⟨fun _ => ?_, fun _ => hnx _ (up (by decide) (mk ok hl))⟩
    refine ⟨d99, by omega, by omega, by omega, d9, by decide, ?_⟩
    obtain ⟨x, e, ox⟩ := pickC (s := "_+- .,eO'x") (i := c / 9 % 10) (by omega) (by rw [← len_sg]; show _ < ((10 : Nat) : Int); omega)
    obtain ⟨j, hj⟩ := Int.eq_ofNat_of_zero_le (show 0 ≤ c / 99 % ((l.length : Int) + 1) from Int.emod_nonneg _ (by omega))
    refine ⟨by rw [ofS, len_tS, len_sg]; decide, x, e, ?_⟩
    rw [hj, cutS_to, cutS_from, show (⟨#[x]⟩ : Str) = tS [x] from rfl, app_tS, app_tS, len_tS, len_tS, len_tS, len_tS]
    refine ⟨by simp; omega, by omega, by simp; omega, hnx _ (mk (okT_app (okT_app (okT_take _ ok) (okT_cons ox okT_nil)) (okT_drop _ ok)) (by simp; omega))⟩
  clear hl ok l
  rintro _ ⟨l, ok, hl, s, rfl⟩
  refine seq_any' (G 129) (fun nx hnx => ?_) ?_
  · walk_at "r"
    refine ⟨fun _ => ?_, fun _ => hnx _ (up (by decide) (mk ok hl))⟩
    refine ⟨d9, by decide, ?_⟩
    obtain ⟨m, e, om, lm⟩ := pickS (ss := ["", "-", "0", "-0", "00", "+1", "1_0", "-1", " ", "a"]) (k := 3) (i := c / 9 % 10) (by omega) (by simp; omega) (by decide)
    exact ⟨_, e, hnx _ (mk om (by omega))⟩
  clear hl ok l
  rintro _ ⟨l, ok, hl, s, rfl⟩
  refine seq_any' (G 774) (fun nx hnx => ?_) ?_
  · walk_at "r"
    refine ⟨fun _ => ?_, fun _ => hnx _ (up (by decide) (mk ok hl))⟩
    refine ⟨d9, by decide, mulS (by omega) (by omega) (by omega) ?_⟩
    refine hnx _ (mk (okT_rep ok) ?_)
    rw [len_rep]
    have : (c / 9 % 7).toNat ≤ 6 := by omega
    exact Nat.le_trans (Nat.mul_le_mul this hl) (by decide)
  clear hl ok l
  rintro _ ⟨l, ok, hl, s, rfl⟩
  refine seq_any' (G 774) (fun nx hnx => ?_) ?_
  · walk_at "r"
    refine ⟨fun _ => ?_, fun _ => hnx _ (up (by decide) (mk ok hl))⟩
    refine ⟨d99, by decide, ?_⟩
    rw [lit_minus, show Str.ofString "8" = tS [56] from lit_tS (by decide)]
    refine mulS (by omega) (by omega) (by simp) ⟨d9, by decide, mulS (by omega) (by omega) (by simp) (x_addS.mpr ?_)⟩
    rw [len_tS, len_tS, app_tS]
    have l1 : (List.replicate (c / 99 % 2).toNat [45]).flatten.length ≤ 1 := by
      rw [len_rep]
      simp
      omega
    have l2 : (List.replicate (58 + c / 9 % 6).toNat [56]).flatten.length ≤ 63 := by
      rw [len_rep]
      simp
      omega
    exact ⟨by omega, hnx _ (mk (okT_app (okT_rep (okT_cons (by decide) okT_nil)) (okT_rep (okT_cons (by decide) okT_nil))) (by rw [List.length_append]; omega))⟩
  clear hl ok l
  rintro _ ⟨l, ok, hl, s, rfl⟩
  walk_at "r"
  exact h l ok (by omega)

/-! _law_due -/
theorem p__law_due {l : List Nat} {P : D → Prop} {Z : String → Prop} (ok : okT l) (hl : l.length ≤ 100000) (h : P (numD 60 l)) : w__law_due [.str (tS l)] P Z := by
  have hb := bare_len l
  have hbo := bare_ok ok
  have h1 : NumOk 60 l → P (.int (numV l)) := fun n => by unfold numD at h; rwa [if_pos n] at h
  have h0 : ¬ NumOk 60 l → P .none := fun n => by unfold numD at h; rwa [if_neg n] at h
  rw [u__law_due]
  unfold rd__law_due
  refine seq_setv (v := .str (tS l)) (fun P h => by walk_at "r"; exact h) ?_
  refine seq_any (Good := fun ρ' => ρ' = [.fz (.str (tS l)), .fz (.str (tS (bare l))), .un]) (fun nx hnx => ?_) ?_
  · walk_at "r"
    rw [len_tS, cutS_to1, cutS_from1, lit_minus]
    refine ⟨hl, eqS (okT_take 1 ok) (okT_cons (by decide) okT_nil) ⟨_, rfl, fun c => ?_, fun c => ?_⟩⟩
    · refine ⟨hl, hnx _ ?_⟩
      unfold bare
      rw [if_pos (of_decide_eq_true c)]
    · refine hnx _ ?_
      unfold bare
      rw [if_neg (of_decide_eq_false c)]
  · rintro ρ' rfl
    refine seq_ifr (b := !decide (1 ≤ (bare l).length ∧ (bare l).length ≤ 60) || !decide ((bare l).filter (fun c => !decide (48 ≤ c ∧ c ≤ 57)) = [])) (fun P h => ?_) (fun c nx => ?_) (fun c => ?_)
    · walk_at "r"
      rw [len_tS]
      refine ⟨by omega, fun c => ⟨fun c2 => ?_, fun c2 => ?_⟩, fun c => ?_⟩
      · rw [decide_eq_false (by omega)] at h
        exact h
      · rw [decide_eq_true (by omega)] at h
        rw [lit_figs]
        refine lcI (fun c : Nat => .str (tS [c])) (bare l) (fun c => !decide (48 ≤ c ∧ c ≤ 57)) (fun c => .str (tS [c])) (by omega) (fun x hx K K2 h0 h1 => ?_) ?_ rfl
        · walk_at "r"
          rw [mem_figs]
          exact ⟨fun c => h0 (by rw [decide_eq_false c]; rfl), fun c => h1 (by rw [decide_eq_true c]; rfl)⟩
        · refine ne_signs (fun c hc => hbo c (List.mem_filter.mp hc).1) ⟨_, rfl, ?_⟩
          rw [Bool.not_true, Bool.false_or] at h
          exact h
      · rw [decide_eq_false (by omega)] at h
        exact h
    · walk_at "r"
      refine h0 fun n => ?_
      simp only [Bool.or_eq_true, Bool.not_eq_true', decide_eq_false_iff_not, figs_all] at c
      rcases c with c | c
      · exact c n.1
      · exact c n.2.2
    · simp only [Bool.or_eq_false_iff, Bool.not_eq_false', decide_eq_true_eq, figs_all] at c
      obtain ⟨c1, c2⟩ := c
      have hne : 0 < (bare l).length := by omega
      have e0 : (bare l)[0]? = some (bare l)[0] := List.getElem?_eq_getElem hne
      have key : ¬ ((bare l)[0]? = some 48 ∧ l ≠ [48]) → NumOk 60 l := fun z => ⟨c1, z, c2⟩
      have fin : NumOk 60 l → ∃ n, PySem.intText? (tS l) = some n ∧ (tS l).length ≤ 640 ∧ P (.int n) := fun n => by
        obtain ⟨e, e2⟩ := num_text (by decide) n
        exact ⟨_, e, by rw [len_tS]; omega, h1 n⟩
      walk_at "r"
      rw [len_tS, lit_0]
      refine ⟨by omega, _, atS0 e0, eqS (okT_cons (hbo _ (List.getElem_mem hne)) okT_nil) (okT_cons (by decide) okT_nil) ⟨_, rfl, fun c3 => neS ok (okT_cons (by decide) okT_nil) ⟨_, rfl, fun c4 => ?_, fun c4 => ?_⟩, fun c3 => ?_⟩⟩
      · have c3 : [(bare l)[0]] = [48] := of_decide_eq_true c3
        simp only [List.cons.injEq, and_true] at c3
        exact h0 fun n => n.2.1 ⟨by rw [e0, c3], by simpa using c4⟩
      · have := fin (key fun z => z.2 (by simpa using c4))
        simpa [len_tS] using this
      · have c3 : ¬ [(bare l)[0]] = [48] := of_decide_eq_false c3
        simp only [List.cons.injEq, and_true] at c3
        have := fin (key fun z => c3 (by rw [e0] at z; exact Option.some.inj z.1))
        simpa [len_tS] using this

/-! number_in -/
theorem p_number_in {l : List Nat} {P : D → Prop} {Z : String → Prop} (ok : okT l) (hl : l.length ≤ 100000) (h : NumOk 60 l → P (.int (numV l))) (hZ : ¬ NumOk 60 l → Z "NoText") : w_number_in [.str (tS l)] P Z := by
  rw [u_number_in]
  unfold rd_number_in
  refine seq_setv (v := .str (tS l)) (fun P h => by walk_at "r"; exact h) ?_
  refine seq_any (Good := fun ρ' => ρ' = [.fz (.str (tS l)), .fz (.str (tS (bare l))), .un]) (fun nx hnx => ?_) ?_
  · walk_at "r"
    rw [len_tS, cutS_to1, cutS_from1, lit_minus]
    refine ⟨hl, eqS (okT_take 1 ok) (okT_cons (by decide) okT_nil) ⟨_, rfl, fun c => ?_, fun c => ?_⟩⟩
    · refine ⟨hl, hnx _ ?_⟩
      unfold bare
      rw [if_pos (of_decide_eq_true c)]
    · refine hnx _ ?_
      unfold bare
      rw [if_neg (of_decide_eq_false c)]
  · rintro ρ' rfl
    have hb := bare_len l
    have hbo := bare_ok ok
    refine seq_ifr (b := !decide (1 ≤ (bare l).length ∧ (bare l).length ≤ 60) || (decide ((bare l)[0]? = some 48) && !decide (l = [48]))) (fun P h => ?_) (fun c nx => ?_) (fun c => ?_)
    · walk_at "r"
      rw [len_tS, lit_0]
      refine ⟨by omega, fun c => ⟨fun c2 => ?_, fun c2 => ?_⟩, fun c => ?_⟩
      · rw [decide_eq_false (by omega)] at h
        exact h
      · have hne : 0 < (bare l).length := by omega
        have e0 : (bare l)[0]? = some (bare l)[0] := List.getElem?_eq_getElem hne
        refine ⟨by omega, _, atS0 e0, eqS (okT_cons (hbo _ (List.getElem_mem hne)) okT_nil) (okT_cons (by decide) okT_nil) ⟨_, rfl, fun c3 => neS ok (okT_cons (by decide) okT_nil) ⟨_, rfl, ?_⟩, fun c3 => ?_⟩⟩
        · have c3 : [(bare l)[0]] = [48] := of_decide_eq_true c3
          simp only [List.cons.injEq, and_true] at c3
          rw [decide_eq_true (by omega), e0, c3, decide_eq_true rfl] at h
          exact h
        · have c3 : ¬ [(bare l)[0]] = [48] := of_decide_eq_false c3
          simp only [List.cons.injEq, and_true] at c3
          rw [decide_eq_true (by omega), e0, decide_eq_false (by simpa using c3)] at h
          exact h
      · rw [decide_eq_false (by omega)] at h
        exact h
    · walk_at "r"
      refine hZ fun n => ?_
      obtain ⟨n1, n2, _⟩ := n
      simp only [Bool.or_eq_true, Bool.not_eq_true', decide_eq_false_iff_not, Bool.and_eq_true, decide_eq_true_eq] at c
      rcases c with c | c
      · exact c n1
      · exact n2 c
    · simp only [Bool.or_eq_false_iff, Bool.not_eq_false', decide_eq_true_eq, Bool.and_eq_false_iff, decide_eq_false_iff_not] at c
      obtain ⟨c1, c2⟩ := c
      have key : (∀ x ∈ bare l, 48 ≤ x ∧ x ≤ 57) → NumOk 60 l := fun hx => ⟨c1, fun z => by
        rcases c2 with c2 | c2
        · exact c2 z.1
        · exact z.2 c2, hx⟩
      walk_at "r"
      refine forI (fun c : Nat => .str (tS [c])) (bare l) (fun pre (_ : Unit) => ∀ x ∈ pre, 48 ≤ x ∧ x ≤ 57) (fun _ => [.fz (.str (tS l)), .fz (.str (tS (bare l))), .un]) () rfl (fun x hx => by simp at hx) (fun _ hall => ?_) (fun pre x post _ hM hpre => ?_) rfl
      · have n := key (by simpa using hall)
        obtain ⟨e, e2⟩ := num_text (by decide) n
        walk_at "r"
        rw [len_tS]
        exact ⟨_, e, by omega, h n⟩
      · walk_at "r"
        rw [lit_figs, mem_figs]
        refine ⟨fun c => hZ fun n => c (n.2.2 x (by rw [hM]; simp)), fun c y hy => ?_⟩
        rcases List.mem_append.mp hy with hy | hy
        · exact hpre y hy
        · rw [List.mem_singleton] at hy
          subst hy
          exact c

/-! _law_whole -/
theorem p__law_whole {i : Int} {P : D → Prop} {Z : String → Prop} (h : P (.bool true)) : w__law_whole [.int i] P Z := by
  rw [u__law_whole]
  unfold rd__law_whole
  walk_at "r"
  exact h

theorem plain {ns : List Int} (hl : ns.length ≤ 63) (hb : ∀ z ∈ ns, Builtin.Int.intBits z ≤ 1048576) : w_law [.list (ns.map .int)] (fun d => d = .bool true) (fun _ => False) := by
  rw [u_law]
  unfold rd_law
  walk_at "r"
  obtain ⟨l2, e2, hs2⟩ := cutD_map .int ns none (some 60)
  rw [e2, List.length_map]
  refine ⟨by have := hs2.length_le; omega, ?_⟩
  rw [show (PyData.int 0 :: l2.map PyData.int) = (0 :: l2).map PyData.int from rfl]
  refine forI PyData.int (0 :: l2) (fun _ (_ : Unit) => True) (fun _ => [.ln (.list (ns.map .int)), .un, .un, .un, .un, .un, .un]) () rfl trivial (fun _ _ => by walk_at "r") (fun pre x post _ _ _ => ?_) rfl
  walk_at "r"
  refine p__law_word fun l ok hl => ?_
  refine p_number_in ok (by omega) (fun n => ?_) (fun n => ?_)
  · refine p__law_due ok (by omega) ?_
    unfold numD
    rw [if_pos n]
    refine ⟨fun c => (nomatch c), fun _ _ => ?_⟩
    refine eqR_bools (A := []) (B := []) ⟨_, rfl, fun c => (nomatch c), fun _ => ?_⟩
    refine p__law_whole ?_
    refine ⟨_, rfl, fun c => (nomatch c), fun _ => ?_⟩
    rw [x_eqI]
    exact ⟨_, rfl, fun c => by simp at c⟩
  · rw [if_pos rfl]
    refine p__law_due ok (by omega) ?_
    unfold numD
    rw [if_neg n]
    exact ⟨fun _ => eqR_bools (A := [true, true, false]) (B := [true, true, false]) ⟨_, rfl, fun c => (nomatch c), fun _ c => (nomatch c)⟩, fun c => (nomatch c)⟩

end DL
set_option maxRecDepth 100000
set_option maxHeartbeats 16000000
namespace DL
open PySem PySem.Spec PyProof.Rows L2

def topS (i : Nat) : Stmt := PySem.Challenge.pw_tallyweb_k60_numbers_read.main.body.getD i (.Pass ⟨0, 0, 0, 0⟩)
abbrev s__law_word : Stmt := topS 17
abbrev s__law_due : Stmt := topS 18
abbrev s_number_in : Stmt := topS 14
abbrev s__law_whole : Stmt := topS 16
abbrev s_law : Stmt := topS 19
structure Tx (K : PySem.W.Frag) (mg : Str → Option Value) : Prop where
  b_bool : mg "bool" = none
  b_int : mg "int" = none
  b_isinstance : mg "isinstance" = none
  b_len : mg "len" = none
  b_str : mg "str" = none
  c_FIGURES : ∃ t, mg "FIGURES" = some (.str "0123456789" t)
  c_MOST_FIGURES : ∃ t, mg "MOST_FIGURES" = some (.int 60 t)
  e_NoText : Exd K mg "NoText"
  h_BadNumber : ∃ D : Addr, mg "BadNumber" = some (.ref D)
  h_BadTally : ∃ D : Addr, mg "BadTally" = some (.ref D)
  h_BadWeb : ∃ D : Addr, mg "BadWeb" = some (.ref D)
  h_NoExchange : ∃ D : Addr, mg "NoExchange" = some (.ref D)
  h_NoPlace : ∃ D : Addr, mg "NoPlace" = some (.ref D)
  h_NoText : ∃ D : Addr, mg "NoText" = some (.ref D)
  h_NoWeb : ∃ D : Addr, mg "NoWeb" = some (.ref D)
  h_TallyError : ∃ D : Addr, mg "TallyError" = some (.ref D)
  h_TooMany : ∃ D : Addr, mg "TooMany" = some (.ref D)
  h_Unlike : ∃ D : Addr, mg "Unlike" = some (.ref D)
  n_NoText : ExcI K mg "NoText"
  tk_NoText_TallyError : TkN K mg "NoText" "TallyError" true
  ki_NoText_BadNumber : KitI K mg "NoText" "BadNumber" false
  ki_NoText_BadTally : KitI K mg "NoText" "BadTally" false
  ki_NoText_BadWeb : KitI K mg "NoText" "BadWeb" false
  ki_NoText_NoExchange : KitI K mg "NoText" "NoExchange" false
  ki_NoText_NoPlace : KitI K mg "NoText" "NoPlace" false
  ki_NoText_NoText : KitI K mg "NoText" "NoText" true
  ki_NoText_NoWeb : KitI K mg "NoText" "NoWeb" false
  ki_NoText_TooMany : KitI K mg "NoText" "TooMany" false
  ki_NoText_Unlike : KitI K mg "NoText" "Unlike" false
  kb_NoText_ValueError : KitB K mg "NoText" "ValueError" true
  f__law_word : FnF K mg "_law_word" s__law_word
  f__law_due : FnF K mg "_law_due" s__law_due
  f_number_in : FnF K mg "number_in" s_number_in
  f__law_whole : FnF K mg "_law_whole" s__law_whole
  f_law : FnF K mg "law" s_law
section
variable {P : Program} {w : World} {K : PySem.W.Frag} {mg : Str → Option Value} {base : Heap} {TT : List (Addr × Str)}
abbrev N__law_word : List Str := ["cell", "way", "figures", "at"]
theorem sc__law_word : FnScope N__law_word ["cell"] (defScope s__law_word) := ⟨rfl, rfl, rfl, by decide +kernel, rfl, by decide +kernel, by decide +kernel⟩
theorem dv__law_word (T : Tx K mg) (f : Addr) (cdv : Value) (A : Around) (outer : List Env) (s : Shared) (H : Hp) (E : XK) (hr : Room 0 (A.deeper (envOfC "_law_word" (defScope s__law_word) s.heap.objs.size f cdv))) : DSs (cxOf CX0 P w K mg base N__law_word "_law_word" (defScope s__law_word) f cdv A outer s H E).nox (W0 TT) .fz (defBody s__law_word) rd__law_word := by
  have nd := (sc__law_word).nd
  exact (dss_cons (ds_set 0 nd (de_op op_mod r2_intC (de_v 0) (de_op op_pow r2_intC de_int de_int)))
  (dss_cons (ds_set 1 nd (de_op op_mod r2_intC (de_v 0) de_int))
  (dss_cons (ds_set 2 nd (de_ty call_strD ra_str rfl T.b_str bt_str (da_cons (de_op op_mod r2_intC (de_op op_fdivW r2_intC (de_v 0) de_int) (de_op op_pow r2_intC de_int de_int)) da_nil)))
  (dss_cons (ds_if (dt_cmp (op_eqD hr.units) r2_eq (de_v 1) de_int (nomark _))
  (dss_one (ds_set 2 nd (de_op op_addD r2_add de_str (de_v 2))))
  dss_nil)
  (dss_cons (ds_if (dt_cmp (op_eqD hr.units) r2_eq (de_v 1) de_int (nomark _))
  (dss_one (ds_set 2 nd (de_op op_addD r2_add (de_ix ix_three r2_ixX (de_lst (n := 5) (da_cons de_str (da_cons de_str (da_cons de_str (da_cons de_str (da_cons de_str da_nil)))))) (de_op op_mod r2_intC (de_op op_fdivW r2_intC (de_v 0) de_int) de_int) (fun _ _ => rfl)) (de_v 2))))
  dss_nil)
  (dss_cons (ds_if (dt_cmp (op_eqD hr.units) r2_eq (de_v 1) de_int (nomark _))
  (dss_one (ds_set 2 nd (de_op op_addD r2_add (de_v 2) (de_ix ix_three r2_ixX (de_lst (n := 4) (da_cons de_str (da_cons de_str (da_cons de_str (da_cons de_str da_nil))))) (de_op op_mod r2_intC (de_op op_fdivW r2_intC (de_v 0) de_int) de_int) (fun _ _ => rfl)))))
  dss_nil)
  (dss_cons (ds_if (dt_cmp (op_eqD hr.units) r2_eq (de_v 1) de_int (nomark _))
  (dss_cons (ds_set 3 nd (de_op op_mod r2_intC (de_op op_fdivW r2_intC (de_v 0) de_int) (de_op op_addD r2_add (de_bi call_len ra_len rfl T.b_len bt_len (da_cons (de_v 2) da_nil)) de_int)))
  (dss_one (ds_set 2 nd (de_op op_addD r2_add (de_op op_addD r2_add (de_sliceX (de_v 2) do_none (do_some (de_v 3))) (de_ix ix_three r2_ixX de_str (de_op op_mod r2_intC (de_op op_fdivW r2_intC (de_v 0) de_int) de_int) (fun _ _ => rfl))) (de_sliceX (de_v 2) (do_some (de_v 3)) do_none)))))
  dss_nil)
  (dss_cons (ds_if (dt_cmp (op_eqD hr.units) r2_eq (de_v 1) de_int (nomark _))
  (dss_one (ds_set 2 nd (de_ix ix_three r2_ixX (de_lst (n := 10) (da_cons de_str (da_cons de_str (da_cons de_str (da_cons de_str (da_cons de_str (da_cons de_str (da_cons de_str (da_cons de_str (da_cons de_str (da_cons de_str da_nil))))))))))) (de_op op_mod r2_intC (de_op op_fdivW r2_intC (de_v 0) de_int) de_int) (fun _ _ => rfl))))
  dss_nil)
  (dss_cons (ds_if (dt_cmp (op_eqD hr.units) r2_eq (de_v 1) de_int (nomark _))
  (dss_one (ds_set 2 nd (de_op op_mulX r2_mulX (de_v 2) (de_op op_mod r2_intC (de_op op_fdivW r2_intC (de_v 0) de_int) de_int))))
  dss_nil)
  (dss_cons (ds_if (dt_cmp (op_eqD hr.units) r2_eq (de_v 1) de_int (nomark _))
  (dss_one (ds_set 2 nd (de_op op_addD r2_add (de_op op_mulX r2_mulX de_str (de_op op_mod r2_intC (de_op op_fdivW r2_intC (de_v 0) de_int) de_int)) (de_op op_mulX r2_mulX de_str (de_op op_addD r2_add de_int (de_op op_mod r2_intC (de_op op_fdivW r2_intC (de_v 0) de_int) de_int))))))
  dss_nil)
  (dss_one (ds_ret (de_v 2)))))))))))))
theorem bd__law_word : Bnd "_law_word" s__law_word ["cell"] := fun _ _ _ _ _ _ us hl => match us, hl with | [_], _ => rfl
theorem df__law_word (T : Tx K mg) : Df P w K mg base TT CX0 1 "_law_word" [.fz] .fz w__law_word := df0 T.f__law_word sc__law_word rfl bd__law_word (dv__law_word T)
abbrev N__law_due : List Str := ["word", "figures", "sign"]
theorem sc__law_due : FnScope N__law_due ["word"] (defScope s__law_due) := ⟨rfl, rfl, rfl, by decide +kernel, rfl, by decide +kernel, by decide +kernel⟩
theorem dv__law_due (T : Tx K mg) (f : Addr) (cdv : Value) (A : Around) (outer : List Env) (s : Shared) (H : Hp) (E : XK) (hr : Room 0 (A.deeper (envOfC "_law_due" (defScope s__law_due) s.heap.objs.size f cdv))) : DSs (cxOf CX0 P w K mg base N__law_due "_law_due" (defScope s__law_due) f cdv A outer s H E).nox (W0 TT) .fz (defBody s__law_due) rd__law_due := by
  have nd := (sc__law_due).nd
  exact (dss_cons (ds_set 1 nd (de_v 0))
  (dss_cons (ds_if (dt_cmp (op_eqD hr.units) r2_eq (de_sliceX (de_v 0) do_none (do_some de_int)) de_str (nomark _))
  (dss_one (ds_set 1 nd (de_sliceX (de_v 0) (do_some de_int) do_none)))
  dss_nil)
  (dss_cons (ds_if (DEw.dt (dw_or (dt_not (dt_chain (op_leO hr.units0) r2_ord (op_leO hr.units0) r2_ord de_int (de_bi call_len ra_len rfl T.b_len bt_len (da_cons (de_v 1) da_nil)) de_int)) (dw_or1 (dt_cmp (op_neD hr.units) r2_ne (de_lc (own := [("sign", 2)]) rfl nd (di_seqX (DE.st (de_v 1))) (blkOk_by (N := N__law_due) (sc := defScope s__law_due) (by decide +kernel)) (by decide) (fun _ _ _ _ _ => (dg_name 2 nd)) (fun _ _ _ _ _ => (dts_one (dt_cmp (op_notInX hr.units) r2_inX (de_v 2) de_str rfl))) (fun _ _ _ _ _ => (de_v 2))) (de_lst (n := 0) da_nil) (nomark _)))))
  (dss_one (ds_ret de_non))
  dss_nil)
  (dss_cons (ds_if (DEw.dt (dw_and (dt_cmp (op_eqD hr.units) r2_eq (de_ix ix_three r2_ixX (de_v 1) de_int (fun _ _ => rfl)) de_str (nomark _)) (dw_and1 (dt_cmp (op_neD hr.units) r2_ne (de_v 0) de_str (nomark _)))))
  (dss_one (ds_ret de_non))
  dss_nil)
  (dss_one (ds_ret (de_ty call_intX ra_intX rfl T.b_int bt_int (da_cons (de_v 0) da_nil))))))))
theorem bd__law_due : Bnd "_law_due" s__law_due ["word"] := fun _ _ _ _ _ _ us hl => match us, hl with | [_], _ => rfl
theorem df__law_due (T : Tx K mg) : Df P w K mg base TT CX0 1 "_law_due" [.fz] .fz w__law_due := df0 T.f__law_due sc__law_due rfl bd__law_due (dv__law_due T)
abbrev N_number_in : List Str := ["word", "figures", "sign"]
theorem sc_number_in : FnScope N_number_in ["word"] (defScope s_number_in) := ⟨rfl, rfl, rfl, by decide +kernel, rfl, by decide +kernel, by decide +kernel⟩
theorem dv_number_in (T : Tx K mg) (f : Addr) (cdv : Value) (A : Around) (outer : List Env) (s : Shared) (H : Hp) (E : XK) (hr : Room 0 (A.deeper (envOfC "number_in" (defScope s_number_in) s.heap.objs.size f cdv))) : DSs (cxOf (L2.CX P w) P w K mg base N_number_in "number_in" (defScope s_number_in) f cdv A outer s H E) ⟨fun cls d _ H => E cls d H, TT⟩ .fz (defBody s_number_in) rd_number_in := by
  have nd := (sc_number_in).nd
  have tk : Takes (cxOf (L2.CX P w) P w K mg base N_number_in "number_in" (defScope s_number_in) f cdv A outer s H E) (fun cls d _ H => E cls d H) := takes_of rfl rfl rfl rfl
  exact (dss_cons (ds_set 1 nd (de_v 0))
  (dss_cons (ds_if (dt_cmp (op_eqD hr.units) r2_eq (de_sliceX (de_v 0) do_none (do_some de_int)) de_str (nomark _))
  (dss_one (ds_set 1 nd (de_sliceX (de_v 0) (do_some de_int) do_none)))
  dss_nil)
  (dss_cons (ds_if (DEw.dt (dw_or (dt_not (dt_chain (op_leO hr.units0) r2_ord (op_leO hr.units0) r2_ord de_int (de_bi call_len ra_len rfl T.b_len bt_len (da_cons (de_v 1) da_nil)) (de_cint T.c_MOST_FIGURES))) (dw_or1 (DEw.dt (dw_and (dt_cmp (op_eqD hr.units) r2_eq (de_ix ix_three r2_ixX (de_v 1) de_int (fun _ _ => rfl)) de_str (nomark _)) (dw_and1 (dt_cmp (op_neD hr.units) r2_ne (de_v 0) de_str (nomark _))))))))
  (dss_one (ds_raise (x := "NoText") tk rfl T.e_NoText))
  dss_nil)
  (dss_cons (ds_for [2] (passes_of rfl) rfl (di_seqX (DE.st (de_v 1))) (dg_name 2 nd)
  (dss_one (ds_if (dt_cmp (op_notInX hr.units) r2_inX (de_v 2) (de_cstr T.c_FIGURES) rfl)
  (dss_one (ds_raise (x := "NoText") tk rfl T.e_NoText))
  dss_nil)))
  (dss_one (ds_ret (de_ty call_intX ra_intX rfl T.b_int bt_int (da_cons (de_v 0) da_nil))))))))
theorem bd_number_in : Bnd "number_in" s_number_in ["word"] := fun _ _ _ _ _ _ us hl => match us, hl with | [_], _ => rfl
theorem df_number_in (T : Tx K mg) : Df P w K mg base TT (L2.CX P w) 1 "number_in" [.fz] .fz w_number_in := dfX T.f_number_in sc_number_in rfl bd_number_in (dv_number_in T)
abbrev N__law_whole : List Str := ["found"]
theorem sc__law_whole : FnScope N__law_whole ["found"] (defScope s__law_whole) := ⟨rfl, rfl, rfl, by decide +kernel, rfl, by decide +kernel, by decide +kernel⟩
theorem dv__law_whole (T : Tx K mg) (f : Addr) (cdv : Value) (A : Around) (outer : List Env) (s : Shared) (H : Hp) (E : XK) (hr : Room 0 (A.deeper (envOfC "_law_whole" (defScope s__law_whole) s.heap.objs.size f cdv))) : DSs (cxOf CX0 P w K mg base N__law_whole "_law_whole" (defScope s__law_whole) f cdv A outer s H E).nox (W0 TT) .fz (defBody s__law_whole) rd__law_whole := by
  have nd := (sc__law_whole).nd
  exact (dss_one (ds_ret (de_and (de_isi (de_v 0) T.b_isinstance T.b_int bt_int) (de_one (de_not (de_isi (de_v 0) T.b_isinstance T.b_bool bt_bool))))))
theorem bd__law_whole : Bnd "_law_whole" s__law_whole ["found"] := fun _ _ _ _ _ _ us hl => match us, hl with | [_], _ => rfl
theorem df__law_whole (T : Tx K mg) : Df P w K mg base TT CX0 1 "_law_whole" [.fz] .fz w__law_whole := df0 T.f__law_whole sc__law_whole rfl bd__law_whole (dv__law_whole T)
abbrev N_law : List Str := ["script", "cell", "word", "found", "kept", "e", "due"]
theorem sc_law : FnScope N_law ["script"] (defScope s_law) := ⟨rfl, rfl, rfl, by decide +kernel, rfl, by decide +kernel, by decide +kernel⟩
theorem dv_law (T : Tx K mg) (f : Addr) (cdv : Value) (A : Around) (outer : List Env) (s : Shared) (H : Hp) (E : XK) (hr : Room 1 (A.deeper (envOfC "law" (defScope s_law) s.heap.objs.size f cdv))) : DSs (cxOf CX0 P w K mg base N_law "law" (defScope s_law) f cdv A outer s H E).nox (W0 TT) .fz (defBody s_law) rd_law := by
  have nd := (sc_law).nd
  exact (dss_cons (ds_for [1, 2, 3, 4, 5, 6] PassesOwn.never rfl (di_seq (DE.st (de_op op_addD r2_add (DE.fz (de_lst (n := 1) (da_cons de_int da_nil))) (de_slice (de_vs 0) do_none (do_some de_int))))) (dg_name 1 nd)
  (dss_cons (ds_set 2 nd (de_call (df__law_word T) pass0 (hr.mono (by decide)) (da_cons (de_v 1) da_nil)))
  (dss_cons (ds_set 3 nd de_non)
  (dss_cons (ds_setN 4 nd (de_lst (n := 0) da_nil))
  (dss_cons (ds_tryH_as (H := "TallyError") 5 nd takes0 T.h_TallyError (fun W0 pn0 xe0 tk0 po0 => (dss_one (ds_set 3 nd (de_callX tk0 (df_number_in T) (hr.mono (by decide)) (da_cons (de_v 2) da_nil))))) (fun D hD => (.take (tkF T.tk_NoText_TallyError hD) (fun C a oe pn hC hz hv => (dss_cons (ds_setN 4 nd (de_lst (n := 2) (da_cons (de_isEI (x := "NoText") (T := "NoText") 5 hC T.n_NoText hz hv T.b_isinstance T.ki_NoText_NoText (pv 5)) (da_cons (de_isEB (x := "NoText") (T := "ValueError") 5 hC T.n_NoText hz hv T.b_isinstance T.kb_NoText_ValueError (pv 5)) da_nil))))
  (dss_one (ds_app 4 (pv 4) (de_isEL (x := "NoText") 5 hC T.n_NoText hz hv T.b_isinstance (.cons (T := "BadNumber") T.ki_NoText_BadNumber (.cons (T := "BadTally") T.ki_NoText_BadTally (.cons (T := "BadWeb") T.ki_NoText_BadWeb (.cons (T := "NoExchange") T.ki_NoText_NoExchange (.cons (T := "NoPlace") T.ki_NoText_NoPlace (.cons (T := "NoWeb") T.ki_NoText_NoWeb (.cons (T := "TooMany") T.ki_NoText_TooMany (.cons (T := "Unlike") T.ki_NoText_Unlike .nil)))))))) (pv 5))))))
  .nil)))
  (dss_frz 4 (dss_cons (ds_set 6 nd (de_call (df__law_due T) pass0 (hr.mono (by decide)) (da_cons (de_v 2) da_nil)))
  (dss_cons (ds_if (DEw.dt (dw_and (dt_cmp op_isD r2_is (de_v 6) de_non (nomark _)) (dw_and1 (dt_cmp (op_neD hr.units) r2_ne (de_v 4) (de_lst (n := 3) (da_cons de_bl (da_cons de_bl (da_cons de_bl da_nil)))) (nomark _)))))
  (dss_one (ds_ret de_bl))
  dss_nil)
  (dss_one (ds_if (DEw.dt (dw_and (dt_cmp op_isnotD r2_is (de_v 6) de_non (nomark _)) (dw_and1 (DEw.dt (dw_or (dt_cmp (op_neD hr.units) r2_ne (de_v 4) (de_lst (n := 0) da_nil) (nomark _)) (dw_or (dt_not (dt_val (de_call (df__law_whole T) pass0 (hr.mono (by decide)) (da_cons (de_v 3) da_nil)))) (dw_or1 (dt_cmp (op_neD hr.units) r2_ne (de_v 3) (de_v 6) (nomark _)))))))))
  (dss_one (ds_ret de_bl))
  dss_nil))))))))))
  (dss_one (ds_ret de_bl)))
theorem bd_law : Bnd "law" s_law ["script"] := fun _ _ _ _ _ _ us hl => match us, hl with | [_], _ => rfl
theorem df_law (T : Tx K mg) : Df P w K mg base TT CX0 2 "law" [.rd] .fz w_law := df0 T.f_law sc_law rfl bd_law (dv_law T)
end
section
variable {P : Program} {w : World} {K : PySem.W.Frag} {mg : Str → Option Value}
theorem all_mk {h : Heap} {fa : Addr} {t_FIGURES : Tok} {t_MOST_FIGURES : Tok} {C_BadNumber : Addr} {C_BadTally : Addr} {C_BadWeb : Addr} {C_NoExchange : Addr} {C_NoPlace : Addr} {C_NoText : Addr} {C_NoWeb : Addr} {C_TallyError : Addr} {C_TooMany : Addr} {C_Unlike : Addr} {f0 : Addr} {oc0 kV0 dc0 pm0 cd0 ct0 : Value} {od0 an0 : Option Addr} {sl0 : Array (Option Value)} {f1 : Addr} {oc1 kV1 dc1 pm1 cd1 ct1 : Value} {od1 an1 : Option Addr} {sl1 : Array (Option Value)} {f2 : Addr} {oc2 kV2 dc2 pm2 cd2 ct2 : Value} {od2 an2 : Option Addr} {sl2 : Array (Option Value)} {f3 : Addr} {oc3 kV3 dc3 pm3 cd3 ct3 : Value} {od3 an3 : Option Addr} {sl3 : Array (Option Value)} {f4 : Addr} {oc4 kV4 dc4 pm4 cd4 ct4 : Value} {od4 an4 : Option Addr} {sl4 : Array (Option Value)} (X : K.In h) (G : h.Ns mainGlobals mg) (hfa : mg "law" = some (.ref fa))
    (b_bool : PySem.W.nsIn K mainGlobals "bool" = some none)
    (b_int : PySem.W.nsIn K mainGlobals "int" = some none)
    (b_isinstance : PySem.W.nsIn K mainGlobals "isinstance" = some none)
    (b_len : PySem.W.nsIn K mainGlobals "len" = some none)
    (b_str : PySem.W.nsIn K mainGlobals "str" = some none)
    (c_FIGURES : PySem.W.nsIn K mainGlobals "FIGURES" = some (some (.str "0123456789" t_FIGURES)))
    (c_MOST_FIGURES : PySem.W.nsIn K mainGlobals "MOST_FIGURES" = some (some (.int 60 t_MOST_FIGURES)))
    (e_BadNumber : PySem.W.nsIn K mainGlobals "BadNumber" = some (some (.ref C_BadNumber)))
    (e_BadTally : PySem.W.nsIn K mainGlobals "BadTally" = some (some (.ref C_BadTally)))
    (e_BadWeb : PySem.W.nsIn K mainGlobals "BadWeb" = some (some (.ref C_BadWeb)))
    (e_NoExchange : PySem.W.nsIn K mainGlobals "NoExchange" = some (some (.ref C_NoExchange)))
    (e_NoPlace : PySem.W.nsIn K mainGlobals "NoPlace" = some (some (.ref C_NoPlace)))
    (e_NoText : PySem.W.nsIn K mainGlobals "NoText" = some (some (.ref C_NoText)))
    (e_NoWeb : PySem.W.nsIn K mainGlobals "NoWeb" = some (some (.ref C_NoWeb)))
    (e_TallyError : PySem.W.nsIn K mainGlobals "TallyError" = some (some (.ref C_TallyError)))
    (e_TooMany : PySem.W.nsIn K mainGlobals "TooMany" = some (some (.ref C_TooMany)))
    (e_Unlike : PySem.W.nsIn K mainGlobals "Unlike" = some (some (.ref C_Unlike)))
    (x_NoText : PySem.W.excIn K C_NoText [.type "ValueError", .type "Exception", .type "BaseException", .type "object"] "ValueError.__new__" = true)
    (k_NoText : PySem.W.keepIn K (.ref C_NoText) = true)
    (s_NoText : PySem.W.subIn K (.ref C_NoText) (.type "BaseException") = some true)
    (y_NoText : PySem.W.typeIn K (.ref C_NoText) = some (.type "type"))
    (ng_NoText : PySem.W.findIn K (.ref C_NoText) "__getattribute__" = some (some (.builtin "BaseException.__getattribute__")))
    (nk_NoText : PySem.W.findIn K (.ref C_NoText) "__getattr__" = some none)
    (ns_NoText : PySem.W.subIn K (.ref C_NoText) (.type "BaseException") = some true)
    (nd_NoText : PySem.W.hasDictIn K C_NoText = true)
    (na_NoText : PySem.W.findIn K (.ref C_NoText) "__class__" = some (some (.builtin "object.__class__")))
    (nn_NoText : PySem.W.specialIn K (.builtin "object.__class__") "__get__" = some (some (.builtin "getset_descriptor.__get__")))
    (nt_NoText : PySem.W.takesIn K (.builtin "object.__class__") = some true)
    (nm_NoText : PySem.W.mroIn K C_NoText (.type "object") = some true)
    (hd_TallyError : PySem.W.hasDictIn K C_TallyError = true)
    (ty_TallyError : PySem.W.typeIn K (.ref C_TallyError) = some (.type "type"))
    (be_TallyError : PySem.W.subIn K (.ref C_TallyError) (.type "BaseException") = some true)
    (sb_NoText_TallyError : PySem.W.subIn K (.ref C_NoText) (.ref C_TallyError) = some true)
    (hd_BadNumber : PySem.W.hasDictIn K C_BadNumber = true)
    (ty_BadNumber : PySem.W.typeIn K (.ref C_BadNumber) = some (.type "type"))
    (sb_NoText_BadNumber : PySem.W.subIn K (.ref C_NoText) (.ref C_BadNumber) = some false)
    (sb_NoText_NoText : PySem.W.subIn K (.ref C_NoText) (.ref C_NoText) = some true)
    (hd_BadTally : PySem.W.hasDictIn K C_BadTally = true)
    (ty_BadTally : PySem.W.typeIn K (.ref C_BadTally) = some (.type "type"))
    (sb_NoText_BadTally : PySem.W.subIn K (.ref C_NoText) (.ref C_BadTally) = some false)
    (hd_BadWeb : PySem.W.hasDictIn K C_BadWeb = true)
    (ty_BadWeb : PySem.W.typeIn K (.ref C_BadWeb) = some (.type "type"))
    (sb_NoText_BadWeb : PySem.W.subIn K (.ref C_NoText) (.ref C_BadWeb) = some false)
    (hd_NoExchange : PySem.W.hasDictIn K C_NoExchange = true)
    (ty_NoExchange : PySem.W.typeIn K (.ref C_NoExchange) = some (.type "type"))
    (sb_NoText_NoExchange : PySem.W.subIn K (.ref C_NoText) (.ref C_NoExchange) = some false)
    (hd_NoPlace : PySem.W.hasDictIn K C_NoPlace = true)
    (ty_NoPlace : PySem.W.typeIn K (.ref C_NoPlace) = some (.type "type"))
    (sb_NoText_NoPlace : PySem.W.subIn K (.ref C_NoText) (.ref C_NoPlace) = some false)
    (hd_NoText : PySem.W.hasDictIn K C_NoText = true)
    (ty_NoText : PySem.W.typeIn K (.ref C_NoText) = some (.type "type"))
    (hd_NoWeb : PySem.W.hasDictIn K C_NoWeb = true)
    (ty_NoWeb : PySem.W.typeIn K (.ref C_NoWeb) = some (.type "type"))
    (sb_NoText_NoWeb : PySem.W.subIn K (.ref C_NoText) (.ref C_NoWeb) = some false)
    (hd_TooMany : PySem.W.hasDictIn K C_TooMany = true)
    (ty_TooMany : PySem.W.typeIn K (.ref C_TooMany) = some (.type "type"))
    (sb_NoText_TooMany : PySem.W.subIn K (.ref C_NoText) (.ref C_TooMany) = some false)
    (hd_Unlike : PySem.W.hasDictIn K C_Unlike = true)
    (ty_Unlike : PySem.W.typeIn K (.ref C_Unlike) = some (.type "type"))
    (sb_NoText_Unlike : PySem.W.subIn K (.ref C_NoText) (.ref C_Unlike) = some false)
    (z_ValueError : PySem.W.nsIn K mainGlobals "ValueError" = some none)
    (sT_NoText_ValueError : PySem.W.subIn K (.ref C_NoText) (.type "ValueError") = some true)
    (a0 : PySem.W.nsIn K mainGlobals "_law_word" = some (some (.ref f0))) (l0 : K.lookup f0 = some ⟨oc0, od0, .func (PySem.W.fnOf "_law_word" "_law_word" (defArgs s__law_word) (defBody s__law_word) (defScope s__law_word) .none kV0 dc0 pm0 an0 cd0 ct0), sl0⟩) (d0 : PySem.W.codeIn K cd0 "_law_word" = true) (k0 : PySem.W.keepIn K (.ref f0) = true)
    (a1 : PySem.W.nsIn K mainGlobals "_law_due" = some (some (.ref f1))) (l1 : K.lookup f1 = some ⟨oc1, od1, .func (PySem.W.fnOf "_law_due" "_law_due" (defArgs s__law_due) (defBody s__law_due) (defScope s__law_due) .none kV1 dc1 pm1 an1 cd1 ct1), sl1⟩) (d1 : PySem.W.codeIn K cd1 "_law_due" = true) (k1 : PySem.W.keepIn K (.ref f1) = true)
    (a2 : PySem.W.nsIn K mainGlobals "number_in" = some (some (.ref f2))) (l2 : K.lookup f2 = some ⟨oc2, od2, .func (PySem.W.fnOf "number_in" "number_in" (defArgs s_number_in) (defBody s_number_in) (defScope s_number_in) .none kV2 dc2 pm2 an2 cd2 ct2), sl2⟩) (d2 : PySem.W.codeIn K cd2 "number_in" = true) (k2 : PySem.W.keepIn K (.ref f2) = true)
    (a3 : PySem.W.nsIn K mainGlobals "_law_whole" = some (some (.ref f3))) (l3 : K.lookup f3 = some ⟨oc3, od3, .func (PySem.W.fnOf "_law_whole" "_law_whole" (defArgs s__law_whole) (defBody s__law_whole) (defScope s__law_whole) .none kV3 dc3 pm3 an3 cd3 ct3), sl3⟩) (d3 : PySem.W.codeIn K cd3 "_law_whole" = true) (k3 : PySem.W.keepIn K (.ref f3) = true)
    (a4 : PySem.W.nsIn K mainGlobals "law" = some (some (.ref f4))) (l4 : K.lookup f4 = some ⟨oc4, od4, .func (PySem.W.fnOf "law" "law" (defArgs s_law) (defBody s_law) (defScope s_law) .none kV4 dc4 pm4 an4 cd4 ct4), sl4⟩) (d4 : PySem.W.codeIn K cd4 "law" = true) (k4 : PySem.W.keepIn K (.ref f4) = true) :
    ∃ fd : FuncData, (∀ (s : Shared) (v : Value), BindsTo s fd ⟨[v], []⟩ [("script", v)]) ∧ ∀ base : Heap, K.In base → base.Ns mainGlobals mg → FnOk P w K mg base CX0 2 fa fd ["script"] (spLawB K []) := by
  have T : Tx K mg := { b_bool := PySem.W.mg_none_of X G b_bool, b_int := PySem.W.mg_none_of X G b_int, b_isinstance := PySem.W.mg_none_of X G b_isinstance, b_len := PySem.W.mg_none_of X G b_len, b_str := PySem.W.mg_none_of X G b_str, c_FIGURES := ⟨_, PySem.W.mg_of X G c_FIGURES⟩, c_MOST_FIGURES := ⟨_, PySem.W.mg_of X G c_MOST_FIGURES⟩, h_BadNumber := ⟨_, PySem.W.mg_of X G e_BadNumber⟩, h_BadTally := ⟨_, PySem.W.mg_of X G e_BadTally⟩, h_BadWeb := ⟨_, PySem.W.mg_of X G e_BadWeb⟩, h_NoExchange := ⟨_, PySem.W.mg_of X G e_NoExchange⟩, h_NoPlace := ⟨_, PySem.W.mg_of X G e_NoPlace⟩, h_NoText := ⟨_, PySem.W.mg_of X G e_NoText⟩, h_NoWeb := ⟨_, PySem.W.mg_of X G e_NoWeb⟩, h_TallyError := ⟨_, PySem.W.mg_of X G e_TallyError⟩, h_TooMany := ⟨_, PySem.W.mg_of X G e_TooMany⟩, h_Unlike := ⟨_, PySem.W.mg_of X G e_Unlike⟩, e_NoText := ⟨_, PySem.W.mg_of X G e_NoText, x_NoText, k_NoText, s_NoText, y_NoText⟩, n_NoText := ⟨_, PySem.W.mg_of X G e_NoText, ng_NoText, nk_NoText, ns_NoText, nd_NoText, na_NoText, nn_NoText, nt_NoText, nm_NoText⟩, tk_NoText_TallyError := ⟨_, _, PySem.W.mg_of X G e_NoText, PySem.W.mg_of X G e_TallyError, PySem.W.exm_ref be_TallyError hd_TallyError ty_TallyError sb_NoText_TallyError⟩, ki_NoText_BadNumber := ⟨_, _, PySem.W.mg_of X G e_NoText, PySem.W.mg_of X G e_BadNumber, kit_ref hd_BadNumber ty_BadNumber sb_NoText_NoText sb_NoText_BadNumber⟩, ki_NoText_BadTally := ⟨_, _, PySem.W.mg_of X G e_NoText, PySem.W.mg_of X G e_BadTally, kit_ref hd_BadTally ty_BadTally sb_NoText_NoText sb_NoText_BadTally⟩, ki_NoText_BadWeb := ⟨_, _, PySem.W.mg_of X G e_NoText, PySem.W.mg_of X G e_BadWeb, kit_ref hd_BadWeb ty_BadWeb sb_NoText_NoText sb_NoText_BadWeb⟩, ki_NoText_NoExchange := ⟨_, _, PySem.W.mg_of X G e_NoText, PySem.W.mg_of X G e_NoExchange, kit_ref hd_NoExchange ty_NoExchange sb_NoText_NoText sb_NoText_NoExchange⟩, ki_NoText_NoPlace := ⟨_, _, PySem.W.mg_of X G e_NoText, PySem.W.mg_of X G e_NoPlace, kit_ref hd_NoPlace ty_NoPlace sb_NoText_NoText sb_NoText_NoPlace⟩, ki_NoText_NoText := ⟨_, _, PySem.W.mg_of X G e_NoText, PySem.W.mg_of X G e_NoText, kit_ref hd_NoText ty_NoText sb_NoText_NoText sb_NoText_NoText⟩, ki_NoText_NoWeb := ⟨_, _, PySem.W.mg_of X G e_NoText, PySem.W.mg_of X G e_NoWeb, kit_ref hd_NoWeb ty_NoWeb sb_NoText_NoText sb_NoText_NoWeb⟩, ki_NoText_TooMany := ⟨_, _, PySem.W.mg_of X G e_NoText, PySem.W.mg_of X G e_TooMany, kit_ref hd_TooMany ty_TooMany sb_NoText_NoText sb_NoText_TooMany⟩, ki_NoText_Unlike := ⟨_, _, PySem.W.mg_of X G e_NoText, PySem.W.mg_of X G e_Unlike, kit_ref hd_Unlike ty_Unlike sb_NoText_NoText sb_NoText_Unlike⟩, kb_NoText_ValueError := ⟨_, PySem.W.mg_of X G e_NoText, PySem.W.mg_none_of X G z_ValueError, by decide +kernel, kit_bt (by decide +kernel) sT_NoText_ValueError⟩, f__law_word := fnF_mk X G a0 l0 d0 k0, f__law_due := fnF_mk X G a1 l1 d1 k1, f_number_in := fnF_mk X G a2 l2 d2 k2, f__law_whole := fnF_mk X G a3 l3 d3 k3, f_law := fnF_mk X G a4 l4 d4 k4 }
  exact law_all (T := []) hfa T.f_law sc_law bd_law (fun base f cdv A outer s H E hr => dv_law (base := base) T f cdv A outer s H E hr) (fun ns hl hb => plain hl hb)
end
end DL
open PySem PySem.W PyProof.Rows
set_option maxHeartbeats 0 in
theorem PySem.Challenge.cw_tallyweb_k60_numbers_read_holds : PySem.Challenge.rw_tallyweb_k60_numbers_read.Holds := by
  w_on; o_law; k_head; (case hw => w_witness2)
  k_fill
  refine L2.walk_ofB (l := PySem.Challenge.rw_tallyweb_k60_numbers_read) (n := 63) (k := 2) (x := "script") (CX := fun _ => L2.CX0) (sp := fun w => DL.spLawB _ []) rfl (by decide) rfl ⟨rfl, by decide, by decide⟩ (fun w h Y => PySem.W.kIn_of Y) ?F (fun _ _ a ns hl hb _ hS => ⟨fun p hp => (nomatch hp), a, ns, rfl, hS, hl, hb, fun v _ e => e⟩) (fun _ _ _ _ _ h => h)
  case F =>
    intro w mg fa h KX G hmg
    refine' DL.all_mk KX G hmg ?b_bool ?b_int ?b_isinstance ?b_len ?b_str ?c_FIGURES ?c_MOST_FIGURES ?e_BadNumber ?e_BadTally ?e_BadWeb ?e_NoExchange ?e_NoPlace ?e_NoText ?e_NoWeb ?e_TallyError ?e_TooMany ?e_Unlike ?x_NoText ?k_NoText ?s_NoText ?y_NoText ?ng_NoText ?nk_NoText ?ns_NoText ?nd_NoText ?na_NoText ?nn_NoText ?nt_NoText ?nm_NoText ?hd_TallyError ?ty_TallyError ?be_TallyError ?sb_NoText_TallyError ?hd_BadNumber ?ty_BadNumber ?sb_NoText_BadNumber ?sb_NoText_NoText ?hd_BadTally ?ty_BadTally ?sb_NoText_BadTally ?hd_BadWeb ?ty_BadWeb ?sb_NoText_BadWeb ?hd_NoExchange ?ty_NoExchange ?sb_NoText_NoExchange ?hd_NoPlace ?ty_NoPlace ?sb_NoText_NoPlace ?hd_NoText ?ty_NoText ?hd_NoWeb ?ty_NoWeb ?sb_NoText_NoWeb ?hd_TooMany ?ty_TooMany ?sb_NoText_TooMany ?hd_Unlike ?ty_Unlike ?sb_NoText_Unlike ?z_ValueError ?sT_NoText_ValueError ?a0 ?l0 ?d0 ?k0 ?a1 ?l1 ?d1 ?k1 ?a2 ?l2 ?d2 ?k2 ?a3 ?l3 ?d3 ?k3 ?a4 ?l4 ?d4 ?k4
    (case b_bool => k_is); (case b_int => k_is); (case b_isinstance => k_is); (case b_len => k_is); (case b_str => k_is); (case c_FIGURES => k_is)
    (case c_MOST_FIGURES => k_is); (case e_BadNumber => k_is); (case e_BadTally => k_is); (case e_BadWeb => k_is); (case e_NoExchange => k_is); (case e_NoPlace => k_is)
    (case e_NoText => k_is); (case e_NoWeb => k_is); (case e_TallyError => k_is); (case e_TooMany => k_is); (case e_Unlike => k_is); (case x_NoText => k_exc)
    (case k_NoText => k_is); (case s_NoText => k_is); (case y_NoText => k_is); (case ng_NoText => k_is); (case nk_NoText => k_is); (case ns_NoText => k_is)
    (case nd_NoText => k_is); (case na_NoText => k_is); (case nn_NoText => k_is); (case nt_NoText => k_is); (case nm_NoText => k_is); (case hd_TallyError => k_is)
    (case ty_TallyError => k_is); (case be_TallyError => k_is); (case sb_NoText_TallyError => k_is); (case hd_BadNumber => k_is); (case ty_BadNumber => k_is); (case sb_NoText_BadNumber => k_is)
    (case sb_NoText_NoText => k_is); (case hd_BadTally => k_is); (case ty_BadTally => k_is); (case sb_NoText_BadTally => k_is); (case hd_BadWeb => k_is); (case ty_BadWeb => k_is)
    (case sb_NoText_BadWeb => k_is); (case hd_NoExchange => k_is); (case ty_NoExchange => k_is); (case sb_NoText_NoExchange => k_is); (case hd_NoPlace => k_is); (case ty_NoPlace => k_is)
    (case sb_NoText_NoPlace => k_is); (case hd_NoText => k_is); (case ty_NoText => k_is); (case hd_NoWeb => k_is); (case ty_NoWeb => k_is); (case sb_NoText_NoWeb => k_is)
    (case hd_TooMany => k_is); (case ty_TooMany => k_is); (case sb_NoText_TooMany => k_is); (case hd_Unlike => k_is); (case ty_Unlike => k_is); (case sb_NoText_Unlike => k_is)
    (case z_ValueError => k_is); (case sT_NoText_ValueError => k_is); (case a0 => k_is); (case l0 => k_is); (case d0 => k_is); (case k0 => k_is)
    (case a1 => k_is); (case l1 => k_is); (case d1 => k_is); (case k1 => k_is); (case a2 => k_is); (case l2 => k_is)
    (case d2 => k_is); (case k2 => k_is); (case a3 => k_is); (case l3 => k_is); (case d3 => k_is); (case k3 => k_is)
    (case a4 => k_is); (case l4 => k_is); (case d4 => k_is); (case k4 => k_is)
#print axioms PySem.Challenge.cw_tallyweb_k60_numbers_read_holds
